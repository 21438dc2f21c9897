/-
  Helper text. No conditions.
-/
import Derived.Test.YtipmihbgjolaaaaGreatCompleteCachesPd2
set_option linter.unusedVariables false
set_option linter.unusedSimpArgs false
namespace Go.Proofs.YtipmihbgjolaaaaGreat.gen
open Go Go.Sh
open Go.IntKind (i64)
theorem VF {r:M.aE} {a:ByteArray} {n:Int} (hr:r.ok) (hl:r.aGn.length<=1073741824) (ha:a.size<=maxLen) (hn:inI n):M.aE.ok (⟨Qf r a n⟩:M.aE):=by unfold Qf;by_cases h:kG (rD a) r.aGn<0;(rw [if_pos h];exact XB _ hr hl ha hn);·rw [if_neg h];obtain ⟨k,e,hk⟩:=fI h;rw [e,qH,qF hk];exact Uh hk hr hn
theorem M7 {r:M.aE} {a:ByteArray} {n:Int} (hr:r.ok) (hl:r.aGn.length<=1073741824) (ha:a.size<=maxLen) (hn:inI n):(Jn r a n).1.ok:=by unfold Jn M4;split;(split;(exact VF hr hl ha hn);·exact hr);·exact hr
theorem FN {r:M.aE} {a:ByteArray} {n:Int} (h:(Jn r a n).2=true):cG (Jn r a n).1=true:=by unfold Jn M4 at h ⊢;by_cases h1:cG r=true;(rw [if_pos h1] at h ⊢;by_cases h2:cG (⟨Qf r a n⟩:M.aE)=true;(rw [if_pos h2];exact h2);·rw [if_neg h2] at h;cases h);·rw [if_neg h1] at h;cases h
theorem GF {r:M.aE} (h:cG r=true):M.aE.sz r<=100:=by obtain ⟨h1,h2⟩:=yF h;have:=dI (w:=M.Field.sz) (b:=8) (xs:=r.aGn) (λx hx=>by have:=(h2 x hx).1;simp only [M.Field.sz];omega);simp only [M.aE.sz];omega
theorem pU {s:M.aD} (h:iI s=true):M.aD.sz s<=10000:=by
 obtain ⟨h1,h2,h3,_,_⟩:=yA h
 obtain ⟨a1,_⟩:=H0 h1
 have hn:s.Name.size<=8:=by unfold mT inR at h2;simp only [qM,qL] at h2;omega
 have:=dI (w:=M.aG1.sz) (b:=112) (xs:=s.aGk) (λx hx=>by obtain ⟨k,hk,rfl⟩:=List.mem_iff_getElem.1 hx;obtain ⟨b1,b2⟩:=a1 k _ (qF hk);have c1:=FJ b1;have c2:=GF b2;simp only [M.aG1.sz,M.Key.sz];omega)
 simp only [M.aD.sz]
 omega
theorem DW {s:M.aD} {k:M.Key} {r:M.aE} (hR:cG r=true) (h:(CE s k r).2=true):iI (CE s k r).1=true:=by unfold CE at h ⊢;by_cases hS:iI s=true;(rw [if_pos hS] at h ⊢;by_cases hK:CN k=true;(rw [if_pos hK] at h ⊢;by_cases hf:kG (zQ k) s.aGk<0;(rw [if_pos hf] at h ⊢;by_cases aa:s.aGk.length<16;(rw [if_pos aa];have:=Tw hS hK hR hf _ (VP (k:=k) hS);simp only [aa,decide_true] at this;exact this);·rw [if_neg aa] at h;cases h);·rw [if_neg hf];obtain ⟨i,e,hi⟩:=fI hf;simp only [e,qH];rw [Vc hS hi];exact hR);·rw [if_neg hK] at h;cases h);·rw [if_neg hS] at h;cases h
theorem Nj {s:M.aD} {k:M.Key} {r:M.aE} (hs:s.ok) (hl:s.aGk.length<=1073741824) (hk:k.ok) (hr:r.ok):(CE s k r).1.ok:=by unfold CE;by_cases hS:iI s=true;(rw [if_pos hS];by_cases hK:CN k=true;(rw [if_pos hK];by_cases hf:kG (zQ k) s.aGk<0;(rw [if_pos hf];split;(exact UF _ hs hl hk hr (Tk hs hk));·exact hs);·rw [if_neg hf];obtain ⟨i,e,hi⟩:=fI hf;simp only [e,qH];unfold P8;rw [qF hi];exact YS hi hs hr);·rw [if_neg hK];exact hs);·rw [if_neg hS];exact hs
theorem Jp {s:M.aD} {k:M.Key} {r:M.aE} (h:(CE s k r).2=false):(CE s k r).1=s:=by unfold CE at h ⊢;by_cases hS:iI s=true;(rw [if_pos hS] at h ⊢;by_cases hK:CN k=true;(rw [if_pos hK] at h ⊢;by_cases hf:kG (zQ k) s.aGk<0;(rw [if_pos hf] at h ⊢;by_cases aa:s.aGk.length<16;(rw [if_pos aa] at h;cases h);·rw [if_neg aa]);·rw [if_neg hf] at h;cases h);·rw [if_neg hK]);·rw [if_neg hS]
theorem Lr {s:M.aD} {w:M.bC} (h:(Mz s w).2=false):(Mz s w).1=s:=by unfold Mz at h ⊢;by_cases h1:(Jn (kZ s w.Key) w.Field w.N).2=true;(rw [if_pos h1] at h ⊢;exact Jp h);·rw [if_neg h1]
theorem Ko {s:M.aD} {w:M.bC} (hs:s.ok) (hw:w.ok) (hz:M.aD.sz s<=536870912):(Mz s w).1.ok/\M.aD.sz (Mz s w).1<=536870912:=by
 have hl:s.aGk.length<=1073741824:=by simp only [M.aD.sz] at hz;omega
 have hzr:=N9 s w.Key
 have hlr:(kZ s w.Key).aGn.length<=1073741824:=by simp only [M.aE.sz] at hzr;omega
 cases h2:(Mz s w).2 with
 | false=>rw [Lr h2];exact ⟨hs,hz⟩
 | true =>
  unfold Mz at h2 ⊢
  by_cases h1:(Jn (kZ s w.Key) w.Field w.N).2=true
  ·rw [if_pos h1] at h2 ⊢;have:=pU (DW (FN h1) h2);exact ⟨Nj hs hl hw.Key (M7 (Hy hs) hlr hw.Field hw.N),qb⟩
  ·rw [if_neg h1] at h2;cases h2
theorem Bi {s:M.aD} {w:M.bC} (hs:s.ok) (hw:w.ok) (hz:M.aD.sz s<=1073741824):lA s w=some (Mz s w):=by
 have hzr:=N9 s w.Key
 have hlr:(kZ s w.Key).aGn.length<=1073741824:=by simp only [M.aE.sz] at hzr;omega
 have sB:=BD (r:=kZ s w.Key) (a:=w.Field) (n:=w.N) (Hy hs) qb hw.Field hw.N
 have hput:(Jn (kZ s w.Key) w.Field w.N).2=true->eF s w.Key (Jn (kZ s w.Key) w.Field w.N).1=some (CE s w.Key (Jn (kZ s w.Key) w.Field w.N).1):=λh1 =>
  zE hs hw.Key (M7 (Hy hs) hlr hw.Field hw.N) (FN h1) hz (Nat.le_trans (GF (FN h1)) qb)
 have hfin:((some (Jn (kZ s w.Key) w.Field w.N)).bind λx9=>(if (!x9.2)=true then ((bZ s).bind λae=>(some (ae,false))) else ((eF s w.Key x9.1).bind λaa=>(some (aa.1,aa.2)))))=some (Mz s w):=by
  rw [qA,nG s hz]
  unfold Mz
  cases h1:(Jn (kZ s w.Key) w.Field w.N).2 with
  | false=>simp
  | true =>
   rw [hput h1]
   simp
 unfold lA
 rw [Aq hs,qA]
 by_cases h:kG (zQ w.Key) s.aGk<0
 ·have e:kZ s w.Key=(⟨([]:List M.Field)⟩:M.aE):=by unfold kZ;rw [if_pos h]
  rw [if_neg qc]
  rw [e] at sB hfin
  rw [sB]
  exact hfin
 ·obtain ⟨i,ei,hi⟩:=fI h
  have e:kZ s w.Key=s.aGk[i].aE:=by unfold kZ;rw [if_neg h,ei,qH,qF hi]
  rw [if_pos (by simpa using h),ei,aK hi,qA]
  rw [e] at sB hfin
  rw [sB]
  exact hfin
def DH (s:M.aD) (l:List M.bC):M.aD:=l.foldl (λt w=>(Mz t w).1) s
theorem Fx {s:M.aD} {l:List M.bC} (hs:s.ok) (hl:l.length<=maxLen) (ho : ∀w∈l,M.bC.ok w) (hz:M.aD.sz s<=536870912):xN s l=some (DH s l):=by
 have hm:=le_max hl
 unfold xN DH
 rw [nG s qb,qA]
 have:=Mm (xs:=l) (L:=λn k (t:M.aD)=>jT l n k t.Name t.aHD t.aGk) (step:=λt w=>(Mz t w).1) (I:=λ_ t=>t.ok/\M.aD.sz t<=536870912) (E:=some) hl
  (λt k hk hi=>Ko hi.1 (ho _ (qG hk)) hi.2) (λn t k hk hi=>by
   simp only [jT]
   rw [if_pos (aY hk),aK hk,qA,show (⟨t.Name,t.aGk,t.aHD⟩:M.aD)=t from rfl,Bi hi.1 (ho _ (qG hk)) qb,qA,bD qb]
   cases h2:(Mz t l[k]).2 with
   | true=>rfl
   | false=>rw [Lr h2];rfl) (λn t hi=>by
   simp only [jT]
   rw [if_neg qk]) s ⟨hs,hz⟩
 exact this.1
theorem Eo : ∀(j n:Nat),n<2^(7*(j+1))->(uv n).length<=j+1
 | 0,n,h=>by rw [JX (by simpa using h)];simp
 | j+1,n,h=>by
  by_cases h1:n<128
  ·rw [JX h1];simp
  ·rw [P5 h1,qJ]
   have e:2^(7*(j+1+1))=2^(7*(j+1))*128:=by rw [show 7*(j+1+1)=7*(j+1)+7 from by omega,Nat.pow_add]
   have:=Eo j (n/128) (by rw [e] at h;omega)
   omega
theorem IC {n:Nat} (h:n<=1000000000000):(uv n).length<=6:=Eo 5 n (Nat.lt_of_le_of_lt h qe)
theorem RD (n:Nat):1<=(uv n).length:=by by_cases h:n<128;(rw [JX h];simp);·rw [P5 h];simp
theorem GN : ∀(n:Nat) (x:Int),x∈uv n->0<=x/\x<=255:=by
 intro n
 induction n using Nat.strongRecOn with
 | _ n ih =>
  intro x hx
  by_cases h:n<128
  ·rw [JX h,List.mem_singleton] at hx;subst hx;omega
  ·rw [P5 h,List.mem_cons] at hx;rcases hx with rfl | hx;(omega);·exact ih (n/128) qb x hx
def UO (b:List Int) (a:Nat):Nat->Nat->Nat->Int×Int×Bool
 | 0,_,_=>(0,0,false)
 | j+1,k,n=>match b[a+k]? with
  | none=>(0,0,false)
  | some x=>if x.toNat<128 then (if (decide (x.toNat=0)&&decide (0<k))||decide (1000000000000<n+x.toNat%128*2^(7*k)) then (0,0,false) else (((n+x.toNat%128*2^(7*k):Nat):Int),((a+k+1:Nat):Int),true)) else UO b a j (k+1) (n+x.toNat%128*2^(7*k))
def nUv (b:List Int) (p:Int):Int×Int×Bool:=if p<0 then (0,0,false) else UO b p.toNat 6 0 0
theorem O9 {k:Nat} (h:k<6):2^(7*k)<=34359738368:=Nat.pow_le_pow_right (n:=2) qe (show 7*k<=35 by omega)
theorem Zl {k n x:Nat} (hn:n<2^(7*k)):n+x%128*2^(7*k)<2^(7*(k+1)):=by
 have e:2^(7*(k+1))=2^(7*k)*128:=by rw [show 7*(k+1)=7*k+7 from by omega,Nat.pow_add]
 have h1:x%128<=127:=by omega
 have h2:x%128*2^(7*k)<=127*2^(7*k):=Nat.mul_le_mul_right _ h1
 rw [e]
 omega
theorem XJ {n x k:Nat} (h:n<2^k):n|||x*2^k=n+x*2^k:=by have:=Nat.two_pow_add_eq_or_of_lt h x;rw [Nat.mul_comm x,Nat.or_comm,<-this,Nat.add_comm]
theorem VD {k x:Nat} (hk:k<6):i64.wrap (((x%128:Nat):Int)*2^(min (i64.wrap (7*(k:Int))).toNat IntKind.i64.bits))=((x%128*2^(7*k):Nat):Int):=by
 have hp:=O9 hk
 have h1:x%128<=127:=by omega
 have h2:x%128*2^(7*k)<=127*2^(7*k):=Nat.mul_le_mul_right _ h1
 have e:min (i64.wrap (7*(k:Int))).toNat IntKind.i64.bits=7*k:=by rw [bN qb qb,show IntKind.i64.bits=64 from rfl];omega
 rw [e,show (((x%128:Nat):Int)*2^(7*k))=((x%128*2^(7*k):Nat):Int) from by rw [Int.natCast_mul,Int.natCast_pow];rfl]
 exact bN qb qb
theorem uvS {n k x:Nat} (hk:k<6) (hx:x<=255) (hn:n<2^(7*k)):(i64.wrap (BitVec.ofInt (IntKind.i64.bits) (n:Int)|||BitVec.ofInt (IntKind.i64.bits) (i64.wrap ((i64.wrap (BitVec.ofInt (IntKind.i64.bits) (i64.wrap (x:Int))&&&BitVec.ofInt (IntKind.i64.bits) 127).toNat)*2^(min (i64.wrap (7*(k:Int))).toNat IntKind.i64.bits)))).toNat)=((n+x%128*2^(7*k):Nat):Int):=by
 have hp:=O9 hk
 have h1:x%128<=127:=by omega
 have h2:x%128*2^(7*k)<=127*2^(7*k):=Nat.mul_le_mul_right _ h1
 have e:=Kk (n:=x) (m:=127) qb qb
 rw [XE] at e
 rw [bN (n:=(x:Int)) qb qb,show ((127:Int))=((127:Nat):Int) from rfl,e,VD hk,PK qb qb,XJ hn]
theorem YL {b:List Int} (hb:okB b) {k:Nat} (h:k<b.length) : ∃x:Nat,b[k]=(x:Int)/\x<=255:=by have:=hb.2 _ (qG h);exact ⟨b[k].toNat,qb,qb⟩
theorem rdS {b:List Int} (hb:okB b) (hl:b.length<=1048576) (a:Nat) (ha:(a:Int)<=9223372036854775807) : ∀(j k n m:Nat),j+k=6->n<2^(7*k)->j<m->eB b (a:Int) m (n:Int) (k:Int)=some (UO b a j k n)
 | _,_,_,0,_,_,h=>by omega
 | 0,k,n,m+1,hk,_,_=>by simp only [eB];rw [if_neg qc];rfl
 | j+1,k,n,m+1,hk,hn,hm=>by
  have h6:k<6:=by omega
  simp only [eB]
  rw [if_pos qc,if_neg qd,bN (n:=(b.length:Int)-(k:Int)) qb qb]
  by_cases hlt:a+k<b.length
  ·obtain ⟨x,ex,hx⟩:=YL hb hlt;rw [if_neg qc,show ((a:Int)+(k:Int))=((a+k:Nat):Int) from by omega,bN (n:=((a+k:Nat):Int)) qb qb,aK hlt,qA,ex,bD qb,bD qb,if_pos (by rw [bN qb qb];simp;omega)];rw [uvS h6 hx hn,bN (n:=(x:Int)) qb qb];unfold UO;rw [qF hlt,ex];dsimp only;rw [qH];have ih:=rdS hb hl a ha j (k+1) (n+x%128*2^(7*k)) m qb (Zl hn) qb;by_cases h1:x<128;(rw [if_pos qc,if_pos h1];by_cases h2:x=0;(rw [if_pos (by simp [h2])];by_cases h3:0<k;(rw [if_pos qc,if_pos (by simp [h2,h3])]);·rw [if_neg qc];by_cases h4:1000000000000<n+x%128*2^(7*k);(rw [if_pos (by rw [qL];omega),if_pos (by rw [Bool.or_eq_true,qL];exact .inr h4)]);·rw [if_neg (by rw [qL];omega),if_neg (by rw [Bool.or_eq_true,qM,qL,qL,qL];omega)]);·rw [if_neg qc];by_cases h4:1000000000000<n+x%128*2^(7*k);(rw [if_pos (by rw [qL];omega),if_pos (by rw [Bool.or_eq_true,qL];exact .inr h4)]);·rw [if_neg (by rw [qL];omega),if_neg (by rw [Bool.or_eq_true,qM,qL,qL,qL];omega)]);·rw [if_neg qc,if_neg h1];exact ih
  ·rw [if_pos qc];unfold UO;rw [qX qb]
theorem rJ {b:List Int} {p:Int} (hb:okB b) (hl:b.length<=1048576) (hp:inI p):fJ b p=some (nUv b p):=by
 unfold fJ nUv
 by_cases h:p<0
 ·have e : ∀m,eB b p (m+1) 0 0=some (0,0,false):=λm=>by
   simp only [eB]
   rw [if_pos qe,if_pos (by simpa using h)]
  rw [if_pos h]
  exact e 18446744073709551615
 ·rw [if_neg h];obtain ⟨a,rfl⟩:=Int.eq_ofNat_of_zero_le (show 0<=p by omega);exact rdS hb hl a hp.2 6 0 0 fuel rfl qe qi
theorem S3 (b:List Int) (a:Nat) : ∀(j k n:Nat),(UO b a j k n).2.2=false->UO b a j k n=(0,0,false)
 | 0,_,_,_=>rfl
 | j+1,k,n,h=>by
  unfold UO at h ⊢
  cases e:b[a+k]? with
  | none=>rfl
  | some x =>
   rw [e] at h
   dsimp only at h ⊢
   split at h
   ·split at h;(rename_i h1 h2;rw [if_pos h1,if_pos h2]);·cases h
   ·rename_i h1;rw [if_neg h1];exact S3 b a j (k+1) _ h
theorem ZV {b:List Int} {p:Int} (h:(nUv b p).2.2=false):nUv b p=(0,0,false):=by unfold nUv at h ⊢;split;(rfl);·rename_i h1;rw [if_neg h1] at h;exact S3 b _ 6 0 0 h
theorem Q1 {b:List Int} (hb:okB b) (a:Nat) : ∀(j k n:Nat) (v q:Int),UO b a j k n=(v,q,true) -> ∃m e:Nat,v=((n+m*2^(7*k):Nat):Int)/\q=(e:Int)/\n+m*2^(7*k)<=1000000000000/\e<=b.length/\a+k+(uv m).length=e/\b.drop (a+k)=uv m++b.drop e/\(k=0\/0<m)
 | 0,_,_,_,_,h=>by cases h
 | j+1,k,n,v,q,h=>by
  unfold UO at h
  by_cases hlt:a+k<b.length
  ·obtain ⟨x,ex,hx⟩:=YL hb hlt
   have hd:b.drop (a+k)=(x:Int)::b.drop (a+k+1):=by rw [qV hlt,ex]
   rw [qF hlt,ex] at h
   dsimp only at h
   rw [qH] at h
   by_cases h1:x<128
   ·rw [if_pos h1,Nat.mod_eq_of_lt h1] at h;split at h;(cases h);·rename_i h2;rw [Bool.or_eq_true,qM,qL,qL,qL] at h2;simp only [qZ] at h;refine ⟨x,a+k+1,h.1.symm,h.2.1.symm,qb,qb,by rw [JX h1];rfl,by rw [JX h1];exact hd,qb⟩
   ·rw [if_neg h1] at h
    obtain ⟨m,e,e1,e2,e3,e4,e5,e6,e7⟩:=Q1 hb a j (k+1) _ v q h
    have hm:0<m:=by omega
    have ee:2^(7*(k+1))=128*2^(7*k):=by rw [show 7*(k+1)=7+7*k from by omega,Nat.pow_add]
    have e8:n+x%128*2^(7*k)+m*2^(7*(k+1))=n+(m*128+x%128)*2^(7*k):=by rw [ee,<-Nat.mul_assoc,Nat.add_assoc,<-Nat.add_mul,Nat.add_comm (x%128)]
    have hu:uv (m*128+x%128)=(x:Int)::uv m:=by rw [P5 qb,show (m*128+x%128)/128=m from by omega,show (m*128+x%128)%128+128=x from by omega]
    rw [e8] at e1 e3
    refine ⟨m*128+x%128,e,e1,e2,e3,e4,by rw [hu,qJ];omega,by rw [hu,hd,List.cons_append];exact congrArg _ e6,.inr qb⟩
  ·rw [qX qb] at h;cases h
theorem P1 {b:List Int} {p v q:Int} (hb:okB b) (h:nUv b p=(v,q,true)) : ∃a m e:Nat,p=(a:Int)/\v=(m:Int)/\q=(e:Int)/\m<=1000000000000/\e<=b.length/\a+(uv m).length=e/\b.drop a=uv m++b.drop e:=by unfold nUv at h;split at h;(cases h);·obtain ⟨m,e,e1,e2,e3,e4,e5,e6,_⟩:=Q1 hb p.toNat 6 0 0 v q h;simp only [Nat.mul_zero,Nat.pow_zero,Nat.mul_one,Nat.zero_add,Nat.add_zero] at e1 e3 e5 e6;exact ⟨p.toNat,m,e,qb,e1,e2,e3,e4,e5,e6⟩
def nRb (b:List Int) (p c:Int):List Int×Int×Bool:=if (nUv b p).2.2=true then (if (nUv b p).1>c then (([]:List Int),0,false) else if (nUv b p).1>(b.length:Int)-(nUv b p).2.1 then (([]:List Int),0,false) else ((b.drop (nUv b p).2.1.toNat).take (nUv b p).1.toNat,(nUv b p).2.1+(nUv b p).1,true)) else (([]:List Int),0,false)
theorem WH {b:List Int} (h:okB b) (i j:Nat):okB ((b.drop i).take j):=⟨Nat.le_trans (by rw [qT,qU];omega) h.1,λx hx=>h.2 x (List.mem_of_mem_drop (List.mem_of_mem_take hx))⟩
theorem uO {b:List Int} {p c:Int} (hb:okB b) (hl:b.length<=1048576) (hp:inI p):dX b p c=some (nRb b p c):=by
 unfold dX nRb
 rw [rJ hb hl hp,qA]
 cases h:(nUv b p).2.2 with
 | false=>rfl
 | true =>
  obtain ⟨a,m,e,e1,e2,e3,e4,e5,e6,e7⟩:=P1 hb (show nUv b p=((nUv b p).1,(nUv b p).2.1,true) from by rw [<-h])
  rw [e2,e3]
  simp only [qB,qD,if_false,if_true]
  by_cases h1:(m:Int)>c
  ·rw [if_pos (by simpa using h1),if_pos h1]
  ·rw [if_neg (by simpa using h1),if_neg h1,bN (n:=(b.length:Int)-(e:Int)) qb qb]
   by_cases h2:(m:Int)>(b.length:Int)-(e:Int)
   ·rw [if_pos (by simpa using h2),if_pos h2]
   ·rw [if_neg (by simpa using h2),if_neg h2,bN (n:=(e:Int)+(m:Int)) qb qb]
    have hs : ∀(α:Type) (xs:List α),xs.length=b.length->Uc xs (e:Int) ((e:Int)+(m:Int))=some ((xs.take ((e:Int)+(m:Int)).toNat).drop (e:Int).toNat):=λα xs hx=>by unfold Uc;rw [if_pos ⟨qb,qb,qb⟩]
    have hd:List.drop (e:Int).toNat (List.take ((e:Int)+(m:Int)).toNat b)=List.take m (List.drop e b):=by rw [qH,show ((e:Int)+(m:Int)).toNat=e+m from by omega,List.drop_take];congr 1;omega
    rw [hs _ b rfl,qA,hd,qH,qH]
    have hk:(List.take m (List.drop e b)).length<=1048576:=by rw [qT,qU];omega
    rw [Fe qb qb,qA]
theorem Z7 {b:List Int} {p c:Int} (h:(nRb b p c).2.2=false):nRb b p c=(([]:List Int),0,false):=by unfold nRb at h ⊢;split;(rename_i h1;rw [if_pos h1] at h;split;(rfl);·rename_i h2;rw [if_neg h2] at h;split;(rfl);·rename_i h3;rw [if_neg h3] at h;cases h);·rfl
theorem YA {b s:List Int} {p c q:Int} (hb:okB b) (h:nRb b p c=(s,q,true)) : ∃a e:Nat,p=(a:Int)/\q=(e:Int)/\(s.length:Int)<=c/\e<=b.length/\s.length<=1000000000000/\a+(uv s.length).length+s.length=e/\b.drop a=uv s.length++(s++b.drop e)/\okB s:=by
 unfold nRb at h
 split at h
 ·rename_i h0
  obtain ⟨a,m,e,e1,e2,e3,e4,e5,e6,e7⟩:=P1 hb (show nUv b p=((nUv b p).1,(nUv b p).2.1,true) from by rw [<-h0])
  rw [e2,e3] at h
  split at h
  ·cases h
  ·split at h
   ·cases h
   ·rename_i h1 h2
    simp only [qZ,qH] at h
    have hs:s.length=m:=by rw [<-h.1,qT,qU];omega
    refine ⟨a,e+m,e1,qb,qb,qb,qb,by rw [hs];omega,?_,by rw [<-h.1];exact WH hb _ _⟩
    rw [hs,e7,<-h.1,<-List.drop_drop,List.take_append_drop]
 ·cases h
theorem CV (s:ByteArray) : ∀x∈bR s,0<=x/\x<=255:=by intro x hx;unfold bR at hx;obtain ⟨b,_,rfl⟩:=List.mem_map.1 hx;have:=b.toNat_lt;omega
theorem IP {l:List Int} (h : ∀x∈l,0<=x/\x<=255):bR (dH l)=l:=by unfold bR dH;simp only [List.map_map];refine (List.map_congr_left λx hx => ?_).trans (List.map_id l);have:=h x hx;simp only [Function.comp_apply,UInt8.toNat_ofNat',id_eq];omega
theorem CW (l:List Int):(dH l).size=l.length:=by unfold dH;show (l.map _).toArray.size=_;simp
theorem UW {L:Nat->Int->List Int->Option (List Int)} {b c:Int->Int}
  (h1 : ∀m (n:Nat) r,¬n<128->n<2^63->L (m+1) (n:Int) r=(app 1 r [b n]).bind λ_=>L m ((n/128:Nat):Int) (r++[b n]))
  (h2 : ∀m (n:Nat) r,n<128->L (m+1) (n:Int) r=(app 1 r [c n]).bind λ_=>some (r++[c n]))
  (hb : ∀n:Nat,n<2^63->b n=((n%128+128:Nat):Int)) (hc : ∀n:Nat,n<128->c n=(n:Int)) :
  ∀(j m n:Nat) (r:List Int),n<2^(7*(j+1))->n<2^63->j<m->r.length+(j+1)<=140737488355328->L m (n:Int) r=some (r++uv n)
 | j,0,n,r,_,_,hm,_=>by omega
 | 0,m+1,n,r,hn,hn2,hm,hr=>by
  have h:n<128:=by simpa using hn
  rw [h2 m n r h,dN qc,qA,hc n h,JX h]
 | j+1,m+1,n,r,hn,hn2,hm,hr=>by
  by_cases h:n<128
  ·rw [h2 m n r h,dN qc,qA,hc n h,JX h]
  ·have hd:n/128<2^(7*(j+1)):=by
    rw [Nat.div_lt_iff_lt_mul qb]
    have e:2^(7*(j+1+1))=2^(7*(j+1))*128:=by rw [show 7*(j+1+1)=7*(j+1)+7 by omega,Nat.pow_add]
    omega
   rw [h1 m n r h hn2,dN qc,qA,UW h1 h2 hb hc j m (n/128) (r++[b n]) hd qb qb qc,hb n hn2,P5 h,qS]
   rfl
theorem u8n {n:Nat} (h:n<128):IntKind.u8.wrap (n:Int)=(n:Int):=by rw [wrap_u8];omega
theorem u8S {n:Nat} (h:n<2^63):IntKind.u8.wrap (i64.wrap (BitVec.ofInt (IntKind.i64.bits) (i64.wrap (BitVec.ofInt (IntKind.i64.bits) (n:Int)&&&BitVec.ofInt (IntKind.i64.bits) 127).toNat)|||BitVec.ofInt (IntKind.i64.bits) 128).toNat)=((n%128+128:Nat):Int):=by
 have h1:n%128<=127:=by omega
 have e:=Kk (n:=n) (m:=127) qb qb
 rw [XE] at e
 have e2:=PK (n:=n%128) (m:=128) qb qb
 rw [aBc qb] at e2
 rw [show ((127:Int))=((127:Nat):Int) from rfl,e,show ((128:Int))=((128:Nat):Int) from rfl,e2,wrap_u8]
 omega
theorem nJ {r:List Int} {n:Nat} (hr:r.length<=16777216) (hn:n<=1000000000000):bS r (n:Int)=some (r++uv n):=by
 have hi:inR (n:Int) 0 1000000000000=true:=by unfold inR;simp;omega
 unfold bS
 rw [dN qc,qA,cF,qA,hi,if_neg qd]
 refine UW (L:=cQ) (b:=λv=>IntKind.u8.wrap (i64.wrap (BitVec.ofInt (IntKind.i64.bits) (i64.wrap (BitVec.ofInt (IntKind.i64.bits) v&&&BitVec.ofInt (IntKind.i64.bits) 127).toNat)|||BitVec.ofInt (IntKind.i64.bits) 128).toNat)) (c:=λv=>IntKind.u8.wrap v) (λm n r h1 h2 => ?_) (λm n r h1 => ?_) (λn h=>u8S h) (λn h=>u8n h) 8 fuel n r qb qb qi qb
 ·simp only [cQ];rw [if_pos qc,uvf]
 ·simp only [cQ];rw [if_neg qc]
def LX (b:List Int):List Int:=uv b.length++b
theorem rH {r b:List Int} (hr:r.length<=8388608) (hb:b.length<=1000000):bQ r b=some (r++LX b):=by have h9:=IC (n:=b.length) qb;unfold bQ LX;rw [nJ qb qb,qA,dN (by rw [qE];omega),qA,qS]
def N2 {α:Type} (f:α->List Int):List α->List Int
 | []=>[]
 | x::l=>f x++N2 f l
theorem NL {α:Type} {f:α->List Int} {c:Nat} : ∀ {l:List α},(∀x∈l,(f x).length<=c)->(N2 f l).length<=l.length*c
 | [],_=>by simp [N2]
 | x::l,h=>by have h1:=h x qd;have h2:=NL (l:=l) (λy hy=>h y (by simp [hy]));simp only [N2,qE,qJ,Nat.succ_mul];omega
theorem Vj {α:Type} {R:Type} {xs:List α} {f:α->List Int} {c B:Nat} {L:Nat->Int->List Int->Option R} {E:List Int->Option R} (hc : ∀x∈xs,(f x).length<=c)
  (h1 : ∀n (k:Nat) (hk:k<xs.length) q,q.length<=B->L (n+1) (k:Int) q=L n ((k+1:Nat):Int) (q++f xs[k]))
  (h2 : ∀n q,q.length<=B->L (n+1) (xs.length:Int) q=E q) :
  ∀(n k:Nat) (q:List Int),xs.length-k<n->k<=xs.length->q.length+(xs.length-k)*c<=B->L n (k:Int) q=E (q++N2 f (xs.drop k))
 | 0,_,_,h,_,_=>by omega
 | n+1,k,q,h,hk,hq=>by
  rcases Nat.lt_or_ge k xs.length with hlt | hge
  ·have hx:=hc _ (qG hlt)
   have e:(xs.length-k)*c=(xs.length-(k+1))*c+c:=by rw [<-Nat.succ_mul];congr 1;omega
   rw [h1 n k hlt q qb,Vj hc h1 h2 n (k+1) (q++f xs[k]) qb qb (by rw [qE];omega),qV hlt,N2,qS]
  ·have e:k=xs.length:=by omega
   subst e
   rw [h2 n q qb,qY,N2,qW]
def enF (x:M.Field):List Int:=LX (bR x.Name)++uv x.N.toNat
def enR (r:M.aE):List Int:=if cG r=true then uv r.aGn.length++N2 enF r.aGn else []
theorem Ty {x:M.Field} (h:x.Name.size<=8/\0<=x.N/\x.N<=1000000000):(enF x).length<=14:=by have h1:=Eo 0 x.Name.size qb;have h2:=Eo 4 x.N.toNat qb;have h3:=aQ x.Name;unfold enF LX;simp only [qE,h3];omega
theorem Nd (r:M.aE):(enR r).length<=85:=by unfold enR;split;(rename_i h;obtain ⟨h6,hf⟩:=yF h;have h1:=Eo 0 r.aGn.length qb;have h2:=NL (f:=enF) (λx hx=>Ty (hf x hx));rw [qE];have:r.aGn.length*14<=6*14:=Nat.mul_le_mul_right _ h6;omega);·simp
theorem GY {r:M.aE} (hr:r.ok):gG r=some (enR r):=by
 unfold gG enR
 rw [pT hr,qA]
 by_cases h:cG r=true
 ·obtain ⟨h6,hf⟩:=yF h
  have h1:=Eo 0 r.aGn.length qb
  rw [if_neg (by simp [h]),if_pos h,nJ qd qb,qA,List.nil_append]
  have:=Vj (xs:=r.aGn) (f:=enF) (c:=14) (B:=1000) (L:=cW r) (E:=some) (λx hx=>Ty (hf x hx)) (λn k hk q hq => ?_) (λn q _ => ?_) fuel 0 (uv r.aGn.length) qi qb qb
  ·rw [List.drop_zero] at this;exact this
  ·have hx:=hf _ (qG hk)
   simp only [cW]
   have h9:=IC (n:=r.aGn[k].Name.size) qb
   have hs:=aQ r.aGn[k].Name
   have hb:(LX (bR r.aGn[k].Name)).length<=14:=by unfold LX;rw [qE,hs];omega
   have e:=nJ (r:=q++LX (bR r.aGn[k].Name)) (n:=r.aGn[k].N.toNat) (by rw [qE];omega) qb
   rw [Int.toNat_of_nonneg hx.2.1] at e
   rw [if_pos (aY hk),aK hk,qA,rH qb qb,qA,e,qA,bD qb,qS]
   rfl
  ·simp only [cW];rw [if_neg qk]
 ·rw [if_pos (by simp [h]),if_neg h]
def be6 (v:Nat):List Int:=[((v/2^40%256:Nat):Int),((v/2^32%256:Nat):Int),((v/2^24%256:Nat):Int),((v/2^16%256:Nat):Int),((v/2^8%256:Nat):Int),((v%256:Nat):Int)]
def enK (k:M.Key):List Int:=if CN k=true then k.aG7::((if k.aG7==2 then [] else be6 (k.N+1000000000000).toNat)++bR k.aHG) else []
theorem Ph {k:M.Key} (h:CN k=true):1<=k.aG7/\k.aG7<=3 /\ -1000000000000<=k.N/\k.N<=1000000000000:=by unfold CN inR at h;simp only [qM,qL] at h;omega
theorem Nl (k:M.Key):(enK k).length<=19:=by unfold enK;split;(rename_i h;have:=FJ h;have:=aQ k.aHG;split<;>simp [be6]<;>omega);·simp
theorem aGD {k:M.Key} (v:Nat) (hv:v<=5) (h : -1000000000000<=k.N/\k.N<=1000000000000):Int.fdiv (i64.wrap (k.N+1000000000000)) (2^(min (i64.wrap (8*(v:Int))).toNat IntKind.i64.bits))=(((k.N+1000000000000).toNat/2^(8*v):Nat):Int):=by
 have e:min (i64.wrap (8*(v:Int))).toNat IntKind.i64.bits=8*v:=by rw [bN qb qb,show IntKind.i64.bits=64 from rfl];omega
 rw [e,bN qb qb]
 obtain ⟨n,hn⟩:=Int.eq_ofNat_of_zero_le (show 0<=k.N+1000000000000 by omega)
 rw [hn,qH,Int.fdiv_eq_ediv_of_nonneg _ (by exact Int.le_of_lt (Int.pow_pos qe)),Int.natCast_ediv,Int.natCast_pow]
 rfl
theorem byS {k:M.Key} (v:Nat) (hv:v<=5) (h : -1000000000000<=k.N/\k.N<=1000000000000):(IntKind.u8.wrap (i64.wrap (BitVec.ofInt (IntKind.i64.bits) (Int.fdiv (i64.wrap (k.N+1000000000000)) (2^(min (i64.wrap (8*(v:Int))).toNat IntKind.i64.bits)))&&&BitVec.ofInt (IntKind.i64.bits) 255).toNat))=(((k.N+1000000000000).toNat/2^(8*v)%256:Nat):Int):=by have h1:(k.N+1000000000000).toNat/2^(8*v)<=(k.N+1000000000000).toNat:=Nat.div_le_self _ _;have e:=Kk (n:=(k.N+1000000000000).toNat/2^(8*v)) (m:=255) qb qb;rw [Xs] at e;rw [aGD v hv h,show ((255:Int))=((255:Nat):Int) from rfl,e,wrap_u8];omega
theorem Ka {k:M.Key} (hk:k.ok):kT k=some (enK k):=by
 unfold kT enK
 rw [mI hk,qA]
 by_cases h:CN k=true
 ·have ht:=FJ h
  have hb:=Ph h
  have hl:=aQ k.aHG
  have hw:IntKind.u8.wrap k.aG7=k.aG7:=by rw [wrap_u8];omega
  rw [if_neg (by simp [h]),if_pos h,Ue,hw]
  by_cases h2:(k.aG7==2)=true
  ·have h3 : ¬(k.aG7 != 2)=true:=by simp [bne,h2]
   rw [if_pos h2]
   have e0 : ∀n r,r.length<=7->bE k (n+1) 5 r=some (r++bR k.aHG):=by intro n r hr;simp only [bE];rw [if_pos qe,if_neg h3,dN qb,qA]
   exact e0 (18446744073709551609+6) _ qd
  ·have h3:(k.aG7 != 2)=true:=by simp [bne,h2]
   rw [if_neg h2]
   have st : ∀n (v:Nat) r,r.length<=7->v<=5->bE k (n+1) (v:Int) r=bE k n ((v:Int)-1) (r++[(((k.N+1000000000000).toNat/2^(8*v)%256:Nat):Int)]):=by intro n v r hr hv;simp only [bE];rw [if_pos qd,if_pos h3,if_pos (by rw [bN qb qb];simp;omega),dN qc,qA,bN (n:=(v:Int)-1) qb qb,byS v hv hb.2.2]
   have e7 : ∀n r,r.length<=7->bE k (n+1) (-1) r=some (r++bR k.aHG):=by intro n r hr;simp only [bE];rw [if_neg qe,dN qb,qA]
   refine (st (18446744073709551609+6) 5 _ qd qd).trans ((st (18446744073709551609+5) 4 _ qd qd).trans ((st (18446744073709551609+4) 3 _ qd qd).trans ((st (18446744073709551609+3) 2 _ qd qd).trans ((st (18446744073709551609+2) 1 _ qd qd).trans ((st (18446744073709551609+1) 0 _ qd qd).trans ((e7 _ _ qd).trans ?_))))))
   simp [be6]
 ·rw [if_pos (by simp [h]),if_neg h]
theorem UX : ∀ {a b:List Int},eqL xA a b=true↔a=b
 | [],[]=>by simp [eqL]
 | [],_::_=>by simp [eqL]
 | _::_,[]=>by simp [eqL]
 | x::xs,y::ys=>by have:=UX (a:=xs) (b:=ys);simp only [eqL,qM,this,List.cons.injEq,xA,beq_iff_eq]
theorem Et {b:List Int} (h : ∀x∈b,0<=x/\x<=255) : ∀x∈LX b,0<=x/\x<=255:=λx hx=>by unfold LX at hx;rcases List.mem_append.1 hx with hx | hx;(exact GN _ x hx);·exact h x hx
theorem NQ {α:Type} {f:α->List Int} : ∀ {l:List α},(∀x∈l,∀y∈f x,0<=y/\y<=255) -> ∀y∈N2 f l,0<=y/\y<=255
 | [],_,_,hy=>by simp [N2] at hy
 | x::l,h,y,hy=>by rcases List.mem_append.1 (show y∈f x++N2 f l from hy) with hy | hy;(exact h x qd y hy);·exact NQ (l:=l) (λz hz=>h z (by simp [hz])) y hy
theorem V5 (x:M.Field) : ∀y∈enF x,0<=y/\y<=255:=λy hy=>by unfold enF at hy;rcases List.mem_append.1 hy with hy | hy;(exact Et (CV _) y hy);·exact GN _ y hy
theorem Z9 (r:M.aE):okB (enR r):=⟨Nat.le_trans (Nd r) qj,λy hy=>by unfold enR at hy;split at hy;(rcases List.mem_append.1 hy with hy | hy;(exact GN _ y hy);·exact NQ (λx _=>V5 x) y hy);·simp at hy⟩
theorem Z2 (k:M.Key):okB (enK k):=⟨Nat.le_trans (Nl k) qj,λy hy=>by unfold enK at hy;split at hy;(rename_i h;have hk:=Ph h;rcases List.mem_cons.1 hy with rfl | hy;(omega);·rcases List.mem_append.1 hy with hy | hy;(split at hy;(simp at hy);·simp only [be6,List.mem_cons,qO,or_false] at hy;omega);·exact CV _ y hy);·simp at hy⟩
def Uk:M.Key:=(⟨0,0,(⟨#[]⟩:ByteArray)⟩:M.Key)
def mkK (c n:Int) (t:List Int):M.Key×Bool:=if CN (⟨c,n,dH t⟩:M.Key)=true then ((⟨c,n,dH t⟩:M.Key),true) else (Uk,false)
def Zy (v x:Int):Int:=v*256+x
def Tv:List Int->M.Key×Bool
 | []=>(Uk,false)
 | c::t=>if c=2 then mkK c 0 t else if t.length<6 then (Uk,false) else mkK c ((t.take 6).foldl Zy 0-1000000000000) (t.drop 6)
theorem aBA {t:List Int} (ht : ∀x∈t,0<=x/\x<=255) : ∀(v:Nat) (n:Nat),(v:Int)<2^n -> ∃w:Nat,t.foldl Zy (v:Int)=(w:Int)/\(w:Int)<2^(n+8*t.length):=by
 induction t with
 | nil=>exact λv n h=>⟨v,rfl,by simpa using h⟩
 | cons x t ih =>
  intro v n h
  have hx:=ht x qd
  obtain ⟨w,e,hw⟩:=ih (λy hy=>ht y (by simp [hy])) (v*256+x.toNat) (n+8) (by rw [Int.pow_add];omega)
  refine ⟨w,?_,by rw [qJ,show n+8*(t.length+1)=n+8+8*t.length from by omega];exact hw⟩
  rw [List.foldl_cons,<-e]
  congr 1
  unfold Zy
  omega
theorem QP {c n:Int} {t:List Int} (hc:0<=c/\c<=255) (hn : -1000000000000<=n/\n<=1000000000000000) (ht:t.length<=maxLen):M.Key.ok (⟨c,n,dH t⟩:M.Key):=⟨by show inI c;unfold inI;omega,by show inI n;unfold inI;omega,by show (dH t).size<=_;rw [CW];exact ht⟩
theorem aFp {v:Nat} (h:v<2^48):i64.wrap ((v:Int)*2^(min (8:Int).toNat IntKind.i64.bits))=((v*256:Nat):Int):=by rw [show min (8:Int).toNat IntKind.i64.bits=8 from rfl,show ((v:Int)*2^8)=((v*256:Nat):Int) from by omega];exact bN qb qb
theorem stS {v x:Nat} (h:v<2^48) (hx:x<=255):(i64.wrap (BitVec.ofInt (IntKind.i64.bits) (i64.wrap ((v:Int)*2^(min (8:Int).toNat IntKind.i64.bits)))|||BitVec.ofInt (IntKind.i64.bits) (i64.wrap (x:Int))).toNat)=((v*256+x:Nat):Int):=by have e:=XJ (n:=x) (x:=v) (k:=8) qb;rw [aFp h,bN (n:=(x:Int)) qb qb,PK qb qb,Nat.or_comm,show (256:Nat)=2^8 from rfl,e];omega
theorem dkS {b:List Int} {c:Int} (hb:okB b) (hl:b.length<=1048576) (hc:0<=c/\c<=255) (h7:7<=b.length) : ∀(j k v m:Nat),k+j=7->v<2^(8*(k-1))->1<=k->j<m->lE b c m (v:Int) (k:Int)=some (mkK c (((b.drop k).take j).foldl Zy (v:Int)-1000000000000) (b.drop 7))
 | _,_,_,0,_,_,_,h=>by omega
 | 0,k,v,m+1,hk,hv,h1,_=>by
  obtain rfl:k=7:=by omega
  simp only [lE]
  have hd:okB (b.drop 7):=⟨Nat.le_trans (by rw [qU];omega) hb.1,λx hx=>hb.2 x (List.mem_of_mem_drop hx)⟩
  have hv2:(v:Int)<281474976710656:=by have:v<2^48:=hv;omega
  have ok:=QP (n:=(v:Int)-1000000000000) hc qb hd.1
  rw [if_neg qe,show Cb b 7=some (b.drop (7:Int).toNat) from by unfold Cb;rw [if_pos ⟨qe,by simpa using h7⟩],qA,show (7:Int).toNat=7 from rfl,EI hd.2,qA,bN (n:=c) qb qb,bN (n:=(v:Int)-1000000000000) qb qb,mI ok,qA,List.take_zero,List.foldl_nil]
  unfold mkK
  cases CN (⟨c,(v:Int)-1000000000000,dH (b.drop 7)⟩:M.Key)<;>rfl
 | j+1,k,v,m+1,hk,hv,h1,hm=>by
  have hlt:k<b.length:=by omega
  obtain ⟨x,ex,hx⟩:=YL hb hlt
  have hv2:v<2^40:=Nat.lt_of_lt_of_le hv (Nat.pow_le_pow_right qe qb)
  have e8:2^(8*(k+1-1))=2^(8*(k-1))*256:=by rw [show 8*(k+1-1)=8*(k-1)+8 from by omega,Nat.pow_add]
  simp only [lE]
  rw [if_pos qc,aK hlt,qA,ex,stS qb hx,bD qb,dkS hb hl hc h7 j (k+1) (v*256+x) m qb (by rw [e8];omega) qb qb,qV hlt,ex,List.take_succ_cons,List.foldl_cons]
  congr 4
theorem J5 {b:List Int} (hb:okB b) (hl:b.length<=1048576):uQ b=some (Tv b):=by
 unfold uQ
 cases b with
 | nil=>rfl
 | cons c t =>
  have hc:=hb.2 c qd
  have ht : ∀x∈t,0<=x/\x<=255:=λx hx=>hb.2 x (by simp [hx])
  have hlt:t.length<=maxLen:=by have:=hb.1;rw [qJ] at this;omega
  have hl':t.length+1<=1048576:=hl
  rw [if_neg qc,show idx (c::t) 0=some c from rfl,qA,bN (n:=c) qb qb]
  unfold Tv
  show _=some (if c=2 then mkK c 0 t else if t.length<6 then (Uk,false) else mkK c ((t.take 6).foldl Zy 0-1000000000000) (t.drop 6))
  by_cases h2:c=2
  ·subst h2;rw [if_neg qe,if_pos rfl,show Cb (2::t) 1=some t from by unfold Cb;rw [if_pos ⟨qe,qd⟩];rfl,qA,show List.drop (1:Int).toNat ((2:Int)::t)=t from rfl,EI ht,qA,mI (QP qb qb hlt),qA];unfold mkK;cases CN (⟨2,0,dH t⟩:M.Key)<;>rfl
  ·rw [if_pos (by simpa using h2),if_neg h2];by_cases h6:t.length<6;(rw [if_pos qc,if_pos h6];rfl);·rw [if_neg qc,if_neg h6];exact dkS hb hl hc qc 6 1 0 fuel rfl qe qb qi
def XN (b:List Int):Nat->Int->List M.Field->Option (List M.Field×Int)
 | 0,p,acc=>some (acc,p)
 | j+1,p,acc=>if (nRb b p 8).2.2=true then (if (nUv b (nRb b p 8).2.1).2.2=true then XN b j (nUv b (nRb b p 8).2.1).2.1 (acc++[(⟨dH (nRb b p 8).1,(nUv b (nRb b p 8).2.1).1⟩:M.Field)]) else none) else none
def SA (b:List Int):M.aE×Bool:=if (nUv b 0).2.2=true then (if (nUv b 0).1>6 then ((⟨([]:List M.Field)⟩:M.aE),false) else match XN b (nUv b 0).1.toNat (nUv b 0).2.1 [] with
 | none=>((⟨([]:List M.Field)⟩:M.aE),false)
 | some (fs,q)=>if (cG (⟨fs⟩:M.aE)&&(q==(b.length:Int)))=true then ((⟨fs⟩:M.aE),true) else ((⟨([]:List M.Field)⟩:M.aE),false)) else ((⟨([]:List M.Field)⟩:M.aE),false)
theorem Jw {e:Nat} {n:Nat} (h:e<=n) (hl:n<=1048576):inI (e:Int):=by unfold inI;omega
theorem II {b:List Int} {p c:Int} (hb:okB b) (h:(nRb b p c).2.2=true) : ∃(s:List Int) (a e:Nat),nRb b p c=(s,(e:Int),true)/\p=(a:Int)/\(s.length:Int)<=c/\e<=b.length/\s.length<=1000000000000/\a+(uv s.length).length+s.length=e/\b.drop a=uv s.length++(s++b.drop e)/\okB s:=by obtain ⟨a,e,h1,h2,h3⟩:=YA hb (show nRb b p c=((nRb b p c).1,(nRb b p c).2.1,true) from by rw [<-h]);exact ⟨_,a,e,by rw [<-h2,<-h],h1,h3⟩
theorem DL {b:List Int} {p:Int} (hb:okB b) (h:(nUv b p).2.2=true) : ∃a m e:Nat,nUv b p=((m:Int),(e:Int),true)/\p=(a:Int)/\m<=1000000000000/\e<=b.length/\a+(uv m).length=e/\b.drop a=uv m++b.drop e:=by obtain ⟨a,m,e,h1,h2,h3,h4⟩:=P1 hb (show nUv b p=((nUv b p).1,(nUv b p).2.1,true) from by rw [<-h]);exact ⟨a,m,e,by rw [<-h2,<-h3,<-h],h1,h4⟩
theorem RE {s:List Int} {m:Nat} (hs:okB s) (hm:m<=1000000000000):M.Field.ok (⟨dH s,(m:Int)⟩:M.Field):=⟨by show (dH s).size<=_;rw [CW];exact hs.1,by show inI (m:Int);unfold inI;omega⟩
theorem Ry {b:List Int} (hb:okB b) : ∀(j a:Nat) (acc fs:List M.Field) (q:Int),XN b j (a:Int) acc=some (fs,q)->a<=b.length -> ∃(l:List M.Field) (e:Nat),fs=acc++l/\l.length=j/\q=(e:Int)/\e<=b.length/\b.drop a=N2 enF l++b.drop e /\ ∀x∈l,M.Field.ok x
 | 0,a,acc,fs,q,h,ha=>by simp only [XN,qa,qZ] at h;exact ⟨[],a,by rw [<-h.1,qW],rfl,h.2.symm,ha,rfl,λ_ h=>absurd h qd⟩
 | j+1,a,acc,fs,q,h,ha=>by
  simp only [XN] at h
  split at h
  ·rename_i h1
   obtain ⟨s,a1,e1,r1,r2,r3,r4,r5,r6,r7,r8⟩:=II hb h1
   obtain rfl:a=a1:=by omega
   rw [r1] at h
   dsimp only at h
   split at h
   ·rename_i h2
    obtain ⟨a2,m,e2,u1,u2,u3,u4,u5,u6⟩:=DL hb h2
    obtain rfl:e1=a2:=by omega
    rw [u1] at h
    dsimp only at h
    obtain ⟨l,e,g1,g2,g3,g4,g5,g6⟩:=Ry hb j e2 _ fs q h u4
    refine ⟨(⟨dH s,(m:Int)⟩:M.Field)::l,e,by rw [g1,qS];rfl,by rw [qJ,g2],g3,g4,?_,λx hx => ?_⟩
    ·rw [r7,u6,g5,N2,enF,LX,IP r8.2,qH];simp only [qS]
    ·rcases List.mem_cons.1 hx with rfl | hx;(exact RE r8 u3);·exact g6 x hx
   ·cases h
  ·cases h
def aGe (o:Option (List M.Field×Int)):M.aE×Int×Bool:=match o with
 | none=>((⟨([]:List M.Field)⟩:M.aE),0,false)
 | some (fs,q)=>((⟨fs⟩:M.aE),q,cG (⟨fs⟩:M.aE))
theorem TH {acc:List M.Field} {n:Nat} (hl:acc.length<=n) (hn:n<=6) (h : ∀x∈acc,M.Field.ok x):M.aE.ok (⟨acc⟩:M.aE):=⟨⟨Nat.le_trans hl qj,h⟩⟩
theorem Wh {acc:List M.Field} {x:M.Field} (h : ∀x∈acc,M.Field.ok x) (hx:M.Field.ok x) : ∀y∈acc++[x],M.Field.ok y:=λy hy=>by rcases List.mem_append.1 hy with hy | hy;(exact h y hy);·rw [List.mem_singleton.1 hy];exact hx
theorem aCC {b:List Int} {x1:Int×Int×Bool} {N:Nat} (hb:okB b) (hl:b.length<=1048576) (hN:N<=6) (hx:x1.1=(N:Int)) : ∀(j k m:Nat) (p:Int) (acc:List M.Field),k+j=N->j<m->inI p->acc.length=k->(∀x∈acc,M.Field.ok x)->rT b x1 m p (k:Int) acc=some (aGe (XN b j p acc))
 | _,_,0,_,_,_,h,_,_,_=>by omega
 | 0,k,m+1,p,acc,hk,_,hp,ha,ho=>by simp only [rT];rw [hx,if_neg qc,pT (TH (n:=6) qb qb ho),qA];rfl
 | j+1,k,m+1,p,acc,hk,hm,hp,ha,ho=>by
  simp only [rT,XN]
  rw [hx,if_pos qc,uO hb hl hp,qA]
  cases h1:(nRb b p 8).2.2 with
  | false=>rfl
  | true =>
   obtain ⟨s,a1,e1,r1,r2,r3,r4,r5,r6,r7,r8⟩:=II hb h1
   rw [r1]
   simp only [qB,qD,if_false,if_true]
   rw [rJ hb hl (Jw r4 hl),qA]
   cases h2:(nUv b (e1:Int)).2.2 with
   | false=>rfl
   | true =>
    obtain ⟨a2,v,e2,u1,u2,u3,u4,u5,u6⟩:=DL hb h2
    rw [u1]
    simp only [qB,qD,if_false,if_true]
    rw [EI r8.2,qA,dN qc,qA,bD qb]
    exact aCC hb hl hN hx j (k+1) m (e2:Int) _ qb qb (Jw u4 hl) (by simp [ha]) (Wh ho (RE r8 u3))
theorem G7 {b:List Int} (hb:okB b) (hl:b.length<=1048576):oZ b=some (SA b):=by
 unfold oZ CS SA
 rw [rJ hb hl wU,qA]
 cases h:(nUv b 0).2.2 with
 | false=>rfl
 | true =>
  obtain ⟨a,m,e,u1,u2,u3,u4,u5,u6⟩:=DL hb h
  rw [u1]
  simp only [qB,qD,if_false,if_true]
  by_cases h6:(m:Int)>6
  ·rw [if_pos (by simpa using h6),if_pos h6];rfl
  ·have hr:=aCC (x1:=((m:Int),(e:Int),true)) hb hl (N:=m) qb rfl m 0 fuel (e:Int) [] qb qi (Jw u4 hl) rfl (λ_ h=>absurd h qd)
   rw [show ((0:Nat):Int)=0 from rfl] at hr
   rw [if_neg (by simpa using h6),if_neg h6,qH,hr,qA]
   cases XN b m (e:Int) [] with
   | none=>rfl
   | some o =>
    obtain ⟨fs,q⟩:=o
    show (if (!cG (⟨fs⟩:M.aE))=true then some ((⟨([]:List M.Field)⟩:M.aE),false) else if (!(q==(b.length:Int)))=true then some ((⟨([]:List M.Field)⟩:M.aE),false) else some ((⟨fs⟩:M.aE),true))=some (if (cG (⟨fs⟩:M.aE)&&(q==(b.length:Int)))=true then ((⟨fs⟩:M.aE),true) else ((⟨([]:List M.Field)⟩:M.aE),false))
    rcases Bool.eq_false_or_eq_true (cG (⟨fs⟩:M.aE)) with hn | hn
    ·rw [if_neg (show ¬(!cG (⟨fs⟩:M.aE))=true from by simp [hn])];by_cases hq:q=(b.length:Int);(rw [if_neg (show ¬(!(q==(b.length:Int)))=true from by simp [hq]),if_pos (by simp [hn,hq])]);·rw [if_pos (show (!(q==(b.length:Int)))=true from by simp [hq]),if_neg (by simp [hq])]
    ·rw [if_pos (show (!cG (⟨fs⟩:M.aE))=true from by simp [hn]),if_neg (by simp [hn])]
theorem Wf {b:List Int} (hb:okB b):(SA b).1.ok/\M.aE.sz (SA b).1<=60:=by have h0:M.aE.ok (⟨([]:List M.Field)⟩:M.aE)/\M.aE.sz (⟨([]:List M.Field)⟩:M.aE)<=60:=⟨TH (n:=0) qd qb (λ_ h=>absurd h qd),by simp [M.aE.sz,cX]⟩;unfold SA;split;(rename_i h;obtain ⟨a,m,e,u1,u2,u3,u4,u5,u6⟩:=DL hb h;rw [u1];dsimp only;split;(exact h0);·split;(exact h0);·rename_i fs q hr;split;(rename_i hh;rw [qM] at hh;obtain ⟨l,e3,g1,g2,g3,g4,g5,g6⟩:=Ry hb _ e [] fs q hr u4;rw [List.nil_append] at g1;subst g1;obtain ⟨n6,nf⟩:=yF hh.1;refine ⟨TH n6 qb g6,?_⟩;have:=dI (w:=M.Field.sz) (b:=8) (xs:=fs) (λx hx=>by have:=(nf x hx).1;simp only [M.Field.sz];omega);simp only [M.aE.sz];omega);·exact h0);·exact h0
def LG (o:M.Op):Prop:=inI o.aG7/\o.aD.size<=maxLen/\o.Key.ok/\o.aE.ok/\o.Field.size<=maxLen
def nOp (o:M.Op):Bool:=inR o.aG7 1 6&&(mT o.aD&&(((o.aG7==5)||CN o.Key)&&(cG o.aE&&(if (o.aG7==6)=true then mT o.Field else (o.Field.toList==(⟨#[]⟩:ByteArray).toList)))))
theorem Ku {o:M.Op} (h:LG o):B9 o=some (nOp o):=by unfold B9 nOp;simp only [cF,dF h.2.1,mI h.2.2.1,pT h.2.2.2.1,dF h.2.2.2.2,qA];have hb:(o.aG7 != 6) = !(o.aG7==6):=rfl;generalize (o.aG7 != 6)=a9 at hb ⊢;generalize inR o.aG7 1 6=a1;generalize mT o.aD=a2;generalize (o.aG7==5)=a3;generalize CN o.Key=a4;generalize cG o.aE=a5;generalize (o.aG7==6)=a6 at hb ⊢;generalize mT o.Field=a7;generalize (o.Field.toList==(⟨#[]⟩:ByteArray).toList)=a8;subst hb;cases a1<;>cases a2<;>cases a3<;>cases a4<;>cases a5<;>cases a6<;>cases a7<;>cases a8<;>rfl
def enO (o:M.Op):List Int:=uv o.aG7.toNat++(LX (bR o.aD)++(LX (enK o.Key)++(LX (enR o.aE)++LX (bR o.Field))))
def FC (l:List M.Op):List Int:=if (l.all nOp&&decide (l.length<=6))=true then uv l.length++N2 enO l else []
theorem bsize {a b:ByteArray} (h:a.toList=b.toList):a.size=b.size:=by rw [ByteArray.toList_eq,ByteArray.toList_eq] at h;have:=congrArg List.length h;rw [Array.length_toList,Array.length_toList] at this;exact this
theorem RQ {s:ByteArray} (h:(s.toList==(⟨#[]⟩:ByteArray).toList)=true):s.size=0:=bsize (eq_of_beq h)
theorem D8 {o:M.Op} (h:nOp o=true):1<=o.aG7/\o.aG7<=6/\o.aD.size<=8/\o.Field.size<=8/\cG o.aE=true:=by
 unfold nOp inR at h
 simp only [qM,qL] at h
 obtain ⟨h1,h2,_,h4,h5⟩:=h
 have n8 : ∀s:ByteArray,mT s=true->s.size<=8:=λs hs=>by unfold mT inR at hs;simp only [qM,qL] at hs;omega
 refine ⟨h1.1,h1.2,n8 _ h2,?_,h4⟩
 split at h5
 ·exact n8 _ h5
 ·rw [RQ h5];omega
theorem GR {b:List Int} {n:Nat} (h:b.length<=n) (hn:n<=127):(LX b).length<=n+1:=by have:=Eo 0 b.length qb;unfold LX;rw [qE];omega
theorem Qm {o:M.Op} (h:nOp o=true):(enO o).length<=130:=by obtain ⟨h1,h2,h3,h4,_⟩:=D8 h;have e1:=Eo 0 o.aG7.toNat qb;have e2:=GR (b:=bR o.aD) (n:=8) (by rw [aQ];exact h3) qb;have e3:=GR (Nl o.Key) qb;have e4:=GR (Nd o.aE) qb;have e5:=GR (b:=bR o.Field) (n:=8) (by rw [aQ];exact h4) qb;unfold enO;simp only [qE];omega
theorem Xj {o:M.Op} (ho:LG o) (h:nOp o=true) {q:List Int} (hq:q.length<=900000) {α:Type} (K:List Int->Option α):((bS q o.aG7).bind λaa=>((bQ aa (bR o.aD)).bind λae=>((kT o.Key).bind λaf=>((bQ ae af).bind λah=>((gG o.aE).bind λai=>((bQ ah ai).bind λaj=>((bQ aj (bR o.Field)).bind λak=>K ak)))))))=K (q++enO o):=by obtain ⟨h1,h2,h3,h4,_⟩:=D8 h;have e0:=nJ (r:=q) (n:=o.aG7.toNat) qb qb;rw [Int.toNat_of_nonneg qb] at e0;have l1:=Eo 0 o.aG7.toNat qb;have l2:=GR (b:=bR o.aD) (n:=8) (by rw [aQ];exact h3) qb;have l3:=GR (Nl o.Key) qb;have l4:=GR (Nd o.aE) qb;have k2:=aQ o.aD;have k5:=aQ o.Field;have k3:=Nl o.Key;have k4:=Nd o.aE;rw [e0,qA,rH qp qb,qA,Ka ho.2.2.1,qA,rH qp qb,qA,GY ho.2.2.2.1,qA,rH qp qb,qA,rH qp qb,qA];unfold enO;simp only [qS]
theorem eoS {l:List M.Op} (hl:l.length<=1000) (ho : ∀o∈l,LG o) : ∀(n k:Nat) (q:List Int),l.length-k<n->k<=l.length->q.length<=20+130*k->oM l n (k:Int) q=some (if (l.drop k).all nOp=true then (if l.length>6 then [] else q++N2 enO (l.drop k)) else [])
 | 0,_,_,h,_,_=>by omega
 | n+1,k,q,hn,hk,hq=>by
  simp only [oM]
  rcases Nat.lt_or_ge k l.length with hlt | hge
  ·rw [if_pos (aY hlt),aK hlt,qA,Ku (ho _ (qG hlt)),qA,qV hlt,List.all_cons]
   cases h:nOp l[k] with
   | false =>
    simp only [qC,if_true,Bool.false_and,qD,if_false]
   | true =>
    simp only [qB,qD,if_false,Bool.true_and]
    have hx:=Qm h
    rw [Xj (ho _ (qG hlt)) h qb,bD qb,eoS hl ho n (k+1) _ qb qb (by rw [qE];omega),N2,qS]
  ·have e:k=l.length:=by omega
   subst e
   rw [if_neg qk,qY]
   simp only [List.all_nil,if_true,N2,qW]
   by_cases h6:l.length>6
   ·rw [if_pos qc,if_pos h6]
   ·rw [if_neg qc,if_neg h6]
theorem E3 {l:List M.Op} (hl:l.length<=1000) (ho : ∀o∈l,LG o):uR l=some (FC l):=by
 have h9:=IC (n:=l.length) qb
 unfold uR FC
 rw [nJ qd qb,qA,List.nil_append]
 have e:=eoS hl ho fuel 0 (uv l.length) qi qb qb
 rw [List.drop_zero] at e
 refine Eq.trans e ?_
 congr 1
 cases l.all nOp with
 | false=>rfl
 | true =>
  by_cases h6:l.length>6
  ·rw [if_pos rfl,if_pos h6,if_neg qc]
  ·rw [if_pos rfl,if_neg h6,if_pos qc]
theorem Rs (l:List M.Op):okB (FC l):=by unfold FC;split;(rename_i h;rw [qM,qL,qQ] at h;have h1:=NL (f:=enO) (λo hx=>Qm (h.1 o hx));have h9:=IC (n:=l.length) qb;refine ⟨?_,λy hy => ?_⟩;(rw [qE];exact Nat.le_trans (m:=2000) qb qj);·rcases List.mem_append.1 hy with hy | hy;(exact GN _ y hy);·refine NQ (λo _ z hz => ?_) y hy;unfold enO at hz;simp only [qP] at hz;rcases hz with hz | hz | hz | hz | hz;(exact GN _ z hz);(exact Et (CV _) z hz);(exact Et (Z2 _).2 z hz);(exact Et (Z9 _).2 z hz);·exact Et (CV _) z hz);·exact ⟨qd,λ_ h=>absurd h qd⟩
def gS9 (b:List Int) (p c1:Int):=nRb b (nUv b p).2.1 c1
def gK9 (b:List Int) (p c1 c2:Int):=nRb b (gS9 b p c1).2.1 c2
end Go.Proofs.YtipmihbgjolaaaaGreat.gen
