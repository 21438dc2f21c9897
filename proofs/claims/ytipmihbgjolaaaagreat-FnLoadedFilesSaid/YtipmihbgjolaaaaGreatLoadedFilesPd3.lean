/-
  Helper text. No conditions.
-/
import Derived.Test.YtipmihbgjolaaaaGreatLoadedFilesPd2
set_option linter.unusedVariables false
set_option linter.unusedSimpArgs false
namespace Go.Proofs.YtipmihbgjolaaaaGreat.gen
open Go Go.Sh
open Go.IntKind (i64)
theorem pA {s:M.aC} (h:hJ s=true):M.aC.sz s<=10000:=by
 obtain ⟨h1,h2,h3,_,_⟩:=xG h
 obtain ⟨a1,_⟩:=Hu h1
 have hn:s.Name.size<=8:=by unfold mH inR at h2;simp only [qM,qL] at h2;omega
 have:=dP (w:=M.aFP.sz) (b:=112) (xs:=s.aE7) (λx hx=>by obtain ⟨k,hk,rfl⟩:=List.mem_iff_getElem.1 hx;obtain ⟨b1,b2⟩:=a1 k _ (qF hk);have c1:=E3 b1;have c2:=F4 b2;simp only [M.aFP.sz,M.Key.sz];omega)
 simp only [M.aC.sz]
 omega
theorem Dk {s:M.aC} {k:M.Key} {r:M.aD} (hR:bW r=true) (h:(Cd s k r).2=true):hJ (Cd s k r).1=true:=by unfold Cd at h ⊢;by_cases hS:hJ s=true;(rw [if_pos hS] at h ⊢;by_cases hK:Cj k=true;(rw [if_pos hK] at h ⊢;by_cases hf:lA (yT k) s.aE7<0;(rw [if_pos hf] at h ⊢;by_cases aa:s.aE7.length<16;(rw [if_pos aa];have:=Su hS hK hR hf _ (UG (k:=k) hS);simp only [aa,decide_true] at this;exact this);·rw [if_neg aa] at h;cases h);·rw [if_neg hf];obtain ⟨i,e,hi⟩:=gD hf;simp only [e,qH];rw [Ua hS hi];exact hR);·rw [if_neg hK] at h;cases h);·rw [if_neg hS] at h;cases h
theorem MC {s:M.aC} {k:M.Key} {r:M.aD} (hs:s.ok) (hl:s.aE7.length<=1073741824) (hk:k.ok) (hr:r.ok):(Cd s k r).1.ok:=by unfold Cd;by_cases hS:hJ s=true;(rw [if_pos hS];by_cases hK:Cj k=true;(rw [if_pos hK];by_cases hf:lA (yT k) s.aE7<0;(rw [if_pos hf];split;(exact TD _ hs hl hk hr (Sg hs hk));·exact hs);·rw [if_neg hf];obtain ⟨i,e,hi⟩:=gD hf;simp only [e,qH];unfold Pe;rw [qF hi];exact Xr hi hs hr);·rw [if_neg hK];exact hs);·rw [if_neg hS];exact hs
theorem IJ {s:M.aC} {k:M.Key} {r:M.aD} (h:(Cd s k r).2=false):(Cd s k r).1=s:=by unfold Cd at h ⊢;by_cases hS:hJ s=true;(rw [if_pos hS] at h ⊢;by_cases hK:Cj k=true;(rw [if_pos hK] at h ⊢;by_cases hf:lA (yT k) s.aE7<0;(rw [if_pos hf] at h ⊢;by_cases aa:s.aE7.length<16;(rw [if_pos aa] at h;cases h);·rw [if_neg aa]);·rw [if_neg hf] at h;cases h);·rw [if_neg hK]);·rw [if_neg hS]
theorem KV {s:M.aC} {w:M.bD} (h:(L0 s w).2=false):(L0 s w).1=s:=by unfold L0 at h ⊢;by_cases h1:(IH (kI s w.Key) w.Field w.N).2=true;(rw [if_pos h1] at h ⊢;exact IJ h);·rw [if_neg h1]
theorem JO {s:M.aC} {w:M.bD} (hs:s.ok) (hw:w.ok) (hz:M.aC.sz s<=536870912):(L0 s w).1.ok/\M.aC.sz (L0 s w).1<=536870912:=by
 have hl:s.aE7.length<=1073741824:=by simp only [M.aC.sz] at hz;omega
 have hzr:=Nj s w.Key
 have hlr:(kI s w.Key).aFA.length<=1073741824:=by simp only [M.aD.sz] at hzr;omega
 cases h2:(L0 s w).2 with
 | false=>rw [KV h2];exact ⟨hs,hz⟩
 | true =>
  unfold L0 at h2 ⊢
  by_cases h1:(IH (kI s w.Key) w.Field w.N).2=true
  ·rw [if_pos h1] at h2 ⊢;have:=pA (Dk (E6 h1) h2);exact ⟨MC hs hl hw.Key (Mr (GW hs) hlr hw.Field hw.N),qb⟩
  ·rw [if_neg h1] at h2;cases h2
theorem AQ {s:M.aC} {w:M.bD} (hs:s.ok) (hw:w.ok) (hz:M.aC.sz s<=1073741824):kJ s w=some (L0 s w):=by
 have hzr:=Nj s w.Key
 have hlr:(kI s w.Key).aFA.length<=1073741824:=by simp only [M.aD.sz] at hzr;omega
 have rD:=A7 (r:=kI s w.Key) (a:=w.Field) (n:=w.N) (GW hs) qb hw.Field hw.N
 have hput:(IH (kI s w.Key) w.Field w.N).2=true->dZ s w.Key (IH (kI s w.Key) w.Field w.N).1=some (Cd s w.Key (IH (kI s w.Key) w.Field w.N).1):=λh1 =>
  yI hs hw.Key (Mr (GW hs) hlr hw.Field hw.N) (E6 h1) hz (Nat.le_trans (F4 (E6 h1)) qb)
 have hfin:((some (IH (kI s w.Key) w.Field w.N)).bind λx9=>(if (!x9.2)=true then ((bS s).bind λae=>(some (ae,false))) else ((dZ s w.Key x9.1).bind λaa=>(some (aa.1,aa.2)))))=some (L0 s w):=by
  rw [qA,mP s hz]
  unfold L0
  cases h1:(IH (kI s w.Key) w.Field w.N).2 with
  | false=>simp
  | true =>
   rw [hput h1]
   simp
 unfold kJ
 rw [zV hs,qA]
 by_cases h:lA (yT w.Key) s.aE7<0
 ·have e:kI s w.Key=(⟨([]:List M.Field)⟩:M.aD):=by unfold kI;rw [if_pos h]
  rw [if_neg qc]
  rw [e] at rD hfin
  rw [rD]
  exact hfin
 ·obtain ⟨i,ei,hi⟩:=gD h
  have e:kI s w.Key=s.aE7[i].aD:=by unfold kI;rw [if_neg h,ei,qH,qF hi]
  rw [if_pos (by simpa using h),ei,aK hi,qA]
  rw [e] at rD hfin
  rw [rD]
  exact hfin
def C5 (s:M.aC) (l:List M.bD):M.aC:=l.foldl (λt w=>(L0 t w).1) s
theorem ER {s:M.aC} {l:List M.bD} (hs:s.ok) (hl:l.length<=maxLen) (ho : ∀w∈l,M.bD.ok w) (hz:M.aC.sz s<=536870912):wU s l=some (C5 s l):=by
 have hm:=le_max hl
 unfold wU C5
 rw [mP s qb,qA]
 have:=J1 (xs:=l) (L:=λn k (t:M.aC)=>jL l n k t.Name t.aFZ t.aE7) (step:=λt w=>(L0 t w).1) (I:=λ_ t=>t.ok/\M.aC.sz t<=536870912) (E:=some) hl
  (λt k hk hi=>JO hi.1 (ho _ (qG hk)) hi.2) (λn t k hk hi=>by
   simp only [jL]
   rw [if_pos (aY hk),aK hk,qA,show (⟨t.Name,t.aE7,t.aFZ⟩:M.aC)=t from rfl,AQ hi.1 (ho _ (qG hk)) qb,qA,bE qb]
   cases h2:(L0 t l[k]).2 with
   | true=>rfl
   | false=>rw [KV h2];rfl) (λn t hi=>by
   simp only [jL]
   rw [if_neg qk]) s ⟨hs,hz⟩
 exact this.1
theorem DS : ∀(j n:Nat),n<2^(7*(j+1))->(uv n).length<=j+1
 | 0,n,h=>by rw [Jm (by simpa using h)];simp
 | j+1,n,h=>by
  by_cases h1:n<128
  ·rw [Jm h1];simp
  ·rw [O9 h1,qJ]
   have e:2^(7*(j+1+1))=2^(7*(j+1))*128:=by rw [show 7*(j+1+1)=7*(j+1)+7 from by omega,Nat.pow_add]
   have:=DS j (n/128) (by rw [e] at h;omega)
   omega
theorem HX {n:Nat} (h:n<=1000000000000):(uv n).length<=6:=DS 5 n (Nat.lt_of_le_of_lt h qe)
theorem QI (n:Nat):1<=(uv n).length:=by by_cases h:n<128;(rw [Jm h];simp);·rw [O9 h];simp
theorem Ge : ∀(n:Nat) (x:Int),x∈uv n->0<=x/\x<=255:=by
 intro n
 induction n using Nat.strongRecOn with
 | _ n ih =>
  intro x hx
  by_cases h:n<128
  ·rw [Jm h,List.mem_singleton] at hx;subst hx;omega
  ·rw [O9 h,List.mem_cons] at hx;rcases hx with rfl | hx;(omega);·exact ih (n/128) qb x hx
def TO (b:List Int) (a:Nat):Nat->Nat->Nat->Int×Int×Bool
 | 0,_,_=>(0,0,false)
 | j+1,k,n=>match b[a+k]? with
  | none=>(0,0,false)
  | some x=>if x.toNat<128 then (if (decide (x.toNat=0)&&decide (0<k))||decide (1000000000000<n+x.toNat%128*2^(7*k)) then (0,0,false) else (((n+x.toNat%128*2^(7*k):Nat):Int),((a+k+1:Nat):Int),true)) else TO b a j (k+1) (n+x.toNat%128*2^(7*k))
def nUv (b:List Int) (p:Int):Int×Int×Bool:=if p<0 then (0,0,false) else TO b p.toNat 6 0 0
theorem Og {k:Nat} (h:k<6):2^(7*k)<=34359738368:=Nat.pow_le_pow_right (n:=2) qe (show 7*k<=35 by omega)
theorem XV {k n x:Nat} (hn:n<2^(7*k)):n+x%128*2^(7*k)<2^(7*(k+1)):=by
 have e:2^(7*(k+1))=2^(7*k)*128:=by rw [show 7*(k+1)=7*k+7 from by omega,Nat.pow_add]
 have h1:x%128<=127:=by omega
 have h2:x%128*2^(7*k)<=127*2^(7*k):=Nat.mul_le_mul_right _ h1
 rw [e]
 omega
theorem Wo {n x k:Nat} (h:n<2^k):n|||x*2^k=n+x*2^k:=by have:=Nat.two_pow_add_eq_or_of_lt h x;rw [Nat.mul_comm x,Nat.or_comm,<-this,Nat.add_comm]
theorem Uu {k x:Nat} (hk:k<6):i64.wrap (((x%128:Nat):Int)*2^(min (i64.wrap (7*(k:Int))).toNat IntKind.i64.bits))=((x%128*2^(7*k):Nat):Int):=by
 have hp:=Og hk
 have h1:x%128<=127:=by omega
 have h2:x%128*2^(7*k)<=127*2^(7*k):=Nat.mul_le_mul_right _ h1
 have e:min (i64.wrap (7*(k:Int))).toNat IntKind.i64.bits=7*k:=by rw [bL qb qb,show IntKind.i64.bits=64 from rfl];omega
 rw [e,show (((x%128:Nat):Int)*2^(7*k))=((x%128*2^(7*k):Nat):Int) from by rw [Int.natCast_mul,Int.natCast_pow];rfl]
 exact bL qb qb
theorem uvS {n k x:Nat} (hk:k<6) (hx:x<=255) (hn:n<2^(7*k)):(i64.wrap (BitVec.ofInt (IntKind.i64.bits) (n:Int)|||BitVec.ofInt (IntKind.i64.bits) (i64.wrap ((i64.wrap (BitVec.ofInt (IntKind.i64.bits) (i64.wrap (x:Int))&&&BitVec.ofInt (IntKind.i64.bits) 127).toNat)*2^(min (i64.wrap (7*(k:Int))).toNat IntKind.i64.bits)))).toNat)=((n+x%128*2^(7*k):Nat):Int):=by
 have hp:=Og hk
 have h1:x%128<=127:=by omega
 have h2:x%128*2^(7*k)<=127*2^(7*k):=Nat.mul_le_mul_right _ h1
 have e:=JK (n:=x) (m:=127) qb qb
 rw [Wk] at e
 rw [bL (n:=(x:Int)) qb qb,show ((127:Int))=((127:Nat):Int) from rfl,e,Uu hk,OS qb qb,Wo hn]
theorem Xk {b:List Int} (hb:okB b) {k:Nat} (h:k<b.length) : ∃x:Nat,b[k]=(x:Int)/\x<=255:=by have:=hb.2 _ (qG h);exact ⟨b[k].toNat,qb,qb⟩
theorem rdS {b:List Int} (hb:okB b) (hl:b.length<=1048576) (a:Nat) (ha:(a:Int)<=9223372036854775807) : ∀(j k n m:Nat),j+k=6->n<2^(7*k)->j<m->dW b (a:Int) m (n:Int) (k:Int)=some (TO b a j k n)
 | _,_,_,0,_,_,h=>by omega
 | 0,k,n,m+1,hk,_,_=>by simp only [dW];rw [if_neg qc];rfl
 | j+1,k,n,m+1,hk,hn,hm=>by
  have h6:k<6:=by omega
  simp only [dW]
  rw [if_pos qc,if_neg qd,bL (n:=(b.length:Int)-(k:Int)) qb qb]
  by_cases hlt:a+k<b.length
  ·obtain ⟨x,ex,hx⟩:=Xk hb hlt;rw [if_neg qc,show ((a:Int)+(k:Int))=((a+k:Nat):Int) from by omega,bL (n:=((a+k:Nat):Int)) qb qb,aK hlt,qA,ex,bE qb,bE qb,if_pos (by rw [bL qb qb];simp;omega)];rw [uvS h6 hx hn,bL (n:=(x:Int)) qb qb];unfold TO;rw [qF hlt,ex];dsimp only;rw [qH];have ih:=rdS hb hl a ha j (k+1) (n+x%128*2^(7*k)) m qb (XV hn) qb;by_cases h1:x<128;(rw [if_pos qc,if_pos h1];by_cases h2:x=0;(rw [if_pos (by simp [h2])];by_cases h3:0<k;(rw [if_pos qc,if_pos (by simp [h2,h3])]);·rw [if_neg qc];by_cases h4:1000000000000<n+x%128*2^(7*k);(rw [if_pos (by rw [qL];omega),if_pos (by rw [Bool.or_eq_true,qL];exact .inr h4)]);·rw [if_neg (by rw [qL];omega),if_neg (by rw [Bool.or_eq_true,qM,qL,qL,qL];omega)]);·rw [if_neg qc];by_cases h4:1000000000000<n+x%128*2^(7*k);(rw [if_pos (by rw [qL];omega),if_pos (by rw [Bool.or_eq_true,qL];exact .inr h4)]);·rw [if_neg (by rw [qL];omega),if_neg (by rw [Bool.or_eq_true,qM,qL,qL,qL];omega)]);·rw [if_neg qc,if_neg h1];exact ih
  ·rw [if_pos qc];unfold TO;rw [qX qb]
theorem pM {b:List Int} {p:Int} (hb:okB b) (hl:b.length<=1048576) (hp:inI p):fD b p=some (nUv b p):=by
 unfold fD nUv
 by_cases h:p<0
 ·have e : ∀m,dW b p (m+1) 0 0=some (0,0,false):=λm=>by
   simp only [dW]
   rw [if_pos qe,if_pos (by simpa using h)]
  rw [if_pos h]
  exact e 18446744073709551615
 ·rw [if_neg h];obtain ⟨a,rfl⟩:=Int.eq_ofNat_of_zero_le (show 0<=p by omega);exact rdS hb hl a hp.2 6 0 0 fuel rfl qe qi
theorem RS (b:List Int) (a:Nat) : ∀(j k n:Nat),(TO b a j k n).2.2=false->TO b a j k n=(0,0,false)
 | 0,_,_,_=>rfl
 | j+1,k,n,h=>by
  unfold TO at h ⊢
  cases e:b[a+k]? with
  | none=>rfl
  | some x =>
   rw [e] at h
   dsimp only at h ⊢
   split at h
   ·split at h;(rename_i h1 h2;rw [if_pos h1,if_pos h2]);·cases h
   ·rename_i h1;rw [if_neg h1];exact RS b a j (k+1) _ h
theorem Yw {b:List Int} {p:Int} (h:(nUv b p).2.2=false):nUv b p=(0,0,false):=by unfold nUv at h ⊢;split;(rfl);·rename_i h1;rw [if_neg h1] at h;exact RS b _ 6 0 0 h
theorem P7 {b:List Int} (hb:okB b) (a:Nat) : ∀(j k n:Nat) (v q:Int),TO b a j k n=(v,q,true) -> ∃m e:Nat,v=((n+m*2^(7*k):Nat):Int)/\q=(e:Int)/\n+m*2^(7*k)<=1000000000000/\e<=b.length/\a+k+(uv m).length=e/\b.drop (a+k)=uv m++b.drop e/\(k=0\/0<m)
 | 0,_,_,_,_,h=>by cases h
 | j+1,k,n,v,q,h=>by
  unfold TO at h
  by_cases hlt:a+k<b.length
  ·obtain ⟨x,ex,hx⟩:=Xk hb hlt
   have hd:b.drop (a+k)=(x:Int)::b.drop (a+k+1):=by rw [qV hlt,ex]
   rw [qF hlt,ex] at h
   dsimp only at h
   rw [qH] at h
   by_cases h1:x<128
   ·rw [if_pos h1,Nat.mod_eq_of_lt h1] at h;split at h;(cases h);·rename_i h2;rw [Bool.or_eq_true,qM,qL,qL,qL] at h2;simp only [qZ] at h;refine ⟨x,a+k+1,h.1.symm,h.2.1.symm,qb,qb,by rw [Jm h1];rfl,by rw [Jm h1];exact hd,qb⟩
   ·rw [if_neg h1] at h
    obtain ⟨m,e,e1,e2,e3,e4,e5,e6,e7⟩:=P7 hb a j (k+1) _ v q h
    have hm:0<m:=by omega
    have ee:2^(7*(k+1))=128*2^(7*k):=by rw [show 7*(k+1)=7+7*k from by omega,Nat.pow_add]
    have e8:n+x%128*2^(7*k)+m*2^(7*(k+1))=n+(m*128+x%128)*2^(7*k):=by rw [ee,<-Nat.mul_assoc,Nat.add_assoc,<-Nat.add_mul,Nat.add_comm (x%128)]
    have hu:uv (m*128+x%128)=(x:Int)::uv m:=by rw [O9 qb,show (m*128+x%128)/128=m from by omega,show (m*128+x%128)%128+128=x from by omega]
    rw [e8] at e1 e3
    refine ⟨m*128+x%128,e,e1,e2,e3,e4,by rw [hu,qJ];omega,by rw [hu,hd,List.cons_append];exact congrArg _ e6,.inr qb⟩
  ·rw [qX qb] at h;cases h
theorem O5 {b:List Int} {p v q:Int} (hb:okB b) (h:nUv b p=(v,q,true)) : ∃a m e:Nat,p=(a:Int)/\v=(m:Int)/\q=(e:Int)/\m<=1000000000000/\e<=b.length/\a+(uv m).length=e/\b.drop a=uv m++b.drop e:=by unfold nUv at h;split at h;(cases h);·obtain ⟨m,e,e1,e2,e3,e4,e5,e6,_⟩:=P7 hb p.toNat 6 0 0 v q h;simp only [Nat.mul_zero,Nat.pow_zero,Nat.mul_one,Nat.zero_add,Nat.add_zero] at e1 e3 e5 e6;exact ⟨p.toNat,m,e,qb,e1,e2,e3,e4,e5,e6⟩
def nRb (b:List Int) (p c:Int):List Int×Int×Bool:=if (nUv b p).2.2=true then (if (nUv b p).1>c then (([]:List Int),0,false) else if (nUv b p).1>(b.length:Int)-(nUv b p).2.1 then (([]:List Int),0,false) else ((b.drop (nUv b p).2.1.toNat).take (nUv b p).1.toNat,(nUv b p).2.1+(nUv b p).1,true)) else (([]:List Int),0,false)
theorem Vw {b:List Int} (h:okB b) (i j:Nat):okB ((b.drop i).take j):=⟨Nat.le_trans (by rw [qT,qU];omega) h.1,λx hx=>h.2 x (List.mem_of_mem_drop (List.mem_of_mem_take hx))⟩
theorem tO {b:List Int} {p c:Int} (hb:okB b) (hl:b.length<=1048576) (hp:inI p):dU b p c=some (nRb b p c):=by
 unfold dU nRb
 rw [pM hb hl hp,qA]
 cases h:(nUv b p).2.2 with
 | false=>rfl
 | true =>
  obtain ⟨a,m,e,e1,e2,e3,e4,e5,e6,e7⟩:=O5 hb (show nUv b p=((nUv b p).1,(nUv b p).2.1,true) from by rw [<-h])
  rw [e2,e3]
  simp only [qB,qD,if_false,if_true]
  by_cases h1:(m:Int)>c
  ·rw [if_pos (by simpa using h1),if_pos h1]
  ·rw [if_neg (by simpa using h1),if_neg h1,bL (n:=(b.length:Int)-(e:Int)) qb qb]
   by_cases h2:(m:Int)>(b.length:Int)-(e:Int)
   ·rw [if_pos (by simpa using h2),if_pos h2]
   ·rw [if_neg (by simpa using h2),if_neg h2,bL (n:=(e:Int)+(m:Int)) qb qb]
    have hs : ∀(α:Type) (xs:List α),xs.length=b.length->S9 xs (e:Int) ((e:Int)+(m:Int))=some ((xs.take ((e:Int)+(m:Int)).toNat).drop (e:Int).toNat):=λα xs hx=>by unfold S9;rw [if_pos ⟨qb,qb,qb⟩]
    have hd:List.drop (e:Int).toNat (List.take ((e:Int)+(m:Int)).toNat b)=List.take m (List.drop e b):=by rw [qH,show ((e:Int)+(m:Int)).toNat=e+m from by omega,List.drop_take];congr 1;omega
    rw [hs _ b rfl,qA,hd,qH,qH]
    have hk:(List.take m (List.drop e b)).length<=1048576:=by rw [qT,qU];omega
    rw [EC qb qb,qA]
theorem YH {b:List Int} {p c:Int} (h:(nRb b p c).2.2=false):nRb b p c=(([]:List Int),0,false):=by unfold nRb at h ⊢;split;(rename_i h1;rw [if_pos h1] at h;split;(rfl);·rename_i h2;rw [if_neg h2] at h;split;(rfl);·rename_i h3;rw [if_neg h3] at h;cases h);·rfl
theorem W9 {b s:List Int} {p c q:Int} (hb:okB b) (h:nRb b p c=(s,q,true)) : ∃a e:Nat,p=(a:Int)/\q=(e:Int)/\(s.length:Int)<=c/\e<=b.length/\s.length<=1000000000000/\a+(uv s.length).length+s.length=e/\b.drop a=uv s.length++(s++b.drop e)/\okB s:=by
 unfold nRb at h
 split at h
 ·rename_i h0
  obtain ⟨a,m,e,e1,e2,e3,e4,e5,e6,e7⟩:=O5 hb (show nUv b p=((nUv b p).1,(nUv b p).2.1,true) from by rw [<-h0])
  rw [e2,e3] at h
  split at h
  ·cases h
  ·split at h
   ·cases h
   ·rename_i h1 h2
    simp only [qZ,qH] at h
    have hs:s.length=m:=by rw [<-h.1,qT,qU];omega
    refine ⟨a,e+m,e1,qb,qb,qb,qb,by rw [hs];omega,?_,by rw [<-h.1];exact Vw hb _ _⟩
    rw [hs,e7,<-h.1,<-List.drop_drop,List.take_append_drop]
 ·cases h
theorem Co (s:ByteArray) : ∀x∈bO s,0<=x/\x<=255:=by intro x hx;unfold bO at hx;obtain ⟨b,_,rfl⟩:=List.mem_map.1 hx;have:=b.toNat_lt;omega
theorem H9 {l:List Int} (h : ∀x∈l,0<=x/\x<=255):bO (dD l)=l:=by unfold bO dD;simp only [List.map_map];refine (List.map_congr_left λx hx => ?_).trans (List.map_id l);have:=h x hx;simp only [Function.comp_apply,UInt8.toNat_ofNat',id_eq];omega
theorem Cp (l:List Int):(dD l).size=l.length:=by unfold dD;show (l.map _).toArray.size=_;simp
theorem TV {L:Nat->Int->List Int->Option (List Int)} {b c:Int->Int}
  (h1 : ∀m (n:Nat) r,¬n<128->n<2^63->L (m+1) (n:Int) r=(app 1 r [b n]).bind λ_=>L m ((n/128:Nat):Int) (r++[b n]))
  (h2 : ∀m (n:Nat) r,n<128->L (m+1) (n:Int) r=(app 1 r [c n]).bind λ_=>some (r++[c n]))
  (hb : ∀n:Nat,n<2^63->b n=((n%128+128:Nat):Int)) (hc : ∀n:Nat,n<128->c n=(n:Int)) :
  ∀(j m n:Nat) (r:List Int),n<2^(7*(j+1))->n<2^63->j<m->r.length+(j+1)<=140737488355328->L m (n:Int) r=some (r++uv n)
 | j,0,n,r,_,_,hm,_=>by omega
 | 0,m+1,n,r,hn,hn2,hm,hr=>by
  have h:n<128:=by simpa using hn
  rw [h2 m n r h,dH qc,qA,hc n h,Jm h]
 | j+1,m+1,n,r,hn,hn2,hm,hr=>by
  by_cases h:n<128
  ·rw [h2 m n r h,dH qc,qA,hc n h,Jm h]
  ·have hd:n/128<2^(7*(j+1)):=by
    rw [Nat.div_lt_iff_lt_mul qb]
    have e:2^(7*(j+1+1))=2^(7*(j+1))*128:=by rw [show 7*(j+1+1)=7*(j+1)+7 by omega,Nat.pow_add]
    omega
   rw [h1 m n r h hn2,dH qc,qA,TV h1 h2 hb hc j m (n/128) (r++[b n]) hd qb qb qc,hb n hn2,O9 h,qS]
   rfl
theorem u8n {n:Nat} (h:n<128):IntKind.u8.wrap (n:Int)=(n:Int):=by rw [wrap_u8];omega
theorem u8S {n:Nat} (h:n<2^63):IntKind.u8.wrap (i64.wrap (BitVec.ofInt (IntKind.i64.bits) (i64.wrap (BitVec.ofInt (IntKind.i64.bits) (n:Int)&&&BitVec.ofInt (IntKind.i64.bits) 127).toNat)|||BitVec.ofInt (IntKind.i64.bits) 128).toNat)=((n%128+128:Nat):Int):=by
 have h1:n%128<=127:=by omega
 have e:=JK (n:=n) (m:=127) qb qb
 rw [Wk] at e
 have e2:=OS (n:=n%128) (m:=128) qb qb
 rw [aAD qb] at e2
 rw [show ((127:Int))=((127:Nat):Int) from rfl,e,show ((128:Int))=((128:Nat):Int) from rfl,e2,wrap_u8]
 omega
theorem mS {r:List Int} {n:Nat} (hr:r.length<=16777216) (hn:n<=1000000000000):bP r (n:Int)=some (r++uv n):=by
 have hi:inR (n:Int) 0 1000000000000=true:=by unfold inR;simp;omega
 unfold bP
 rw [dH qc,qA,cD,qA,hi,if_neg qd]
 refine TV (L:=cK) (b:=λv=>IntKind.u8.wrap (i64.wrap (BitVec.ofInt (IntKind.i64.bits) (i64.wrap (BitVec.ofInt (IntKind.i64.bits) v&&&BitVec.ofInt (IntKind.i64.bits) 127).toNat)|||BitVec.ofInt (IntKind.i64.bits) 128).toNat)) (c:=λv=>IntKind.u8.wrap v) (λm n r h1 h2 => ?_) (λm n r h1 => ?_) (λn h=>u8S h) (λn h=>u8n h) 8 fuel n r qb qb qi qb
 ·simp only [cK];rw [if_pos qc,uvf]
 ·simp only [cK];rw [if_neg qc]
def Lk (b:List Int):List Int:=uv b.length++b
theorem pL {r b:List Int} (hr:r.length<=8388608) (hb:b.length<=1000000):bN r b=some (r++Lk b):=by have h9:=HX (n:=b.length) qb;unfold bN Lk;rw [mS qb qb,qA,dH (by rw [qE];omega),qA,qS]
def Nc {α:Type} (f:α->List Int):List α->List Int
 | []=>[]
 | x::l=>f x++Nc f l
theorem MX {α:Type} {f:α->List Int} {c:Nat} : ∀ {l:List α},(∀x∈l,(f x).length<=c)->(Nc f l).length<=l.length*c
 | [],_=>by simp [Nc]
 | x::l,h=>by have h1:=h x qd;have h2:=MX (l:=l) (λy hy=>h y (by simp [hy]));simp only [Nc,qE,qJ,Nat.succ_mul];omega
theorem Ue {α:Type} {R:Type} {xs:List α} {f:α->List Int} {c B:Nat} {L:Nat->Int->List Int->Option R} {E:List Int->Option R} (hc : ∀x∈xs,(f x).length<=c)
  (h1 : ∀n (k:Nat) (hk:k<xs.length) q,q.length<=B->L (n+1) (k:Int) q=L n ((k+1:Nat):Int) (q++f xs[k]))
  (h2 : ∀n q,q.length<=B->L (n+1) (xs.length:Int) q=E q) :
  ∀(n k:Nat) (q:List Int),xs.length-k<n->k<=xs.length->q.length+(xs.length-k)*c<=B->L n (k:Int) q=E (q++Nc f (xs.drop k))
 | 0,_,_,h,_,_=>by omega
 | n+1,k,q,h,hk,hq=>by
  rcases Nat.lt_or_ge k xs.length with hlt | hge
  ·have hx:=hc _ (qG hlt)
   have e:(xs.length-k)*c=(xs.length-(k+1))*c+c:=by rw [<-Nat.succ_mul];congr 1;omega
   rw [h1 n k hlt q qb,Ue hc h1 h2 n (k+1) (q++f xs[k]) qb qb (by rw [qE];omega),qV hlt,Nc,qS]
  ·have e:k=xs.length:=by omega
   subst e
   rw [h2 n q qb,qY,Nc,qW]
def enF (x:M.Field):List Int:=Lk (bO x.Name)++uv x.N.toNat
def enR (r:M.aD):List Int:=if bW r=true then uv r.aFA.length++Nc enF r.aFA else []
theorem Sx {x:M.Field} (h:x.Name.size<=8/\0<=x.N/\x.N<=1000000000):(enF x).length<=14:=by have h1:=DS 0 x.Name.size qb;have h2:=DS 4 x.N.toNat qb;have h3:=aP x.Name;unfold enF Lk;simp only [qE,h3];omega
theorem My (r:M.aD):(enR r).length<=85:=by unfold enR;split;(rename_i h;obtain ⟨h6,hf⟩:=xK h;have h1:=DS 0 r.aFA.length qb;have h2:=MX (f:=enF) (λx hx=>Sx (hf x hx));rw [qE];have:r.aFA.length*14<=6*14:=Nat.mul_le_mul_right _ h6;omega);·simp
theorem Gr {r:M.aD} (hr:r.ok):fZ r=some (enR r):=by
 unfold fZ enR
 rw [oY hr,qA]
 by_cases h:bW r=true
 ·obtain ⟨h6,hf⟩:=xK h
  have h1:=DS 0 r.aFA.length qb
  rw [if_neg (by simp [h]),if_pos h,mS qd qb,qA,List.nil_append]
  have:=Ue (xs:=r.aFA) (f:=enF) (c:=14) (B:=1000) (L:=cQ r) (E:=some) (λx hx=>Sx (hf x hx)) (λn k hk q hq => ?_) (λn q _ => ?_) fuel 0 (uv r.aFA.length) qi qb qb
  ·rw [List.drop_zero] at this;exact this
  ·have hx:=hf _ (qG hk)
   simp only [cQ]
   have h9:=HX (n:=r.aFA[k].Name.size) qb
   have hs:=aP r.aFA[k].Name
   have hb:(Lk (bO r.aFA[k].Name)).length<=14:=by unfold Lk;rw [qE,hs];omega
   have e:=mS (r:=q++Lk (bO r.aFA[k].Name)) (n:=r.aFA[k].N.toNat) (by rw [qE];omega) qb
   rw [Int.toNat_of_nonneg hx.2.1] at e
   rw [if_pos (aY hk),aK hk,qA,pL qb qb,qA,e,qA,bE qb,qS]
   rfl
  ·simp only [cQ];rw [if_neg qk]
 ·rw [if_pos (by simp [h]),if_neg h]
def be6 (v:Nat):List Int:=[((v/2^40%256:Nat):Int),((v/2^32%256:Nat):Int),((v/2^24%256:Nat):Int),((v/2^16%256:Nat):Int),((v/2^8%256:Nat):Int),((v%256:Nat):Int)]
def enK (k:M.Key):List Int:=if Cj k=true then k.aFU::((if k.aFU==2 then [] else be6 (k.N+1000000000000).toNat)++bO k.aFb) else []
theorem On {k:M.Key} (h:Cj k=true):1<=k.aFU/\k.aFU<=3 /\ -1000000000000<=k.N/\k.N<=1000000000000:=by unfold Cj inR at h;simp only [qM,qL] at h;omega
theorem ME (k:M.Key):(enK k).length<=19:=by unfold enK;split;(rename_i h;have:=E3 h;have:=aP k.aFb;split<;>simp [be6]<;>omega);·simp
theorem aEZ {k:M.Key} (v:Nat) (hv:v<=5) (h : -1000000000000<=k.N/\k.N<=1000000000000):Int.fdiv (i64.wrap (k.N+1000000000000)) (2^(min (i64.wrap (8*(v:Int))).toNat IntKind.i64.bits))=(((k.N+1000000000000).toNat/2^(8*v):Nat):Int):=by
 have e:min (i64.wrap (8*(v:Int))).toNat IntKind.i64.bits=8*v:=by rw [bL qb qb,show IntKind.i64.bits=64 from rfl];omega
 rw [e,bL qb qb]
 obtain ⟨n,hn⟩:=Int.eq_ofNat_of_zero_le (show 0<=k.N+1000000000000 by omega)
 rw [hn,qH,Int.fdiv_eq_ediv_of_nonneg _ (by exact Int.le_of_lt (Int.pow_pos qe)),Int.natCast_ediv,Int.natCast_pow]
 rfl
theorem byS {k:M.Key} (v:Nat) (hv:v<=5) (h : -1000000000000<=k.N/\k.N<=1000000000000):(IntKind.u8.wrap (i64.wrap (BitVec.ofInt (IntKind.i64.bits) (Int.fdiv (i64.wrap (k.N+1000000000000)) (2^(min (i64.wrap (8*(v:Int))).toNat IntKind.i64.bits)))&&&BitVec.ofInt (IntKind.i64.bits) 255).toNat))=(((k.N+1000000000000).toNat/2^(8*v)%256:Nat):Int):=by have h1:(k.N+1000000000000).toNat/2^(8*v)<=(k.N+1000000000000).toNat:=Nat.div_le_self _ _;have e:=JK (n:=(k.N+1000000000000).toNat/2^(8*v)) (m:=255) qb qb;rw [Wb] at e;rw [aEZ v hv h,show ((255:Int))=((255:Nat):Int) from rfl,e,wrap_u8];omega
theorem JA {k:M.Key} (hk:k.ok):kD k=some (enK k):=by
 unfold kD enK
 rw [lR hk,qA]
 by_cases h:Cj k=true
 ·have ht:=E3 h
  have hb:=On h
  have hl:=aP k.aFb
  have hw:IntKind.u8.wrap k.aFU=k.aFU:=by rw [wrap_u8];omega
  rw [if_neg (by simp [h]),if_pos h,Vn,hw]
  by_cases h2:(k.aFU==2)=true
  ·have h3 : ¬(k.aFU != 2)=true:=by simp [bne,h2]
   rw [if_pos h2]
   have e0 : ∀n r,r.length<=7->bF k (n+1) 5 r=some (r++bO k.aFb):=by intro n r hr;simp only [bF];rw [if_pos qe,if_neg h3,dH qb,qA]
   exact e0 (18446744073709551609+6) _ qd
  ·have h3:(k.aFU != 2)=true:=by simp [bne,h2]
   rw [if_neg h2]
   have st : ∀n (v:Nat) r,r.length<=7->v<=5->bF k (n+1) (v:Int) r=bF k n ((v:Int)-1) (r++[(((k.N+1000000000000).toNat/2^(8*v)%256:Nat):Int)]):=by intro n v r hr hv;simp only [bF];rw [if_pos qd,if_pos h3,if_pos (by rw [bL qb qb];simp;omega),dH qc,qA,bL (n:=(v:Int)-1) qb qb,byS v hv hb.2.2]
   have e7 : ∀n r,r.length<=7->bF k (n+1) (-1) r=some (r++bO k.aFb):=by intro n r hr;simp only [bF];rw [if_neg qe,dH qb,qA]
   refine (st (18446744073709551609+6) 5 _ qd qd).trans ((st (18446744073709551609+5) 4 _ qd qd).trans ((st (18446744073709551609+4) 3 _ qd qd).trans ((st (18446744073709551609+3) 2 _ qd qd).trans ((st (18446744073709551609+2) 1 _ qd qd).trans ((st (18446744073709551609+1) 0 _ qd qd).trans ((e7 _ _ qd).trans ?_))))))
   simp [be6]
 ·rw [if_pos (by simp [h]),if_neg h]
theorem TW : ∀ {a b:List Int},eqL A0 a b=true↔a=b
 | [],[]=>by simp [eqL]
 | [],_::_=>by simp [eqL]
 | _::_,[]=>by simp [eqL]
 | x::xs,y::ys=>by have:=TW (a:=xs) (b:=ys);simp only [eqL,qM,this,List.cons.injEq,A0,beq_iff_eq]
theorem DX {b:List Int} (h : ∀x∈b,0<=x/\x<=255) : ∀x∈Lk b,0<=x/\x<=255:=λx hx=>by unfold Lk at hx;rcases List.mem_append.1 hx with hx | hx;(exact Ge _ x hx);·exact h x hx
theorem M3 {α:Type} {f:α->List Int} : ∀ {l:List α},(∀x∈l,∀y∈f x,0<=y/\y<=255) -> ∀y∈Nc f l,0<=y/\y<=255
 | [],_,_,hy=>by simp [Nc] at hy
 | x::l,h,y,hy=>by rcases List.mem_append.1 (show y∈f x++Nc f l from hy) with hy | hy;(exact h x qd y hy);·exact M3 (l:=l) (λz hz=>h z (by simp [hz])) y hy
theorem UY (x:M.Field) : ∀y∈enF x,0<=y/\y<=255:=λy hy=>by unfold enF at hy;rcases List.mem_append.1 hy with hy | hy;(exact DX (Co _) y hy);·exact Ge _ y hy
theorem YJ (r:M.aD):okB (enR r):=⟨Nat.le_trans (My r) qj,λy hy=>by unfold enR at hy;split at hy;(rcases List.mem_append.1 hy with hy | hy;(exact Ge _ y hy);·exact M3 (λx _=>UY x) y hy);·simp at hy⟩
theorem YC (k:M.Key):okB (enK k):=⟨Nat.le_trans (ME k) qj,λy hy=>by unfold enK at hy;split at hy;(rename_i h;have hk:=On h;rcases List.mem_cons.1 hy with rfl | hy;(omega);·rcases List.mem_append.1 hy with hy | hy;(split at hy;(simp at hy);·simp only [be6,List.mem_cons,qO,or_false] at hy;omega);·exact Co _ y hy);·simp at hy⟩
def Th:M.Key:=(⟨0,0,(⟨#[]⟩:ByteArray)⟩:M.Key)
def mkK (c n:Int) (t:List Int):M.Key×Bool:=if Cj (⟨c,n,dD t⟩:M.Key)=true then ((⟨c,n,dD t⟩:M.Key),true) else (Th,false)
def Yd (v x:Int):Int:=v*256+x
def Ss:List Int->M.Key×Bool
 | []=>(Th,false)
 | c::t=>if c=2 then mkK c 0 t else if t.length<6 then (Th,false) else mkK c ((t.take 6).foldl Yd 0-1000000000000) (t.drop 6)
theorem ZL {t:List Int} (ht : ∀x∈t,0<=x/\x<=255) : ∀(v:Nat) (n:Nat),(v:Int)<2^n -> ∃w:Nat,t.foldl Yd (v:Int)=(w:Int)/\(w:Int)<2^(n+8*t.length):=by
 induction t with
 | nil=>exact λv n h=>⟨v,rfl,by simpa using h⟩
 | cons x t ih =>
  intro v n h
  have hx:=ht x qd
  obtain ⟨w,e,hw⟩:=ih (λy hy=>ht y (by simp [hy])) (v*256+x.toNat) (n+8) (by rw [Int.pow_add];omega)
  refine ⟨w,?_,by rw [qJ,show n+8*(t.length+1)=n+8+8*t.length from by omega];exact hw⟩
  rw [List.foldl_cons,<-e]
  congr 1
  unfold Yd
  omega
theorem PV {c n:Int} {t:List Int} (hc:0<=c/\c<=255) (hn : -1000000000000<=n/\n<=1000000000000000) (ht:t.length<=maxLen):M.Key.ok (⟨c,n,dD t⟩:M.Key):=⟨by show inI c;unfold inI;omega,by show inI n;unfold inI;omega,by show (dD t).size<=_;rw [Cp];exact ht⟩
theorem aEC {v:Nat} (h:v<2^48):i64.wrap ((v:Int)*2^(min (8:Int).toNat IntKind.i64.bits))=((v*256:Nat):Int):=by rw [show min (8:Int).toNat IntKind.i64.bits=8 from rfl,show ((v:Int)*2^8)=((v*256:Nat):Int) from by omega];exact bL qb qb
theorem stS {v x:Nat} (h:v<2^48) (hx:x<=255):(i64.wrap (BitVec.ofInt (IntKind.i64.bits) (i64.wrap ((v:Int)*2^(min (8:Int).toNat IntKind.i64.bits)))|||BitVec.ofInt (IntKind.i64.bits) (i64.wrap (x:Int))).toNat)=((v*256+x:Nat):Int):=by have e:=Wo (n:=x) (x:=v) (k:=8) qb;rw [aEC h,bL (n:=(x:Int)) qb qb,OS qb qb,Nat.or_comm,show (256:Nat)=2^8 from rfl,e];omega
theorem dkS {b:List Int} {c:Int} (hb:okB b) (hl:b.length<=1048576) (hc:0<=c/\c<=255) (h7:7<=b.length) : ∀(j k v m:Nat),k+j=7->v<2^(8*(k-1))->1<=k->j<m->kN b c m (v:Int) (k:Int)=some (mkK c (((b.drop k).take j).foldl Yd (v:Int)-1000000000000) (b.drop 7))
 | _,_,_,0,_,_,_,h=>by omega
 | 0,k,v,m+1,hk,hv,h1,_=>by
  obtain rfl:k=7:=by omega
  simp only [kN]
  have hd:okB (b.drop 7):=⟨Nat.le_trans (by rw [qU];omega) hb.1,λx hx=>hb.2 x (List.mem_of_mem_drop hx)⟩
  have hv2:(v:Int)<281474976710656:=by have:v<2^48:=hv;omega
  have ok:=PV (n:=(v:Int)-1000000000000) hc qb hd.1
  rw [if_neg qe,show B5 b 7=some (b.drop (7:Int).toNat) from by unfold B5;rw [if_pos ⟨qe,by simpa using h7⟩],qA,show (7:Int).toNat=7 from rfl,Eb hd.2,qA,bL (n:=c) qb qb,bL (n:=(v:Int)-1000000000000) qb qb,lR ok,qA,List.take_zero,List.foldl_nil]
  unfold mkK
  cases Cj (⟨c,(v:Int)-1000000000000,dD (b.drop 7)⟩:M.Key)<;>rfl
 | j+1,k,v,m+1,hk,hv,h1,hm=>by
  have hlt:k<b.length:=by omega
  obtain ⟨x,ex,hx⟩:=Xk hb hlt
  have hv2:v<2^40:=Nat.lt_of_lt_of_le hv (Nat.pow_le_pow_right qe qb)
  have e8:2^(8*(k+1-1))=2^(8*(k-1))*256:=by rw [show 8*(k+1-1)=8*(k-1)+8 from by omega,Nat.pow_add]
  simp only [kN]
  rw [if_pos qc,aK hlt,qA,ex,stS qb hx,bE qb,dkS hb hl hc h7 j (k+1) (v*256+x) m qb (by rw [e8];omega) qb qb,qV hlt,ex,List.take_succ_cons,List.foldl_cons]
  congr 4
theorem Jt {b:List Int} (hb:okB b) (hl:b.length<=1048576):tQ b=some (Ss b):=by
 unfold tQ
 cases b with
 | nil=>rfl
 | cons c t =>
  have hc:=hb.2 c qd
  have ht : ∀x∈t,0<=x/\x<=255:=λx hx=>hb.2 x (by simp [hx])
  have hlt:t.length<=maxLen:=by have:=hb.1;rw [qJ] at this;omega
  have hl':t.length+1<=1048576:=hl
  rw [if_neg qc,show idx (c::t) 0=some c from rfl,qA,bL (n:=c) qb qb]
  unfold Ss
  show _=some (if c=2 then mkK c 0 t else if t.length<6 then (Th,false) else mkK c ((t.take 6).foldl Yd 0-1000000000000) (t.drop 6))
  by_cases h2:c=2
  ·subst h2;rw [if_neg qe,if_pos rfl,show B5 (2::t) 1=some t from by unfold B5;rw [if_pos ⟨qe,qd⟩];rfl,qA,show List.drop (1:Int).toNat ((2:Int)::t)=t from rfl,Eb ht,qA,lR (PV qb qb hlt),qA];unfold mkK;cases Cj (⟨2,0,dD t⟩:M.Key)<;>rfl
  ·rw [if_pos (by simpa using h2),if_neg h2];by_cases h6:t.length<6;(rw [if_pos qc,if_pos h6];rfl);·rw [if_neg qc,if_neg h6];exact dkS hb hl hc qc 6 1 0 fuel rfl qe qb qi
def Wr (b:List Int):Nat->Int->List M.Field->Option (List M.Field×Int)
 | 0,p,acc=>some (acc,p)
 | j+1,p,acc=>if (nRb b p 8).2.2=true then (if (nUv b (nRb b p 8).2.1).2.2=true then Wr b j (nUv b (nRb b p 8).2.1).2.1 (acc++[(⟨dD (nRb b p 8).1,(nUv b (nRb b p 8).2.1).1⟩:M.Field)]) else none) else none
def Rt (b:List Int):M.aD×Bool:=if (nUv b 0).2.2=true then (if (nUv b 0).1>6 then ((⟨([]:List M.Field)⟩:M.aD),false) else match Wr b (nUv b 0).1.toNat (nUv b 0).2.1 [] with
 | none=>((⟨([]:List M.Field)⟩:M.aD),false)
 | some (fs,q)=>if (bW (⟨fs⟩:M.aD)&&(q==(b.length:Int)))=true then ((⟨fs⟩:M.aD),true) else ((⟨([]:List M.Field)⟩:M.aD),false)) else ((⟨([]:List M.Field)⟩:M.aD),false)
theorem IS {e:Nat} {n:Nat} (h:e<=n) (hl:n<=1048576):inI (e:Int):=by unfold inI;omega
theorem H3 {b:List Int} {p c:Int} (hb:okB b) (h:(nRb b p c).2.2=true) : ∃(s:List Int) (a e:Nat),nRb b p c=(s,(e:Int),true)/\p=(a:Int)/\(s.length:Int)<=c/\e<=b.length/\s.length<=1000000000000/\a+(uv s.length).length+s.length=e/\b.drop a=uv s.length++(s++b.drop e)/\okB s:=by obtain ⟨a,e,h1,h2,h3⟩:=W9 hb (show nRb b p c=((nRb b p c).1,(nRb b p c).2.1,true) from by rw [<-h]);exact ⟨_,a,e,by rw [<-h2,<-h],h1,h3⟩
theorem Db {b:List Int} {p:Int} (hb:okB b) (h:(nUv b p).2.2=true) : ∃a m e:Nat,nUv b p=((m:Int),(e:Int),true)/\p=(a:Int)/\m<=1000000000000/\e<=b.length/\a+(uv m).length=e/\b.drop a=uv m++b.drop e:=by obtain ⟨a,m,e,h1,h2,h3,h4⟩:=O5 hb (show nUv b p=((nUv b p).1,(nUv b p).2.1,true) from by rw [<-h]);exact ⟨a,m,e,by rw [<-h2,<-h3,<-h],h1,h4⟩
theorem QJ {s:List Int} {m:Nat} (hs:okB s) (hm:m<=1000000000000):M.Field.ok (⟨dD s,(m:Int)⟩:M.Field):=⟨by show (dD s).size<=_;rw [Cp];exact hs.1,by show inI (m:Int);unfold inI;omega⟩
theorem QE {b:List Int} (hb:okB b) : ∀(j a:Nat) (acc fs:List M.Field) (q:Int),Wr b j (a:Int) acc=some (fs,q)->a<=b.length -> ∃(l:List M.Field) (e:Nat),fs=acc++l/\l.length=j/\q=(e:Int)/\e<=b.length/\b.drop a=Nc enF l++b.drop e /\ ∀x∈l,M.Field.ok x
 | 0,a,acc,fs,q,h,ha=>by simp only [Wr,qa,qZ] at h;exact ⟨[],a,by rw [<-h.1,qW],rfl,h.2.symm,ha,rfl,λ_ h=>absurd h qd⟩
 | j+1,a,acc,fs,q,h,ha=>by
  simp only [Wr] at h
  split at h
  ·rename_i h1
   obtain ⟨s,a1,e1,r1,r2,r3,r4,r5,r6,r7,r8⟩:=H3 hb h1
   obtain rfl:a=a1:=by omega
   rw [r1] at h
   dsimp only at h
   split at h
   ·rename_i h2
    obtain ⟨a2,m,e2,u1,u2,u3,u4,u5,u6⟩:=Db hb h2
    obtain rfl:e1=a2:=by omega
    rw [u1] at h
    dsimp only at h
    obtain ⟨l,e,g1,g2,g3,g4,g5,g6⟩:=QE hb j e2 _ fs q h u4
    refine ⟨(⟨dD s,(m:Int)⟩:M.Field)::l,e,by rw [g1,qS];rfl,by rw [qJ,g2],g3,g4,?_,λx hx => ?_⟩
    ·rw [r7,u6,g5,Nc,enF,Lk,H9 r8.2,qH];simp only [qS]
    ·rcases List.mem_cons.1 hx with rfl | hx;(exact QJ r8 u3);·exact g6 x hx
   ·cases h
  ·cases h
def aE2 (o:Option (List M.Field×Int)):M.aD×Int×Bool:=match o with
 | none=>((⟨([]:List M.Field)⟩:M.aD),0,false)
 | some (fs,q)=>((⟨fs⟩:M.aD),q,bW (⟨fs⟩:M.aD))
theorem SJ {acc:List M.Field} {n:Nat} (hl:acc.length<=n) (hn:n<=6) (h : ∀x∈acc,M.Field.ok x):M.aD.ok (⟨acc⟩:M.aD):=⟨⟨Nat.le_trans hl qj,h⟩⟩
theorem Va {acc:List M.Field} {x:M.Field} (h : ∀x∈acc,M.Field.ok x) (hx:M.Field.ok x) : ∀y∈acc++[x],M.Field.ok y:=λy hy=>by rcases List.mem_append.1 hy with hy | hy;(exact h y hy);·rw [List.mem_singleton.1 hy];exact hx
theorem aAn {b:List Int} {x1:Int×Int×Bool} {N:Nat} (hb:okB b) (hl:b.length<=1048576) (hN:N<=6) (hx:x1.1=(N:Int)) : ∀(j k m:Nat) (p:Int) (acc:List M.Field),k+j=N->j<m->inI p->acc.length=k->(∀x∈acc,M.Field.ok x)->pV b x1 m p (k:Int) acc=some (aE2 (Wr b j p acc))
 | _,_,0,_,_,_,h,_,_,_=>by omega
 | 0,k,m+1,p,acc,hk,_,hp,ha,ho=>by simp only [pV];rw [hx,if_neg qc,oY (SJ (n:=6) qb qb ho),qA];rfl
 | j+1,k,m+1,p,acc,hk,hm,hp,ha,ho=>by
  simp only [pV,Wr]
  rw [hx,if_pos qc,tO hb hl hp,qA]
  cases h1:(nRb b p 8).2.2 with
  | false=>rfl
  | true =>
   obtain ⟨s,a1,e1,r1,r2,r3,r4,r5,r6,r7,r8⟩:=H3 hb h1
   rw [r1]
   simp only [qB,qD,if_false,if_true]
   rw [pM hb hl (IS r4 hl),qA]
   cases h2:(nUv b (e1:Int)).2.2 with
   | false=>rfl
   | true =>
    obtain ⟨a2,v,e2,u1,u2,u3,u4,u5,u6⟩:=Db hb h2
    rw [u1]
    simp only [qB,qD,if_false,if_true]
    rw [Eb r8.2,qA,dH qc,qA,bE qb]
    exact aAn hb hl hN hx j (k+1) m (e2:Int) _ qb qb (IS u4 hl) (by simp [ha]) (Va ho (QJ r8 u3))
theorem Gw {b:List Int} (hb:okB b) (hl:b.length<=1048576):oD b=some (Rt b):=by
 unfold oD Cm Rt
 rw [pM hb hl vZ,qA]
 cases h:(nUv b 0).2.2 with
 | false=>rfl
 | true =>
  obtain ⟨a,m,e,u1,u2,u3,u4,u5,u6⟩:=Db hb h
  rw [u1]
  simp only [qB,qD,if_false,if_true]
  by_cases h6:(m:Int)>6
  ·rw [if_pos (by simpa using h6),if_pos h6];rfl
  ·have hr:=aAn (x1:=((m:Int),(e:Int),true)) hb hl (N:=m) qb rfl m 0 fuel (e:Int) [] qb qi (IS u4 hl) rfl (λ_ h=>absurd h qd)
   rw [show ((0:Nat):Int)=0 from rfl] at hr
   rw [if_neg (by simpa using h6),if_neg h6,qH,hr,qA]
   cases Wr b m (e:Int) [] with
   | none=>rfl
   | some o =>
    obtain ⟨fs,q⟩:=o
    show (if (!bW (⟨fs⟩:M.aD))=true then some ((⟨([]:List M.Field)⟩:M.aD),false) else if (!(q==(b.length:Int)))=true then some ((⟨([]:List M.Field)⟩:M.aD),false) else some ((⟨fs⟩:M.aD),true))=some (if (bW (⟨fs⟩:M.aD)&&(q==(b.length:Int)))=true then ((⟨fs⟩:M.aD),true) else ((⟨([]:List M.Field)⟩:M.aD),false))
    rcases Bool.eq_false_or_eq_true (bW (⟨fs⟩:M.aD)) with hn | hn
    ·rw [if_neg (show ¬(!bW (⟨fs⟩:M.aD))=true from by simp [hn])];by_cases hq:q=(b.length:Int);(rw [if_neg (show ¬(!(q==(b.length:Int)))=true from by simp [hq]),if_pos (by simp [hn,hq])]);·rw [if_pos (show (!(q==(b.length:Int)))=true from by simp [hq]),if_neg (by simp [hq])]
    ·rw [if_pos (show (!bW (⟨fs⟩:M.aD))=true from by simp [hn]),if_neg (by simp [hn])]
theorem U7 {b:List Int} (hb:okB b):(Rt b).1.ok/\M.aD.sz (Rt b).1<=60:=by have h0:M.aD.ok (⟨([]:List M.Field)⟩:M.aD)/\M.aD.sz (⟨([]:List M.Field)⟩:M.aD)<=60:=⟨SJ (n:=0) qd qb (λ_ h=>absurd h qd),by simp [M.aD.sz,dG]⟩;unfold Rt;split;(rename_i h;obtain ⟨a,m,e,u1,u2,u3,u4,u5,u6⟩:=Db hb h;rw [u1];dsimp only;split;(exact h0);·split;(exact h0);·rename_i fs q hr;split;(rename_i hh;rw [qM] at hh;obtain ⟨l,e3,g1,g2,g3,g4,g5,g6⟩:=QE hb _ e [] fs q hr u4;rw [List.nil_append] at g1;subst g1;obtain ⟨n6,nf⟩:=xK hh.1;refine ⟨SJ n6 qb g6,?_⟩;have:=dP (w:=M.Field.sz) (b:=8) (xs:=fs) (λx hx=>by have:=(nf x hx).1;simp only [M.Field.sz];omega);simp only [M.aD.sz];omega);·exact h0);·exact h0
def K6 (o:M.Op):Prop:=inI o.aFU/\o.aC.size<=maxLen/\o.Key.ok/\o.aD.ok/\o.Field.size<=maxLen
def nOp (o:M.Op):Bool:=inR o.aFU 1 6&&(mH o.aC&&(((o.aFU==5)||Cj o.Key)&&(bW o.aD&&(if (o.aFU==6)=true then mH o.Field else (o.Field.toList==(⟨#[]⟩:ByteArray).toList)))))
theorem JY {o:M.Op} (h:K6 o):BE o=some (nOp o):=by unfold BE nOp;simp only [cD,cZ h.2.1,lR h.2.2.1,oY h.2.2.2.1,cZ h.2.2.2.2,qA];have hb:(o.aFU != 6) = !(o.aFU==6):=rfl;generalize (o.aFU != 6)=a9 at hb ⊢;generalize inR o.aFU 1 6=a1;generalize mH o.aC=a2;generalize (o.aFU==5)=a3;generalize Cj o.Key=a4;generalize bW o.aD=a5;generalize (o.aFU==6)=a6 at hb ⊢;generalize mH o.Field=a7;generalize (o.Field.toList==(⟨#[]⟩:ByteArray).toList)=a8;subst hb;cases a1<;>cases a2<;>cases a3<;>cases a4<;>cases a5<;>cases a6<;>cases a7<;>cases a8<;>rfl
def enO (o:M.Op):List Int:=uv o.aFU.toNat++(Lk (bO o.aC)++(Lk (enK o.Key)++(Lk (enR o.aD)++Lk (bO o.Field))))
def EV (l:List M.Op):List Int:=if (l.all nOp&&decide (l.length<=6))=true then uv l.length++Nc enO l else []
theorem bsize {a b:ByteArray} (h:a.toList=b.toList):a.size=b.size:=by rw [ByteArray.toList_eq,ByteArray.toList_eq] at h;have:=congrArg List.length h;rw [Array.length_toList,Array.length_toList] at this;exact this
theorem QU {s:ByteArray} (h:(s.toList==(⟨#[]⟩:ByteArray).toList)=true):s.size=0:=bsize (eq_of_beq h)
theorem DA {o:M.Op} (h:nOp o=true):1<=o.aFU/\o.aFU<=6/\o.aC.size<=8/\o.Field.size<=8/\bW o.aD=true:=by
 unfold nOp inR at h
 simp only [qM,qL] at h
 obtain ⟨h1,h2,_,h4,h5⟩:=h
 have n8 : ∀s:ByteArray,mH s=true->s.size<=8:=λs hs=>by unfold mH inR at hs;simp only [qM,qL] at hs;omega
 refine ⟨h1.1,h1.2,n8 _ h2,?_,h4⟩
 split at h5
 ·exact n8 _ h5
 ·rw [QU h5];omega
theorem Gk {b:List Int} {n:Nat} (h:b.length<=n) (hn:n<=127):(Lk b).length<=n+1:=by have:=DS 0 b.length qb;unfold Lk;rw [qE];omega
theorem Ps {o:M.Op} (h:nOp o=true):(enO o).length<=130:=by obtain ⟨h1,h2,h3,h4,_⟩:=DA h;have e1:=DS 0 o.aFU.toNat qb;have e2:=Gk (b:=bO o.aC) (n:=8) (by rw [aP];exact h3) qb;have e3:=Gk (ME o.Key) qb;have e4:=Gk (My o.aD) qb;have e5:=Gk (b:=bO o.Field) (n:=8) (by rw [aP];exact h4) qb;unfold enO;simp only [qE];omega
theorem V3 {o:M.Op} (ho:K6 o) (h:nOp o=true) {q:List Int} (hq:q.length<=900000) {α:Type} (K:List Int->Option α):((bP q o.aFU).bind λaa=>((bN aa (bO o.aC)).bind λae=>((kD o.Key).bind λaf=>((bN ae af).bind λah=>((fZ o.aD).bind λai=>((bN ah ai).bind λaj=>((bN aj (bO o.Field)).bind λak=>K ak)))))))=K (q++enO o):=by obtain ⟨h1,h2,h3,h4,_⟩:=DA h;have e0:=mS (r:=q) (n:=o.aFU.toNat) qb qb;rw [Int.toNat_of_nonneg qb] at e0;have l1:=DS 0 o.aFU.toNat qb;have l2:=Gk (b:=bO o.aC) (n:=8) (by rw [aP];exact h3) qb;have l3:=Gk (ME o.Key) qb;have l4:=Gk (My o.aD) qb;have k2:=aP o.aC;have k5:=aP o.Field;have k3:=ME o.Key;have k4:=My o.aD;rw [e0,qA,pL qp qb,qA,JA ho.2.2.1,qA,pL qp qb,qA,Gr ho.2.2.2.1,qA,pL qp qb,qA,pL qp qb,qA];unfold enO;simp only [qS]
theorem eoS {l:List M.Op} (hl:l.length<=1000) (ho : ∀o∈l,K6 o) : ∀(n k:Nat) (q:List Int),l.length-k<n->k<=l.length->q.length<=20+130*k->nT l n (k:Int) q=some (if (l.drop k).all nOp=true then (if l.length>6 then [] else q++Nc enO (l.drop k)) else [])
 | 0,_,_,h,_,_=>by omega
 | n+1,k,q,hn,hk,hq=>by
  simp only [nT]
  rcases Nat.lt_or_ge k l.length with hlt | hge
  ·rw [if_pos (aY hlt),aK hlt,qA,JY (ho _ (qG hlt)),qA,qV hlt,List.all_cons]
   cases h:nOp l[k] with
   | false =>
    simp only [qC,if_true,Bool.false_and,qD,if_false]
   | true =>
    simp only [qB,qD,if_false,Bool.true_and]
    have hx:=Ps h
    rw [V3 (ho _ (qG hlt)) h qb,bE qb,eoS hl ho n (k+1) _ qb qb (by rw [qE];omega),Nc,qS]
  ·have e:k=l.length:=by omega
   subst e
   rw [if_neg qk,qY]
   simp only [List.all_nil,if_true,Nc,qW]
   by_cases h6:l.length>6
   ·rw [if_pos qc,if_pos h6]
   ·rw [if_neg qc,if_neg h6]
theorem Ew {l:List M.Op} (hl:l.length<=1000) (ho : ∀o∈l,K6 o):tR l=some (EV l):=by
 have h9:=HX (n:=l.length) qb
 unfold tR EV
 rw [mS qd qb,qA,List.nil_append]
 have e:=eoS hl ho fuel 0 (uv l.length) qi qb qb
 rw [List.drop_zero] at e
 refine Eq.trans e ?_
 congr 1
 cases l.all nOp with
 | false=>rfl
 | true =>
  by_cases h6:l.length>6
  ·rw [if_pos rfl,if_pos h6,if_neg qc]
  ·rw [if_pos rfl,if_neg h6,if_pos qc]
theorem Qx (l:List M.Op):okB (EV l):=by unfold EV;split;(rename_i h;rw [qM,qL,qQ] at h;have h1:=MX (f:=enO) (λo hx=>Ps (h.1 o hx));have h9:=HX (n:=l.length) qb;refine ⟨?_,λy hy => ?_⟩;(rw [qE];exact Nat.le_trans (m:=2000) qb qj);·rcases List.mem_append.1 hy with hy | hy;(exact Ge _ y hy);·refine M3 (λo _ z hz => ?_) y hy;unfold enO at hz;simp only [qP] at hz;rcases hz with hz | hz | hz | hz | hz;(exact Ge _ z hz);(exact DX (Co _) z hz);(exact DX (YC _).2 z hz);(exact DX (YJ _).2 z hz);·exact DX (Co _) z hz);·exact ⟨qd,λ_ h=>absurd h qd⟩
def gS9 (b:List Int) (p c1:Int):=nRb b (nUv b p).2.1 c1
def gK9 (b:List Int) (p c1 c2:Int):=nRb b (gS9 b p c1).2.1 c2
def gR9 (b:List Int) (p c1 c2 c3:Int):=nRb b (gK9 b p c1 c2).2.1 c3
def gF9 (b:List Int) (p c1 c2 c3 c4:Int):=nRb b (gR9 b p c1 c2 c3).2.1 c4
def op9 (b:List Int) (p c1 c2 c3 c4:Int):Option (M.Op×Int):=if (nUv b p).2.2=true then (if (gS9 b p c1).2.2=true then (if (gK9 b p c1 c2).2.2=true then (if (gR9 b p c1 c2 c3).2.2=true then (if (gF9 b p c1 c2 c3 c4).2.2=true then some ((⟨(nUv b p).1,dD (gS9 b p c1).1,(Ss (gK9 b p c1 c2).1).1,(Rt (gR9 b p c1 c2 c3).1).1,dD (gF9 b p c1 c2 c3 c4).1⟩:M.Op),(gF9 b p c1 c2 c3 c4).2.1) else none) else none) else none) else none) else none
def MG (b:List Int) (c1 c2 c3 c4:Int):Nat->Int->List M.Op->Option (List M.Op)
 | 0,_,acc=>some acc
 | j+1,p,acc=>match op9 b p c1 c2 c3 c4 with
  | none=>none
  | some (o,q)=>MG b c1 c2 c3 c4 j q (acc++[o])
def Y8 (b:List Int) (o:Option (List M.Op)):List M.Op×Bool:=match o with
 | none=>(([]:List M.Op),false)
 | some l=>if eqL A0 (EV l) b=true then (l,true) else (([]:List M.Op),false)
def VF (b:List Int) (c1 c2 c3 c4:Int):List M.Op×Bool:=if (nUv b 0).2.2=true then (if (nUv b 0).1>6 then (([]:List M.Op),false) else Y8 b (MG b c1 c2 c3 c4 (nUv b 0).1.toNat (nUv b 0).2.1 [])) else (([]:List M.Op),false)
end Go.Proofs.YtipmihbgjolaaaaGreat.gen
