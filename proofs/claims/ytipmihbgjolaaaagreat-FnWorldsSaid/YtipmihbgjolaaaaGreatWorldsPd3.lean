/-
  Helper text. No conditions.
-/
import Derived.Test.YtipmihbgjolaaaaGreatWorldsPd2
set_option linter.unusedVariables false
set_option linter.unusedSimpArgs false
namespace Go.Proofs.YtipmihbgjolaaaaGreat.gen
open Go Go.Sh
open Go.IntKind (i64)
theorem MJ {b:List Int} (hb:okB b) (a:Nat) : ∀(j k n:Nat) (v q:Int),P1 b a j k n=(v,q,true) -> ∃m e:Nat,v=((n+m*2^(7*k):Nat):Int)/\q=(e:Int)/\n+m*2^(7*k)<=1000000000000/\e<=b.length/\a+k+(uv m).length=e/\b.drop (a+k)=uv m++b.drop e/\(k=0\/0<m)
 | 0,_,_,_,_,h=>by cases h
 | j+1,k,n,v,q,h=>by
  unfold P1 at h
  by_cases hlt:a+k<b.length
  ·obtain ⟨x,ex,hx⟩:=Tz hb hlt
   have hd:b.drop (a+k)=(x:Int)::b.drop (a+k+1):=by rw [qV hlt,ex]
   rw [qF hlt,ex] at h
   dsimp only at h
   rw [qH] at h
   by_cases h1:x<128
   ·rw [if_pos h1,Nat.mod_eq_of_lt h1] at h;split at h;(cases h);·rename_i h2;rw [Bool.or_eq_true,qM,qL,qL,qL] at h2;simp only [qZ] at h;refine ⟨x,a+k+1,h.1.symm,h.2.1.symm,qb,qb,by rw [Gj h1];rfl,by rw [Gj h1];exact hd,qb⟩
   ·rw [if_neg h1] at h
    obtain ⟨m,e,e1,e2,e3,e4,e5,e6,e7⟩:=MJ hb a j (k+1) _ v q h
    have hm:0<m:=by omega
    have ee:2^(7*(k+1))=128*2^(7*k):=by rw [show 7*(k+1)=7+7*k from by omega,Nat.pow_add]
    have e8:n+x%128*2^(7*k)+m*2^(7*(k+1))=n+(m*128+x%128)*2^(7*k):=by rw [ee,<-Nat.mul_assoc,Nat.add_assoc,<-Nat.add_mul,Nat.add_comm (x%128)]
    have hu:uv (m*128+x%128)=(x:Int)::uv m:=by rw [LP qb,show (m*128+x%128)/128=m from by omega,show (m*128+x%128)%128+128=x from by omega]
    rw [e8] at e1 e3
    refine ⟨m*128+x%128,e,e1,e2,e3,e4,by rw [hu,qJ];omega,by rw [hu,hd,List.cons_append];exact congrArg _ e6,.inr qb⟩
  ·rw [qX qb] at h;cases h
theorem LJ {b:List Int} {p v q:Int} (hb:okB b) (h:nUv b p=(v,q,true)) : ∃a m e:Nat,p=(a:Int)/\v=(m:Int)/\q=(e:Int)/\m<=1000000000000/\e<=b.length/\a+(uv m).length=e/\b.drop a=uv m++b.drop e:=by unfold nUv at h;split at h;(cases h);·obtain ⟨m,e,e1,e2,e3,e4,e5,e6,_⟩:=MJ hb p.toNat 6 0 0 v q h;simp only [Nat.mul_zero,Nat.pow_zero,Nat.mul_one,Nat.zero_add,Nat.add_zero] at e1 e3 e5 e6;exact ⟨p.toNat,m,e,qb,e1,e2,e3,e4,e5,e6⟩
def nRb (b:List Int) (p c:Int):List Int×Int×Bool:=if (nUv b p).2.2=true then (if (nUv b p).1>c then (([]:List Int),0,false) else if (nUv b p).1>(b.length:Int)-(nUv b p).2.1 then (([]:List Int),0,false) else ((b.drop (nUv b p).2.1.toNat).take (nUv b p).1.toNat,(nUv b p).2.1+(nUv b p).1,true)) else (([]:List Int),0,false)
theorem RJ {b:List Int} (h:okB b) (i j:Nat):okB ((b.drop i).take j):=⟨Nat.le_trans (by rw [qT,qU];omega) h.1,λx hx=>h.2 x (List.mem_of_mem_drop (List.mem_of_mem_take hx))⟩
theorem pN {b:List Int} {p c:Int} (hb:okB b) (hl:b.length<=1048576) (hp:inI p):dK b p c=some (nRb b p c):=by
 unfold dK nRb
 rw [nG hb hl hp,qA]
 cases h:(nUv b p).2.2 with
 | false=>rfl
 | true =>
  obtain ⟨a,m,e,e1,e2,e3,e4,e5,e6,e7⟩:=LJ hb (show nUv b p=((nUv b p).1,(nUv b p).2.1,true) from by rw [<-h])
  rw [e2,e3]
  simp only [qB,qD,if_false,if_true]
  by_cases h1:(m:Int)>c
  ·rw [if_pos (by simpa using h1),if_pos h1]
  ·rw [if_neg (by simpa using h1),if_neg h1,bI (n:=(b.length:Int)-(e:Int)) qb qb]
   by_cases h2:(m:Int)>(b.length:Int)-(e:Int)
   ·rw [if_pos (by simpa using h2),if_pos h2]
   ·rw [if_neg (by simpa using h2),if_neg h2,bI (n:=(e:Int)+(m:Int)) qb qb]
    have hs : ∀(α:Type) (xs:List α),xs.length=b.length->Pt xs (e:Int) ((e:Int)+(m:Int))=some ((xs.take ((e:Int)+(m:Int)).toNat).drop (e:Int).toNat):=λα xs hx=>by unfold Pt;rw [if_pos ⟨qb,qb,qb⟩]
    have hd:List.drop (e:Int).toNat (List.take ((e:Int)+(m:Int)).toNat b)=List.take m (List.drop e b):=by rw [qH,show ((e:Int)+(m:Int)).toNat=e+m from by omega,List.drop_take];congr 1;omega
    rw [hs _ b rfl,qA,hd,qH,qH]
    have hk:(List.take m (List.drop e b)).length<=1048576:=by rw [qT,qU];omega
    rw [IY qb qb,qA]
theorem UP {b:List Int} {p c:Int} (h:(nRb b p c).2.2=false):nRb b p c=(([]:List Int),0,false):=by unfold nRb at h ⊢;split;(rename_i h1;rw [if_pos h1] at h;split;(rfl);·rename_i h2;rw [if_neg h2] at h;split;(rfl);·rename_i h3;rw [if_neg h3] at h;cases h);·rfl
theorem Tn {b s:List Int} {p c q:Int} (hb:okB b) (h:nRb b p c=(s,q,true)) : ∃a e:Nat,p=(a:Int)/\q=(e:Int)/\(s.length:Int)<=c/\e<=b.length/\s.length<=1000000000000/\a+(uv s.length).length+s.length=e/\b.drop a=uv s.length++(s++b.drop e)/\okB s:=by
 unfold nRb at h
 split at h
 ·rename_i h0
  obtain ⟨a,m,e,e1,e2,e3,e4,e5,e6,e7⟩:=LJ hb (show nUv b p=((nUv b p).1,(nUv b p).2.1,true) from by rw [<-h0])
  rw [e2,e3] at h
  split at h
  ·cases h
  ·split at h
   ·cases h
   ·rename_i h1 h2
    simp only [qZ,qH] at h
    have hs:s.length=m:=by rw [<-h.1,qT,qU];omega
    refine ⟨a,e+m,e1,qb,qb,qb,qb,by rw [hs];omega,?_,by rw [<-h.1];exact RJ hb _ _⟩
    rw [hs,e7,<-h.1,<-List.drop_drop,List.take_append_drop]
 ·cases h
theorem As (s:ByteArray) : ∀x∈cY s,0<=x/\x<=255:=by intro x hx;unfold cY at hx;obtain ⟨b,_,rfl⟩:=List.mem_map.1 hx;have:=b.toNat_lt;omega
theorem E3 {l:List Int} (h : ∀x∈l,0<=x/\x<=255):cY (cZ l)=l:=by unfold cY cZ;simp only [List.map_map];refine (List.map_congr_left λx hx => ?_).trans (List.map_id l);have:=h x hx;simp only [Function.comp_apply,UInt8.toNat_ofNat',id_eq];omega
theorem At (l:List Int):(cZ l).size=l.length:=by unfold cZ;show (l.map _).toArray.size=_;simp
theorem P7 {L:Nat->Int->List Int->Option (List Int)} {b c:Int->Int}
  (h1 : ∀m (n:Nat) r,¬n<128->n<2^63->L (m+1) (n:Int) r=(app 1 r [b n]).bind λ_=>L m ((n/128:Nat):Int) (r++[b n]))
  (h2 : ∀m (n:Nat) r,n<128->L (m+1) (n:Int) r=(app 1 r [c n]).bind λ_=>some (r++[c n]))
  (hb : ∀n:Nat,n<2^63->b n=((n%128+128:Nat):Int)) (hc : ∀n:Nat,n<128->c n=(n:Int)) :
  ∀(j m n:Nat) (r:List Int),n<2^(7*(j+1))->n<2^63->j<m->r.length+(j+1)<=140737488355328->L m (n:Int) r=some (r++uv n)
 | j,0,n,r,_,_,hm,_=>by omega
 | 0,m+1,n,r,hn,hn2,hm,hr=>by
  have h:n<128:=by simpa using hn
  rw [h2 m n r h,fQ qc,qA,hc n h,Gj h]
 | j+1,m+1,n,r,hn,hn2,hm,hr=>by
  by_cases h:n<128
  ·rw [h2 m n r h,fQ qc,qA,hc n h,Gj h]
  ·have hd:n/128<2^(7*(j+1)):=by
    rw [Nat.div_lt_iff_lt_mul qb]
    have e:2^(7*(j+1+1))=2^(7*(j+1))*128:=by rw [show 7*(j+1+1)=7*(j+1)+7 by omega,Nat.pow_add]
    omega
   rw [h1 m n r h hn2,fQ qc,qA,P7 h1 h2 hb hc j m (n/128) (r++[b n]) hd qb qb qc,hb n hn2,LP h,qS]
   rfl
theorem u8n {n:Nat} (h:n<128):IntKind.u8.wrap (n:Int)=(n:Int):=by rw [wrap_u8];omega
theorem u8S {n:Nat} (h:n<2^63):IntKind.u8.wrap (i64.wrap (BitVec.ofInt (IntKind.i64.bits) (i64.wrap (BitVec.ofInt (IntKind.i64.bits) (n:Int)&&&BitVec.ofInt (IntKind.i64.bits) 127).toNat)|||BitVec.ofInt (IntKind.i64.bits) 128).toNat)=((n%128+128:Nat):Int):=by
 have h1:n%128<=127:=by omega
 have e:=Jh (n:=n) (m:=127) qb qb
 rw [SA] at e
 have e2:=Lu (n:=n%128) (m:=128) qb qb
 rw [V8 qb] at e2
 rw [show ((127:Int))=((127:Nat):Int) from rfl,e,show ((128:Int))=((128:Nat):Int) from rfl,e2,wrap_u8]
 omega
theorem kT {r:List Int} {n:Nat} (hr:r.length<=16777216) (hn:n<=1000000000000):bK r (n:Int)=some (r++uv n):=by
 have hi:inR (n:Int) 0 1000000000000=true:=by unfold inR;simp;omega
 unfold bK
 rw [fQ qc,qA,bX,qA,hi,if_neg qd]
 refine P7 (L:=cD) (b:=λv=>IntKind.u8.wrap (i64.wrap (BitVec.ofInt (IntKind.i64.bits) (i64.wrap (BitVec.ofInt (IntKind.i64.bits) v&&&BitVec.ofInt (IntKind.i64.bits) 127).toNat)|||BitVec.ofInt (IntKind.i64.bits) 128).toNat)) (c:=λv=>IntKind.u8.wrap v) (λm n r h1 h2 => ?_) (λm n r h1 => ?_) (λn h=>u8S h) (λn h=>u8n h) 8 fuel n r qb qb qi qb
 ·simp only [cD];rw [if_pos qc,uvf]
 ·simp only [cD];rw [if_neg qc]
def Ih (b:List Int):List Int:=uv b.length++b
theorem nF {r b:List Int} (hr:r.length<=8388608) (hb:b.length<=1000000):bJ r b=some (r++Ih b):=by have h9:=ET (n:=b.length) qb;unfold bJ Ih;rw [kT qb qb,qA,fQ (by rw [qE];omega),qA,qS]
def J2 {α:Type} (f:α->List Int):List α->List Int
 | []=>[]
 | x::l=>f x++J2 f l
theorem JN {α:Type} {f:α->List Int} {c:Nat} : ∀ {l:List α},(∀x∈l,(f x).length<=c)->(J2 f l).length<=l.length*c
 | [],_=>by simp [J2]
 | x::l,h=>by have h1:=h x qd;have h2:=JN (l:=l) (λy hy=>h y (by simp [hy]));simp only [J2,qE,qJ,Nat.succ_mul];omega
theorem Qo {α:Type} {R:Type} {xs:List α} {f:α->List Int} {c B:Nat} {L:Nat->Int->List Int->Option R} {E:List Int->Option R} (hc : ∀x∈xs,(f x).length<=c)
  (h1 : ∀n (k:Nat) (hk:k<xs.length) q,q.length<=B->L (n+1) (k:Int) q=L n ((k+1:Nat):Int) (q++f xs[k]))
  (h2 : ∀n q,q.length<=B->L (n+1) (xs.length:Int) q=E q) :
  ∀(n k:Nat) (q:List Int),xs.length-k<n->k<=xs.length->q.length+(xs.length-k)*c<=B->L n (k:Int) q=E (q++J2 f (xs.drop k))
 | 0,_,_,h,_,_=>by omega
 | n+1,k,q,h,hk,hq=>by
  rcases Nat.lt_or_ge k xs.length with hlt | hge
  ·have hx:=hc _ (qG hlt)
   have e:(xs.length-k)*c=(xs.length-(k+1))*c+c:=by rw [<-Nat.succ_mul];congr 1;omega
   rw [h1 n k hlt q qb,Qo hc h1 h2 n (k+1) (q++f xs[k]) qb qb (by rw [qE];omega),qV hlt,J2,qS]
  ·have e:k=xs.length:=by omega
   subst e
   rw [h2 n q qb,qY,J2,qW]
def enF (x:M.Field):List Int:=Ih (cY x.Name)++uv x.N.toNat
def enR (r:M.aC):List Int:=if bR r=true then uv r.aAF.length++J2 enF r.aAF else []
theorem OT {x:M.Field} (h:x.Name.size<=8/\0<=x.N/\x.N<=1000000000):(enF x).length<=14:=by have h1:=BC 0 x.Name.size qb;have h2:=BC 4 x.N.toNat qb;have h3:=aP x.Name;unfold enF Ih;simp only [qE,h3];omega
theorem Jo (r:M.aC):(enR r).length<=85:=by unfold enR;split;(rename_i h;obtain ⟨h6,hf⟩:=tU h;have h1:=BC 0 r.aAF.length qb;have h2:=JN (f:=enF) (λx hx=>OT (hf x hx));rw [qE];have:r.aAF.length*14<=6*14:=Nat.mul_le_mul_right _ h6;omega);·simp
theorem Dw {r:M.aC} (hr:r.ok):fF r=some (enR r):=by
 unfold fF enR
 rw [mU hr,qA]
 by_cases h:bR r=true
 ·obtain ⟨h6,hf⟩:=tU h
  have h1:=BC 0 r.aAF.length qb
  rw [if_neg (by simp [h]),if_pos h,kT qd qb,qA,List.nil_append]
  have:=Qo (xs:=r.aAF) (f:=enF) (c:=14) (B:=1000) (L:=cM r) (E:=some) (λx hx=>OT (hf x hx)) (λn k hk q hq => ?_) (λn q _ => ?_) fuel 0 (uv r.aAF.length) qi qb qb
  ·rw [List.drop_zero] at this;exact this
  ·have hx:=hf _ (qG hk)
   simp only [cM]
   have h9:=ET (n:=r.aAF[k].Name.size) qb
   have hs:=aP r.aAF[k].Name
   have hb:(Ih (cY r.aAF[k].Name)).length<=14:=by unfold Ih;rw [qE,hs];omega
   have e:=kT (r:=q++Ih (cY r.aAF[k].Name)) (n:=r.aAF[k].N.toNat) (by rw [qE];omega) qb
   rw [Int.toNat_of_nonneg hx.2.1] at e
   rw [if_pos (bB hk),aM hk,qA,nF qb qb,qA,e,qA,bM qb,qS]
   rfl
  ·simp only [cM];rw [if_neg qk]
 ·rw [if_pos (by simp [h]),if_neg h]
def be6 (v:Nat):List Int:=[((v/2^40%256:Nat):Int),((v/2^32%256:Nat):Int),((v/2^24%256:Nat):Int),((v/2^16%256:Nat):Int),((v/2^8%256:Nat):Int),((v%256:Nat):Int)]
def enK (k:M.Key):List Int:=if Ao k=true then k.aAV::((if k.aAV==2 then [] else be6 (k.N+1000000000000).toNat)++cY k.aAf) else []
theorem K5 {k:M.Key} (h:Ao k=true):1<=k.aAV/\k.aAV<=3 /\ -1000000000000<=k.N/\k.N<=1000000000000:=by unfold Ao inR at h;simp only [qM,qL] at h;omega
theorem Jt (k:M.Key):(enK k).length<=19:=by unfold enK;split;(rename_i h;have:=Cx h;have:=aP k.aAf;split<;>simp [be6]<;>omega);·simp
theorem ZF {k:M.Key} (v:Nat) (hv:v<=5) (h : -1000000000000<=k.N/\k.N<=1000000000000):Int.fdiv (i64.wrap (k.N+1000000000000)) (2^(min (i64.wrap (8*(v:Int))).toNat IntKind.i64.bits))=(((k.N+1000000000000).toNat/2^(8*v):Nat):Int):=by
 have e:min (i64.wrap (8*(v:Int))).toNat IntKind.i64.bits=8*v:=by rw [bI qb qb,show IntKind.i64.bits=64 from rfl];omega
 rw [e,bI qb qb]
 obtain ⟨n,hn⟩:=Int.eq_ofNat_of_zero_le (show 0<=k.N+1000000000000 by omega)
 rw [hn,qH,Int.fdiv_eq_ediv_of_nonneg _ (by exact Int.le_of_lt (Int.pow_pos qe)),Int.natCast_ediv,Int.natCast_pow]
 rfl
theorem byS {k:M.Key} (v:Nat) (hv:v<=5) (h : -1000000000000<=k.N/\k.N<=1000000000000):(IntKind.u8.wrap (i64.wrap (BitVec.ofInt (IntKind.i64.bits) (Int.fdiv (i64.wrap (k.N+1000000000000)) (2^(min (i64.wrap (8*(v:Int))).toNat IntKind.i64.bits)))&&&BitVec.ofInt (IntKind.i64.bits) 255).toNat))=(((k.N+1000000000000).toNat/2^(8*v)%256:Nat):Int):=by have h1:(k.N+1000000000000).toNat/2^(8*v)<=(k.N+1000000000000).toNat:=Nat.div_le_self _ _;have e:=Jh (n:=(k.N+1000000000000).toNat/2^(8*v)) (m:=255) qb qb;rw [Ur] at e;rw [ZF v hv h,show ((255:Int))=((255:Nat):Int) from rfl,e,wrap_u8];omega
theorem Gx {k:M.Key} (hk:k.ok):iP k=some (enK k):=by
 unfold iP enK
 rw [jT hk,qA]
 by_cases h:Ao k=true
 ·have ht:=Cx h
  have hb:=K5 h
  have hl:=aP k.aAf
  have hw:IntKind.u8.wrap k.aAV=k.aAV:=by rw [wrap_u8];omega
  rw [if_neg (by simp [h]),if_pos h,Tv,hw]
  by_cases h2:(k.aAV==2)=true
  ·have h3 : ¬(k.aAV != 2)=true:=by simp [bne,h2]
   rw [if_pos h2]
   have e0 : ∀n r,r.length<=7->bC k (n+1) 5 r=some (r++cY k.aAf):=by intro n r hr;simp only [bC];rw [if_pos qe,if_neg h3,fQ qb,qA]
   exact e0 (18446744073709551609+6) _ qd
  ·have h3:(k.aAV != 2)=true:=by simp [bne,h2]
   rw [if_neg h2]
   have st : ∀n (v:Nat) r,r.length<=7->v<=5->bC k (n+1) (v:Int) r=bC k n ((v:Int)-1) (r++[(((k.N+1000000000000).toNat/2^(8*v)%256:Nat):Int)]):=by intro n v r hr hv;simp only [bC];rw [if_pos qd,if_pos h3,if_pos (by rw [bI qb qb];simp;omega),fQ qc,qA,bI (n:=(v:Int)-1) qb qb,byS v hv hb.2.2]
   have e7 : ∀n r,r.length<=7->bC k (n+1) (-1) r=some (r++cY k.aAf):=by intro n r hr;simp only [bC];rw [if_neg qe,fQ qb,qA]
   refine (st (18446744073709551609+6) 5 _ qd qd).trans ((st (18446744073709551609+5) 4 _ qd qd).trans ((st (18446744073709551609+4) 3 _ qd qd).trans ((st (18446744073709551609+3) 2 _ qd qd).trans ((st (18446744073709551609+2) 1 _ qd qd).trans ((st (18446744073709551609+1) 0 _ qd qd).trans ((e7 _ _ qd).trans ?_))))))
   simp [be6]
 ·rw [if_pos (by simp [h]),if_neg h]
theorem P8 : ∀ {a b:List Int},eqL yA a b=true↔a=b
 | [],[]=>by simp [eqL]
 | [],_::_=>by simp [eqL]
 | _::_,[]=>by simp [eqL]
 | x::xs,y::ys=>by have:=P8 (a:=xs) (b:=ys);simp only [eqL,qM,this,List.cons.injEq,yA,beq_iff_eq]
theorem BG {b:List Int} (h : ∀x∈b,0<=x/\x<=255) : ∀x∈Ih b,0<=x/\x<=255:=λx hx=>by unfold Ih at hx;rcases List.mem_append.1 hx with hx | hx;(exact Dp _ x hx);·exact h x hx
theorem JS {α:Type} {f:α->List Int} : ∀ {l:List α},(∀x∈l,∀y∈f x,0<=y/\y<=255) -> ∀y∈J2 f l,0<=y/\y<=255
 | [],_,_,hy=>by simp [J2] at hy
 | x::l,h,y,hy=>by rcases List.mem_append.1 (show y∈f x++J2 f l from hy) with hy | hy;(exact h x qd y hy);·exact JS (l:=l) (λz hz=>h z (by simp [hz])) y hy
theorem Ra (x:M.Field) : ∀y∈enF x,0<=y/\y<=255:=λy hy=>by unfold enF at hy;rcases List.mem_append.1 hy with hy | hy;(exact BG (As _) y hy);·exact Dp _ y hy
theorem UQ (r:M.aC):okB (enR r):=⟨Nat.le_trans (Jo r) qj,λy hy=>by unfold enR at hy;split at hy;(rcases List.mem_append.1 hy with hy | hy;(exact Dp _ y hy);·exact JS (λx _=>Ra x) y hy);·simp at hy⟩
theorem UK (k:M.Key):okB (enK k):=⟨Nat.le_trans (Jt k) qj,λy hy=>by unfold enK at hy;split at hy;(rename_i h;have hk:=K5 h;rcases List.mem_cons.1 hy with rfl | hy;(omega);·rcases List.mem_append.1 hy with hy | hy;(split at hy;(simp at hy);·simp only [be6,List.mem_cons,qO,or_false] at hy;omega);·exact As _ y hy);·simp at hy⟩
def PA:M.Key:=(⟨0,0,(⟨#[]⟩:ByteArray)⟩:M.Key)
def mkK (c n:Int) (t:List Int):M.Key×Bool:=if Ao (⟨c,n,cZ t⟩:M.Key)=true then ((⟨c,n,cZ t⟩:M.Key),true) else (PA,false)
def Um (v x:Int):Int:=v*256+x
def OP:List Int->M.Key×Bool
 | []=>(PA,false)
 | c::t=>if c=2 then mkK c 0 t else if t.length<6 then (PA,false) else mkK c ((t.take 6).foldl Um 0-1000000000000) (t.drop 6)
theorem VM {t:List Int} (ht : ∀x∈t,0<=x/\x<=255) : ∀(v:Nat) (n:Nat),(v:Int)<2^n -> ∃w:Nat,t.foldl Um (v:Int)=(w:Int)/\(w:Int)<2^(n+8*t.length):=by
 induction t with
 | nil=>exact λv n h=>⟨v,rfl,by simpa using h⟩
 | cons x t ih =>
  intro v n h
  have hx:=ht x qd
  obtain ⟨w,e,hw⟩:=ih (λy hy=>ht y (by simp [hy])) (v*256+x.toNat) (n+8) (by rw [Int.pow_add];omega)
  refine ⟨w,?_,by rw [qJ,show n+8*(t.length+1)=n+8+8*t.length from by omega];exact hw⟩
  rw [List.foldl_cons,<-e]
  congr 1
  unfold Um
  omega
theorem Mx {c n:Int} {t:List Int} (hc:0<=c/\c<=255) (hn : -1000000000000<=n/\n<=1000000000000000) (ht:t.length<=maxLen):M.Key.ok (⟨c,n,cZ t⟩:M.Key):=⟨by show inI c;unfold inI;omega,by show inI n;unfold inI;omega,by show (cZ t).size<=_;rw [At];exact ht⟩
theorem Zl {v:Nat} (h:v<2^48):i64.wrap ((v:Int)*2^(min (8:Int).toNat IntKind.i64.bits))=((v*256:Nat):Int):=by rw [show min (8:Int).toNat IntKind.i64.bits=8 from rfl,show ((v:Int)*2^8)=((v*256:Nat):Int) from by omega];exact bI qb qb
theorem stS {v x:Nat} (h:v<2^48) (hx:x<=255):(i64.wrap (BitVec.ofInt (IntKind.i64.bits) (i64.wrap ((v:Int)*2^(min (8:Int).toNat IntKind.i64.bits)))|||BitVec.ofInt (IntKind.i64.bits) (i64.wrap (x:Int))).toNat)=((v*256+x:Nat):Int):=by have e:=SF (n:=x) (x:=v) (k:=8) qb;rw [Zl h,bI (n:=(x:Int)) qb qb,Lu qb qb,Nat.or_comm,show (256:Nat)=2^8 from rfl,e];omega
theorem dkS {b:List Int} {c:Int} (hb:okB b) (hl:b.length<=1048576) (hc:0<=c/\c<=255) (h7:7<=b.length) : ∀(j k v m:Nat),k+j=7->v<2^(8*(k-1))->1<=k->j<m->iX b c m (v:Int) (k:Int)=some (mkK c (((b.drop k).take j).foldl Um (v:Int)-1000000000000) (b.drop 7))
 | _,_,_,0,_,_,_,h=>by omega
 | 0,k,v,m+1,hk,hv,h1,_=>by
  obtain rfl:k=7:=by omega
  simp only [iX]
  have hd:okB (b.drop 7):=⟨Nat.le_trans (by rw [qU];omega) hb.1,λx hx=>hb.2 x (List.mem_of_mem_drop hx)⟩
  have hv2:(v:Int)<281474976710656:=by have:v<2^48:=hv;omega
  have ok:=Mx (n:=(v:Int)-1000000000000) hc qb hd.1
  rw [if_neg qe,show Ak b 7=some (b.drop (7:Int).toNat) from by unfold Ak;rw [if_pos ⟨qe,by simpa using h7⟩],qA,show (7:Int).toNat=7 from rfl,BU hd.2,qA,bI (n:=c) qb qb,bI (n:=(v:Int)-1000000000000) qb qb,jT ok,qA,List.take_zero,List.foldl_nil]
  unfold mkK
  cases Ao (⟨c,(v:Int)-1000000000000,cZ (b.drop 7)⟩:M.Key)<;>rfl
 | j+1,k,v,m+1,hk,hv,h1,hm=>by
  have hlt:k<b.length:=by omega
  obtain ⟨x,ex,hx⟩:=Tz hb hlt
  have hv2:v<2^40:=Nat.lt_of_lt_of_le hv (Nat.pow_le_pow_right qe qb)
  have e8:2^(8*(k+1-1))=2^(8*(k-1))*256:=by rw [show 8*(k+1-1)=8*(k-1)+8 from by omega,Nat.pow_add]
  simp only [iX]
  rw [if_pos qc,aM hlt,qA,ex,stS qb hx,bM qb,dkS hb hl hc h7 j (k+1) (v*256+x) m qb (by rw [e8];omega) qb qb,qV hlt,ex,List.take_succ_cons,List.foldl_cons]
  congr 4
theorem Gr {b:List Int} (hb:okB b) (hl:b.length<=1048576):pQ b=some (OP b):=by
 unfold pQ
 cases b with
 | nil=>rfl
 | cons c t =>
  have hc:=hb.2 c qd
  have ht : ∀x∈t,0<=x/\x<=255:=λx hx=>hb.2 x (by simp [hx])
  have hlt:t.length<=maxLen:=by have:=hb.1;rw [qJ] at this;omega
  have hl':t.length+1<=1048576:=hl
  rw [if_neg qc,show idx (c::t) 0=some c from rfl,qA,bI (n:=c) qb qb]
  unfold OP
  show _=some (if c=2 then mkK c 0 t else if t.length<6 then (PA,false) else mkK c ((t.take 6).foldl Um 0-1000000000000) (t.drop 6))
  by_cases h2:c=2
  ·subst h2;rw [if_neg qe,if_pos rfl,show Ak (2::t) 1=some t from by unfold Ak;rw [if_pos ⟨qe,qd⟩];rfl,qA,show List.drop (1:Int).toNat ((2:Int)::t)=t from rfl,BU ht,qA,jT (Mx qb qb hlt),qA];unfold mkK;cases Ao (⟨2,0,cZ t⟩:M.Key)<;>rfl
  ·rw [if_pos (by simpa using h2),if_neg h2];by_cases h6:t.length<6;(rw [if_pos qc,if_pos h6];rfl);·rw [if_neg qc,if_neg h6];exact dkS hb hl hc qc 6 1 0 fuel rfl qe qb qi
def SI (b:List Int):Nat->Int->List M.Field->Option (List M.Field×Int)
 | 0,p,acc=>some (acc,p)
 | j+1,p,acc=>if (nRb b p 8).2.2=true then (if (nUv b (nRb b p 8).2.1).2.2=true then SI b j (nUv b (nRb b p 8).2.1).2.1 (acc++[(⟨cZ (nRb b p 8).1,(nUv b (nRb b p 8).2.1).1⟩:M.Field)]) else none) else none
def NZ (b:List Int):M.aC×Bool:=if (nUv b 0).2.2=true then (if (nUv b 0).1>6 then ((⟨([]:List M.Field)⟩:M.aC),false) else match SI b (nUv b 0).1.toNat (nUv b 0).2.1 [] with
 | none=>((⟨([]:List M.Field)⟩:M.aC),false)
 | some (fs,q)=>if (bR (⟨fs⟩:M.aC)&&(q==(b.length:Int)))=true then ((⟨fs⟩:M.aC),true) else ((⟨([]:List M.Field)⟩:M.aC),false)) else ((⟨([]:List M.Field)⟩:M.aC),false)
theorem FL {e:Nat} {n:Nat} (h:e<=n) (hl:n<=1048576):inI (e:Int):=by unfold inI;omega
theorem EX {b:List Int} {p c:Int} (hb:okB b) (h:(nRb b p c).2.2=true) : ∃(s:List Int) (a e:Nat),nRb b p c=(s,(e:Int),true)/\p=(a:Int)/\(s.length:Int)<=c/\e<=b.length/\s.length<=1000000000000/\a+(uv s.length).length+s.length=e/\b.drop a=uv s.length++(s++b.drop e)/\okB s:=by obtain ⟨a,e,h1,h2,h3⟩:=Tn hb (show nRb b p c=((nRb b p c).1,(nRb b p c).2.1,true) from by rw [<-h]);exact ⟨_,a,e,by rw [<-h2,<-h],h1,h3⟩
theorem A7 {b:List Int} {p:Int} (hb:okB b) (h:(nUv b p).2.2=true) : ∃a m e:Nat,nUv b p=((m:Int),(e:Int),true)/\p=(a:Int)/\m<=1000000000000/\e<=b.length/\a+(uv m).length=e/\b.drop a=uv m++b.drop e:=by obtain ⟨a,m,e,h1,h2,h3,h4⟩:=LJ hb (show nUv b p=((nUv b p).1,(nUv b p).2.1,true) from by rw [<-h]);exact ⟨a,m,e,by rw [<-h2,<-h3,<-h],h1,h4⟩
theorem Ni {s:List Int} {m:Nat} (hs:okB s) (hm:m<=1000000000000):M.Field.ok (⟨cZ s,(m:Int)⟩:M.Field):=⟨by show (cZ s).size<=_;rw [At];exact hs.1,by show inI (m:Int);unfold inI;omega⟩
theorem Nd {b:List Int} (hb:okB b) : ∀(j a:Nat) (acc fs:List M.Field) (q:Int),SI b j (a:Int) acc=some (fs,q)->a<=b.length -> ∃(l:List M.Field) (e:Nat),fs=acc++l/\l.length=j/\q=(e:Int)/\e<=b.length/\b.drop a=J2 enF l++b.drop e /\ ∀x∈l,M.Field.ok x
 | 0,a,acc,fs,q,h,ha=>by simp only [SI,qa,qZ] at h;exact ⟨[],a,by rw [<-h.1,qW],rfl,h.2.symm,ha,rfl,λ_ h=>absurd h qd⟩
 | j+1,a,acc,fs,q,h,ha=>by
  simp only [SI] at h
  split at h
  ·rename_i h1
   obtain ⟨s,a1,e1,r1,r2,r3,r4,r5,r6,r7,r8⟩:=EX hb h1
   obtain rfl:a=a1:=by omega
   rw [r1] at h
   dsimp only at h
   split at h
   ·rename_i h2
    obtain ⟨a2,m,e2,u1,u2,u3,u4,u5,u6⟩:=A7 hb h2
    obtain rfl:e1=a2:=by omega
    rw [u1] at h
    dsimp only at h
    obtain ⟨l,e,g1,g2,g3,g4,g5,g6⟩:=Nd hb j e2 _ fs q h u4
    refine ⟨(⟨cZ s,(m:Int)⟩:M.Field)::l,e,by rw [g1,qS];rfl,by rw [qJ,g2],g3,g4,?_,λx hx => ?_⟩
    ·rw [r7,u6,g5,J2,enF,Ih,E3 r8.2,qH];simp only [qS]
    ·rcases List.mem_cons.1 hx with rfl | hx;(exact Ni r8 u3);·exact g6 x hx
   ·cases h
  ·cases h
def Z9 (o:Option (List M.Field×Int)):M.aC×Int×Bool:=match o with
 | none=>((⟨([]:List M.Field)⟩:M.aC),0,false)
 | some (fs,q)=>((⟨fs⟩:M.aC),q,bR (⟨fs⟩:M.aC))
theorem O2 {acc:List M.Field} {n:Nat} (hl:acc.length<=n) (hn:n<=6) (h : ∀x∈acc,M.Field.ok x):M.aC.ok (⟨acc⟩:M.aC):=⟨⟨Nat.le_trans hl qj,h⟩⟩
theorem Rm {acc:List M.Field} {x:M.Field} (h : ∀x∈acc,M.Field.ok x) (hx:M.Field.ok x) : ∀y∈acc++[x],M.Field.ok y:=λy hy=>by rcases List.mem_append.1 hy with hy | hy;(exact h y hy);·rw [List.mem_singleton.1 hy];exact hx
theorem Ws {b:List Int} {x1:Int×Int×Bool} {N:Nat} (hb:okB b) (hl:b.length<=1048576) (hN:N<=6) (hx:x1.1=(N:Int)) : ∀(j k m:Nat) (p:Int) (acc:List M.Field),k+j=N->j<m->inI p->acc.length=k->(∀x∈acc,M.Field.ok x)->nO b x1 m p (k:Int) acc=some (Z9 (SI b j p acc))
 | _,_,0,_,_,_,h,_,_,_=>by omega
 | 0,k,m+1,p,acc,hk,_,hp,ha,ho=>by simp only [nO];rw [hx,if_neg qc,mU (O2 (n:=6) qb qb ho),qA];rfl
 | j+1,k,m+1,p,acc,hk,hm,hp,ha,ho=>by
  simp only [nO,SI]
  rw [hx,if_pos qc,pN hb hl hp,qA]
  cases h1:(nRb b p 8).2.2 with
  | false=>rfl
  | true =>
   obtain ⟨s,a1,e1,r1,r2,r3,r4,r5,r6,r7,r8⟩:=EX hb h1
   rw [r1]
   simp only [qB,qD,if_false,if_true]
   rw [nG hb hl (FL r4 hl),qA]
   cases h2:(nUv b (e1:Int)).2.2 with
   | false=>rfl
   | true =>
    obtain ⟨a2,v,e2,u1,u2,u3,u4,u5,u6⟩:=A7 hb h2
    rw [u1]
    simp only [qB,qD,if_false,if_true]
    rw [BU r8.2,qA,fQ qc,qA,bM qb]
    exact Ws hb hl hN hx j (k+1) m (e2:Int) _ qb qb (FL u4 hl) (by simp [ha]) (Rm ho (Ni r8 u3))
theorem DB {b:List Int} (hb:okB b) (hl:b.length<=1048576):lY b=some (NZ b):=by
 unfold lY Aq NZ
 rw [nG hb hl sL,qA]
 cases h:(nUv b 0).2.2 with
 | false=>rfl
 | true =>
  obtain ⟨a,m,e,u1,u2,u3,u4,u5,u6⟩:=A7 hb h
  rw [u1]
  simp only [qB,qD,if_false,if_true]
  by_cases h6:(m:Int)>6
  ·rw [if_pos (by simpa using h6),if_pos h6];rfl
  ·have hr:=Ws (x1:=((m:Int),(e:Int),true)) hb hl (N:=m) qb rfl m 0 fuel (e:Int) [] qb qi (FL u4 hl) rfl (λ_ h=>absurd h qd)
   rw [show ((0:Nat):Int)=0 from rfl] at hr
   rw [if_neg (by simpa using h6),if_neg h6,qH,hr,qA]
   cases SI b m (e:Int) [] with
   | none=>rfl
   | some o =>
    obtain ⟨fs,q⟩:=o
    show (if (!bR (⟨fs⟩:M.aC))=true then some ((⟨([]:List M.Field)⟩:M.aC),false) else if (!(q==(b.length:Int)))=true then some ((⟨([]:List M.Field)⟩:M.aC),false) else some ((⟨fs⟩:M.aC),true))=some (if (bR (⟨fs⟩:M.aC)&&(q==(b.length:Int)))=true then ((⟨fs⟩:M.aC),true) else ((⟨([]:List M.Field)⟩:M.aC),false))
    rcases Bool.eq_false_or_eq_true (bR (⟨fs⟩:M.aC)) with hn | hn
    ·rw [if_neg (show ¬(!bR (⟨fs⟩:M.aC))=true from by simp [hn])];by_cases hq:q=(b.length:Int);(rw [if_neg (show ¬(!(q==(b.length:Int)))=true from by simp [hq]),if_pos (by simp [hn,hq])]);·rw [if_pos (show (!(q==(b.length:Int)))=true from by simp [hq]),if_neg (by simp [hq])]
    ·rw [if_pos (show (!bR (⟨fs⟩:M.aC))=true from by simp [hn]),if_neg (by simp [hn])]
theorem Rk {b:List Int} (hb:okB b):(NZ b).1.ok/\M.aC.sz (NZ b).1<=60:=by have h0:M.aC.ok (⟨([]:List M.Field)⟩:M.aC)/\M.aC.sz (⟨([]:List M.Field)⟩:M.aC)<=60:=⟨O2 (n:=0) qd qb (λ_ h=>absurd h qd),by simp [M.aC.sz,gO]⟩;unfold NZ;split;(rename_i h;obtain ⟨a,m,e,u1,u2,u3,u4,u5,u6⟩:=A7 hb h;rw [u1];dsimp only;split;(exact h0);·split;(exact h0);·rename_i fs q hr;split;(rename_i hh;rw [qM] at hh;obtain ⟨l,e3,g1,g2,g3,g4,g5,g6⟩:=Nd hb _ e [] fs q hr u4;rw [List.nil_append] at g1;subst g1;obtain ⟨n6,nf⟩:=tU hh.1;refine ⟨O2 n6 qb g6,?_⟩;have:=fR (w:=M.Field.sz) (b:=8) (xs:=fs) (λx hx=>by have:=(nf x hx).1;simp only [M.Field.sz];omega);simp only [M.aC.sz];omega);·exact h0);·exact h0
def H4 (o:M.Op):Prop:=inI o.aAV/\o.aA.size<=maxLen/\o.Key.ok/\o.aC.ok/\o.Field.size<=maxLen
def nOp (o:M.Op):Bool:=inR o.aAV 1 6&&(kI o.aA&&(((o.aAV==5)||Ao o.Key)&&(bR o.aC&&(if (o.aAV==6)=true then kI o.Field else (o.Field.toList==(⟨#[]⟩:ByteArray).toList)))))
theorem GV {o:M.Op} (h:H4 o):zJ o=some (nOp o):=by unfold zJ nOp;simp only [bX,cV h.2.1,jT h.2.2.1,mU h.2.2.2.1,cV h.2.2.2.2,qA];have hb:(o.aAV != 6) = !(o.aAV==6):=rfl;generalize (o.aAV != 6)=a9 at hb ⊢;generalize inR o.aAV 1 6=a1;generalize kI o.aA=a2;generalize (o.aAV==5)=a3;generalize Ao o.Key=a4;generalize bR o.aC=a5;generalize (o.aAV==6)=a6 at hb ⊢;generalize kI o.Field=a7;generalize (o.Field.toList==(⟨#[]⟩:ByteArray).toList)=a8;subst hb;cases a1<;>cases a2<;>cases a3<;>cases a4<;>cases a5<;>cases a6<;>cases a7<;>cases a8<;>rfl
def enO (o:M.Op):List Int:=uv o.aAV.toNat++(Ih (cY o.aA)++(Ih (enK o.Key)++(Ih (enR o.aC)++Ih (cY o.Field))))
def Cs (l:List M.Op):List Int:=if (l.all nOp&&decide (l.length<=6))=true then uv l.length++J2 enO l else []
theorem bsize {a b:ByteArray} (h:a.toList=b.toList):a.size=b.size:=by rw [ByteArray.toList_eq,ByteArray.toList_eq] at h;have:=congrArg List.length h;rw [Array.length_toList,Array.length_toList] at this;exact this
theorem Nq {s:ByteArray} (h:(s.toList==(⟨#[]⟩:ByteArray).toList)=true):s.size=0:=bsize (eq_of_beq h)
theorem Bq {o:M.Op} (h:nOp o=true):1<=o.aAV/\o.aAV<=6/\o.aA.size<=8/\o.Field.size<=8/\bR o.aC=true:=by
 unfold nOp inR at h
 simp only [qM,qL] at h
 obtain ⟨h1,h2,_,h4,h5⟩:=h
 have n8 : ∀s:ByteArray,kI s=true->s.size<=8:=λs hs=>by unfold kI inR at hs;simp only [qM,qL] at hs;omega
 refine ⟨h1.1,h1.2,n8 _ h2,?_,h4⟩
 split at h5
 ·exact n8 _ h5
 ·rw [Nq h5];omega
theorem Dt {b:List Int} {n:Nat} (h:b.length<=n) (hn:n<=127):(Ih b).length<=n+1:=by have:=BC 0 b.length qb;unfold Ih;rw [qE];omega
theorem L4 {o:M.Op} (h:nOp o=true):(enO o).length<=130:=by obtain ⟨h1,h2,h3,h4,_⟩:=Bq h;have e1:=BC 0 o.aAV.toNat qb;have e2:=Dt (b:=cY o.aA) (n:=8) (by rw [aP];exact h3) qb;have e3:=Dt (Jt o.Key) qb;have e4:=Dt (Jo o.aC) qb;have e5:=Dt (b:=cY o.Field) (n:=8) (by rw [aP];exact h4) qb;unfold enO;simp only [qE];omega
theorem Sk {o:M.Op} (ho:H4 o) (h:nOp o=true) {q:List Int} (hq:q.length<=900000) {α:Type} (K:List Int->Option α):((bK q o.aAV).bind λaa=>((bJ aa (cY o.aA)).bind λae=>((iP o.Key).bind λaf=>((bJ ae af).bind λah=>((fF o.aC).bind λai=>((bJ ah ai).bind λaj=>((bJ aj (cY o.Field)).bind λak=>K ak)))))))=K (q++enO o):=by obtain ⟨h1,h2,h3,h4,_⟩:=Bq h;have e0:=kT (r:=q) (n:=o.aAV.toNat) qb qb;rw [Int.toNat_of_nonneg qb] at e0;have l1:=BC 0 o.aAV.toNat qb;have l2:=Dt (b:=cY o.aA) (n:=8) (by rw [aP];exact h3) qb;have l3:=Dt (Jt o.Key) qb;have l4:=Dt (Jo o.aC) qb;have k2:=aP o.aA;have k5:=aP o.Field;have k3:=Jt o.Key;have k4:=Jo o.aC;rw [e0,qA,nF qp qb,qA,Gx ho.2.2.1,qA,nF qp qb,qA,Dw ho.2.2.2.1,qA,nF qp qb,qA,nF qp qb,qA];unfold enO;simp only [qS]
theorem eoS {l:List M.Op} (hl:l.length<=1000) (ho : ∀o∈l,H4 o) : ∀(n k:Nat) (q:List Int),l.length-k<n->k<=l.length->q.length<=20+130*k->lQ l n (k:Int) q=some (if (l.drop k).all nOp=true then (if l.length>6 then [] else q++J2 enO (l.drop k)) else [])
 | 0,_,_,h,_,_=>by omega
 | n+1,k,q,hn,hk,hq=>by
  simp only [lQ]
  rcases Nat.lt_or_ge k l.length with hlt | hge
  ·rw [if_pos (bB hlt),aM hlt,qA,GV (ho _ (qG hlt)),qA,qV hlt,List.all_cons]
   cases h:nOp l[k] with
   | false =>
    simp only [qC,if_true,Bool.false_and,qD,if_false]
   | true =>
    simp only [qB,qD,if_false,Bool.true_and]
    have hx:=L4 h
    rw [Sk (ho _ (qG hlt)) h qb,bM qb,eoS hl ho n (k+1) _ qb qb (by rw [qE];omega),J2,qS]
  ·have e:k=l.length:=by omega
   subst e
   rw [if_neg qk,qY]
   simp only [List.all_nil,if_true,J2,qW]
   by_cases h6:l.length>6
   ·rw [if_pos qc,if_pos h6]
   ·rw [if_neg qc,if_neg h6]
theorem B7 {l:List M.Op} (hl:l.length<=1000) (ho : ∀o∈l,H4 o):pR l=some (Cs l):=by
 have h9:=ET (n:=l.length) qb
 unfold pR Cs
 rw [kT qd qb,qA,List.nil_append]
 have e:=eoS hl ho fuel 0 (uv l.length) qi qb qb
 rw [List.drop_zero] at e
 refine Eq.trans e ?_
 congr 1
 cases l.all nOp with
 | false=>rfl
 | true =>
  by_cases h6:l.length>6
  ·rw [if_pos rfl,if_pos h6,if_neg qc]
  ·rw [if_pos rfl,if_neg h6,if_pos qc]
theorem M7 (l:List M.Op):okB (Cs l):=by unfold Cs;split;(rename_i h;rw [qM,qL,qQ] at h;have h1:=JN (f:=enO) (λo hx=>L4 (h.1 o hx));have h9:=ET (n:=l.length) qb;refine ⟨?_,λy hy => ?_⟩;(rw [qE];exact Nat.le_trans (m:=2000) qb qj);·rcases List.mem_append.1 hy with hy | hy;(exact Dp _ y hy);·refine JS (λo _ z hz => ?_) y hy;unfold enO at hz;simp only [qP] at hz;rcases hz with hz | hz | hz | hz | hz;(exact Dp _ z hz);(exact BG (As _) z hz);(exact BG (UK _).2 z hz);(exact BG (UQ _).2 z hz);·exact BG (As _) z hz);·exact ⟨qd,λ_ h=>absurd h qd⟩
def gS9 (b:List Int) (p c1:Int):=nRb b (nUv b p).2.1 c1
def gK9 (b:List Int) (p c1 c2:Int):=nRb b (gS9 b p c1).2.1 c2
def gR9 (b:List Int) (p c1 c2 c3:Int):=nRb b (gK9 b p c1 c2).2.1 c3
def gF9 (b:List Int) (p c1 c2 c3 c4:Int):=nRb b (gR9 b p c1 c2 c3).2.1 c4
def op9 (b:List Int) (p c1 c2 c3 c4:Int):Option (M.Op×Int):=if (nUv b p).2.2=true then (if (gS9 b p c1).2.2=true then (if (gK9 b p c1 c2).2.2=true then (if (gR9 b p c1 c2 c3).2.2=true then (if (gF9 b p c1 c2 c3 c4).2.2=true then some ((⟨(nUv b p).1,cZ (gS9 b p c1).1,(OP (gK9 b p c1 c2).1).1,(NZ (gR9 b p c1 c2 c3).1).1,cZ (gF9 b p c1 c2 c3 c4).1⟩:M.Op),(gF9 b p c1 c2 c3 c4).2.1) else none) else none) else none) else none) else none
def Jw (b:List Int) (c1 c2 c3 c4:Int):Nat->Int->List M.Op->Option (List M.Op)
 | 0,_,acc=>some acc
 | j+1,p,acc=>match op9 b p c1 c2 c3 c4 with
  | none=>none
  | some (o,q)=>Jw b c1 c2 c3 c4 j q (acc++[o])
def Vf (b:List Int) (o:Option (List M.Op)):List M.Op×Bool:=match o with
 | none=>(([]:List M.Op),false)
 | some l=>if eqL yA (Cs l) b=true then (l,true) else (([]:List M.Op),false)
def RT (b:List Int) (c1 c2 c3 c4:Int):List M.Op×Bool:=if (nUv b 0).2.2=true then (if (nUv b 0).1>6 then (([]:List M.Op),false) else Vf b (Jw b c1 c2 c3 c4 (nUv b 0).1.toNat (nUv b 0).2.1 [])) else (([]:List M.Op),false)
theorem TF {b:List Int} {p:Int} (hb:okB b) (hl:b.length<=1048576):inI (nUv b p).2.1:=by
 cases h:(nUv b p).2.2 with
 | false=>rw [UG h];exact sL
 | true =>
  obtain ⟨a,m,e,u1,u2,u3,u4,_⟩:=A7 hb h
  rw [u1]
  exact FL u4 hl
theorem Jz {b:List Int} {p c:Int} (hb:okB b) (hl:b.length<=1048576):inI (nRb b p c).2.1:=by
 cases h:(nRb b p c).2.2 with
 | false=>rw [UP h];exact sL
 | true =>
  obtain ⟨s,a,e,r1,r2,r3,r4,_⟩:=EX hb h
  rw [r1]
  exact FL r4 hl
theorem AV {b:List Int} {p c:Int} (hb:okB b) (hl:b.length<=1048576) (h:(nRb b p c).2.2=true):okB (nRb b p c).1/\(nRb b p c).1.length<=b.length:=by obtain ⟨s,a,e,r1,r2,r3,r4,r5,r6,r7,r8⟩:=EX hb h;rw [r1];exact ⟨r8,qg⟩
theorem SM {c n:Int} {t:List Int} (h:M.Key.ok (⟨c,n,cZ t⟩:M.Key)):(mkK c n t).1.ok:=by unfold mkK;split;(exact h);·exact ⟨sL,sL,sz0⟩
theorem RZ {b:List Int} (hb:okB b):(OP b).1.ok:=by
 have z:PA.ok:=⟨sL,sL,sz0⟩
 unfold OP
 split
 ·exact z
 ·rename_i c t
  have hc:=hb.2 c qd
  have ht : ∀x∈t,0<=x/\x<=255:=λx hx=>hb.2 x (by simp [hx])
  have hlt:t.length<=maxLen:=by have:=hb.1;rw [qJ] at this;omega
  split
  ·rename_i h2;exact SM (Mx hc qb hlt)
  ·split
   ·exact z
   ·obtain ⟨w,e,hw⟩:=VM (t:=t.take 6) (λx hx=>ht x (List.mem_of_mem_take hx)) 0 0 qe
    have h6:0+8*(List.take 6 t).length<=48:=by rw [qT];omega
    have h7:(2:Int)^(0+8*(List.take 6 t).length)<=2^48:=by have:=Nat.pow_le_pow_right (n:=2) qe h6;exact_mod_cast this
    have e':(List.take 6 t).foldl Um 0=(w:Int):=e
    rw [e']
    refine SM (Mx hc qb (Nat.le_trans (by rw [qU];omega) hlt))
theorem SD {b:List Int} {p c1 c2 c3 c4 q:Int} {o:M.Op} (hb:okB b) (hl:b.length<=1048576) (h:op9 b p c1 c2 c3 c4=some (o,q)):H4 o/\inI q:=by unfold op9 at h;split at h;(rename_i h1;split at h;(rename_i h2;split at h;(rename_i h3;split at h;(rename_i h4;split at h;(rename_i h5;simp only [qa,qZ] at h;obtain ⟨a,m,e,u1,u2,u3,_⟩:=A7 hb h1;have p2:=AV hb hl h2;have p3:=AV hb hl h3;have p4:=AV hb hl h4;have p5:=AV hb hl h5;rw [<-h.1,<-h.2];refine ⟨⟨?_,?_,RZ p3.1,(Rk p4.1).1,?_⟩,Jz hb hl⟩;(show inI (nUv b p).1;rw [u1];unfold inI;dsimp only;omega);(show (cZ _).size<=_;rw [At];exact p2.1.1);·show (cZ _).size<=_;rw [At];exact p5.1.1);·cases h);·cases h);·cases h);·cases h);·cases h
theorem JT {b:List Int} {p:Int} (hb:okB b) (hl:b.length<=1048576) (hp:inI p):xW b p=some (match op9 b p 100 100 200 100 with
  | none=>((⟨0,(⟨#[]⟩:ByteArray),(⟨0,0,(⟨#[]⟩:ByteArray)⟩:M.Key),(⟨([]:List M.Field)⟩:M.aC),(⟨#[]⟩:ByteArray)⟩:M.Op),0,false)
  | some (o,q)=>(o,q,true)):=by
 unfold xW op9
 rw [nG hb hl hp,qA,pN hb hl (TF hb hl),qA]
 show (dK b (gS9 b p 100).2.1 100).bind _=_
 rw [pN hb hl (show inI (gS9 b p 100).2.1 from Jz hb hl),qA]
 show (dK b (gK9 b p 100 100).2.1 200).bind _=_
 rw [pN hb hl (show inI (gK9 b p 100 100).2.1 from Jz hb hl),qA]
 show (dK b (gR9 b p 100 100 200).2.1 100).bind _=_
 rw [pN hb hl (show inI (gR9 b p 100 100 200).2.1 from Jz hb hl),qA]
 change (if (!(nUv b p).2.2)=true then _ else if (!(gS9 b p 100).2.2)=true then _ else if (!(gK9 b p 100 100).2.2)=true then _ else if (!(gR9 b p 100 100 200).2.2)=true then _ else if (!(gF9 b p 100 100 200 100).2.2)=true then _ else (toStr (gS9 b p 100).1).bind λaf=>((toStr (gF9 b p 100 100 200 100).1).bind λah=>((pQ (gK9 b p 100 100).1).bind λaa=>((lY (gR9 b p 100 100 200).1).bind λae=>some ((⟨(nUv b p).1,cZ (gS9 b p 100).1,aa.1,ae.1,cZ (gF9 b p 100 100 200 100).1⟩:M.Op),(gF9 b p 100 100 200 100).2.1,true)))))=_
 cases h1:(nUv b p).2.2 with
 | false=>rfl
 | true =>
  cases h2:(gS9 b p 100).2.2 with
  | false=>rfl
  | true =>
   cases h3:(gK9 b p 100 100).2.2 with
   | false=>rfl
   | true =>
    cases h4:(gR9 b p 100 100 200).2.2 with
    | false=>rfl
    | true =>
     cases h5:(gF9 b p 100 100 200 100).2.2 with
     | false=>rfl
     | true =>
      have p2:okB (gS9 b p 100).1/\(gS9 b p 100).1.length<=b.length:=AV hb hl h2
      have p3:okB (gK9 b p 100 100).1/\(gK9 b p 100 100).1.length<=b.length:=AV hb hl h3
      have p4:okB (gR9 b p 100 100 200).1/\(gR9 b p 100 100 200).1.length<=b.length:=AV hb hl h4
      have p5:okB (gF9 b p 100 100 200 100).1/\(gF9 b p 100 100 200 100).1.length<=b.length:=AV hb hl h5
      simp only [qB,qD,if_false,if_true]
      rw [BU p2.1.2,qA,BU p5.1.2,qA,Gr p3.1 qb,qA,DB p4.1 qb,qA]
theorem doS {b:List Int} {x1:Int×Int×Bool} {N:Nat} (hb:okB b) (hl:b.length<=1048576) (hN:N<=6) (hx:x1.1=(N:Int)) : ∀(j k m:Nat) (p:Int) (acc:List M.Op),k+j=N->j<m->inI p->acc.length=k->(∀x∈acc,H4 x)->jB b x1 m p (k:Int) acc=some (Vf b (Jw b 100 100 200 100 j p acc))
 | _,_,0,_,_,_,h,_,_,_=>by omega
 | 0,k,m+1,p,acc,hk,_,hp,ha,ho=>by simp only [jB,Jw,Vf];rw [hx,if_neg qc,B7 qb ho,qA,EM (M7 _) hb,qA];cases eqL yA (Cs acc) b<;>rfl
 | j+1,k,m+1,p,acc,hk,hm,hp,ha,ho=>by
  simp only [jB,Jw]
  rw [hx,if_pos qc,JT hb hl hp,qA]
  cases h:op9 b p 100 100 200 100 with
  | none=>rfl
  | some x =>
   obtain ⟨o,q⟩:=x
   obtain ⟨k1,k2⟩:=SD hb hl h
   simp only [qB,qD,if_false]
   rw [fQ qc,qA,bM qb]
   refine doS hb hl hN hx j (k+1) m q _ qb qb k2 (by simp [ha]) (λy hy => ?_)
   rcases List.mem_append.1 hy with hy | hy
   ·exact ho y hy
   ·rw [List.mem_singleton.1 hy];exact k1
theorem FH {b:List Int} (hb:okB b) (hl:b.length<=1048576):pP b=some (RT b 100 100 200 100):=by
 unfold pP RT
 rw [nG hb hl sL,qA]
 cases h:(nUv b 0).2.2 with
 | false=>rfl
 | true =>
  obtain ⟨a,m,e,u1,u2,u3,u4,u5,u6⟩:=A7 hb h
  rw [u1]
  simp only [qB,qD,if_false,if_true]
  by_cases h6:(m:Int)>6
  ·rw [if_pos (by simpa using h6),if_pos h6]
  ·rw [if_neg (by simpa using h6),if_neg h6,qH];exact doS (x1:=((m:Int),(e:Int),true)) hb hl (N:=m) qb rfl m 0 fuel (e:Int) [] qb qi (FL u4 hl) rfl (λ_ h=>absurd h qd)
theorem QN {l:List M.Op} {b:List Int} (h:Cs l=b) (hb:b≠[]):b=uv l.length++J2 enO l/\(∀o∈l,nOp o=true)/\l.length<=6:=by unfold Cs at h;split at h;(rename_i h1;rw [qM,qL,qQ] at h1;exact ⟨h.symm,h1.1,h1.2⟩);·exact absurd h.symm hb
def Cu (b:List Int):List M.Op×Bool:=RT b 100 100 200 100
theorem GF {b:List Int} (hb:okB b) (hl:b.length<=1048576):pP b=some (Cu b):=FH hb hl
theorem MV {b:List Int} {c1 c2 c3 c4:Int} (hb:okB b) (hl:b.length<=1048576) : ∀(j:Nat) (p:Int) (acc l:List M.Op),Jw b c1 c2 c3 c4 j p acc=some l->(∀x∈acc,H4 x)->(∀x∈l,H4 x)
 | 0,_,_,_,h,ho=>by simp only [Jw,qa] at h;rw [<-h];exact ho
 | j+1,p,acc,l,h,ho=>by
  simp only [Jw] at h
  cases e:op9 b p c1 c2 c3 c4 with
  | none=>rw [e] at h;cases h
  | some x =>
   obtain ⟨o,q⟩:=x
   rw [e] at h
   refine MV hb hl j q _ l h (λy hy => ?_)
   rcases List.mem_append.1 hy with hy | hy
   ·exact ho y hy
   ·rw [List.mem_singleton.1 hy];exact (SD hb hl e).1
theorem I5 {b:List Int} (hb:okB b) (hl:b.length<=1048576):(Cu b).1.length<=6 /\ ∀o∈(Cu b).1,H4 o/\nOp o=true:=by
 have z:([]:List M.Op).length<=6 /\ ∀o∈([]:List M.Op),H4 o/\nOp o=true:=⟨qd,λ_ h=>absurd h qd⟩
 unfold Cu RT
 split
 ·rename_i h
  obtain ⟨a,m,e,u1,u2,u3,u4,u5,u6⟩:=A7 hb h
  obtain rfl:a=0:=by omega
  rw [List.drop_zero] at u6
  have hne:b≠[]:=λh0=>by have:=congrArg List.length u6;have h2:=Nh m;rw [h0] at this;simp at this;omega
  rw [u1]
  dsimp only
  split
  ·exact z
  ·cases hr:Jw b 100 100 200 100 (m:Int).toNat (e:Int) [] with
   | none=>exact z
   | some l =>
    simp only [Vf]
    split
    ·rename_i he;rw [P8] at he;obtain ⟨b1,b2,b3⟩:=QN he hne;exact ⟨b3,λo ho=>⟨MV hb hl _ _ _ l hr (λ_ h=>absurd h qd) o ho,b2 o ho⟩⟩
    ·exact z
 ·exact z
theorem CI {i:Int} {l:List Int} (hl:l.length<=1048576):sR i l=some (N3 ([101,i]++([(List.length l:Int)]++l.map i64.wrap))):=by unfold sR;rw [D4 hl,qA,fQ qc,qA,LS (by simp [maxLen];omega),qA]
def SJ (i:Int) (l:List Int):Int:=N3 ([101,i]++([(List.length l:Int)]++l.map i64.wrap))
def KQ (b:List Int):Nat->Int->List (List Int)->List (List Int)×Int
 | 0,p,acc=>(acc,p)
 | j+1,p,acc=>if (nRb b p 4000).2.2=true then (if (nUv b (nRb b p 4000).2.1).2.2=true then (if ((nUv b (nRb b p 4000).2.1).1 != SJ (acc.length:Int) (nRb b p 4000).1)=true then (acc,p) else KQ b j (nUv b (nRb b p 4000).2.1).2.1 (acc++[(nRb b p 4000).1])) else (acc,p)) else (acc,p)
def Ul (b:List Int):List (List Int)×Int:=KQ b (b.length+1) 0 []
theorem Tq {b:List Int}:nUv b (b.length:Int)=(0,0,false):=by unfold nUv;rw [if_neg qb,qH];unfold P1;rw [qX qb]
theorem Oy {b:List Int} (hb:okB b) (hl:b.length<=1048576) : ∀(j m a:Nat) (acc:List (List Int)),b.length-a<j->j<=m->a<=b.length->acc.length<=a->oT b m (a:Int) acc=some (KQ b j (a:Int) acc)
 | 0,_,_,_,h,_,_,_=>by omega
 | _+1,0,_,_,_,h,_,_=>by omega
 | j+1,m+1,a,acc,hj,hm,ha,hc=>by
  simp only [oT,KQ]
  by_cases hlt:a<b.length
  case neg =>
   obtain rfl:a=b.length:=by omega
   rw [if_neg qd]
   have:(nRb b (b.length:Int) 4000).2.2=false:=by unfold nRb;rw [Tq];rfl
   rw [this]
   rfl
  rw [if_pos qc,pN hb hl (FL ha hl),qA]
  cases h1:(nRb b (a:Int) 4000).2.2 with
  | false=>rfl
  | true =>
   obtain ⟨s,a1,e1,r1,r2,r3,r4,r5,r6,r7,r8⟩:=EX hb h1
   obtain rfl:a=a1:=by omega
   rw [r1]
   simp only [qB,qD,if_false,if_true]
   rw [nG hb hl (FL r4 hl),qA]
   cases h2:(nUv b (e1:Int)).2.2 with
   | false=>rfl
   | true =>
    obtain ⟨a2,v,e2,u1,u2,u3,u4,u5,u6⟩:=A7 hb h2
    obtain rfl:e1=a2:=by omega
    have g1:=Nh s.length
    have g2:=Nh v
    rw [u1]
    simp only [qB,qD,if_false,if_true]
    rw [CI qb,qA]
    show (if ((v:Int) != SJ (acc.length:Int) s)=true then _ else _)=_
    split
    ·rfl
    ·rw [fQ qc,qA];exact Oy hb hl j m e2 _ qb qb u4 qc
theorem Ia {b:List Int} (hb:okB b) (hl:b.length<=1048576):wV b=some (Ul b):=by unfold wV Ul;exact Oy hb hl (b.length+1) fuel 0 [] qb qi qb qd
end Go.Proofs.YtipmihbgjolaaaaGreat.gen
