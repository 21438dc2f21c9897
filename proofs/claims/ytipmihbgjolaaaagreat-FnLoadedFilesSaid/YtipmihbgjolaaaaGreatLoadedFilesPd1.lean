/-
  Helper text. No conditions.
-/
import Derived.Test.YtipmihbgjolaaaaGreatLoadedFilesPd0
set_option linter.unusedVariables false
set_option linter.unusedSimpArgs false
namespace Go.Proofs.YtipmihbgjolaaaaGreat.gen
open Go Go.Sh
open Go.IntKind (i64)
theorem Ca {d:M.aE5} {a:ByteArray} (hd:d.ok):pR d a=some (lA (B4 a) d.aFH):=by have hm:=le_max hd.aFH.1;unfold pR;rw [findAll (L:=kY d a) (f:=B4 a) (A:=λi=>some (i:Int)) (E:=some (-1)) hd.aFH.1 (λm k hk => ?_) (λm => ?_),rN];(simp only [kY];rw [if_pos (aY hk),aK hk,qA,bE qb];rfl);·simp only [kY];rw [if_neg qk]
theorem Jl {d:M.aE5} {a:ByteArray} (hd:d.ok):xT d a=some (lA (B4 a) d.aFH):=by unfold xT;rw [Ir (f:=B4 a) hd.aFH.1 (λx _=>by simp only [uQ];rfl),qA]
def pH (a:ByteArray) (x:M.Field):Bool:=x.Name.toList==a.toList
def jA (r:M.aD) (a:ByteArray):Int×Bool:=match r.aFA.find? (pH a) with | some x=>(x.N,true) | none=>(0,false)
theorem HM {r:M.aD} {a:ByteArray} (hm:r.aFA.length<=9223372036854775807) : ∀(n k:Nat),r.aFA.length-k<n->k<=r.aFA.length->pG r a n (k:Int)=some (match (r.aFA.drop k).find? (pH a) with | some x=>(x.N,true) | none=>(0,false))
 | 0,k,h,_=>by omega
 | n+1,k,h,hk=>by
  simp only [pG]
  rcases Nat.lt_or_ge k r.aFA.length with h1 | h1
  ·rw [if_pos (aY h1),aK h1,qA,bE qb,HM hm n (k+1) qb h1,qV h1,List.find?_cons]
   cases e:pH a r.aFA[k] with
   | true=>rw [if_pos (show (r.aFA[k].Name.toList==a.toList)=true from e)]
   | false=>rw [if_neg (by rw [show (r.aFA[k].Name.toList==a.toList)=false from e];simp)]
  ·have:k=r.aFA.length:=by omega
   subst this
   rw [if_neg qk,qY]
   rfl
theorem sQ {r:M.aD} {a:ByteArray} (hr:r.ok):kA r a=some (jA r a):=by have hm:=le_max hr.aFA.1;have:=HM (a:=a) hm fuel 0 qi qb;exact this
theorem tE {r:M.aD} {a:ByteArray} (hr:r.ok):mI r a=some (jA r a):=by
 unfold mI BS jA
 rw [Ik (f:=pH a) hr.aFA.1 (λx _=>by simp only [xO];rfl),qA,qA]
 by_cases h:lA (pH a) r.aFA<0
 ·rw [if_pos (by simpa using h)]
  have:r.aFA.find? (pH a)=none:=by have h2:=Ho (pH a) r.aFA;rw [decide_eq_false qb] at h2;rw [List.find?_eq_none];intro x hx hf;have h3:r.aFA.any (pH a)=true:=List.any_eq_true.2 ⟨x,hx,hf⟩;rw [<-h2] at h3;cases h3
  rw [this]
 ·obtain ⟨k,e,hk⟩:=gD h
  rw [if_neg (by simpa using h),e,aK hk,qA]
  have e2:r.aFA.findIdx? (pH a)=some k:=by
   unfold lA at e
   cases e3:r.aFA.findIdx? (pH a) with
   | none=>rw [e3] at e;simp only at e;omega
   | some i=>rw [e3] at e;simp only at e;congr 1;omega
  have e4:=List.findIdx?_eq_some_iff_getElem.1 e2
  have:r.aFA.find? (pH a)=some r.aFA[k]:=by rw [List.find?_eq_some_iff_getElem];exact ⟨e4.2.1,k,hk,rfl,λj hj=>by simpa using e4.2.2 j hj⟩
  rw [this]
def Gu (a:ByteArray) (x y:M.aFP):Bool:=decide ((jA x.aD a).1<(jA y.aD a).1)||(((jA x.aD a).1==(jA y.aD a).1)&&decide (cV x.Key y.Key<0))
theorem MP {x y:M.aFP} {a:ByteArray} (hx:x.ok) (hy:y.ok):Br x y a=some (Gu a x y):=by unfold Br Gu;simp only [sQ hx.aD,sQ hy.aD,vE hx.Key hy.Key,qA,aZ];cases decide ((jA x.aD a).1<(jA y.aD a).1)<;>simp
theorem HH {x y:M.aFP} {a:ByteArray} (hx:x.ok) (hy:y.ok):uS x y a=some (Gu a x y):=by unfold uS Gu;simp only [tE hx.aD,tE hy.aD,C3 hx.Key hy.Key,qA,aZ];cases decide ((jA x.aD a).1<(jA y.aD a).1)<;>simp
theorem Eo (x:List Int) (hs:x.length<=1073741824):kG x=some x:=by unfold kG;rw [EC hs qb,qA]
theorem Gb (x:M.aE9) (hs:M.aE9.sz x<=1073741824):sA x=some x:=by simp only [M.aE9.sz] at hs;unfold sA;rw [EC qb qb,qA]
theorem Gi (x:M.aE9) (hs:M.aE9.sz x<=1073741824):kT x=some x:=by simp only [M.aE9.sz] at hs;unfold kT;rw [Eo _ qb,qA]
theorem J5 (x:M.aFE) (hs:M.aFE.sz x<=1073741824):zL x=some x:=by
 have hl:x.aFK.length<=1073741824:=by simp only [M.aFE.sz] at hs;omega
 unfold zL
 exact Am (xs:=x.aFK) (L:=mC x) (b:=88) (E:=λr=>some { x with aFK:=r }) hl qb (λn r k hk=>by
  simp only [mC]
  rw [if_pos (aY hk),aK hk,qA,Gb _ (by have:=dV (f:=M.aFL.sz) (qG hk);simp only [M.aFE.sz] at hs;simp only [M.aFL.sz] at this;omega),qA,bE qb]) (λn r=>by
  simp only [mC]
  rw [if_neg qk])
theorem BT (x:M.aE) (hs:M.aE.sz x<=1073741824):dC x=some x:=by
 have hl:x.aE6.length<=1073741824:=by simp only [M.aE.sz] at hs;omega
 unfold dC
 exact Am (xs:=x.aE6) (L:=oJ x) (b:=32) (E:=λr=>some { x with aE6:=r }) hl qb (λn r k hk=>by
  simp only [oJ]
  rw [if_pos (aY hk),aK hk,qA,J5 _ (by have:=dV (f:=M.aFE.sz) (qG hk);simp only [M.aE.sz] at hs;omega),qA,bE qb]) (λn r=>by
  simp only [oJ]
  rw [if_neg qk])
theorem GF (x:M.aE) (hs:M.aE.sz x<=1073741824):sX x=some x:=by
 have hl:x.aE6.length<=1073741824:=by simp only [M.aE.sz] at hs;omega
 unfold sX
 exact Am (xs:=x.aE6) (L:=eG x) (b:=32) (E:=λr=>some { x with aE6:=r }) hl qb (λn r k hk=>by
  have hz:=dV (f:=M.aFE.sz) (qG hk)
  simp only [M.aE.sz] at hs
  have hz2:x.aE6[k].aFK.length+dG M.aFL.sz x.aE6[k].aFK<=M.aFE.sz x.aE6[k]:=by simp only [M.aFE.sz];omega
  simp only [eG]
  rw [if_pos (aY hk),aK hk,qA,bE qb]
  exact Am (xs:=x.aE6[k].aFK) (b:=88) (L:=gL x.aE6[k] (λ(v:Int) (q:List M.aFL)=>(app 32 r ([(⟨x.aE6[k].aE3,q⟩:M.aFE)])).bind λ_=>(eG x n ((k+1:Nat):Int) (r++[(⟨x.aE6[k].aE3,q⟩:M.aFE)])))) qb qb (λm q j hj=>by
   have hy:=dV (f:=M.aFL.sz) (qG hj)
   simp only [gL]
   rw [if_pos (aY hj),aK hj,qA,Gi _ (by simp only [M.aFL.sz] at hy;omega),qA,bE qb]) (λm q=>by
   simp only [gL]
   rw [if_neg qk])) (λn r=>by
  simp only [eG]
  rw [if_neg qk])
theorem Bf (x:M.aD) (hs:M.aD.sz x<=1073741824):cC x=some x:=by simp only [M.aD.sz] at hs;unfold cC;rw [EC qb qb,qA]
theorem Eg (x:M.aFP) (hs:M.aFP.sz x<=1073741824):xH x=some x:=by simp only [M.aFP.sz] at hs;unfold xH;rw [Bf _ qb,qA]
theorem mP (x:M.aC) (hs:M.aC.sz x<=1073741824):bS x=some x:=by
 have hl:x.aE7.length<=1073741824:=by simp only [M.aC.sz] at hs;omega
 unfold bS
 exact Am (xs:=x.aE7) (L:=pY x) (b:=56) (E:=λr=>some { x with aE7:=r }) hl qb (λn r k hk=>by
  simp only [pY]
  rw [if_pos (aY hk),aK hk,qA,Eg _ (by have:=dV (f:=M.aFP.sz) (qG hk);simp only [M.aC.sz] at hs;omega),qA,bE qb]) (λn r=>by
  simp only [pY]
  rw [if_neg qk])
theorem Ah (x:M.aE5) (hs:M.aE5.sz x<=1073741824):eK x=some x:=by
 have hl:x.aFH.length<=1073741824:=by simp only [M.aE5.sz] at hs;omega
 unfold eK
 rw [EC (by simp only [M.aE5.sz] at hs;omega) qb,qA]
 exact Am (xs:=x.aFH) (L:=rA x) (b:=48) (E:=λr=>some { x with aFH:=r }) hl qb (λn r k hk=>by
  simp only [rA]
  rw [if_pos (aY hk),aK hk,qA,mP _ (by have:=dV (f:=M.aC.sz) (qG hk);simp only [M.aE5.sz] at hs;omega),qA,bE qb]) (λn r=>by
  simp only [rA]
  rw [if_neg qk])
theorem FX (x:M.bV) (hs:M.bV.sz x<=1073741824):yK x=some x:=by simp only [M.bV.sz] at hs;unfold yK;rw [Ah _ qb,qA,EC qb qb,qA]
theorem BL (x:M.aM) (hs:M.aM.sz x<=1073741824):sB x=some x:=by simp only [M.aM.sz] at hs;unfold sB;rw [EC qb qb,qA]
theorem Lu (x:M.aFS) (hs:M.aFS.sz x<=1073741824):vQ x=some x:=by simp only [M.aFS.sz] at hs;unfold vQ;rw [BL _ qb,qA]
theorem Di (x:M.aG) (hs:M.aG.sz x<=1073741824):vY x=some x:=by simp only [M.aG.sz] at hs;unfold vY;rw [mP _ qb,qA,Lu _ qb,qA]
theorem BR (x:M.aJ) (hs:M.aJ.sz x<=1073741824):lV x=some x:=by simp only [M.aJ.sz] at hs;unfold lV;rw [BT _ qb,qA,FX _ qb,qA,Di _ qb,qA]
theorem IG (x:M.aD) (hs:M.aD.sz x<=1073741824):wS x=some x:=by simp only [M.aD.sz] at hs;unfold wS;rw [EC qb qb,qA]
theorem E0 (x:M.aFP) (hs:M.aFP.sz x<=1073741824):wZ x=some x:=by simp only [M.aFP.sz] at hs;unfold wZ;rw [IG _ qb,qA]
theorem Cc (x:M.aC) (hs:M.aC.sz x<=1073741824):pZ x=some x:=by
 have hl:x.aE7.length<=1073741824:=by simp only [M.aC.sz] at hs;omega
 unfold pZ
 exact Am (xs:=x.aE7) (L:=kP x) (b:=56) (E:=λr=>some { x with aE7:=r }) hl qb (λn r k hk=>by
  simp only [kP]
  rw [if_pos (aY hk),aK hk,qA,E0 _ (by have:=dV (f:=M.aFP.sz) (qG hk);simp only [M.aC.sz] at hs;omega),qA,bE qb]) (λn r=>by
  simp only [kP]
  rw [if_neg qk])
theorem Gl (x:M.aE5) (hs:M.aE5.sz x<=1073741824):tH x=some x:=by
 have hl:x.aFH.length<=1073741824:=by simp only [M.aE5.sz] at hs;omega
 unfold tH
 rw [EC (by simp only [M.aE5.sz] at hs;omega) qb,qA]
 exact Am (xs:=x.aFH) (L:=gN x) (b:=48) (E:=λr=>some { x with aFH:=r }) hl qb (λn r k hk=>by
  simp only [gN]
  rw [if_pos (aY hk),aK hk,qA,Cc _ (by have:=dV (f:=M.aC.sz) (qG hk);simp only [M.aE5.sz] at hs;omega),qA,bE qb]) (λn r=>by
  simp only [gN]
  rw [if_neg qk])
theorem Kr (x:M.bV) (hs:M.bV.sz x<=1073741824):zA x=some x:=by simp only [M.bV.sz] at hs;unfold zA;rw [Gl _ qb,qA,Eo _ qb,qA]
theorem Ip (x:M.aM) (hs:M.aM.sz x<=1073741824):xA x=some x:=by simp only [M.aM.sz] at hs;unfold xA;rw [EC qb qb,qA]
theorem KW (x:M.aFS) (hs:M.aFS.sz x<=1073741824):zQ x=some x:=by simp only [M.aFS.sz] at hs;unfold zQ;rw [Ip _ qb,qA]
theorem GR (x:M.aG) (hs:M.aG.sz x<=1073741824):uY x=some x:=by simp only [M.aG.sz] at hs;unfold uY;rw [Cc _ qb,qA,KW _ qb,qA]
theorem IM (x:M.aJ) (hs:M.aJ.sz x<=1073741824):wQ x=some x:=by simp only [M.aJ.sz] at hs;unfold wQ;rw [GF _ qb,qA,Kr _ qb,qA,GR _ qb,qA]
theorem Df (x:M.aA) (hs:M.aA.sz x<=1073741824):fB x=some x:=by
 have hl:x.aE8.length<=1073741824:=by simp only [M.aA.sz] at hs;omega
 unfold fB
 exact Am (xs:=x.aE8) (L:=nM x) (b:=328) (E:=λr=>some { x with aE8:=r }) hl qb (λn r k hk=>by
  simp only [nM]
  rw [if_pos (aY hk),aK hk,qA,BR _ (by have:=dV (f:=M.aJ.sz) (qG hk);simp only [M.aA.sz] at hs;omega),qA,bE qb]) (λn r=>by
  simp only [nM]
  rw [if_neg qk])
theorem HE (x:M.aA) (hs:M.aA.sz x<=1073741824):uL x=some x:=by
 have hl:x.aE8.length<=1073741824:=by simp only [M.aA.sz] at hs;omega
 unfold uL
 exact Am (xs:=x.aE8) (L:=gY x) (b:=328) (E:=λr=>some { x with aE8:=r }) hl qb (λn r k hk=>by
  simp only [gY]
  rw [if_pos (aY hk),aK hk,qA,IM _ (by have:=dV (f:=M.aJ.sz) (qG hk);simp only [M.aA.sz] at hs;omega),qA,bE qb]) (λn r=>by
  simp only [gY]
  rw [if_neg qk])
def nPl (f:M.aFP->Bool) (l:List M.aFP):Nat->Nat
 | 0=>0
 | k+1=>if (l[k]?).any f=true then nPl f l k else k+1
theorem QH (f:M.aFP->Bool) (l:List M.aFP) : ∀k,nPl f l k<=k
 | 0=>by simp [nPl]
 | k+1=>by unfold nPl;split;(exact Nat.le_succ_of_le (QH f l k));·exact Nat.le_refl _
theorem SP {α:Type} {l:List α} {i:Int} {x:α} (h:idx l i=some x):x∈l:=List.mem_of_getElem? (tL h).2.1
theorem Cb {α:Type} {l:List α} {k:Nat} (h:k<=l.length):Ap l (k:Int)=some (l.take k):=by unfold Ap;rw [if_pos ⟨qb,by simpa using h⟩,qH]
def Vy (a:ByteArray) (out:List M.aFP) (x:M.aFP):List M.aFP:=
 if (jA x.aD a).2=true then out.take (nPl (Gu a x) out out.length)++(x::out.drop (nPl (Gu a x) out out.length)) else out
def Jd (s:M.aC) (a:ByteArray):List M.aFP:=s.aE7.foldl (Vy a) []
theorem PR (a:ByteArray) (out:List M.aFP) (x:M.aFP):(Vy a out x).length<=out.length+1:=by unfold Vy;have:=QH (Gu a x) out out.length;split;(simp only [qE,qT,qJ,qU];omega);·omega
theorem PM {a:ByteArray} {out:List M.aFP} {x y:M.aFP} (h:y∈Vy a out x):y=x\/y∈out:=by unfold Vy at h;split at h;(rcases List.mem_append.1 h with h | h;(exact .inr (List.mem_of_mem_take h));·rcases List.mem_cons.1 h with h | h;(exact .inl h);·exact .inr (List.mem_of_mem_drop h));·exact .inr h
theorem SH {a:ByteArray} {l:List M.aFP} {x:M.aFP} {K:Int->Option (List M.aFP)} (hl:l.length<=1048576) (hx:x.ok) (ho : ∀y∈l,M.aFP.ok y) :
  ∀(n k:Nat),k<n->k<=l.length->nI a l x K n (k:Int)=K ((nPl (Gu a x) l k:Nat):Int)
 | 0,k,h,_=>by omega
 | n+1,0,h,_=>by simp only [nI,nPl];rw [if_neg qd]
 | n+1,k+1,h,hk=>by
  have hk':k<l.length:=by omega
  have e:i64.wrap (((k+1:Nat):Int)-1)=(k:Int):=by rw [bL qb qb];omega
  simp only [nI]
  rw [if_pos qd,e,aK hk',qA,MP hx (ho _ (qG hk')),qA,nPl,qF hk',Option.any_some]
  cases hc:Gu a x l[k] with
  | true=>rw [if_pos rfl,if_pos rfl];exact SH hl hx ho n k qb qb
  | false=>rw [if_neg qd,if_neg qd]
theorem RU {a:ByteArray} {l:List M.aFP} {x:M.aFP} {K:Int->Option (List M.aFP)} (hl:l.length<=1048576) (hx:x.ok) (ho : ∀y∈l,M.aFP.ok y) :
  ∀(n k:Nat),k<n->k<=l.length->nY a l x K n (k:Int)=K ((nPl (Gu a x) l k:Nat):Int)
 | 0,k,h,_=>by omega
 | n+1,0,h,_=>by simp only [nY,nPl];rw [if_neg qd]
 | n+1,k+1,h,hk=>by
  have hk':k<l.length:=by omega
  have e:i64.wrap (((k+1:Nat):Int)-1)=(k:Int):=by rw [bL qb qb];omega
  simp only [nY]
  rw [if_pos qd,e,aK hk',qA,HH hx (ho _ (qG hk')),qA,nPl,qF hk',Option.any_some]
  cases hc:Gu a x l[k] with
  | true=>rw [if_pos rfl,if_pos rfl];exact RU hl hx ho n k qb qb
  | false=>rw [if_neg qd,if_neg qd]
theorem Vg {s:M.aC} {a:ByteArray} (hs:s.ok) (hz:M.aC.sz s<=1048576):AF s a=some (Jd s a)/\(Jd s a).length<=s.aE7.length /\ ∀y∈Jd s a,M.aFP.ok y:=by
 have hl:s.aE7.length<=1048576:=by simp only [M.aC.sz] at hz;omega
 unfold AF Jd
 refine J1 (L:=lC s a) (xs:=s.aE7) (step:=Vy a) (I:=λk out=>out.length<=k /\ ∀y∈out,M.aFP.ok y) (E:=λout=>some out) hs.aE7.1 (λout k hk hi=>⟨?_,λy hy => ?_⟩) (λn out k hk hi => ?_) (λn out hi => ?_) [] ⟨Nat.le_refl _,qd⟩
 ·have:=PR a out s.aE7[k];have:=hi.1;omega
 ·rcases PM hy with rfl | hy;(exact hs.aE7.2 _ (qG hk));·exact hi.2 y hy
 ·have hx:=hs.aE7.2 _ (qG hk)
  have hzx:M.aFP.sz s.aE7[k]<=1073741824:=by have:=dV (f:=M.aFP.sz) (qG hk);simp only [M.aC.sz] at hz;omega
  have hi1:=hi.1
  simp only [lC]
  rw [if_pos (aY hk),aK hk,qA,sQ hx.aD,qA,bE qb,fX]
  unfold Vy
  by_cases hg:(jA s.aE7[k].aD a).2=true
  ·have hp:=QH (Gu a s.aE7[k]) out out.length;rw [if_pos hg,if_pos hg,SH qb hx hi.2 fuel out.length qi (Nat.le_refl _)];generalize nPl (Gu a s.aE7[k]) out out.length=p at hp;simp only [qH];rw [Cb hp,qA,dH qt,qA,Eg _ hzx,qA,dH qq,qA,dH qm,qA,qS,List.singleton_append]
  ·rw [if_neg hg,if_neg hg]
 ·simp only [lC];rw [if_neg qk]
theorem QQ {s:M.aC} {a:ByteArray} (hs:s.ok) (hz:M.aC.sz s<=1048576):Av s a=some (Jd s a)/\(Jd s a).length<=s.aE7.length /\ ∀y∈Jd s a,M.aFP.ok y:=by
 have hl:s.aE7.length<=1048576:=by simp only [M.aC.sz] at hz;omega
 unfold Av Jd
 refine J1 (L:=lB s a) (xs:=s.aE7) (step:=Vy a) (I:=λk out=>out.length<=k /\ ∀y∈out,M.aFP.ok y) (E:=λout=>some out) hs.aE7.1 (λout k hk hi=>⟨?_,λy hy => ?_⟩) (λn out k hk hi => ?_) (λn out hi => ?_) [] ⟨Nat.le_refl _,qd⟩
 ·have:=PR a out s.aE7[k];have:=hi.1;omega
 ·rcases PM hy with rfl | hy;(exact hs.aE7.2 _ (qG hk));·exact hi.2 y hy
 ·have hx:=hs.aE7.2 _ (qG hk)
  have hzx:M.aFP.sz s.aE7[k]<=1073741824:=by have:=dV (f:=M.aFP.sz) (qG hk);simp only [M.aC.sz] at hz;omega
  have hi1:=hi.1
  simp only [lB]
  rw [if_pos (aY hk),aK hk,qA,tE hx.aD,qA,bE qb,fX]
  unfold Vy
  by_cases hg:(jA s.aE7[k].aD a).2=true
  ·have hp:=QH (Gu a s.aE7[k]) out out.length;rw [if_pos hg,if_pos hg,RU qb hx hi.2 fuel out.length qi (Nat.le_refl _)];generalize nPl (Gu a s.aE7[k]) out out.length=p at hp;simp only [qH];rw [E0 _ hzx,qA,UI ⟨qb,by simpa using hp,qd,qs⟩,qA,List.singleton_append]
  ·rw [if_neg hg,if_neg hg]
 ·simp only [lB];rw [if_neg qk]
theorem TT {a:ByteArray} {l:List M.aFP} (ho : ∀y∈l,M.aFP.ok y) : ∀(n:Nat) (v:Int),lL a l n v=fH a l n v
 | 0,v=>rfl
 | n+1,v=>by
  simp only [lL,fH,TT ho n]
  cases h1:idx l (i64.wrap (v-1)) with
  | none=>rfl
  | some x =>
   have hx:=(ho x (SP h1)).aD
   simp only [qA,sQ hx,tE hx]
   cases h2:idx l v with
   | none=>rfl
   | some y =>
    have hy:=(ho y (SP h2)).aD
    simp only [qA,sQ hy,tE hy]
theorem Sf {a:ByteArray} {l:List M.aFP} (ho : ∀y∈l,M.aFP.ok y) (hl:l.length<=1048576) : ∀(n k:Nat),l.length-k<n->1<=k -> ∃r,fH a l n (k:Int)=some r
 | 0,k,h,_=>by omega
 | n+1,k,h,h1=>by
  simp only [fH]
  by_cases hk:k<l.length
  ·have e:i64.wrap ((k:Int)-1)=((k-1:Nat):Int):=by rw [bL qb qb];omega
   have hk1:k-1<l.length:=by omega
   rw [if_pos (aY hk),e,aK hk1,qA,tE (ho _ (qG hk1)).aD,qA,aK hk,qA,tE (ho _ (qG hk)).aD,qA,bE qb]
   split
   ·exact ⟨_,rfl⟩
   ·exact Sf ho hl n (k+1) qb qb
  ·rw [if_neg qc];exact ⟨_,rfl⟩
def LL (s:M.aC) (a:ByteArray):M.Key×M.Key×Bool:=(jP s a).getD (⟨0,0,⟨#[]⟩⟩,⟨0,0,⟨#[]⟩⟩,false)
theorem C6 {s:M.aC} {a:ByteArray} (hs:s.ok) (hz:M.aC.sz s<=1048576):jP s a=some (LL s a):=by
 obtain ⟨e,hl,ho⟩:=QQ (a:=a) hs hz
 have hl2:s.aE7.length<=1048576:=by simp only [M.aC.sz] at hz;omega
 obtain ⟨r,hr⟩:=Sf (a:=a) ho qb fuel 1 qi qb
 have:jP s a=some r:=by unfold jP;rw [e,qA];exact hr
 unfold LL
 rw [this]
 rfl
theorem G7 {s:M.aC} {a:ByteArray} (hs:s.ok) (hz:M.aC.sz s<=1048576):uM s a=some (LL s a):=by obtain ⟨e,hl,ho⟩:=Vg (a:=a) hs hz;obtain ⟨e2,_⟩:=QQ (a:=a) hs hz;rw [<-C6 hs hz];unfold uM jP;rw [e,e2,qA,qA];exact TT ho _ _
def Ef (l:List M.aC) (k:Nat):Bool:=(l[k]?).any hJ&&(decide (k=0)||(l[k-1]?).any λy=>(l[k]?).any λx=>Op.bytesLess y.Name.toList x.Name.toList)
def Cn (x y:M.aN):Bool:=(x.aC.toList==y.aC.toList)&&(x.Field.toList==y.Field.toList)
def LX (l:List M.aN) (k:Nat) (x:M.aN):Bool:=(List.range k).all λj => !((l[j]?).any λy=>Cn y x)
def EK (d:M.aE5) (k:Nat):Bool:=(d.aFQ[k]?).any λu=>decide (0<=lA (B4 u.aC) d.aFH)&&(mH u.Field&&(!((d.aFH[(lA (B4 u.aC) d.aFH).toNat]?).any λs=>(LL s u.Field).2.2)&&LX d.aFQ k u))
def nDb (d:M.aE5):Bool:=(List.range d.aFH.length).all (Ef d.aFH)&&((List.range d.aFQ.length).all (EK d)&&(mH d.Name&&(inR d.aE3 0 1000&&(decide (d.aFH.length<=4)&&decide (d.aFQ.length<=4)))))
theorem Ux {l:List M.aN} {k:Nat} {x:M.aN} (hk:k<=l.length):(l.take k).any (Cn x) = !(LX l k x):=by
 have hc : ∀y,Cn y x=Cn x y:=λy=>by unfold Cn;rw [BEq.comm (a:=y.aC.toList),BEq.comm (a:=y.Field.toList)]
 unfold LX
 rw [Bool.eq_iff_iff]
 simp only [List.any_eq_true,Bool.not_eq_true',List.all_eq_false,qR,Bool.not_eq_true,Bool.not_eq_false',hc]
 constructor
 ·rintro ⟨y,hy,hs⟩;obtain ⟨j,hj,rfl⟩:=List.mem_iff_getElem.1 hy;rw [qT] at hj;refine ⟨j,qb,?_⟩;rw [qF qb,Option.any_some];rw [List.getElem_take] at hs;simp [hs]
 ·rintro ⟨j,hj,hs⟩;rw [qF qb,Option.any_some] at hs;refine ⟨l[j],List.mem_iff_getElem.2 ⟨j,by rw [qT];omega,by rw [List.getElem_take]⟩,by simpa using hs⟩
theorem Ld {l:List M.aN} {x:M.aN} (hl:l.length<=maxLen):jC l x=some (l.any (Cn x)):=by
 have hm:=le_max hl
 have:mG l x=some (lA (Cn x) l):=by unfold mG;rw [findAll (L:=dQ l x) (f:=Cn x) (A:=λi=>some (i:Int)) (E:=some (-1)) hl (λm k hk => ?_) (λm => ?_),rN];(simp only [dQ];rw [if_pos (aY hk),aK hk,qA,bE qb];rfl);·simp only [dQ];rw [if_neg qk]
 unfold jC
 rw [this,qA,Ho]
theorem Ru {d:M.aE5} {u:M.aN} {k:Nat} {K:Int->Option Bool} (hm:d.aFQ.length<=maxLen) (hk:k<=d.aFQ.length):gI d (k:Int) u K fuel 0=if LX d.aFQ k u=true then K (k:Int) else some false:=by
 have hm':=le_max hm
 refine nH (L:=gI d (k:Int) u K) (g:=λj => !((d.aFQ[j]?).any λy=>Cn y u)) (F:=some false) (E:=K (k:Int)) (Nat.le_trans hk hm) (λn j hj => ?_) (λn => ?_)
 ·have hj':j<d.aFQ.length:=by omega
  simp only [gI]
  rw [if_pos (aY hj),aK hj',qA,bE qb,qF hj',Option.any_some,fX]
  rfl
 ·simp only [gI];rw [if_neg qk]
theorem QN {d:M.aE5} (hz:M.aE5.sz d<=1048576) : ∀s∈d.aFH,M.aC.sz s<=1048576:=λs hs=>by have:=dV (f:=M.aC.sz) hs;simp only [M.aE5.sz] at hz;omega
theorem Qm (a b:List UInt8):(Op.bytesLess a b||a==b) = !(Op.bytesLess b a):=by have h:=Cv b a;cases h1:Op.bytesLess b a<;>cases h2:(Op.bytesLess a b||a==b)<;>simp_all
theorem sG {d:M.aE5} (hd:d.ok) (hz:M.aE5.sz d<=1048576):bU d=some (nDb d):=by
 have hm:=le_max hd.aFH.1
 have hm2:=le_max hd.aFQ.1
 unfold bU nDb
 rw [nH (L:=eP d) (g:=Ef d.aFH) (F:=some false) (E:=eQ d fuel 0) hd.aFH.1 (λn k hk => ?_) (λn => ?_),
  nH (L:=eQ d) (g:=EK d) (F:=some false) (E:=some (mH d.Name&&(inR d.aE3 0 1000&&(decide (d.aFH.length<=4)&&decide (d.aFQ.length<=4))))) hd.aFQ.1 (λn k hk => ?_) (λn => ?_),aZ,aZ]
 ·have hf:=hd.aFQ.2 _ (qG hk)
  simp only [eQ]
  rw [if_pos (aY hk),aK hk,qA,Ca hd,qA,bE qb]
  unfold EK
  rw [qF hk,Option.any_some,cZ hf.Field,qA]
  by_cases h:lA (B4 d.aFQ[k].aC) d.aFH<0
  ·rw [if_pos (by simpa using h),decide_eq_false qb];simp
  ·obtain ⟨j,e,hj⟩:=gD h
   have hs:=hd.aFH.2 _ (qG hj)
   rw [if_neg (by simpa using h),e,aK hj,qA,G7 hs (QN hz _ (qG hj)),qA,qH,qF hj,Option.any_some,Ru hd.aFQ.1 qb]
   have:decide ((0:Int)<=(j:Int))=true:=by simp
   rw [this]
   generalize eQ d n ((k+1:Nat):Int)=Z
   cases mH d.aFQ[k].Field<;>cases (LL d.aFH[j] d.aFQ[k].Field).2.2<;>cases LX d.aFQ k d.aFQ[k]<;>simp
 ·simp only [eQ]
  rw [if_neg qk,cZ hd.Name,qA,cD,qA,aZ,aZ,aZ]
  congr 3
  have e1:decide ((d.aFH.length:Int)<=4)=decide (d.aFH.length<=4):=by rw [Bool.eq_iff_iff];simp;omega
  have e2:decide ((d.aFQ.length:Int)<=4)=decide (d.aFQ.length<=4):=by rw [Bool.eq_iff_iff];simp;omega
  rw [e1,e2]
 ·have hf:=hd.aFH.2 _ (qG hk)
  simp only [eP]
  rw [if_pos (aY hk),aK hk,qA,bE qb,yP hf,qA]
  unfold Ef
  rw [qF hk]
  generalize eP d n ((k+1:Nat):Int)=Z
  by_cases h0:k=0
  ·subst h0;simp only [Option.any_some];cases hJ d.aFH[0]<;>simp
  ·have e:i64.wrap ((k:Int)-1)=((k-1:Nat):Int):=by rw [bL qb qb];omega
   have hk1:k-1<d.aFH.length:=by omega
   rw [if_pos (c:=(decide ((k:Int)>0))=true) qc,e,aK hk1,qA,qF hk1]
   simp only [Option.any_some,h0,decide_false,Bool.false_or]
   cases hJ d.aFH[k]<;>cases Op.bytesLess d.aFH[k-1].Name.toList d.aFH[k].Name.toList<;>simp
 ·simp only [eP];rw [if_neg qk]
theorem Ic {d:M.aE5} (hd:d.ok) (hz:M.aE5.sz d<=1048576):wC d=some (nDb d):=by
 have hm:=le_max hd.aFH.1
 have hm2:=le_max hd.aFQ.1
 unfold wC nDb
 rw [nH (L:=eO d) (g:=Ef d.aFH) (F:=some false) (E:=eS d fuel 0) hd.aFH.1 (λn k hk => ?_) (λn => ?_),
  nH (L:=eS d) (g:=EK d) (F:=some false) (E:=some true) hd.aFQ.1 (λn k hk => ?_) (λn => ?_)]
 ·simp only [dX hd.Name,bX,qA]
  have e1:decide ((d.aFH.length:Int)>4) = !decide (d.aFH.length<=4):=by rw [Bool.eq_iff_iff];simp;omega
  have e2:decide ((d.aFQ.length:Int)>4) = !decide (d.aFQ.length<=4):=by rw [Bool.eq_iff_iff];simp;omega
  rw [e1,e2]
  cases mH d.Name<;>cases inR d.aE3 0 1000<;>cases decide (d.aFH.length<=4)<;>cases decide (d.aFQ.length<=4)<;>cases (List.range d.aFH.length).all (Ef d.aFH)<;>cases (List.range d.aFQ.length).all (EK d)<;>rfl
 ·have hf:=hd.aFQ.2 _ (qG hk)
  simp only [eS]
  rw [if_pos (aY hk),aK hk,qA,Jl hd,qA,bE qb]
  unfold EK
  rw [qF hk,Option.any_some,dX hf.Field,qA,Cb qb,qA,qH,Ld (Nat.le_trans (by rw [qT];exact Nat.min_le_right _ _) hd.aFQ.1),qA,Ux qb]
  by_cases h:lA (B4 d.aFQ[k].aC) d.aFH<0
  ·rw [if_pos (by simpa using h),decide_eq_false qb];simp
  ·obtain ⟨j,e,hj⟩:=gD h
   have hs:=hd.aFH.2 _ (qG hj)
   rw [if_neg (by simpa using h),e,aK hj,qA,C6 hs (QN hz _ (qG hj)),qA,qH,qF hj,Option.any_some]
   have:decide ((0:Int)<=(j:Int))=true:=by simp
   rw [this]
   generalize eS d n ((k+1:Nat):Int)=Z
   cases mH d.aFQ[k].Field<;>cases (LL d.aFH[j] d.aFQ[k].Field).2.2<;>cases LX d.aFQ k d.aFQ[k]<;>simp
 ·simp only [eS];rw [if_neg qk]
 ·have hf:=hd.aFH.2 _ (qG hk)
  simp only [eO]
  rw [if_pos (aY hk),aK hk,qA,bE qb,C9 hf,qA]
  unfold Ef
  rw [qF hk]
  generalize eO d n ((k+1:Nat):Int)=Z
  by_cases h0:k=0
  ·subst h0;simp only [Option.any_some];cases hJ d.aFH[0]<;>simp
  ·have e:i64.wrap ((k:Int)-1)=((k-1:Nat):Int):=by rw [bL qb qb];omega
   have hk1:k-1<d.aFH.length:=by omega
   rw [if_pos (c:=(decide ((k:Int)>0))=true) qc,e,aK hk1,qA,qF hk1,Qm]
   simp only [Option.any_some,h0,decide_false,Bool.false_or]
   cases hJ d.aFH[k]<;>cases Op.bytesLess d.aFH[k-1].Name.toList d.aFH[k].Name.toList<;>simp
 ·simp only [eO];rw [if_neg qk]
def A6 (b:M.aJ):Bool:=mH b.aFD&&(mH b.Top&&(Y9 b.aE4&&((b.aE4.aFD.toList==b.aFD.toList)&&(kC b.aE6&&(nDb b.bV.aFT&&(BN b.aG&&(inR b.aFf 0 1000000000000&&decide (N2 b<=2500))))))))
theorem DC {b:M.aJ} (hz:M.aJ.sz b<=1048576):M.aE5.sz b.bV.aFT<=1048576:=by simp only [M.aJ.sz,M.bV.sz] at hz;omega
theorem Et {b:M.aJ} (hb:b.ok) (hz:M.aE5.sz b.bV.aFT<=1048576):wT b=some (A6 b):=by unfold wT A6;simp only [cZ hb.aFD,cZ hb.Top,BZ hb.aE4,oF hb.aE6,sG hb.bV.aFT hz,AN hb.aG,cD,Ls hb,qA,aZ]
theorem JE {b:M.aJ} (hb:b.ok) (hz:M.aE5.sz b.bV.aFT<=1048576):zN b=some (A6 b):=by unfold zN A6;simp only [dX hb.aFD,dX hb.Top,Fk hb.aE4,HW hb.aE6,Ic hb.bV.aFT hz,Jj hb.aG,bX,LA hb,qA,aZ]
def DZ (x y:M.aJ):Bool:=Op.bytesLess x.aFD.toList y.aFD.toList||((x.aFD.toList==y.aFD.toList)&&Op.bytesLess x.Top.toList y.Top.toList)
theorem Ga (x y:M.aJ):yJ x y.aFD y.Top=some (DZ x y):=by unfold yJ DZ;cases Op.bytesLess x.aFD.toList y.aFD.toList<;>cases (x.aFD.toList==y.aFD.toList)<;>simp
theorem Gv (x y:M.aJ):tG x y=some (DZ x y):=by unfold tG DZ;cases Op.bytesLess x.aFD.toList y.aFD.toList<;>cases (x.aFD.toList==y.aFD.toList)<;>simp
def Dp (l:List M.aJ) (k:Nat):Bool:=(l[k]?).any A6&&(decide (k=0)||(l[k-1]?).any λy=>(l[k]?).any λx=>DZ y x)
def rT (s:M.aA):Bool:=(List.range s.aE8.length).all (Dp s.aE8)&&decide ((s.aE8.length:Int)<=9)
theorem Bx {s:M.aA} (hs:s.ok) (hz : ∀b∈s.aE8,M.aE5.sz b.bV.aFT<=1048576):cH s=some (rT s):=by
 have hm:=le_max hs.aE8.1
 unfold cH rT
 rw [nH (L:=gA s) (g:=Dp s.aE8) (F:=some false) (E:=some (decide ((s.aE8.length:Int)<=9))) hs.aE8.1 (λn k hk => ?_) (λn => ?_),aZ]
 ·have hf:=hs.aE8.2 _ (qG hk)
  have hzb:M.aE5.sz s.aE8[k].bV.aFT<=1048576:=hz _ (qG hk)
  simp only [gA]
  rw [if_pos (aY hk),aK hk,qA,bE qb,Et hf hzb,qA]
  unfold Dp
  rw [qF hk]
  generalize gA s n ((k+1:Nat):Int)=Z
  by_cases h0:k=0
  ·subst h0;simp only [Option.any_some];cases A6 s.aE8[0]<;>simp
  ·have e:i64.wrap ((k:Int)-1)=((k-1:Nat):Int):=by rw [bL qb qb];omega
   have hk1:k-1<s.aE8.length:=by omega
   rw [if_pos (c:=(decide ((k:Int)>0))=true) qc,e,aK hk1,qA,Ga,qA,qF hk1]
   simp only [Option.any_some,h0,decide_false,Bool.false_or]
   cases A6 s.aE8[k]<;>cases DZ s.aE8[k-1] s.aE8[k]<;>simp
 ·simp only [gA];rw [if_neg qk]
theorem JD {s:M.aA} (hs:s.ok) (hz:M.aA.sz s<=1048576):cH s=some (rT s):=Bx hs (λb hb=>DC (by have:=dV (f:=M.aJ.sz) hb;simp only [M.aA.sz] at hz;omega))
theorem Ia {s:M.aA} (hs:s.ok) (hz : ∀b∈s.aE8,M.aE5.sz b.bV.aFT<=1048576):xX s=some (rT s):=by
 have hm:=le_max hs.aE8.1
 unfold xX rT
 rw [nH (L:=fW s) (g:=Dp s.aE8) (F:=some false) (E:=some (decide ((s.aE8.length:Int)<=9))) hs.aE8.1 (λn k hk => ?_) (λn => ?_),aZ]
 ·have hf:=hs.aE8.2 _ (qG hk)
  have hzb:M.aE5.sz s.aE8[k].bV.aFT<=1048576:=hz _ (qG hk)
  simp only [fW]
  rw [if_pos (aY hk),aK hk,qA,bE qb,JE hf hzb,qA]
  unfold Dp
  rw [qF hk]
  generalize fW s n ((k+1:Nat):Int)=Z
  by_cases h0:k=0
  ·subst h0;simp only [Option.any_some];cases A6 s.aE8[0]<;>simp
  ·have e:i64.wrap ((k:Int)-1)=((k-1:Nat):Int):=by rw [bL qb qb];omega
   have hk1:k-1<s.aE8.length:=by omega
   rw [if_pos (c:=(decide ((k:Int)>0))=true) qc,e,aK hk1,qA,Gv,qA,qF hk1]
   simp only [Option.any_some,h0,decide_false,Bool.false_or]
   cases A6 s.aE8[k]<;>cases DZ s.aE8[k-1] s.aE8[k]<;>simp
 ·simp only [fW];rw [if_neg qk]
def rZ:M.aJ:=(⟨(⟨#[]⟩:ByteArray),(⟨#[]⟩:ByteArray),(⟨(⟨#[]⟩:ByteArray),0,0,0⟩:M.aE4),(⟨([]:List M.aFE)⟩:M.aE),(⟨(⟨(⟨#[]⟩:ByteArray),0,([]:List M.aC),([]:List M.aN)⟩:M.aE5),([]:List Int),0⟩:M.bV),(⟨(⟨(⟨#[]⟩:ByteArray),([]:List M.aFP),0⟩:M.aC),0,(⟨(⟨0,0,([]:List M.bD)⟩:M.aM),0,0⟩:M.aFS)⟩:M.aG),0,false⟩:M.aJ)
def DE (a b:ByteArray) (d:Int):M.aJ:=(⟨a,b,(⟨a,0,0,0⟩:M.aE4),(⟨([]:List M.aFE)⟩:M.aE),(⟨(⟨(⟨#[97,112,112]⟩:ByteArray),1,[(⟨(⟨#[110,111,116,101,115]⟩:ByteArray),([]:List M.aFP),0⟩:M.aC)],([]:List M.aN)⟩:M.aE5),([]:List Int),0⟩:M.bV),(⟨(⟨(⟨#[110,111,116,101,115]⟩:ByteArray),([]:List M.aFP),0⟩:M.aC),0,(⟨(⟨d,1,([]:List M.bD)⟩:M.aM),0,0⟩:M.aFS)⟩:M.aG),0,false⟩:M.aJ)
theorem vZ:inI 0:=by unfold inI;omega
theorem Q6:inI 1:=by unfold inI;omega
theorem QR (n:Nat) (h:n<=1048576):n<=maxLen:=by unfold maxLen;omega
theorem sz0:((⟨#[]⟩:ByteArray)).size<=maxLen:=QR _ qe
theorem sz5:((⟨#[110,111,116,101,115]⟩:ByteArray)).size<=maxLen:=QR _ qe
theorem sz3:((⟨#[97,112,112]⟩:ByteArray)).size<=maxLen:=QR _ qe
theorem V8 {d:Int} (n:Int) (hd:inI d) (hn:inI n):M.aM.ok (⟨d,n,([]:List M.bD)⟩:M.aM):=⟨hd,hn,⟨qd,qd⟩⟩
theorem J3:rZ.ok:=⟨sz0,sz0,⟨sz0,vZ,vZ,vZ⟩,⟨⟨by simp [rZ],by simp [rZ]⟩⟩,⟨⟨sz0,vZ,⟨by simp [rZ],by simp [rZ]⟩,⟨by simp [rZ],by simp [rZ]⟩⟩,⟨by simp [rZ],by simp [rZ]⟩,vZ⟩,⟨⟨sz0,⟨by simp [rZ],by simp [rZ]⟩,vZ⟩,vZ,⟨⟨vZ,vZ,⟨by simp [rZ],by simp [rZ]⟩⟩,vZ,vZ⟩⟩,vZ⟩
theorem Tf:M.aC.ok (⟨(⟨#[110,111,116,101,115]⟩:ByteArray),([]:List M.aFP),0⟩:M.aC):=⟨sz5,⟨qd,qd⟩,vZ⟩
theorem Mu {a b:ByteArray} {d:Int} (ha:a.size<=maxLen) (hb:b.size<=maxLen) (hd:inI d):(DE a b d).ok:=
 ⟨ha,hb,⟨ha,vZ,vZ,vZ⟩,⟨⟨by simp [DE],by simp [DE]⟩⟩,⟨⟨sz3,Q6,⟨QR _ (by simp [DE]),λy hy=>by simp only [DE,List.mem_cons,qO,or_false] at hy;subst hy;exact Tf⟩,⟨by simp [DE],by simp [DE]⟩⟩,⟨by simp [DE],by simp [DE]⟩,vZ⟩,⟨Tf,vZ,⟨V8 1 hd Q6,vZ,vZ⟩⟩,vZ⟩
theorem PK (a b:ByteArray) (d:Int):M.aE5.sz (DE a b d).bV.aFT<=1048576:=by simp only [DE];decide
def Ce (a b:ByteArray) (d:Int):M.aJ×Bool:=if sN (⟨d,1,([]:List M.bD)⟩:M.aM)=true then (if A6 (DE a b d)=true then (DE a b d,true) else (rZ,false)) else (rZ,false)
theorem Ex {a b:ByteArray} {d:Int} (ha:a.size<=maxLen) (hb:b.size<=maxLen) (hd:inI d):pQ a b d=some (Ce a b d):=by
 unfold pQ mX Ce
 rw [oV (V8 1 hd Q6),qA]
 cases hn:sN (⟨d,1,([]:List M.bD)⟩:M.aM) with
 | false=>simp [rZ]
 | true =>
  have hI:=Et (Mu ha hb hd) (PK a b d)
  unfold DE at hI
  simp only [qB,qD,if_false,qA,hI,if_true]
  unfold DE
  generalize A6 _=c
  cases c<;>simp [rZ]
theorem P8 {a b:ByteArray} {d:Int} (ha:a.size<=maxLen) (hb:b.size<=maxLen) (hd:inI d):(Ce a b d).1.ok:=by unfold Ce;split;(split;(exact Mu ha hb hd);·exact J3);·exact J3
theorem bI (x:Int):inI (i64.wrap x):=by unfold inI;rw [IntKind.wrap_i64];omega
def A0 (x y:Int):Bool:=x==y
theorem Oe {xs ys:List Int} (hx:xs.length<=maxLen):tI xs ys=some (eqL A0 xs ys):=by
 have hm:=le_max hx
 unfold tI
 rw [DY (f:=A0) hx (E:=some true) (λn k hk hk'=>by
  simp only [jR]
  rw [if_pos (aY hk),aK hk,aK hk',qA,qA,bE qb]
  first | rw [fX];rfl | rw [tM];rfl) (λn=>by
  simp only [jR]
  rw [if_neg qk]),aZ,Bool.and_true]
def Ng (x y:Int):Bool:=x==y
theorem OX {xs ys:List Int} (hx:xs.length<=maxLen):uU xs ys=some (eqL Ng xs ys):=by
 have hm:=le_max hx
 unfold uU
 rw [DY (f:=Ng) hx (E:=some true) (λn k hk hk'=>by
  simp only [lH]
  rw [if_pos (aY hk),aK hk,aK hk',qA,qA,bE qb]
  first | rw [fX];rfl | rw [tM];rfl) (λn=>by
  simp only [lH]
  rw [if_neg qk]),aZ,Bool.and_true]
def Fe (x y:ByteArray):Bool:=x.toList==y.toList
theorem Lw {xs ys:List ByteArray} (hx:xs.length<=maxLen):oP xs ys=some (eqL Fe xs ys):=by
 have hm:=le_max hx
 unfold oP
 rw [DY (f:=Fe) hx (E:=some true) (λn k hk hk'=>by
  simp only [gW]
  rw [if_pos (aY hk),aK hk,aK hk',qA,qA,bE qb]
  first | rw [fX];rfl | rw [tM];rfl) (λn=>by
  simp only [gW]
  rw [if_neg qk]),aZ,Bool.and_true]
def JT (x y:M.Field):Bool:=((x.Name.toList==y.Name.toList)&&(x.N==y.N))
theorem MY {xs ys:List M.Field} (hx:xs.length<=maxLen):rK xs ys=some (eqL JT xs ys):=by
 have hm:=le_max hx
 unfold rK
 rw [DY (f:=JT) hx (E:=some true) (λn k hk hk'=>by
  simp only [iY]
  rw [if_pos (aY hk),aK hk,aK hk',qA,qA,bE qb]
  first | rw [fX];rfl | rw [tM];rfl) (λn=>by
  simp only [iY]
  rw [if_neg qk]),aZ,Bool.and_true]
def CP (x y:M.aN):Bool:=((x.aC.toList==y.aC.toList)&&(x.Field.toList==y.Field.toList))
theorem Ji {xs ys:List M.aN} (hx:xs.length<=maxLen):mN xs ys=some (eqL CP xs ys):=by
 have hm:=le_max hx
 unfold mN
 rw [DY (f:=CP) hx (E:=some true) (λn k hk hk'=>by
  simp only [fM]
  rw [if_pos (aY hk),aK hk,aK hk',qA,qA,bE qb]
  first | rw [fX];rfl | rw [tM];rfl) (λn=>by
  simp only [fM]
  rw [if_neg qk]),aZ,Bool.and_true]
def C2 (x y:M.bD):Bool:=((x.aFC==y.aFC)&&((x.Seq==y.Seq)&&((x.Key.aFU==y.Key.aFU)&&((x.Key.N==y.Key.N)&&((x.Key.aFb.toList==y.Key.aFb.toList)&&((x.Field.toList==y.Field.toList)&&(x.N==y.N)))))))
theorem G6 {xs ys:List M.bD} (hx:xs.length<=maxLen):mU xs ys=some (eqL C2 xs ys):=by
 have hm:=le_max hx
 unfold mU
 rw [DY (f:=C2) hx (E:=some true) (λn k hk hk'=>by
  simp only [iO]
  rw [if_pos (aY hk),aK hk,aK hk',qA,qA,bE qb]
  first | rw [fX];rfl | rw [tM];rfl) (λn=>by
  simp only [iO]
  rw [if_neg qk]),aZ,Bool.and_true]
def HP (x y:M.Instr):Bool:=((x.aFU==y.aFU)&&((x.R==y.R)&&((x.N==y.N)&&(x.aFb.toList==y.aFb.toList))))
theorem Na {xs ys:List M.Instr} (hx:xs.length<=maxLen):rH xs ys=some (eqL HP xs ys):=by
 have hm:=le_max hx
 unfold rH
 rw [DY (f:=HP) hx (E:=some true) (λn k hk hk'=>by
  simp only [iT]
  rw [if_pos (aY hk),aK hk,aK hk',qA,qA,bE qb]
  first | rw [fX];rfl | rw [tM];rfl) (λn=>by
  simp only [iT]
  rw [if_neg qk]),aZ,Bool.and_true]
def EG (x y:M.aU):Bool:=((x.aFo.toList==y.aFo.toList)&&(x.aE3==y.aE3))
theorem Lh {xs ys:List M.aU} (hx:xs.length<=maxLen):oO xs ys=some (eqL EG xs ys):=by
 have hm:=le_max hx
 unfold oO
 rw [DY (f:=EG) hx (E:=some true) (λn k hk hk'=>by
  simp only [gX]
  rw [if_pos (aY hk),aK hk,aK hk',qA,qA,bE qb]
  first | rw [fX];rfl | rw [tM];rfl) (λn=>by
  simp only [gX]
  rw [if_neg qk]),aZ,Bool.and_true]
def K0 (x y:M.mZ):Bool:=((x.Name.toList==y.Name.toList)&&((x.bC==y.bC)&&((x.aFj==y.aFj)&&(x.aF0==y.aF0))))
theorem ND {xs ys:List M.mZ} (hx:xs.length<=maxLen):sZ xs ys=some (eqL K0 xs ys):=by
 have hm:=le_max hx
 unfold sZ
 rw [DY (f:=K0) hx (E:=some true) (λn k hk hk'=>by
  simp only [jT]
  rw [if_pos (aY hk),aK hk,aK hk',qA,qA,bE qb]
  first | rw [fX];rfl | rw [tM];rfl) (λn=>by
  simp only [jT]
  rw [if_neg qk]),aZ,Bool.and_true]
def Kp (x y:M.tB):Bool:=((x.To==y.To)&&((x.aF5==y.aF5)&&(x.N==y.N)))
theorem Nt {xs ys:List M.tB} (hx:xs.length<=maxLen):tK xs ys=some (eqL Kp xs ys):=by
 have hm:=le_max hx
 unfold tK
 rw [DY (f:=Kp) hx (E:=some true) (λn k hk hk'=>by
  simp only [jS]
  rw [if_pos (aY hk),aK hk,aK hk',qA,qA,bE qb]
  first | rw [fX];rfl | rw [tM];rfl) (λn=>by
  simp only [jS]
  rw [if_neg qk]),aZ,Bool.and_true]
def Dz (x y:M.aO):Bool:=((x.aFC==y.aFC)&&(x.Seq==y.Seq))
theorem KA {xs ys:List M.aO} (hx:xs.length<=maxLen):nF xs ys=some (eqL Dz xs ys):=by
 have hm:=le_max hx
 unfold nF
 rw [DY (f:=Dz) hx (E:=some true) (λn k hk hk'=>by
  simp only [gG]
  rw [if_pos (aY hk),aK hk,aK hk',qA,qA,bE qb]
  first | rw [fX];rfl | rw [tM];rfl) (λn=>by
  simp only [gG]
  rw [if_neg qk]),aZ,Bool.and_true]
theorem Hb {p:M.aFL->M.aFL->Option Bool} {f:M.aFL->M.aFL->Bool} {xs ys:List M.aFL} (hx:xs.length<=maxLen) (hp : ∀x∈xs,∀y∈ys,p x y=some (f x y)):jW xs ys p=some (eqL f xs ys):=by
 have hm:=le_max hx
 unfold jW
 rw [DY (f:=f) hx (E:=some true) (λn k hk hk'=>by
  simp only [eE]
  rw [if_pos (aY hk),aK hk,aK hk',qA,qA,bE qb]
  rw [hp _ (qG hk) _ (qG hk'),qA,fX]) (λn=>by
  simp only [eE]
  rw [if_neg qk]),aZ,Bool.and_true]
theorem Io {p:M.aFE->M.aFE->Option Bool} {f:M.aFE->M.aFE->Bool} {xs ys:List M.aFE} (hx:xs.length<=maxLen) (hp : ∀x∈xs,∀y∈ys,p x y=some (f x y)):lD xs ys p=some (eqL f xs ys):=by
 have hm:=le_max hx
 unfold lD
 rw [DY (f:=f) hx (E:=some true) (λn k hk hk'=>by
  simp only [fA]
  rw [if_pos (aY hk),aK hk,aK hk',qA,qA,bE qb]
  rw [hp _ (qG hk) _ (qG hk'),qA,fX]) (λn=>by
  simp only [fA]
  rw [if_neg qk]),aZ,Bool.and_true]
theorem Js {p:M.aFP->M.aFP->Option Bool} {f:M.aFP->M.aFP->Bool} {xs ys:List M.aFP} (hx:xs.length<=maxLen) (hp : ∀x∈xs,∀y∈ys,p x y=some (f x y)):mB xs ys p=some (eqL f xs ys):=by
 have hm:=le_max hx
 unfold mB
 rw [DY (f:=f) hx (E:=some true) (λn k hk hk'=>by
  simp only [fN]
  rw [if_pos (aY hk),aK hk,aK hk',qA,qA,bE qb]
  rw [hp _ (qG hk) _ (qG hk'),qA,fX]) (λn=>by
  simp only [fN]
  rw [if_neg qk]),aZ,Bool.and_true]
theorem H4 {p:M.aC->M.aC->Option Bool} {f:M.aC->M.aC->Bool} {xs ys:List M.aC} (hx:xs.length<=maxLen) (hp : ∀x∈xs,∀y∈ys,p x y=some (f x y)):lQ xs ys p=some (eqL f xs ys):=by
 have hm:=le_max hx
 unfold lQ
 rw [DY (f:=f) hx (E:=some true) (λn k hk hk'=>by
  simp only [eX]
  rw [if_pos (aY hk),aK hk,aK hk',qA,qA,bE qb]
  rw [hp _ (qG hk) _ (qG hk'),qA,fX]) (λn=>by
  simp only [eX]
  rw [if_neg qk]),aZ,Bool.and_true]
theorem Hk {p:M.aJ->M.aJ->Option Bool} {f:M.aJ->M.aJ->Bool} {xs ys:List M.aJ} (hx:xs.length<=maxLen) (hp : ∀x∈xs,∀y∈ys,p x y=some (f x y)):jX xs ys p=some (eqL f xs ys):=by
 have hm:=le_max hx
 unfold jX
 rw [DY (f:=f) hx (E:=some true) (λn k hk hk'=>by
  simp only [eD]
  rw [if_pos (aY hk),aK hk,aK hk',qA,qA,bE qb]
  rw [hp _ (qG hk) _ (qG hk'),qA,fX]) (λn=>by
  simp only [eD]
  rw [if_neg qk]),aZ,Bool.and_true]
theorem Jq {p:M.bC->M.bC->Option Bool} {f:M.bC->M.bC->Bool} {xs ys:List M.bC} (hx:xs.length<=maxLen) (hp : ∀x∈xs,∀y∈ys,p x y=some (f x y)):mA xs ys p=some (eqL f xs ys):=by
 have hm:=le_max hx
 unfold mA
 rw [DY (f:=f) hx (E:=some true) (λn k hk hk'=>by
  simp only [fP]
  rw [if_pos (aY hk),aK hk,aK hk',qA,qA,bE qb]
  rw [hp _ (qG hk) _ (qG hk'),qA,fX]) (λn=>by
  simp only [fP]
  rw [if_neg qk]),aZ,Bool.and_true]
theorem Jw {p:M.aFD->M.aFD->Option Bool} {f:M.aFD->M.aFD->Bool} {xs ys:List M.aFD} (hx:xs.length<=maxLen) (hp : ∀x∈xs,∀y∈ys,p x y=some (f x y)):mM xs ys p=some (eqL f xs ys):=by
 have hm:=le_max hx
 unfold mM
 rw [DY (f:=f) hx (E:=some true) (λn k hk hk'=>by
  simp only [fO]
  rw [if_pos (aY hk),aK hk,aK hk',qA,qA,bE qb]
  rw [hp _ (qG hk) _ (qG hk'),qA,fX]) (λn=>by
  simp only [fO]
  rw [if_neg qk]),aZ,Bool.and_true]
end Go.Proofs.YtipmihbgjolaaaaGreat.gen
