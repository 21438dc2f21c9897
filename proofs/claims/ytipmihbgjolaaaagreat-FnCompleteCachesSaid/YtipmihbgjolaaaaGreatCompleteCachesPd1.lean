/-
  Helper text. No conditions.
-/
import Derived.Test.YtipmihbgjolaaaaGreatCompleteCachesPd0
set_option linter.unusedVariables false
set_option linter.unusedSimpArgs false
namespace Go.Proofs.YtipmihbgjolaaaaGreat.gen
open Go Go.Sh
open Go.IntKind (i64)
theorem Ik {r:M.aE} {a:ByteArray} (hm:r.aGn.length<=9223372036854775807) : ∀(n k:Nat),r.aGn.length-k<n->k<=r.aGn.length->rA r a n (k:Int)=some (match (r.aGn.drop k).find? (rD a) with | some x=>(x.N,true) | none=>(0,false))
 | 0,k,h,_=>by omega
 | n+1,k,h,hk=>by
  simp only [rA]
  rcases Nat.lt_or_ge k r.aGn.length with h1 | h1
  ·rw [if_pos (aY h1),aK h1,qA,bD qb,Ik hm n (k+1) qb h1,qV h1,List.find?_cons]
   cases e:rD a r.aGn[k] with
   | true=>rw [if_pos (show (r.aGn[k].Name.toList==a.toList)=true from e)]
   | false=>rw [if_neg (by rw [show (r.aGn[k].Name.toList==a.toList)=false from e];simp)]
  ·have:k=r.aGn.length:=by omega
   subst this
   rw [if_neg qk,qY]
   rfl
theorem tQ {r:M.aE} {a:ByteArray} (hr:r.ok):kO r a=some (jI r a):=by have hm:=le_max hr.aGn.1;have:=Ik (a:=a) hm fuel 0 qi qb;exact this
theorem uE {r:M.aE} {a:ByteArray} (hr:r.ok):mV r a=some (jI r a):=by
 unfold mV Cm jI
 rw [I0 (f:=rD a) hr.aGn.1 (λx _=>by simp only [yH];rfl),qA,qA]
 by_cases h:kG (rD a) r.aGn<0
 ·rw [if_pos (by simpa using h)]
  have:r.aGn.find? (rD a)=none:=by have h2:=HU (rD a) r.aGn;rw [decide_eq_false qb] at h2;rw [List.find?_eq_none];intro x hx hf;have h3:r.aGn.any (rD a)=true:=List.any_eq_true.2 ⟨x,hx,hf⟩;rw [<-h2] at h3;cases h3
  rw [this]
 ·obtain ⟨k,e,hk⟩:=fI h
  rw [if_neg (by simpa using h),e,aK hk,qA]
  have e2:r.aGn.findIdx? (rD a)=some k:=by
   unfold kG at e
   cases e3:r.aGn.findIdx? (rD a) with
   | none=>rw [e3] at e;simp only at e;omega
   | some i=>rw [e3] at e;simp only at e;congr 1;omega
  have e4:=List.findIdx?_eq_some_iff_getElem.1 e2
  have:r.aGn.find? (rD a)=some r.aGn[k]:=by rw [List.find?_eq_some_iff_getElem];exact ⟨e4.2.1,k,hk,rfl,λj hj=>by simpa using e4.2.2 j hj⟩
  rw [this]
def G4 (a:ByteArray) (x y:M.aG1):Bool:=decide ((jI x.aE a).1<(jI y.aE a).1)||(((jI x.aE a).1==(jI y.aE a).1)&&decide (dC x.Key y.Key<0))
theorem NC {x y:M.aG1} {a:ByteArray} (hx:x.ok) (hy:y.ok):BW x y a=some (G4 a x y):=by unfold BW G4;simp only [tQ hx.aE,tQ hy.aE,wG hx.Key hy.Key,qA,aZ];cases decide ((jI x.aE a).1<(jI y.aE a).1)<;>simp
theorem Ic {x y:M.aG1} {a:ByteArray} (hx:x.ok) (hy:y.ok):vX x y a=some (G4 a x y):=by unfold vX G4;simp only [uE hx.aE,uE hy.aE,DD hx.Key hy.Key,qA,aZ];cases decide ((jI x.aE a).1<(jI y.aE a).1)<;>simp
theorem EX (x:List Int) (hs:x.length<=1073741824):kW x=some x:=by unfold kW;rw [Fe hs qb,qA]
theorem GK (x:M.aGm) (hs:M.aGm.sz x<=1073741824):pH x=some x:=by simp only [M.aGm.sz] at hs;unfold pH;rw [Fe qb qb,qA]
theorem GP (x:M.aGm) (hs:M.aGm.sz x<=1073741824):lL x=some x:=by simp only [M.aGm.sz] at hs;unfold lL;rw [EX _ qb,qA]
theorem KC (x:M.aGo) (hs:M.aGo.sz x<=1073741824):Af x=some x:=by
 have hl:x.aGs.length<=1073741824:=by simp only [M.aGo.sz] at hs;omega
 unfold Af
 exact AM (xs:=x.aGs) (L:=mP x) (b:=88) (E:=λr=>some { x with aGs:=r }) hl qb (λn r k hk=>by
  simp only [mP]
  rw [if_pos (aY hk),aK hk,qA,GK _ (by have:=cO (f:=M.aGw.sz) (qG hk);simp only [M.aGo.sz] at hs;simp only [M.aGw.sz] at this;omega),qA,bD qb]) (λn r=>by
  simp only [mP]
  rw [if_neg qk])
theorem sY (x:M.aC) (hs:M.aC.sz x<=1073741824):bO x=some x:=by
 have hl:x.aGi.length<=1073741824:=by simp only [M.aC.sz] at hs;omega
 unfold bO
 exact AM (xs:=x.aGi) (L:=pF x) (b:=32) (E:=λr=>some { x with aGi:=r }) hl qb (λn r k hk=>by
  simp only [pF]
  rw [if_pos (aY hk),aK hk,qA,KC _ (by have:=cO (f:=M.aGo.sz) (qG hk);simp only [M.aC.sz] at hs;omega),qA,bD qb]) (λn r=>by
  simp only [pF]
  rw [if_neg qk])
theorem Hg (x:M.aC) (hs:M.aC.sz x<=1073741824):tX x=some x:=by
 have hl:x.aGi.length<=1073741824:=by simp only [M.aC.sz] at hs;omega
 unfold tX
 exact AM (xs:=x.aGi) (L:=eN x) (b:=32) (E:=λr=>some { x with aGi:=r }) hl qb (λn r k hk=>by
  have hz:=cO (f:=M.aGo.sz) (qG hk)
  simp only [M.aC.sz] at hs
  have hz2:x.aGi[k].aGs.length+cX M.aGw.sz x.aGi[k].aGs<=M.aGo.sz x.aGi[k]:=by simp only [M.aGo.sz];omega
  simp only [eN]
  rw [if_pos (aY hk),aK hk,qA,bD qb]
  exact AM (xs:=x.aGi[k].aGs) (b:=88) (L:=gU x.aGi[k] (λ(v:Int) (q:List M.aGw)=>(app 32 r ([(⟨x.aGi[k].aGg,q⟩:M.aGo)])).bind λ_=>(eN x n ((k+1:Nat):Int) (r++[(⟨x.aGi[k].aGg,q⟩:M.aGo)])))) qb qb (λm q j hj=>by
   have hy:=cO (f:=M.aGw.sz) (qG hj)
   simp only [gU]
   rw [if_pos (aY hj),aK hj,qA,GP _ (by simp only [M.aGw.sz] at hy;omega),qA,bD qb]) (λm q=>by
   simp only [gU]
   rw [if_neg qk])) (λn r=>by
  simp only [eN]
  rw [if_neg qk])
theorem BK (x:M.aE) (hs:M.aE.sz x<=1073741824):cK x=some x:=by simp only [M.aE.sz] at hs;unfold cK;rw [Fe qb qb,qA]
theorem EO (x:M.aG1) (hs:M.aG1.sz x<=1073741824):yC x=some x:=by simp only [M.aG1.sz] at hs;unfold yC;rw [BK _ qb,qA]
theorem nG (x:M.aD) (hs:M.aD.sz x<=1073741824):bZ x=some x:=by
 have hl:x.aGk.length<=1073741824:=by simp only [M.aD.sz] at hs;omega
 unfold bZ
 exact AM (xs:=x.aGk) (L:=rV x) (b:=56) (E:=λr=>some { x with aGk:=r }) hl qb (λn r k hk=>by
  simp only [rV]
  rw [if_pos (aY hk),aK hk,qA,EO _ (by have:=cO (f:=M.aG1.sz) (qG hk);simp only [M.aD.sz] at hs;omega),qA,bD qb]) (λn r=>by
  simp only [rV]
  rw [if_neg qk])
theorem AF (x:M.aGh) (hs:M.aGh.sz x<=1073741824):eR x=some x:=by
 have hl:x.aGq.length<=1073741824:=by simp only [M.aGh.sz] at hs;omega
 unfold eR
 rw [Fe (by simp only [M.aGh.sz] at hs;omega) qb,qA]
 exact AM (xs:=x.aGq) (L:=rZ x) (b:=48) (E:=λr=>some { x with aGq:=r }) hl qb (λn r k hk=>by
  simp only [rZ]
  rw [if_pos (aY hk),aK hk,qA,nG _ (by have:=cO (f:=M.aD.sz) (qG hk);simp only [M.aGh.sz] at hs;omega),qA,bD qb]) (λn r=>by
  simp only [rZ]
  rw [if_neg qk])
theorem GC (x:M.bW) (hs:M.bW.sz x<=1073741824):zG x=some x:=by simp only [M.bW.sz] at hs;unfold zG;rw [AF _ qb,qA,Fe qb qb,qA]
theorem Cf (x:M.aM) (hs:M.aM.sz x<=1073741824):sX x=some x:=by simp only [M.aM.sz] at hs;unfold sX;rw [Fe qb qb,qA]
theorem L7 (x:M.aG5) (hs:M.aG5.sz x<=1073741824):wN x=some x:=by simp only [M.aG5.sz] at hs;unfold wN;rw [Cf _ qb,qA]
theorem DT (x:M.aH) (hs:M.aH.sz x<=1073741824):wS x=some x:=by simp only [M.aH.sz] at hs;unfold wS;rw [nG _ qb,qA,L7 _ qb,qA]
theorem zL (x:M.aG) (hs:M.aG.sz x<=1073741824):gN x=some x:=by simp only [M.aG.sz] at hs;unfold gN;rw [sY _ qb,qA,GC _ qb,qA,DT _ qb,qA]
theorem Jl (x:M.aE) (hs:M.aE.sz x<=1073741824):xM x=some x:=by simp only [M.aE.sz] at hs;unfold xM;rw [Fe qb qb,qA]
theorem FG (x:M.aG1) (hs:M.aG1.sz x<=1073741824):xT x=some x:=by simp only [M.aG1.sz] at hs;unfold xT;rw [Jl _ qb,qA]
theorem CC (x:M.aD) (hs:M.aD.sz x<=1073741824):rY x=some x:=by
 have hl:x.aGk.length<=1073741824:=by simp only [M.aD.sz] at hs;omega
 unfold rY
 exact AM (xs:=x.aGk) (L:=lG x) (b:=56) (E:=λr=>some { x with aGk:=r }) hl qb (λn r k hk=>by
  simp only [lG]
  rw [if_pos (aY hk),aK hk,qA,FG _ (by have:=cO (f:=M.aG1.sz) (qG hk);simp only [M.aD.sz] at hs;omega),qA,bD qb]) (λn r=>by
  simp only [lG]
  rw [if_neg qk])
theorem GS (x:M.aGh) (hs:M.aGh.sz x<=1073741824):uG x=some x:=by
 have hl:x.aGq.length<=1073741824:=by simp only [M.aGh.sz] at hs;omega
 unfold uG
 rw [Fe (by simp only [M.aGh.sz] at hs;omega) qb,qA]
 exact AM (xs:=x.aGq) (L:=gW x) (b:=48) (E:=λr=>some { x with aGq:=r }) hl qb (λn r k hk=>by
  simp only [gW]
  rw [if_pos (aY hk),aK hk,qA,CC _ (by have:=cO (f:=M.aD.sz) (qG hk);simp only [M.aGh.sz] at hs;omega),qA,bD qb]) (λn r=>by
  simp only [gW]
  rw [if_neg qk])
theorem KV (x:M.bW) (hs:M.bW.sz x<=1073741824):zW x=some x:=by simp only [M.bW.sz] at hs;unfold zW;rw [GS _ qb,qA,EX _ qb,qA]
theorem I7 (x:M.aM) (hs:M.aM.sz x<=1073741824):xU x=some x:=by simp only [M.aM.sz] at hs;unfold xU;rw [Fe qb qb,qA]
theorem Ls (x:M.aG5) (hs:M.aG5.sz x<=1073741824):Ak x=some x:=by simp only [M.aG5.sz] at hs;unfold Ak;rw [I7 _ qb,qA]
theorem Hv (x:M.aH) (hs:M.aH.sz x<=1073741824):wE x=some x:=by simp only [M.aH.sz] at hs;unfold wE;rw [CC _ qb,qA,Ls _ qb,qA]
theorem Js (x:M.aG) (hs:M.aG.sz x<=1073741824):xK x=some x:=by simp only [M.aG.sz] at hs;unfold xK;rw [Hg _ qb,qA,KV _ qb,qA,Hv _ qb,qA]
theorem DR (x:M.aA) (hs:M.aA.sz x<=1073741824):fG x=some x:=by
 have hl:x.aGj.length<=1073741824:=by simp only [M.aA.sz] at hs;omega
 unfold fG
 exact AM (xs:=x.aGj) (L:=oG x) (b:=328) (E:=λr=>some { x with aGj:=r }) hl qb (λn r k hk=>by
  simp only [oG]
  rw [if_pos (aY hk),aK hk,qA,zL _ (by have:=cO (f:=M.aG.sz) (qG hk);simp only [M.aA.sz] at hs;omega),qA,bD qb]) (λn r=>by
  simp only [oG]
  rw [if_neg qk])
theorem H8 (x:M.aA) (hs:M.aA.sz x<=1073741824):vM x=some x:=by
 have hl:x.aGj.length<=1073741824:=by simp only [M.aA.sz] at hs;omega
 unfold vM
 exact AM (xs:=x.aGj) (L:=iE x) (b:=328) (E:=λr=>some { x with aGj:=r }) hl qb (λn r k hk=>by
  simp only [iE]
  rw [if_pos (aY hk),aK hk,qA,Js _ (by have:=cO (f:=M.aG.sz) (qG hk);simp only [M.aA.sz] at hs;omega),qA,bD qb]) (λn r=>by
  simp only [iE]
  rw [if_neg qk])
def nPl (f:M.aG1->Bool) (l:List M.aG1):Nat->Nat
 | 0=>0
 | k+1=>if (l[k]?).any f=true then nPl f l k else k+1
theorem RB (f:M.aG1->Bool) (l:List M.aG1) : ∀k,nPl f l k<=k
 | 0=>by simp [nPl]
 | k+1=>by unfold nPl;split;(exact Nat.le_succ_of_le (RB f l k));·exact Nat.le_refl _
theorem TQ {α:Type} {l:List α} {i:Int} {x:α} (h:idx l i=some x):x∈l:=List.mem_of_getElem? (Az h).2.1
theorem BG {α:Type} {l:List α} {k:Nat} (h:k<=l.length):An l (k:Int)=some (l.take k):=by unfold An;rw [if_pos ⟨qb,by simpa using h⟩,qH]
def WJ (a:ByteArray) (out:List M.aG1) (x:M.aG1):List M.aG1:=
 if (jI x.aE a).2=true then out.take (nPl (G4 a x) out out.length)++(x::out.drop (nPl (G4 a x) out out.length)) else out
def JM (s:M.aD) (a:ByteArray):List M.aG1:=s.aGk.foldl (WJ a) []
theorem QL (a:ByteArray) (out:List M.aG1) (x:M.aG1):(WJ a out x).length<=out.length+1:=by unfold WJ;have:=RB (G4 a x) out out.length;split;(simp only [qE,qT,qJ,qU];omega);·omega
theorem QH {a:ByteArray} {out:List M.aG1} {x y:M.aG1} (h:y∈WJ a out x):y=x\/y∈out:=by unfold WJ at h;split at h;(rcases List.mem_append.1 h with h | h;(exact .inr (List.mem_of_mem_take h));·rcases List.mem_cons.1 h with h | h;(exact .inl h);·exact .inr (List.mem_of_mem_drop h));·exact .inr h
theorem TF {a:ByteArray} {l:List M.aG1} {x:M.aG1} {K:Int->Option (List M.aG1)} (hl:l.length<=1048576) (hx:x.ok) (ho : ∀y∈l,M.aG1.ok y) :
  ∀(n k:Nat),k<n->k<=l.length->oA a l x K n (k:Int)=K ((nPl (G4 a x) l k:Nat):Int)
 | 0,k,h,_=>by omega
 | n+1,0,h,_=>by simp only [oA,nPl];rw [if_neg qd]
 | n+1,k+1,h,hk=>by
  have hk':k<l.length:=by omega
  have e:i64.wrap (((k+1:Nat):Int)-1)=(k:Int):=by rw [bN qb qb];omega
  simp only [oA]
  rw [if_pos qd,e,aK hk',qA,NC hx (ho _ (qG hk')),qA,nPl,qF hk',Option.any_some]
  cases hc:G4 a x l[k] with
  | true=>rw [if_pos rfl,if_pos rfl];exact TF hl hx ho n k qb qb
  | false=>rw [if_neg qd,if_neg qd]
theorem S5 {a:ByteArray} {l:List M.aG1} {x:M.aG1} {K:Int->Option (List M.aG1)} (hl:l.length<=1048576) (hx:x.ok) (ho : ∀y∈l,M.aG1.ok y) :
  ∀(n k:Nat),k<n->k<=l.length->oR a l x K n (k:Int)=K ((nPl (G4 a x) l k:Nat):Int)
 | 0,k,h,_=>by omega
 | n+1,0,h,_=>by simp only [oR,nPl];rw [if_neg qd]
 | n+1,k+1,h,hk=>by
  have hk':k<l.length:=by omega
  have e:i64.wrap (((k+1:Nat):Int)-1)=(k:Int):=by rw [bN qb qb];omega
  simp only [oR]
  rw [if_pos qd,e,aK hk',qA,Ic hx (ho _ (qG hk')),qA,nPl,qF hk',Option.any_some]
  cases hc:G4 a x l[k] with
  | true=>rw [if_pos rfl,if_pos rfl];exact S5 hl hx ho n k qb qb
  | false=>rw [if_neg qd,if_neg qd]
theorem Wn {s:M.aD} {a:ByteArray} (hs:s.ok) (hz:M.aD.sz s<=1048576):A5 s a=some (JM s a)/\(JM s a).length<=s.aGk.length /\ ∀y∈JM s a,M.aG1.ok y:=by
 have hl:s.aGk.length<=1048576:=by simp only [M.aD.sz] at hz;omega
 unfold A5 JM
 refine Mm (L:=lT s a) (xs:=s.aGk) (step:=WJ a) (I:=λk out=>out.length<=k /\ ∀y∈out,M.aG1.ok y) (E:=λout=>some out) hs.aGk.1 (λout k hk hi=>⟨?_,λy hy => ?_⟩) (λn out k hk hi => ?_) (λn out hi => ?_) [] ⟨Nat.le_refl _,qd⟩
 ·have:=QL a out s.aGk[k];have:=hi.1;omega
 ·rcases QH hy with rfl | hy;(exact hs.aGk.2 _ (qG hk));·exact hi.2 y hy
 ·have hx:=hs.aGk.2 _ (qG hk)
  have hzx:M.aG1.sz s.aGk[k]<=1073741824:=by have:=cO (f:=M.aG1.sz) (qG hk);simp only [M.aD.sz] at hz;omega
  have hi1:=hi.1
  simp only [lT]
  rw [if_pos (aY hk),aK hk,qA,tQ hx.aE,qA,bD qb,gF]
  unfold WJ
  by_cases hg:(jI s.aGk[k].aE a).2=true
  ·have hp:=RB (G4 a s.aGk[k]) out out.length;rw [if_pos hg,if_pos hg,TF qb hx hi.2 fuel out.length qi (Nat.le_refl _)];generalize nPl (G4 a s.aGk[k]) out out.length=p at hp;simp only [qH];rw [BG hp,qA,dN qt,qA,EO _ hzx,qA,dN qq,qA,dN qm,qA,qS,List.singleton_append]
  ·rw [if_neg hg,if_neg hg]
 ·simp only [lT];rw [if_neg qk]
theorem RL {s:M.aD} {a:ByteArray} (hs:s.ok) (hz:M.aD.sz s<=1048576):AV s a=some (JM s a)/\(JM s a).length<=s.aGk.length /\ ∀y∈JM s a,M.aG1.ok y:=by
 have hl:s.aGk.length<=1048576:=by simp only [M.aD.sz] at hz;omega
 unfold AV JM
 refine Mm (L:=lS s a) (xs:=s.aGk) (step:=WJ a) (I:=λk out=>out.length<=k /\ ∀y∈out,M.aG1.ok y) (E:=λout=>some out) hs.aGk.1 (λout k hk hi=>⟨?_,λy hy => ?_⟩) (λn out k hk hi => ?_) (λn out hi => ?_) [] ⟨Nat.le_refl _,qd⟩
 ·have:=QL a out s.aGk[k];have:=hi.1;omega
 ·rcases QH hy with rfl | hy;(exact hs.aGk.2 _ (qG hk));·exact hi.2 y hy
 ·have hx:=hs.aGk.2 _ (qG hk)
  have hzx:M.aG1.sz s.aGk[k]<=1073741824:=by have:=cO (f:=M.aG1.sz) (qG hk);simp only [M.aD.sz] at hz;omega
  have hi1:=hi.1
  simp only [lS]
  rw [if_pos (aY hk),aK hk,qA,uE hx.aE,qA,bD qb,gF]
  unfold WJ
  by_cases hg:(jI s.aGk[k].aE a).2=true
  ·have hp:=RB (G4 a s.aGk[k]) out out.length;rw [if_pos hg,if_pos hg,S5 qb hx hi.2 fuel out.length qi (Nat.le_refl _)];generalize nPl (G4 a s.aGk[k]) out out.length=p at hp;simp only [qH];rw [FG _ hzx,qA,VR ⟨qb,by simpa using hp,qd,qs⟩,qA,List.singleton_append]
  ·rw [if_neg hg,if_neg hg]
 ·simp only [lS];rw [if_neg qk]
theorem UU {a:ByteArray} {l:List M.aG1} (ho : ∀y∈l,M.aG1.ok y) : ∀(n:Nat) (v:Int),mE a l n v=fQ a l n v
 | 0,v=>rfl
 | n+1,v=>by
  simp only [mE,fQ,UU ho n]
  cases h1:idx l (i64.wrap (v-1)) with
  | none=>rfl
  | some x =>
   have hx:=(ho x (TQ h1)).aE
   simp only [qA,tQ hx,uE hx]
   cases h2:idx l v with
   | none=>rfl
   | some y =>
    have hy:=(ho y (TQ h2)).aE
    simp only [qA,tQ hy,uE hy]
theorem Tj {a:ByteArray} {l:List M.aG1} (ho : ∀y∈l,M.aG1.ok y) (hl:l.length<=1048576) : ∀(n k:Nat),l.length-k<n->1<=k -> ∃r,fQ a l n (k:Int)=some r
 | 0,k,h,_=>by omega
 | n+1,k,h,h1=>by
  simp only [fQ]
  by_cases hk:k<l.length
  ·have e:i64.wrap ((k:Int)-1)=((k-1:Nat):Int):=by rw [bN qb qb];omega
   have hk1:k-1<l.length:=by omega
   rw [if_pos (aY hk),e,aK hk1,qA,uE (ho _ (qG hk1)).aE,qA,aK hk,qA,uE (ho _ (qG hk)).aE,qA,bD qb]
   split
   ·exact ⟨_,rfl⟩
   ·exact Tj ho hl n (k+1) qb qb
  ·rw [if_neg qc];exact ⟨_,rfl⟩
def Mj (s:M.aD) (a:ByteArray):M.Key×M.Key×Bool:=(jV s a).getD (⟨0,0,⟨#[]⟩⟩,⟨0,0,⟨#[]⟩⟩,false)
theorem DI {s:M.aD} {a:ByteArray} (hs:s.ok) (hz:M.aD.sz s<=1048576):jV s a=some (Mj s a):=by
 obtain ⟨e,hl,ho⟩:=RL (a:=a) hs hz
 have hl2:s.aGk.length<=1048576:=by simp only [M.aD.sz] at hz;omega
 obtain ⟨r,hr⟩:=Tj (a:=a) ho qb fuel 1 qi qb
 have:jV s a=some r:=by unfold jV;rw [e,qA];exact hr
 unfold Mj
 rw [this]
 rfl
theorem HE {s:M.aD} {a:ByteArray} (hs:s.ok) (hz:M.aD.sz s<=1048576):vO s a=some (Mj s a):=by obtain ⟨e,hl,ho⟩:=Wn (a:=a) hs hz;obtain ⟨e2,_⟩:=RL (a:=a) hs hz;rw [<-DI hs hz];unfold vO jV;rw [e,e2,qA,qA];exact UU ho _ _
def EM (l:List M.aD) (k:Nat):Bool:=(l[k]?).any iI&&(decide (k=0)||(l[k-1]?).any λy=>(l[k]?).any λx=>Op.bytesLess y.Name.toList x.Name.toList)
def CU (x y:M.aO):Bool:=(x.aD.toList==y.aD.toList)&&(x.Field.toList==y.Field.toList)
def Mx (l:List M.aO) (k:Nat) (x:M.aO):Bool:=(List.range k).all λj => !((l[j]?).any λy=>CU y x)
def Fs (d:M.aGh) (k:Nat):Bool:=(d.aG3[k]?).any λu=>decide (0<=kG (Cu u.aD) d.aGq)&&(mT u.Field&&(!((d.aGq[(kG (Cu u.aD) d.aGq).toNat]?).any λs=>(Mj s u.Field).2.2)&&Mx d.aG3 k u))
def nDb (d:M.aGh):Bool:=(List.range d.aGq.length).all (EM d.aGq)&&((List.range d.aG3.length).all (Fs d)&&(mT d.Name&&(inR d.aGg 0 1000&&(decide (d.aGq.length<=4)&&decide (d.aG3.length<=4)))))
theorem VH {l:List M.aO} {k:Nat} {x:M.aO} (hk:k<=l.length):(l.take k).any (CU x) = !(Mx l k x):=by
 have hc : ∀y,CU y x=CU x y:=λy=>by unfold CU;rw [BEq.comm (a:=y.aD.toList),BEq.comm (a:=y.Field.toList)]
 unfold Mx
 rw [Bool.eq_iff_iff]
 simp only [List.any_eq_true,Bool.not_eq_true',List.all_eq_false,qR,Bool.not_eq_true,Bool.not_eq_false',hc]
 constructor
 ·rintro ⟨y,hy,hs⟩;obtain ⟨j,hj,rfl⟩:=List.mem_iff_getElem.1 hy;rw [qT] at hj;refine ⟨j,qb,?_⟩;rw [qF qb,Option.any_some];rw [List.getElem_take] at hs;simp [hs]
 ·rintro ⟨j,hj,hs⟩;rw [qF qb,Option.any_some] at hs;refine ⟨l[j],List.mem_iff_getElem.2 ⟨j,by rw [qT];omega,by rw [List.getElem_take]⟩,by simpa using hs⟩
theorem LQ {l:List M.aO} {x:M.aO} (hl:l.length<=maxLen):jJ l x=some (l.any (CU x)):=by
 have hm:=le_max hl
 have:mS l x=some (kG (CU x) l):=by unfold mS;rw [findAll (L:=dU l x) (f:=CU x) (A:=λi=>some (i:Int)) (E:=some (-1)) hl (λm k hk => ?_) (λm => ?_),uB];(simp only [dU];rw [if_pos (aY hk),aK hk,qA,bD qb];rfl);·simp only [dU];rw [if_neg qk]
 unfold jJ
 rw [this,qA,HU]
theorem SB {d:M.aGh} {u:M.aO} {k:Nat} {K:Int->Option Bool} (hm:d.aG3.length<=maxLen) (hk:k<=d.aG3.length):gR d (k:Int) u K fuel 0=if Mx d.aG3 k u=true then K (k:Int) else some false:=by
 have hm':=le_max hm
 refine mU (L:=gR d (k:Int) u K) (g:=λj => !((d.aG3[j]?).any λy=>CU y u)) (F:=some false) (E:=K (k:Int)) (Nat.le_trans hk hm) (λn j hj => ?_) (λn => ?_)
 ·have hj':j<d.aG3.length:=by omega
  simp only [gR]
  rw [if_pos (aY hj),aK hj',qA,bD qb,qF hj',Option.any_some,gF]
  rfl
 ·simp only [gR];rw [if_neg qk]
theorem RI {d:M.aGh} (hz:M.aGh.sz d<=1048576) : ∀s∈d.aGq,M.aD.sz s<=1048576:=λs hs=>by have:=cO (f:=M.aD.sz) hs;simp only [M.aGh.sz] at hz;omega
theorem Rh (a b:List UInt8):(Op.bytesLess a b||a==b) = !(Op.bytesLess b a):=by have h:=C2 b a;cases h1:Op.bytesLess b a<;>cases h2:(Op.bytesLess a b||a==b)<;>simp_all
theorem tG {d:M.aGh} (hd:d.ok) (hz:M.aGh.sz d<=1048576):cD d=some (nDb d):=by
 have hm:=le_max hd.aGq.1
 have hm2:=le_max hd.aG3.1
 unfold cD nDb
 rw [mU (L:=eV d) (g:=EM d.aGq) (F:=some false) (E:=eW d fuel 0) hd.aGq.1 (λn k hk => ?_) (λn => ?_),
  mU (L:=eW d) (g:=Fs d) (F:=some false) (E:=some (mT d.Name&&(inR d.aGg 0 1000&&(decide (d.aGq.length<=4)&&decide (d.aG3.length<=4))))) hd.aG3.1 (λn k hk => ?_) (λn => ?_),aZ,aZ]
 ·have hf:=hd.aG3.2 _ (qG hk)
  simp only [eW]
  rw [if_pos (aY hk),aK hk,qA,CA hd,qA,bD qb]
  unfold Fs
  rw [qF hk,Option.any_some,dF hf.Field,qA]
  by_cases h:kG (Cu d.aG3[k].aD) d.aGq<0
  ·rw [if_pos (by simpa using h),decide_eq_false qb];simp
  ·obtain ⟨j,e,hj⟩:=fI h
   have hs:=hd.aGq.2 _ (qG hj)
   rw [if_neg (by simpa using h),e,aK hj,qA,HE hs (RI hz _ (qG hj)),qA,qH,qF hj,Option.any_some,SB hd.aG3.1 qb]
   have:decide ((0:Int)<=(j:Int))=true:=by simp
   rw [this]
   generalize eW d n ((k+1:Nat):Int)=Z
   cases mT d.aG3[k].Field<;>cases (Mj d.aGq[j] d.aG3[k].Field).2.2<;>cases Mx d.aG3 k d.aG3[k]<;>simp
 ·simp only [eW]
  rw [if_neg qk,dF hd.Name,qA,cF,qA,aZ,aZ,aZ]
  congr 3
  have e1:decide ((d.aGq.length:Int)<=4)=decide (d.aGq.length<=4):=by rw [Bool.eq_iff_iff];simp;omega
  have e2:decide ((d.aG3.length:Int)<=4)=decide (d.aG3.length<=4):=by rw [Bool.eq_iff_iff];simp;omega
  rw [e1,e2]
 ·have hf:=hd.aGq.2 _ (qG hk)
  simp only [eV]
  rw [if_pos (aY hk),aK hk,qA,bD qb,zN hf,qA]
  unfold EM
  rw [qF hk]
  generalize eV d n ((k+1:Nat):Int)=Z
  by_cases h0:k=0
  ·subst h0;simp only [Option.any_some];cases iI d.aGq[0]<;>simp
  ·have e:i64.wrap ((k:Int)-1)=((k-1:Nat):Int):=by rw [bN qb qb];omega
   have hk1:k-1<d.aGq.length:=by omega
   rw [if_pos (c:=(decide ((k:Int)>0))=true) qc,e,aK hk1,qA,qF hk1]
   simp only [Option.any_some,h0,decide_false,Bool.false_or]
   cases iI d.aGq[k]<;>cases Op.bytesLess d.aGq[k-1].Name.toList d.aGq[k].Name.toList<;>simp
 ·simp only [eV];rw [if_neg qk]
theorem IU {d:M.aGh} (hd:d.ok) (hz:M.aGh.sz d<=1048576):wW d=some (nDb d):=by
 have hm:=le_max hd.aGq.1
 have hm2:=le_max hd.aG3.1
 unfold wW nDb
 rw [mU (L:=eU d) (g:=EM d.aGq) (F:=some false) (E:=eY d fuel 0) hd.aGq.1 (λn k hk => ?_) (λn => ?_),
  mU (L:=eY d) (g:=Fs d) (F:=some false) (E:=some true) hd.aG3.1 (λn k hk => ?_) (λn => ?_)]
 ·simp only [eC hd.Name,cH,qA]
  have e1:decide ((d.aGq.length:Int)>4) = !decide (d.aGq.length<=4):=by rw [Bool.eq_iff_iff];simp;omega
  have e2:decide ((d.aG3.length:Int)>4) = !decide (d.aG3.length<=4):=by rw [Bool.eq_iff_iff];simp;omega
  rw [e1,e2]
  cases mT d.Name<;>cases inR d.aGg 0 1000<;>cases decide (d.aGq.length<=4)<;>cases decide (d.aG3.length<=4)<;>cases (List.range d.aGq.length).all (EM d.aGq)<;>cases (List.range d.aG3.length).all (Fs d)<;>rfl
 ·have hf:=hd.aG3.2 _ (qG hk)
  simp only [eY]
  rw [if_pos (aY hk),aK hk,qA,JW hd,qA,bD qb]
  unfold Fs
  rw [qF hk,Option.any_some,eC hf.Field,qA,BG qb,qA,qH,LQ (Nat.le_trans (by rw [qT];exact Nat.min_le_right _ _) hd.aG3.1),qA,VH qb]
  by_cases h:kG (Cu d.aG3[k].aD) d.aGq<0
  ·rw [if_pos (by simpa using h),decide_eq_false qb];simp
  ·obtain ⟨j,e,hj⟩:=fI h
   have hs:=hd.aGq.2 _ (qG hj)
   rw [if_neg (by simpa using h),e,aK hj,qA,DI hs (RI hz _ (qG hj)),qA,qH,qF hj,Option.any_some]
   have:decide ((0:Int)<=(j:Int))=true:=by simp
   rw [this]
   generalize eY d n ((k+1:Nat):Int)=Z
   cases mT d.aG3[k].Field<;>cases (Mj d.aGq[j] d.aG3[k].Field).2.2<;>cases Mx d.aG3 k d.aG3[k]<;>simp
 ·simp only [eY];rw [if_neg qk]
 ·have hf:=hd.aGq.2 _ (qG hk)
  simp only [eU]
  rw [if_pos (aY hk),aK hk,qA,bD qb,DK hf,qA]
  unfold EM
  rw [qF hk]
  generalize eU d n ((k+1:Nat):Int)=Z
  by_cases h0:k=0
  ·subst h0;simp only [Option.any_some];cases iI d.aGq[0]<;>simp
  ·have e:i64.wrap ((k:Int)-1)=((k-1:Nat):Int):=by rw [bN qb qb];omega
   have hk1:k-1<d.aGq.length:=by omega
   rw [if_pos (c:=(decide ((k:Int)>0))=true) qc,e,aK hk1,qA,qF hk1,Rh]
   simp only [Option.any_some,h0,decide_false,Bool.false_or]
   cases iI d.aGq[k]<;>cases Op.bytesLess d.aGq[k-1].Name.toList d.aGq[k].Name.toList<;>simp
 ·simp only [eU];rw [if_neg qk]
def pL (b:M.aG):Bool:=mT b.aGl&&(mT b.Top&&(RA b.aGf&&((b.aGf.aGl.toList==b.aGl.toList)&&(fU b.aGi&&(nDb b.bW.aG4&&(Ci b.aH&&(inR b.aHI 0 1000000000000&&decide (OV b<=2500))))))))
theorem Ad {b:M.aG} (hz:M.aG.sz b<=1048576):M.aGh.sz b.bW.aG4<=1048576:=by simp only [M.aG.sz,M.bW.sz] at hz;omega
theorem Bf {b:M.aG} (hb:b.ok) (hz:M.aGh.sz b.bW.aG4<=1048576):nD b=some (pL b):=by unfold nD pL;simp only [dF hb.aGl,dF hb.Top,mD hb.aGf,pB hb.aGi,tG hb.bW.aG4 hz,Be hb.aH,cF,L4 hb,qA,aZ]
theorem Lv {b:M.aG} (hb:b.ok) (hz:M.aG.sz b<=1048576):nD b=some (pL b):=Bf hb (Ad hz)
theorem Kf {b:M.aG} (hb:b.ok) (hz:M.aGh.sz b.bW.aG4<=1048576):Ah b=some (pL b):=by unfold Ah pL;simp only [eC hb.aGl,eC hb.Top,FW hb.aGf,IA hb.aGi,IU hb.bW.aG4 hz,JT hb.aH,cH,Mc hb,qA,aZ]
def Ev (x y:M.aG):Bool:=Op.bytesLess x.aGl.toList y.aGl.toList||((x.aGl.toList==y.aGl.toList)&&Op.bytesLess x.Top.toList y.Top.toList)
theorem GJ (x y:M.aG):zF x y.aGl y.Top=some (Ev x y):=by unfold zF Ev;cases Op.bytesLess x.aGl.toList y.aGl.toList<;>cases (x.aGl.toList==y.aGl.toList)<;>simp
theorem G6 (x y:M.aG):uF x y=some (Ev x y):=by unfold uF Ev;cases Op.bytesLess x.aGl.toList y.aGl.toList<;>cases (x.aGl.toList==y.aGl.toList)<;>simp
def C9 (l:List M.aG) (k:Nat):Bool:=(l[k]?).any pL&&(decide (k=0)||(l[k-1]?).any λy=>(l[k]?).any λx=>Ev y x)
def rC (s:M.aA):Bool:=(List.range s.aGj.length).all (C9 s.aGj)&&decide ((s.aGj.length:Int)<=9)
theorem BZ {s:M.aA} (hs:s.ok) (hz : ∀b∈s.aGj,M.aGh.sz b.bW.aG4<=1048576):cN s=some (rC s):=by
 have hm:=le_max hs.aGj.1
 unfold cN rC
 rw [mU (L:=gH s) (g:=C9 s.aGj) (F:=some false) (E:=some (decide ((s.aGj.length:Int)<=9))) hs.aGj.1 (λn k hk => ?_) (λn => ?_),aZ]
 ·have hf:=hs.aGj.2 _ (qG hk)
  have hzb:M.aGh.sz s.aGj[k].bW.aG4<=1048576:=hz _ (qG hk)
  simp only [gH]
  rw [if_pos (aY hk),aK hk,qA,bD qb,Bf hf hzb,qA]
  unfold C9
  rw [qF hk]
  generalize gH s n ((k+1:Nat):Int)=Z
  by_cases h0:k=0
  ·subst h0;simp only [Option.any_some];cases pL s.aGj[0]<;>simp
  ·have e:i64.wrap ((k:Int)-1)=((k-1:Nat):Int):=by rw [bN qb qb];omega
   have hk1:k-1<s.aGj.length:=by omega
   rw [if_pos (c:=(decide ((k:Int)>0))=true) qc,e,aK hk1,qA,GJ,qA,qF hk1]
   simp only [Option.any_some,h0,decide_false,Bool.false_or]
   cases pL s.aGj[k]<;>cases Ev s.aGj[k-1] s.aGj[k]<;>simp
 ·simp only [gH];rw [if_neg qk]
theorem Ke {s:M.aA} (hs:s.ok) (hz:M.aA.sz s<=1048576):cN s=some (rC s):=BZ hs (λb hb=>Ad (by have:=cO (f:=M.aG.sz) hb;simp only [M.aA.sz] at hz;omega))
theorem IQ {s:M.aA} (hs:s.ok) (hz : ∀b∈s.aGj,M.aGh.sz b.bW.aG4<=1048576):yQ s=some (rC s):=by
 have hm:=le_max hs.aGj.1
 unfold yQ rC
 rw [mU (L:=gE s) (g:=C9 s.aGj) (F:=some false) (E:=some (decide ((s.aGj.length:Int)<=9))) hs.aGj.1 (λn k hk => ?_) (λn => ?_),aZ]
 ·have hf:=hs.aGj.2 _ (qG hk)
  have hzb:M.aGh.sz s.aGj[k].bW.aG4<=1048576:=hz _ (qG hk)
  simp only [gE]
  rw [if_pos (aY hk),aK hk,qA,bD qb,Kf hf hzb,qA]
  unfold C9
  rw [qF hk]
  generalize gE s n ((k+1:Nat):Int)=Z
  by_cases h0:k=0
  ·subst h0;simp only [Option.any_some];cases pL s.aGj[0]<;>simp
  ·have e:i64.wrap ((k:Int)-1)=((k-1:Nat):Int):=by rw [bN qb qb];omega
   have hk1:k-1<s.aGj.length:=by omega
   rw [if_pos (c:=(decide ((k:Int)>0))=true) qc,e,aK hk1,qA,G6,qA,qF hk1]
   simp only [Option.any_some,h0,decide_false,Bool.false_or]
   cases pL s.aGj[k]<;>cases Ev s.aGj[k-1] s.aGj[k]<;>simp
 ·simp only [gE];rw [if_neg qk]
def OI (b o:M.aG):M.aG×Bool:=if pL b=true then (if pL o=true then (o,true) else (b,false)) else (b,false)
theorem UM {b o:M.aG} (hb:b.ok) (ho:o.ok):M.aG.ok (OI b o).1:=by unfold OI;split;(split;(exact ho);·exact hb);·exact hb
theorem Vv (b o:M.aG):M.aG.sz (OI b o).1<=M.aG.sz b+M.aG.sz o:=by unfold OI;split;(split<;>simp only<;>omega);·simp only;omega
theorem JV {b o:M.aG} (hb:b.ok) (ho:o.ok) (zb:M.aG.sz b<=1048576) (zc:M.aG.sz o<=1073741824) (zo:M.aGh.sz o.bW.aG4<=1048576):rX b o=some (OI b o):=by unfold rX OI;rw [Lv hb zb,qA,zL b qb,Bf ho zo];cases pL b;(simp);·cases pL o<;>simp
theorem Te (b o:M.aG):((some (OI b o)).bind λx=>(if x.2=true then (some (o,true)) else (some (x.1,false))))=some (OI b o):=by unfold OI;cases pL b<;>cases pL o<;>rfl
def cZ (b:M.aG) (s:M.aC) (r:M.aGf):M.aG:=(⟨b.aGl,b.Top,r,s,b.bW,b.aH,b.aHI,b.aHE⟩:M.aG)
theorem Cg {b:M.aG} {s:M.aC} {r:M.aGf} (hb:b.ok) (hs:s.ok) (hr:r.ok):(cZ b s r).ok:=⟨hb.aGl,hb.Top,hr,hs,hb.bW,hb.aH,hb.aHI⟩
theorem DS (b:M.aG) (s:M.aC) (r:M.aGf):M.aG.sz (cZ b s r)<=M.aG.sz b+(M.aC.sz s+M.aGf.sz r):=by simp only [cZ,M.aG.sz];omega
theorem CL {b:M.aG} {s:M.aC} {r:M.aGf} (hb:b.ok) (hs:s.ok) (hr:r.ok) (zb:M.aG.sz b<=1048576) (zs:(M.aC.sz s+M.aGf.sz r)<=536870912) (zo:M.aGh.sz (cZ b s r).bW.aG4<=1048576):nM b s r=some (OI b (cZ b s r)):=by have zr:=DS b s r;unfold nM;rw [zL b qb,qA,sY s qb,qA];have e:=JV hb (Cg hb hs hr) zb (show M.aG.sz (cZ b s r)<=1073741824 by omega) zo;have e2:=Te b (cZ b s r);unfold cZ at e e2 ⊢;rw [e];exact e2
def sU:M.aG:=(⟨(⟨#[]⟩:ByteArray),(⟨#[]⟩:ByteArray),(⟨(⟨#[]⟩:ByteArray),0,0,0⟩:M.aGf),(⟨([]:List M.aGo)⟩:M.aC),(⟨(⟨(⟨#[]⟩:ByteArray),0,([]:List M.aD),([]:List M.aO)⟩:M.aGh),([]:List Int),0⟩:M.bW),(⟨(⟨(⟨#[]⟩:ByteArray),([]:List M.aG1),0⟩:M.aD),0,(⟨(⟨0,0,([]:List M.bC)⟩:M.aM),0,0⟩:M.aG5)⟩:M.aH),0,false⟩:M.aG)
def D9 (a b:ByteArray) (d:Int):M.aG:=(⟨a,b,(⟨a,0,0,0⟩:M.aGf),(⟨([]:List M.aGo)⟩:M.aC),(⟨(⟨(⟨#[97,112,112]⟩:ByteArray),1,[(⟨(⟨#[110,111,116,101,115]⟩:ByteArray),([]:List M.aG1),0⟩:M.aD)],([]:List M.aO)⟩:M.aGh),([]:List Int),0⟩:M.bW),(⟨(⟨(⟨#[110,111,116,101,115]⟩:ByteArray),([]:List M.aG1),0⟩:M.aD),0,(⟨(⟨d,1,([]:List M.bC)⟩:M.aM),0,0⟩:M.aG5)⟩:M.aH),0,false⟩:M.aG)
theorem wU:inI 0:=by unfold inI;omega
theorem R8:inI 1:=by unfold inI;omega
theorem RM (n:Nat) (h:n<=1048576):n<=maxLen:=by unfold maxLen;omega
theorem sz0:((⟨#[]⟩:ByteArray)).size<=maxLen:=RM _ qe
theorem sz5:((⟨#[110,111,116,101,115]⟩:ByteArray)).size<=maxLen:=RM _ qe
theorem sz3:((⟨#[97,112,112]⟩:ByteArray)).size<=maxLen:=RM _ qe
theorem Xp {d:Int} (n:Int) (hd:inI d) (hn:inI n):M.aM.ok (⟨d,n,([]:List M.bC)⟩:M.aM):=⟨hd,hn,⟨qd,qd⟩⟩
theorem KA:sU.ok:=⟨sz0,sz0,⟨sz0,wU,wU,wU⟩,⟨⟨by simp [sU],by simp [sU]⟩⟩,⟨⟨sz0,wU,⟨by simp [sU],by simp [sU]⟩,⟨by simp [sU],by simp [sU]⟩⟩,⟨by simp [sU],by simp [sU]⟩,wU⟩,⟨⟨sz0,⟨by simp [sU],by simp [sU]⟩,wU⟩,wU,⟨⟨wU,wU,⟨by simp [sU],by simp [sU]⟩⟩,wU,wU⟩⟩,wU⟩
theorem Ui:M.aD.ok (⟨(⟨#[110,111,116,101,115]⟩:ByteArray),([]:List M.aG1),0⟩:M.aD):=⟨sz5,⟨qd,qd⟩,wU⟩
theorem Nb {a b:ByteArray} {d:Int} (ha:a.size<=maxLen) (hb:b.size<=maxLen) (hd:inI d):(D9 a b d).ok:=
 ⟨ha,hb,⟨ha,wU,wU,wU⟩,⟨⟨by simp [D9],by simp [D9]⟩⟩,⟨⟨sz3,R8,⟨RM _ (by simp [D9]),λy hy=>by simp only [D9,List.mem_cons,qO,or_false] at hy;subst hy;exact Ui⟩,⟨by simp [D9],by simp [D9]⟩⟩,⟨by simp [D9],by simp [D9]⟩,wU⟩,⟨Ui,wU,⟨Xp 1 hd R8,wU,wU⟩⟩,wU⟩
theorem QE (a b:ByteArray) (d:Int):M.aGh.sz (D9 a b d).bW.aG4<=1048576:=by simp only [D9];decide
def CF (a b:ByteArray) (d:Int):M.aG×Bool:=if tN (⟨d,1,([]:List M.bC)⟩:M.aM)=true then (if pL (D9 a b d)=true then (D9 a b d,true) else (sU,false)) else (sU,false)
theorem E5 {a b:ByteArray} {d:Int} (ha:a.size<=maxLen) (hb:b.size<=maxLen) (hd:inI d):rN a b d=some (CF a b d):=by
 unfold rN nQ CF
 rw [pS (Xp 1 hd R8),qA]
 cases hn:tN (⟨d,1,([]:List M.bC)⟩:M.aM) with
 | false=>simp [sU]
 | true =>
  have hI:=Bf (Nb ha hb hd) (QE a b d)
  unfold D9 at hI
  simp only [qB,qD,if_false,qA,hI,if_true]
  unfold D9
  generalize pL _=c
  cases c<;>simp [sU]
theorem Q2 {a b:ByteArray} {d:Int} (ha:a.size<=maxLen) (hb:b.size<=maxLen) (hd:inI d):(CF a b d).1.ok:=by unfold CF;split;(split;(exact Nb ha hb hd);·exact KA);·exact KA
theorem bH (x:Int):inI (i64.wrap x):=by unfold inI;rw [IntKind.wrap_i64];omega
def xA (x y:Int):Bool:=x==y
theorem O7 {xs ys:List Int} (hx:xs.length<=maxLen):uH xs ys=some (eqL xA xs ys):=by
 have hm:=le_max hx
 unfold uH
 rw [Eu (f:=xA) hx (E:=some true) (λn k hk hk'=>by
  simp only [jY]
  rw [if_pos (aY hk),aK hk,aK hk',qA,qA,bD qb]
  first | rw [gF];rfl | rw [uM];rfl) (λn=>by
  simp only [jY]
  rw [if_neg qk]),aZ,Bool.and_true]
def N5 (x y:Int):Bool:=x==y
theorem PQ {xs ys:List Int} (hx:xs.length<=maxLen):vZ xs ys=some (eqL N5 xs ys):=by
 have hm:=le_max hx
 unfold vZ
 rw [Eu (f:=N5) hx (E:=some true) (λn k hk hk'=>by
  simp only [lZ]
  rw [if_pos (aY hk),aK hk,aK hk',qA,qA,bD qb]
  first | rw [gF];rfl | rw [uM];rfl) (λn=>by
  simp only [lZ]
  rw [if_neg qk]),aZ,Bool.and_true]
def FT (x y:ByteArray):Bool:=x.toList==y.toList
theorem Ma {xs ys:List ByteArray} (hx:xs.length<=maxLen):pM xs ys=some (eqL FT xs ys):=by
 have hm:=le_max hx
 unfold pM
 rw [Eu (f:=FT) hx (E:=some true) (λn k hk hk'=>by
  simp only [iC]
  rw [if_pos (aY hk),aK hk,aK hk',qA,qA,bD qb]
  first | rw [gF];rfl | rw [uM];rfl) (λn=>by
  simp only [iC]
  rw [if_neg qk]),aZ,Bool.and_true]
def Ks (x y:M.Field):Bool:=((x.Name.toList==y.Name.toList)&&(x.N==y.N))
theorem NM {xs ys:List M.Field} (hx:xs.length<=maxLen):sL xs ys=some (eqL Ks xs ys):=by
 have hm:=le_max hx
 unfold sL
 rw [Eu (f:=Ks) hx (E:=some true) (λn k hk hk'=>by
  simp only [jG]
  rw [if_pos (aY hk),aK hk,aK hk',qA,qA,bD qb]
  first | rw [gF];rfl | rw [uM];rfl) (λn=>by
  simp only [jG]
  rw [if_neg qk]),aZ,Bool.and_true]
def Dp (x y:M.aO):Bool:=((x.aD.toList==y.aD.toList)&&(x.Field.toList==y.Field.toList))
theorem JS {xs ys:List M.aO} (hx:xs.length<=maxLen):nC xs ys=some (eqL Dp xs ys):=by
 have hm:=le_max hx
 unfold nC
 rw [Eu (f:=Dp) hx (E:=some true) (λn k hk hk'=>by
  simp only [fV]
  rw [if_pos (aY hk),aK hk,aK hk',qA,qA,bD qb]
  first | rw [gF];rfl | rw [uM];rfl) (λn=>by
  simp only [fV]
  rw [if_neg qk]),aZ,Bool.and_true]
def DC (x y:M.bC):Bool:=((x.aGp==y.aGp)&&((x.Seq==y.Seq)&&((x.Key.aG7==y.Key.aG7)&&((x.Key.N==y.Key.N)&&((x.Key.aHG.toList==y.Key.aHG.toList)&&((x.Field.toList==y.Field.toList)&&(x.N==y.N)))))))
theorem HD {xs ys:List M.bC} (hx:xs.length<=maxLen):nK xs ys=some (eqL DC xs ys):=by
 have hm:=le_max hx
 unfold nK
 rw [Eu (f:=DC) hx (E:=some true) (λn k hk hk'=>by
  simp only [iW]
  rw [if_pos (aY hk),aK hk,aK hk',qA,qA,bD qb]
  first | rw [gF];rfl | rw [uM];rfl) (λn=>by
  simp only [iW]
  rw [if_neg qk]),aZ,Bool.and_true]
def Ip (x y:M.Instr):Bool:=((x.aG7==y.aG7)&&((x.R==y.R)&&((x.N==y.N)&&(x.aHG.toList==y.aHG.toList))))
theorem NY {xs ys:List M.Instr} (hx:xs.length<=maxLen):sG xs ys=some (eqL Ip xs ys):=by
 have hm:=le_max hx
 unfold sG
 rw [Eu (f:=Ip) hx (E:=some true) (λn k hk hk'=>by
  simp only [jB]
  rw [if_pos (aY hk),aK hk,aK hk',qA,qA,bD qb]
  first | rw [gF];rfl | rw [uM];rfl) (λn=>by
  simp only [jB]
  rw [if_neg qk]),aZ,Bool.and_true]
def Fk (x y:M.aW):Bool:=((x.aHQ.toList==y.aHQ.toList)&&(x.aGg==y.aGg))
theorem LV {xs ys:List M.aW} (hx:xs.length<=maxLen):pK xs ys=some (eqL Fk xs ys):=by
 have hm:=le_max hx
 unfold pK
 rw [Eu (f:=Fk) hx (E:=some true) (λn k hk hk'=>by
  simp only [iD]
  rw [if_pos (aY hk),aK hk,aK hk',qA,qA,bD qb]
  first | rw [gF];rfl | rw [uM];rfl) (λn=>by
  simp only [iD]
  rw [if_neg qk]),aZ,Bool.and_true]
def Ly (x y:M.nW):Bool:=((x.Name.toList==y.Name.toList)&&((x.bJ==y.bJ)&&((x.aHJ==y.aHJ)&&(x.aHc==y.aHc))))
theorem Ox {xs ys:List M.nW} (hx:xs.length<=maxLen):tZ xs ys=some (eqL Ly xs ys):=by
 have hm:=le_max hx
 unfold tZ
 rw [Eu (f:=Ly) hx (E:=some true) (λn k hk hk'=>by
  simp only [kB]
  rw [if_pos (aY hk),aK hk,aK hk',qA,qA,bD qb]
  first | rw [gF];rfl | rw [uM];rfl) (λn=>by
  simp only [kB]
  rw [if_neg qk]),aZ,Bool.and_true]
def KS (x y:M.Bk):Bool:=((x.To==y.To)&&((x.aHh==y.aHh)&&(x.N==y.N)))
theorem Oj {xs ys:List M.Bk} (hx:xs.length<=maxLen):uJ xs ys=some (eqL KS xs ys):=by
 have hm:=le_max hx
 unfold uJ
 rw [Eu (f:=KS) hx (E:=some true) (λn k hk hk'=>by
  simp only [kA]
  rw [if_pos (aY hk),aK hk,aK hk',qA,qA,bD qb]
  first | rw [gF];rfl | rw [uM];rfl) (λn=>by
  simp only [kA]
  rw [if_neg qk]),aZ,Bool.and_true]
def D7 (x y:M.aP):Bool:=((x.aGp==y.aGp)&&(x.Seq==y.Seq))
theorem K6 {xs ys:List M.aP} (hx:xs.length<=maxLen):nY xs ys=some (eqL D7 xs ys):=by
 have hm:=le_max hx
 unfold nY
 rw [Eu (f:=D7) hx (E:=some true) (λn k hk hk'=>by
  simp only [gM]
  rw [if_pos (aY hk),aK hk,aK hk',qA,qA,bD qb]
  first | rw [gF];rfl | rw [uM];rfl) (λn=>by
  simp only [gM]
  rw [if_neg qk]),aZ,Bool.and_true]
theorem HI {p:M.aGw->M.aGw->Option Bool} {f:M.aGw->M.aGw->Bool} {xs ys:List M.aGw} (hx:xs.length<=maxLen) (hp : ∀x∈xs,∀y∈ys,p x y=some (f x y)):kH xs ys p=some (eqL f xs ys):=by
 have hm:=le_max hx
 unfold kH
 rw [Eu (f:=f) hx (E:=some true) (λn k hk hk'=>by
  simp only [eJ]
  rw [if_pos (aY hk),aK hk,aK hk',qA,qA,bD qb]
  rw [hp _ (qG hk) _ (qG hk'),qA,gF]) (λn=>by
  simp only [eJ]
  rw [if_neg qk]),aZ,Bool.and_true]
theorem I6 {p:M.aGo->M.aGo->Option Bool} {f:M.aGo->M.aGo->Bool} {xs ys:List M.aGo} (hx:xs.length<=maxLen) (hp : ∀x∈xs,∀y∈ys,p x y=some (f x y)):lU xs ys p=some (eqL f xs ys):=by
 have hm:=le_max hx
 unfold lU
 rw [Eu (f:=f) hx (E:=some true) (λn k hk hk'=>by
  simp only [fF]
  rw [if_pos (aY hk),aK hk,aK hk',qA,qA,bD qb]
  rw [hp _ (qG hk) _ (qG hk'),qA,gF]) (λn=>by
  simp only [fF]
  rw [if_neg qk]),aZ,Bool.and_true]
theorem J4 {p:M.aG1->M.aG1->Option Bool} {f:M.aG1->M.aG1->Bool} {xs ys:List M.aG1} (hx:xs.length<=maxLen) (hp : ∀x∈xs,∀y∈ys,p x y=some (f x y)):mO xs ys p=some (eqL f xs ys):=by
 have hm:=le_max hx
 unfold mO
 rw [Eu (f:=f) hx (E:=some true) (λn k hk hk'=>by
  simp only [fW]
  rw [if_pos (aY hk),aK hk,aK hk',qA,qA,bD qb]
  rw [hp _ (qG hk) _ (qG hk'),qA,gF]) (λn=>by
  simp only [fW]
  rw [if_neg qk]),aZ,Bool.and_true]
theorem IJ {p:M.aD->M.aD->Option Bool} {f:M.aD->M.aD->Bool} {xs ys:List M.aD} (hx:xs.length<=maxLen) (hp : ∀x∈xs,∀y∈ys,p x y=some (f x y)):mH xs ys p=some (eqL f xs ys):=by
 have hm:=le_max hx
 unfold mH
 rw [Eu (f:=f) hx (E:=some true) (λn k hk hk'=>by
  simp only [fC]
  rw [if_pos (aY hk),aK hk,aK hk',qA,qA,bD qb]
  rw [hp _ (qG hk) _ (qG hk'),qA,gF]) (λn=>by
  simp only [fC]
  rw [if_neg qk]),aZ,Bool.and_true]
theorem HR {p:M.aG->M.aG->Option Bool} {f:M.aG->M.aG->Bool} {xs ys:List M.aG} (hx:xs.length<=maxLen) (hp : ∀x∈xs,∀y∈ys,p x y=some (f x y)):kJ xs ys p=some (eqL f xs ys):=by
 have hm:=le_max hx
 unfold kJ
 rw [Eu (f:=f) hx (E:=some true) (λn k hk hk'=>by
  simp only [eI]
  rw [if_pos (aY hk),aK hk,aK hk',qA,qA,bD qb]
  rw [hp _ (qG hk) _ (qG hk'),qA,gF]) (λn=>by
  simp only [eI]
  rw [if_neg qk]),aZ,Bool.and_true]
end Go.Proofs.YtipmihbgjolaaaaGreat.gen
