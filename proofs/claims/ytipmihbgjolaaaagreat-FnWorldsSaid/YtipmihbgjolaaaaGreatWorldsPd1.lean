/-
  Helper text. No conditions.
-/
import Derived.Test.YtipmihbgjolaaaaGreatWorldsPd0
set_option linter.unusedVariables false
set_option linter.unusedSimpArgs false
namespace Go.Proofs.YtipmihbgjolaaaaGreat.gen
open Go Go.Sh
open Go.IntKind (i64)
theorem pG {r:M.aC} {a:ByteArray} (hr:r.ok):kJ r a=some (gX r a):=by
 unfold kJ zV gX
 rw [Fg (f:=nB a) hr.aAF.1 (λx _=>by simp only [tX];rfl),qA,qA]
 by_cases h:oF (nB a) r.aAF<0
 ·rw [if_pos (by simpa using h)]
  have:r.aAF.find? (nB a)=none:=by have h2:=GM (nB a) r.aAF;rw [decide_eq_false qb] at h2;rw [List.find?_eq_none];intro x hx hf;have h3:r.aAF.any (nB a)=true:=List.any_eq_true.2 ⟨x,hx,hf⟩;rw [<-h2] at h3;cases h3
  rw [this]
 ·obtain ⟨k,e,hk⟩:=lE h
  rw [if_neg (by simpa using h),e,aM hk,qA]
  have e2:r.aAF.findIdx? (nB a)=some k:=by
   unfold oF at e
   cases e3:r.aAF.findIdx? (nB a) with
   | none=>rw [e3] at e;simp only at e;omega
   | some i=>rw [e3] at e;simp only at e;congr 1;omega
  have e4:=List.findIdx?_eq_some_iff_getElem.1 e2
  have:r.aAF.find? (nB a)=some r.aAF[k]:=by rw [List.find?_eq_some_iff_getElem];exact ⟨e4.2.1,k,hk,rfl,λj hj=>by simpa using e4.2.2 j hj⟩
  rw [this]
def Dz (a:ByteArray) (x y:M.aAQ):Bool:=decide ((gX x.aC a).1<(gX y.aC a).1)||(((gX x.aC a).1==(gX y.aC a).1)&&decide (cQ x.Key y.Key<0))
theorem JF {x y:M.aAQ} {a:ByteArray} (hx:x.ok) (hy:y.ok):yW x y a=some (Dz a x y):=by unfold yW Dz;simp only [oY hx.aC,oY hy.aC,rU hx.Key hy.Key,qA,aY];cases decide ((gX x.aC a).1<(gX y.aC a).1)<;>simp
theorem EA {x y:M.aAQ} {a:ByteArray} (hx:x.ok) (hy:y.ok):rK x y a=some (Dz a x y):=by unfold rK Dz;simp only [pG hx.aC,pG hy.aC,AY hx.Key hy.Key,qA,aY];cases decide ((gX x.aC a).1<(gX y.aC a).1)<;>simp
theorem Dn (x:M.aAM) (hs:M.aAM.sz x<=1073741824):uR x=some x:=by simp only [M.aAM.sz] at hs;unfold uR;rw [IY qb qb,qA]
theorem G4 (x:M.aAL) (hs:M.aAL.sz x<=1073741824):vQ x=some x:=by
 have hl:x.aAN.length<=1073741824:=by simp only [M.aAL.sz] at hs;omega
 unfold vQ
 exact GY (xs:=x.aAN) (L:=kE x) (b:=88) (E:=λr=>some { x with aAN:=r }) hl qb (λn r k hk=>by
  simp only [kE]
  rw [if_pos (bB hk),aM hk,qA,Dn _ (by have:=sM (f:=M.aAR.sz) (qG hk);simp only [M.aAL.sz] at hs;simp only [M.aAR.sz] at this;omega),qA,bM qb]) (λn r=>by
  simp only [kE]
  rw [if_neg qk])
theorem zW (x:M.aF) (hs:M.aF.sz x<=1073741824):cX x=some x:=by
 have hl:x.aAE.length<=1073741824:=by simp only [M.aF.sz] at hs;omega
 unfold cX
 exact GY (xs:=x.aAE) (L:=mF x) (b:=32) (E:=λr=>some { x with aAE:=r }) hl qb (λn r k hk=>by
  simp only [mF]
  rw [if_pos (bB hk),aM hk,qA,G4 _ (by have:=sM (f:=M.aAL.sz) (qG hk);simp only [M.aF.sz] at hs;omega),qA,bM qb]) (λn r=>by
  simp only [mF]
  rw [if_neg qk])
theorem yL (x:M.aC) (hs:M.aC.sz x<=1073741824):bU x=some x:=by simp only [M.aC.sz] at hs;unfold bU;rw [IY qb qb,qA]
theorem BY (x:M.aAQ) (hs:M.aAQ.sz x<=1073741824):tR x=some x:=by simp only [M.aAQ.sz] at hs;unfold tR;rw [yL _ qb,qA]
theorem mK (x:M.aA) (hs:M.aA.sz x<=1073741824):bO x=some x:=by
 have hl:x.aAD.length<=1073741824:=by simp only [M.aA.sz] at hs;omega
 unfold bO
 exact GY (xs:=x.aAD) (L:=nQ x) (b:=56) (E:=λr=>some { x with aAD:=r }) hl qb (λn r k hk=>by
  simp only [nQ]
  rw [if_pos (bB hk),aM hk,qA,BY _ (by have:=sM (f:=M.aAQ.sz) (qG hk);simp only [M.aA.sz] at hs;omega),qA,bM qb]) (λn r=>by
  simp only [nQ]
  rw [if_neg qk])
theorem wL (x:M.aAA) (hs:M.aAA.sz x<=1073741824):dX x=some x:=by
 have hl:x.aAH.length<=1073741824:=by simp only [M.aAA.sz] at hs;omega
 unfold dX
 rw [IY (by simp only [M.aAA.sz] at hs;omega) qb,qA]
 exact GY (xs:=x.aAH) (L:=nR x) (b:=48) (E:=λr=>some { x with aAH:=r }) hl qb (λn r k hk=>by
  simp only [nR]
  rw [if_pos (bB hk),aM hk,qA,mK _ (by have:=sM (f:=M.aA.sz) (qG hk);simp only [M.aAA.sz] at hs;omega),qA,bM qb]) (λn r=>by
  simp only [nR]
  rw [if_neg qk])
theorem De (x:M.cR) (hs:M.cR.sz x<=1073741824):uO x=some x:=by simp only [M.cR.sz] at hs;unfold uO;rw [wL _ qb,qA,IY qb qb,qA]
theorem zP (x:M.aH) (hs:M.aH.sz x<=1073741824):oJ x=some x:=by simp only [M.aH.sz] at hs;unfold oJ;rw [IY qb qb,qA]
theorem Io (x:M.aAT) (hs:M.aAT.sz x<=1073741824):sD x=some x:=by simp only [M.aAT.sz] at hs;unfold sD;rw [zP _ qb,qA]
theorem Ba (x:M.aG) (hs:M.aG.sz x<=1073741824):sI x=some x:=by simp only [M.aG.sz] at hs;unfold sI;rw [mK _ qb,qA,Io _ qb,qA]
theorem Bb (x:M.aO) (hs:M.aO.sz x<=1073741824):mG x=some x:=by simp only [M.aO.sz] at hs;unfold mG;rw [zW _ qb,qA,De _ qb,qA,Ba _ qb,qA]
theorem FC (x:M.aC) (hs:M.aC.sz x<=1073741824):tD x=some x:=by simp only [M.aC.sz] at hs;unfold tD;rw [IY qb qb,qA]
theorem Ho (x:M.aAQ) (hs:M.aAQ.sz x<=1073741824):vX x=some x:=by simp only [M.aAQ.sz] at hs;unfold vX;rw [FC _ qb,qA]
theorem Df (x:M.aJ) (hs:M.aJ.sz x<=1073741824):fM x=some x:=by
 have hl:x.aAG.length<=1073741824:=by simp only [M.aJ.sz] at hs;omega
 unfold fM
 exact GY (xs:=x.aAG) (L:=lN x) (b:=328) (E:=λr=>some { x with aAG:=r }) hl qb (λn r k hk=>by
  simp only [lN]
  rw [if_pos (bB hk),aM hk,qA,Bb _ (by have:=sM (f:=M.aO.sz) (qG hk);simp only [M.aJ.sz] at hs;omega),qA,bM qb]) (λn r=>by
  simp only [lN]
  rw [if_neg qk])
def nPl (f:M.aAQ->Bool) (l:List M.aAQ):Nat->Nat
 | 0=>0
 | k+1=>if (l[k]?).any f=true then nPl f l k else k+1
theorem Ng (f:M.aAQ->Bool) (l:List M.aAQ) : ∀k,nPl f l k<=k
 | 0=>by simp [nPl]
 | k+1=>by unfold nPl;split;(exact Nat.le_succ_of_le (Ng f l k));·exact Nat.le_refl _
theorem O8 {α:Type} {l:List α} {i:Int} {x:α} (h:idx l i=some x):x∈l:=List.mem_of_getElem? (tT h).2.1
theorem AJ {α:Type} {l:List α} {k:Nat} (h:k<=l.length):xE l (k:Int)=some (l.take k):=by unfold xE;rw [if_pos ⟨qb,by simpa using h⟩,qH]
def RM (a:ByteArray) (out:List M.aAQ) (x:M.aAQ):List M.aAQ:=
 if (gX x.aC a).2=true then out.take (nPl (Dz a x) out out.length)++(x::out.drop (nPl (Dz a x) out out.length)) else out
def F7 (s:M.aA) (a:ByteArray):List M.aAQ:=s.aAD.foldl (RM a) []
theorem Mr (a:ByteArray) (out:List M.aAQ) (x:M.aAQ):(RM a out x).length<=out.length+1:=by unfold RM;have:=Ng (Dz a x) out out.length;split;(simp only [qE,qT,qJ,qU];omega);·omega
theorem Mn {a:ByteArray} {out:List M.aAQ} {x y:M.aAQ} (h:y∈RM a out x):y=x\/y∈out:=by unfold RM at h;split at h;(rcases List.mem_append.1 h with h | h;(exact .inr (List.mem_of_mem_take h));·rcases List.mem_cons.1 h with h | h;(exact .inl h);·exact .inr (List.mem_of_mem_drop h));·exact .inr h
theorem OZ {a:ByteArray} {l:List M.aAQ} {x:M.aAQ} {K:Int->Option (List M.aAQ)} (hl:l.length<=1048576) (hx:x.ok) (ho : ∀y∈l,M.aAQ.ok y) :
  ∀(n k:Nat),k<n->k<=l.length->lJ a l x K n (k:Int)=K ((nPl (Dz a x) l k:Nat):Int)
 | 0,k,h,_=>by omega
 | n+1,0,h,_=>by simp only [lJ,nPl];rw [if_neg qd]
 | n+1,k+1,h,hk=>by
  have hk':k<l.length:=by omega
  have e:i64.wrap (((k+1:Nat):Int)-1)=(k:Int):=by rw [bI qb qb];omega
  simp only [lJ]
  rw [if_pos qd,e,aM hk',qA,JF hx (ho _ (qG hk')),qA,nPl,qF hk',Option.any_some]
  cases hc:Dz a x l[k] with
  | true=>rw [if_pos rfl,if_pos rfl];exact OZ hl hx ho n k qb qb
  | false=>rw [if_neg qd,if_neg qd]
theorem Oo {a:ByteArray} {l:List M.aAQ} {x:M.aAQ} {K:Int->Option (List M.aAQ)} (hl:l.length<=1048576) (hx:x.ok) (ho : ∀y∈l,M.aAQ.ok y) :
  ∀(n k:Nat),k<n->k<=l.length->lU a l x K n (k:Int)=K ((nPl (Dz a x) l k:Nat):Int)
 | 0,k,h,_=>by omega
 | n+1,0,h,_=>by simp only [lU,nPl];rw [if_neg qd]
 | n+1,k+1,h,hk=>by
  have hk':k<l.length:=by omega
  have e:i64.wrap (((k+1:Nat):Int)-1)=(k:Int):=by rw [bI qb qb];omega
  simp only [lU]
  rw [if_pos qd,e,aM hk',qA,EA hx (ho _ (qG hk')),qA,nPl,qF hk',Option.any_some]
  cases hc:Dz a x l[k] with
  | true=>rw [if_pos rfl,if_pos rfl];exact Oo hl hx ho n k qb qb
  | false=>rw [if_neg qd,if_neg qd]
theorem Ru {s:M.aA} {a:ByteArray} (hs:s.ok) (hz:M.aA.sz s<=1048576):xC s a=some (F7 s a)/\(F7 s a).length<=s.aAD.length /\ ∀y∈F7 s a,M.aAQ.ok y:=by
 have hl:s.aAD.length<=1048576:=by simp only [M.aA.sz] at hz;omega
 unfold xC F7
 refine Mt (L:=jI s a) (xs:=s.aAD) (step:=RM a) (I:=λk out=>out.length<=k /\ ∀y∈out,M.aAQ.ok y) (E:=λout=>some out) hs.aAD.1 (λout k hk hi=>⟨?_,λy hy => ?_⟩) (λn out k hk hi => ?_) (λn out hi => ?_) [] ⟨Nat.le_refl _,qd⟩
 ·have:=Mr a out s.aAD[k];have:=hi.1;omega
 ·rcases Mn hy with rfl | hy;(exact hs.aAD.2 _ (qG hk));·exact hi.2 y hy
 ·have hx:=hs.aAD.2 _ (qG hk)
  have hzx:M.aAQ.sz s.aAD[k]<=1073741824:=by have:=sM (f:=M.aAQ.sz) (qG hk);simp only [M.aA.sz] at hz;omega
  have hi1:=hi.1
  simp only [jI]
  rw [if_pos (bB hk),aM hk,qA,oY hx.aC,qA,bM qb,fE]
  unfold RM
  by_cases hg:(gX s.aAD[k].aC a).2=true
  ·have hp:=Ng (Dz a s.aAD[k]) out out.length;rw [if_pos hg,if_pos hg,OZ qb hx hi.2 fuel out.length qi (Nat.le_refl _)];generalize nPl (Dz a s.aAD[k]) out out.length=p at hp;simp only [qH];rw [AJ hp,qA,fQ qt,qA,BY _ hzx,qA,fQ qq,qA,fQ qm,qA,qS,List.singleton_append]
  ·rw [if_neg hg,if_neg hg]
 ·simp only [jI];rw [if_neg qk]
theorem Nm {s:M.aA} {a:ByteArray} (hs:s.ok) (hz:M.aA.sz s<=1048576):wX s a=some (F7 s a)/\(F7 s a).length<=s.aAD.length /\ ∀y∈F7 s a,M.aAQ.ok y:=by
 have hl:s.aAD.length<=1048576:=by simp only [M.aA.sz] at hz;omega
 unfold wX F7
 refine Mt (L:=jH s a) (xs:=s.aAD) (step:=RM a) (I:=λk out=>out.length<=k /\ ∀y∈out,M.aAQ.ok y) (E:=λout=>some out) hs.aAD.1 (λout k hk hi=>⟨?_,λy hy => ?_⟩) (λn out k hk hi => ?_) (λn out hi => ?_) [] ⟨Nat.le_refl _,qd⟩
 ·have:=Mr a out s.aAD[k];have:=hi.1;omega
 ·rcases Mn hy with rfl | hy;(exact hs.aAD.2 _ (qG hk));·exact hi.2 y hy
 ·have hx:=hs.aAD.2 _ (qG hk)
  have hzx:M.aAQ.sz s.aAD[k]<=1073741824:=by have:=sM (f:=M.aAQ.sz) (qG hk);simp only [M.aA.sz] at hz;omega
  have hi1:=hi.1
  simp only [jH]
  rw [if_pos (bB hk),aM hk,qA,pG hx.aC,qA,bM qb,fE]
  unfold RM
  by_cases hg:(gX s.aAD[k].aC a).2=true
  ·have hp:=Ng (Dz a s.aAD[k]) out out.length;rw [if_pos hg,if_pos hg,Oo qb hx hi.2 fuel out.length qi (Nat.le_refl _)];generalize nPl (Dz a s.aAD[k]) out out.length=p at hp;simp only [qH];rw [Ho _ hzx,qA,QW ⟨qb,by simpa using hp,qd,qs⟩,qA,List.singleton_append]
  ·rw [if_neg hg,if_neg hg]
 ·simp only [jH];rw [if_neg qk]
theorem P6 {a:ByteArray} {l:List M.aAQ} (ho : ∀y∈l,M.aAQ.ok y) : ∀(n:Nat) (v:Int),jO a l n v=eQ a l n v
 | 0,v=>rfl
 | n+1,v=>by
  simp only [jO,eQ,P6 ho n]
  cases h1:idx l (i64.wrap (v-1)) with
  | none=>rfl
  | some x =>
   have hx:=(ho x (O8 h1)).aC
   simp only [qA,oY hx,pG hx]
   cases h2:idx l v with
   | none=>rfl
   | some y =>
    have hy:=(ho y (O8 h2)).aC
    simp only [qA,oY hy,pG hy]
theorem OE {a:ByteArray} {l:List M.aAQ} (ho : ∀y∈l,M.aAQ.ok y) (hl:l.length<=1048576) : ∀(n k:Nat),l.length-k<n->1<=k -> ∃r,eQ a l n (k:Int)=some r
 | 0,k,h,_=>by omega
 | n+1,k,h,h1=>by
  simp only [eQ]
  by_cases hk:k<l.length
  ·have e:i64.wrap ((k:Int)-1)=((k-1:Nat):Int):=by rw [bI qb qb];omega
   have hk1:k-1<l.length:=by omega
   rw [if_pos (bB hk),e,aM hk1,qA,pG (ho _ (qG hk1)).aC,qA,aM hk,qA,pG (ho _ (qG hk)).aC,qA,bM qb]
   split
   ·exact ⟨_,rfl⟩
   ·exact OE ho hl n (k+1) qb qb
  ·rw [if_neg qc];exact ⟨_,rfl⟩
def IA (s:M.aA) (a:ByteArray):M.Key×M.Key×Bool:=(iB s a).getD (⟨0,0,⟨#[]⟩⟩,⟨0,0,⟨#[]⟩⟩,false)
theorem A3 {s:M.aA} {a:ByteArray} (hs:s.ok) (hz:M.aA.sz s<=1048576):iB s a=some (IA s a):=by
 obtain ⟨e,hl,ho⟩:=Nm (a:=a) hs hz
 have hl2:s.aAD.length<=1048576:=by simp only [M.aA.sz] at hz;omega
 obtain ⟨r,hr⟩:=OE (a:=a) ho qb fuel 1 qi qb
 have:iB s a=some r:=by unfold iB;rw [e,qA];exact hr
 unfold IA
 rw [this]
 rfl
theorem D2 {s:M.aA} {a:ByteArray} (hs:s.ok) (hz:M.aA.sz s<=1048576):rE s a=some (IA s a):=by obtain ⟨e,hl,ho⟩:=Ru (a:=a) hs hz;obtain ⟨e2,_⟩:=Nm (a:=a) hs hz;rw [<-A3 hs hz];unfold rE iB;rw [e,e2,qA,qA];exact P6 ho _ _
def BX (l:List M.aA) (k:Nat):Bool:=(l[k]?).any gE&&(decide (k=0)||(l[k-1]?).any λy=>(l[k]?).any λx=>Op.bytesLess y.Name.toList x.Name.toList)
def Ar (x y:M.aN):Bool:=(x.aA.toList==y.aA.toList)&&(x.Field.toList==y.Field.toList)
def II (l:List M.aN) (k:Nat) (x:M.aN):Bool:=(List.range k).all λj => !((l[j]?).any λy=>Ar y x)
def Ck (d:M.aAA) (k:Nat):Bool:=(d.aAS[k]?).any λu=>decide (0<=oF (Af u.aA) d.aAH)&&(kI u.Field&&(!((d.aAH[(oF (Af u.aA) d.aAH).toNat]?).any λs=>(IA s u.Field).2.2)&&II d.aAS k u))
def nDb (d:M.aAA):Bool:=(List.range d.aAH.length).all (BX d.aAH)&&((List.range d.aAS.length).all (Ck d)&&(kI d.Name&&(inR d.aAB 0 1000&&(decide (d.aAH.length<=4)&&decide (d.aAS.length<=4)))))
theorem QM {l:List M.aN} {k:Nat} {x:M.aN} (hk:k<=l.length):(l.take k).any (Ar x) = !(II l k x):=by
 have hc : ∀y,Ar y x=Ar x y:=λy=>by unfold Ar;rw [BEq.comm (a:=y.aA.toList),BEq.comm (a:=y.Field.toList)]
 unfold II
 rw [Bool.eq_iff_iff]
 simp only [List.any_eq_true,Bool.not_eq_true',List.all_eq_false,qR,Bool.not_eq_true,Bool.not_eq_false',hc]
 constructor
 ·rintro ⟨y,hy,hs⟩;obtain ⟨j,hj,rfl⟩:=List.mem_iff_getElem.1 hy;rw [qT] at hj;refine ⟨j,qb,?_⟩;rw [qF qb,Option.any_some];rw [List.getElem_take] at hs;simp [hs]
 ·rintro ⟨j,hj,hs⟩;rw [qF qb,Option.any_some] at hs;refine ⟨l[j],List.mem_iff_getElem.2 ⟨j,by rw [qT];omega,by rw [List.getElem_take]⟩,by simpa using hs⟩
theorem Ib {l:List M.aN} {x:M.aN} (hl:l.length<=maxLen):gY l x=some (l.any (Ar x)):=by
 have hm:=le_max hl
 have:kH l x=some (oF (Ar x) l):=by unfold kH;rw [findAll (L:=dH l x) (f:=Ar x) (A:=λi=>some (i:Int)) (E:=some (-1)) hl (λm k hk => ?_) (λm => ?_),tK];(simp only [dH];rw [if_pos (bB hk),aM hk,qA,bM qb];rfl);·simp only [dH];rw [if_neg qk]
 unfold gY
 rw [this,qA,GM]
theorem N0 {d:M.aAA} {u:M.aN} {k:Nat} {K:Int->Option Bool} (hm:d.aAS.length<=maxLen) (hk:k<=d.aAS.length):fN d (k:Int) u K fuel 0=if II d.aAS k u=true then K (k:Int) else some false:=by
 have hm':=le_max hm
 refine lI (L:=fN d (k:Int) u K) (g:=λj => !((d.aAS[j]?).any λy=>Ar y u)) (F:=some false) (E:=K (k:Int)) (Nat.le_trans hk hm) (λn j hj => ?_) (λn => ?_)
 ·have hj':j<d.aAS.length:=by omega
  simp only [fN]
  rw [if_pos (bB hj),aM hj',qA,bM qb,qF hj',Option.any_some,fE]
  rfl
 ·simp only [fN];rw [if_neg qk]
theorem Nk {d:M.aAA} (hz:M.aAA.sz d<=1048576) : ∀s∈d.aAH,M.aA.sz s<=1048576:=λs hs=>by have:=sM (f:=M.aA.sz) hs;simp only [M.aAA.sz] at hz;omega
theorem MX (a b:List UInt8):(Op.bytesLess a b||a==b) = !(Op.bytesLess b a):=by have h:=Aw b a;cases h1:Op.bytesLess b a<;>cases h2:(Op.bytesLess a b||a==b)<;>simp_all
theorem oP {d:M.aAA} (hd:d.ok) (hz:M.aAA.sz d<=1048576):bQ d=some (nDb d):=by
 have hm:=le_max hd.aAH.1
 have hm2:=le_max hd.aAS.1
 unfold bQ nDb
 rw [lI (L:=eA d) (g:=BX d.aAH) (F:=some false) (E:=eB d fuel 0) hd.aAH.1 (λn k hk => ?_) (λn => ?_),
  lI (L:=eB d) (g:=Ck d) (F:=some false) (E:=some (kI d.Name&&(inR d.aAB 0 1000&&(decide (d.aAH.length<=4)&&decide (d.aAS.length<=4))))) hd.aAS.1 (λn k hk => ?_) (λn => ?_),aY,aY]
 ·have hf:=hd.aAS.2 _ (qG hk)
  simp only [eB]
  rw [if_pos (bB hk),aM hk,qA,Ai hd,qA,bM qb]
  unfold Ck
  rw [qF hk,Option.any_some,cV hf.Field,qA]
  by_cases h:oF (Af d.aAS[k].aA) d.aAH<0
  ·rw [if_pos (by simpa using h),decide_eq_false qb];simp
  ·obtain ⟨j,e,hj⟩:=lE h
   have hs:=hd.aAH.2 _ (qG hj)
   rw [if_neg (by simpa using h),e,aM hj,qA,D2 hs (Nk hz _ (qG hj)),qA,qH,qF hj,Option.any_some,N0 hd.aAS.1 qb]
   have:decide ((0:Int)<=(j:Int))=true:=by simp
   rw [this]
   generalize eB d n ((k+1:Nat):Int)=Z
   cases kI d.aAS[k].Field<;>cases (IA d.aAH[j] d.aAS[k].Field).2.2<;>cases II d.aAS k d.aAS[k]<;>simp
 ·simp only [eB]
  rw [if_neg qk,cV hd.Name,qA,bX,qA,aY,aY,aY]
  congr 3
  have e1:decide ((d.aAH.length:Int)<=4)=decide (d.aAH.length<=4):=by rw [Bool.eq_iff_iff];simp;omega
  have e2:decide ((d.aAS.length:Int)<=4)=decide (d.aAS.length<=4):=by rw [Bool.eq_iff_iff];simp;omega
  rw [e1,e2]
 ·have hf:=hd.aAH.2 _ (qG hk)
  simp only [eA]
  rw [if_pos (bB hk),aM hk,qA,bM qb,uU hf,qA]
  unfold BX
  rw [qF hk]
  generalize eA d n ((k+1:Nat):Int)=Z
  by_cases h0:k=0
  ·subst h0;simp only [Option.any_some];cases gE d.aAH[0]<;>simp
  ·have e:i64.wrap ((k:Int)-1)=((k-1:Nat):Int):=by rw [bI qb qb];omega
   have hk1:k-1<d.aAH.length:=by omega
   rw [if_pos (c:=(decide ((k:Int)>0))=true) qc,e,aM hk1,qA,qF hk1]
   simp only [Option.any_some,h0,decide_false,Bool.false_or]
   cases gE d.aAH[k]<;>cases Op.bytesLess d.aAH[k-1].Name.toList d.aAH[k].Name.toList<;>simp
 ·simp only [eA];rw [if_neg qk]
theorem E6 {d:M.aAA} (hd:d.ok) (hz:M.aAA.sz d<=1048576):sO d=some (nDb d):=by
 have hm:=le_max hd.aAH.1
 have hm2:=le_max hd.aAS.1
 unfold sO nDb
 rw [lI (L:=dZ d) (g:=BX d.aAH) (F:=some false) (E:=eD d fuel 0) hd.aAH.1 (λn k hk => ?_) (λn => ?_),
  lI (L:=eD d) (g:=Ck d) (F:=some false) (E:=some true) hd.aAS.1 (λn k hk => ?_) (λn => ?_)]
 ·simp only [dM hd.Name,bS,qA]
  have e1:decide ((d.aAH.length:Int)>4) = !decide (d.aAH.length<=4):=by rw [Bool.eq_iff_iff];simp;omega
  have e2:decide ((d.aAS.length:Int)>4) = !decide (d.aAS.length<=4):=by rw [Bool.eq_iff_iff];simp;omega
  rw [e1,e2]
  cases kI d.Name<;>cases inR d.aAB 0 1000<;>cases decide (d.aAH.length<=4)<;>cases decide (d.aAS.length<=4)<;>cases (List.range d.aAH.length).all (BX d.aAH)<;>cases (List.range d.aAS.length).all (Ck d)<;>rfl
 ·have hf:=hd.aAS.2 _ (qG hk)
  simp only [eD]
  rw [if_pos (bB hk),aM hk,qA,Gi hd,qA,bM qb]
  unfold Ck
  rw [qF hk,Option.any_some,dM hf.Field,qA,AJ qb,qA,qH,Ib (Nat.le_trans (by rw [qT];exact Nat.min_le_right _ _) hd.aAS.1),qA,QM qb]
  by_cases h:oF (Af d.aAS[k].aA) d.aAH<0
  ·rw [if_pos (by simpa using h),decide_eq_false qb];simp
  ·obtain ⟨j,e,hj⟩:=lE h
   have hs:=hd.aAH.2 _ (qG hj)
   rw [if_neg (by simpa using h),e,aM hj,qA,A3 hs (Nk hz _ (qG hj)),qA,qH,qF hj,Option.any_some]
   have:decide ((0:Int)<=(j:Int))=true:=by simp
   rw [this]
   generalize eD d n ((k+1:Nat):Int)=Z
   cases kI d.aAS[k].Field<;>cases (IA d.aAH[j] d.aAS[k].Field).2.2<;>cases II d.aAS k d.aAS[k]<;>simp
 ·simp only [eD];rw [if_neg qk]
 ·have hf:=hd.aAH.2 _ (qG hk)
  simp only [dZ]
  rw [if_pos (bB hk),aM hk,qA,bM qb,A6 hf,qA]
  unfold BX
  rw [qF hk]
  generalize dZ d n ((k+1:Nat):Int)=Z
  by_cases h0:k=0
  ·subst h0;simp only [Option.any_some];cases gE d.aAH[0]<;>simp
  ·have e:i64.wrap ((k:Int)-1)=((k-1:Nat):Int):=by rw [bI qb qb];omega
   have hk1:k-1<d.aAH.length:=by omega
   rw [if_pos (c:=(decide ((k:Int)>0))=true) qc,e,aM hk1,qA,qF hk1,MX]
   simp only [Option.any_some,h0,decide_false,Bool.false_or]
   cases gE d.aAH[k]<;>cases Op.bytesLess d.aAH[k-1].Name.toList d.aAH[k].Name.toList<;>simp
 ·simp only [dZ];rw [if_neg qk]
def AG (b:M.aO):Bool:=kI b.aAO&&(kI b.Top&&(Vh b.aAC&&((b.aAC.aAO.toList==b.aAO.toList)&&(iO b.aAE&&(nDb b.cR.aAU&&(zR b.aG&&(inR b.aAk 0 1000000000000&&decide (KL b<=2500))))))))
theorem Eg {b:M.aO} (hz:M.aO.sz b<=1048576):M.aAA.sz b.cR.aAU<=1048576:=by simp only [M.aO.sz,M.cR.sz] at hz;omega
theorem B6 {b:M.aO} (hb:b.ok) (hz:M.aAA.sz b.cR.aAU<=1048576):tE b=some (AG b):=by unfold tE AG;simp only [cV hb.aAO,cV hb.Top,Ab hb.aAC,mC hb.aAE,oP hb.cR.aAU hz,xL hb.aG,bX,Im hb,qA,aY]
theorem GA {b:M.aO} (hb:b.ok) (hz:M.aAA.sz b.cR.aAU<=1048576):vU b=some (AG b):=by unfold vU AG;simp only [dM hb.aAO,dM hb.Top,CK hb.aAC,ER hb.aAE,E6 hb.cR.aAU hz,Ge hb.aG,bS,It hb,qA,aY]
def BI (x y:M.aO):Bool:=Op.bytesLess x.aAO.toList y.aAO.toList||((x.aAO.toList==y.aAO.toList)&&Op.bytesLess x.Top.toList y.Top.toList)
theorem Dm (x y:M.aO):uN x y.aAO y.Top=some (BI x y):=by unfold uN BI;cases Op.bytesLess x.aAO.toList y.aAO.toList<;>cases (x.aAO.toList==y.aAO.toList)<;>simp
theorem DA (x y:M.aO):pH x y=some (BI x y):=by unfold pH BI;cases Op.bytesLess x.aAO.toList y.aAO.toList<;>cases (x.aAO.toList==y.aAO.toList)<;>simp
def Ce (l:List M.aO) (k:Nat):Bool:=(l[k]?).any AG&&(decide (k=0)||(l[k-1]?).any λy=>(l[k]?).any λx=>BI y x)
def uX (s:M.aJ):Bool:=(List.range s.aAG.length).all (Ce s.aAG)&&decide ((s.aAG.length:Int)<=9)
theorem zE {s:M.aJ} (hs:s.ok) (hz : ∀b∈s.aAG,M.aAA.sz b.cR.aAU<=1048576):bZ s=some (uX s):=by
 have hm:=le_max hs.aAG.1
 unfold bZ uX
 rw [lI (L:=fG s) (g:=Ce s.aAG) (F:=some false) (E:=some (decide ((s.aAG.length:Int)<=9))) hs.aAG.1 (λn k hk => ?_) (λn => ?_),aY]
 ·have hf:=hs.aAG.2 _ (qG hk)
  have hzb:M.aAA.sz s.aAG[k].cR.aAU<=1048576:=hz _ (qG hk)
  simp only [fG]
  rw [if_pos (bB hk),aM hk,qA,bM qb,B6 hf hzb,qA]
  unfold Ce
  rw [qF hk]
  generalize fG s n ((k+1:Nat):Int)=Z
  by_cases h0:k=0
  ·subst h0;simp only [Option.any_some];cases AG s.aAG[0]<;>simp
  ·have e:i64.wrap ((k:Int)-1)=((k-1:Nat):Int):=by rw [bI qb qb];omega
   have hk1:k-1<s.aAG.length:=by omega
   rw [if_pos (c:=(decide ((k:Int)>0))=true) qc,e,aM hk1,qA,Dm,qA,qF hk1]
   simp only [Option.any_some,h0,decide_false,Bool.false_or]
   cases AG s.aAG[k]<;>cases BI s.aAG[k-1] s.aAG[k]<;>simp
 ·simp only [fG];rw [if_neg qk]
theorem Gz {s:M.aJ} (hs:s.ok) (hz:M.aJ.sz s<=1048576):bZ s=some (uX s):=zE hs (λb hb=>Eg (by have:=sM (f:=M.aO.sz) hb;simp only [M.aJ.sz] at hz;omega))
theorem E4 {s:M.aJ} (hs:s.ok) (hz : ∀b∈s.aAG,M.aAA.sz b.cR.aAU<=1048576):uD s=some (uX s):=by
 have hm:=le_max hs.aAG.1
 unfold uD uX
 rw [lI (L:=fD s) (g:=Ce s.aAG) (F:=some false) (E:=some (decide ((s.aAG.length:Int)<=9))) hs.aAG.1 (λn k hk => ?_) (λn => ?_),aY]
 ·have hf:=hs.aAG.2 _ (qG hk)
  have hzb:M.aAA.sz s.aAG[k].cR.aAU<=1048576:=hz _ (qG hk)
  simp only [fD]
  rw [if_pos (bB hk),aM hk,qA,bM qb,GA hf hzb,qA]
  unfold Ce
  rw [qF hk]
  generalize fD s n ((k+1:Nat):Int)=Z
  by_cases h0:k=0
  ·subst h0;simp only [Option.any_some];cases AG s.aAG[0]<;>simp
  ·have e:i64.wrap ((k:Int)-1)=((k-1:Nat):Int):=by rw [bI qb qb];omega
   have hk1:k-1<s.aAG.length:=by omega
   rw [if_pos (c:=(decide ((k:Int)>0))=true) qc,e,aM hk1,qA,DA,qA,qF hk1]
   simp only [Option.any_some,h0,decide_false,Bool.false_or]
   cases AG s.aAG[k]<;>cases BI s.aAG[k-1] s.aAG[k]<;>simp
 ·simp only [fD];rw [if_neg qk]
def zC:M.aO:=(⟨(⟨#[]⟩:ByteArray),(⟨#[]⟩:ByteArray),(⟨(⟨#[]⟩:ByteArray),0,0,0⟩:M.aAC),(⟨([]:List M.aAL)⟩:M.aF),(⟨(⟨(⟨#[]⟩:ByteArray),0,([]:List M.aA),([]:List M.aN)⟩:M.aAA),([]:List Int),0⟩:M.cR),(⟨(⟨(⟨#[]⟩:ByteArray),([]:List M.aAQ),0⟩:M.aA),0,(⟨(⟨0,0,([]:List M.bA)⟩:M.aH),0,0⟩:M.aAT)⟩:M.aG),0,false⟩:M.aO)
def C4 (a b:ByteArray) (d:Int):M.aO:=(⟨a,b,(⟨a,0,0,0⟩:M.aAC),(⟨([]:List M.aAL)⟩:M.aF),(⟨(⟨(⟨#[97,112,112]⟩:ByteArray),1,[(⟨(⟨#[110,111,116,101,115]⟩:ByteArray),([]:List M.aAQ),0⟩:M.aA)],([]:List M.aN)⟩:M.aAA),([]:List Int),0⟩:M.cR),(⟨(⟨(⟨#[110,111,116,101,115]⟩:ByteArray),([]:List M.aAQ),0⟩:M.aA),0,(⟨(⟨d,1,([]:List M.bA)⟩:M.aH),0,0⟩:M.aAT)⟩:M.aG),0,false⟩:M.aO)
theorem sL:inI 0:=by unfold inI;omega
theorem MK:inI 1:=by unfold inI;omega
theorem Vk (n:Nat) (h:n<=1048576):n<=maxLen:=by unfold maxLen;omega
theorem sz0:((⟨#[]⟩:ByteArray)).size<=maxLen:=Vk _ qe
theorem sz5:((⟨#[110,111,116,101,115]⟩:ByteArray)).size<=maxLen:=Vk _ qe
theorem sz3:((⟨#[97,112,112]⟩:ByteArray)).size<=maxLen:=Vk _ qe
theorem So {d:Int} (n:Int) (hd:inI d) (hn:inI n):M.aH.ok (⟨d,n,([]:List M.bA)⟩:M.aH):=⟨hd,hn,⟨qd,qd⟩⟩
theorem OJ:zC.ok:=⟨sz0,sz0,⟨sz0,sL,sL,sL⟩,⟨⟨by simp [zC],by simp [zC]⟩⟩,⟨⟨sz0,sL,⟨by simp [zC],by simp [zC]⟩,⟨by simp [zC],by simp [zC]⟩⟩,⟨by simp [zC],by simp [zC]⟩,sL⟩,⟨⟨sz0,⟨by simp [zC],by simp [zC]⟩,sL⟩,sL,⟨⟨sL,sL,⟨by simp [zC],by simp [zC]⟩⟩,sL,sL⟩⟩,sL⟩
theorem Py:M.aA.ok (⟨(⟨#[110,111,116,101,115]⟩:ByteArray),([]:List M.aAQ),0⟩:M.aA):=⟨sz5,⟨qd,qd⟩,sL⟩
theorem MG {a b:ByteArray} {d:Int} (ha:a.size<=maxLen) (hb:b.size<=maxLen) (hd:inI d):(C4 a b d).ok:=
 ⟨ha,hb,⟨ha,sL,sL,sL⟩,⟨⟨by simp [C4],by simp [C4]⟩⟩,⟨⟨sz3,MK,⟨Vk _ (by simp [C4]),λy hy=>by simp only [C4,List.mem_cons,qO,or_false] at hy;subst hy;exact Py⟩,⟨by simp [C4],by simp [C4]⟩⟩,⟨by simp [C4],by simp [C4]⟩,sL⟩,⟨Py,sL,⟨So 1 hd MK,sL,sL⟩⟩,sL⟩
theorem QI (a b:ByteArray) (d:Int):M.aAA.sz (C4 a b d).cR.aAU<=1048576:=by simp only [C4];decide
def TV (a b:ByteArray) (d:Int):M.aO×Bool:=if oU (⟨d,1,([]:List M.bA)⟩:M.aH)=true then (if AG (C4 a b d)=true then (C4 a b d,true) else (zC,false)) else (zC,false)
theorem GC {a b:ByteArray} {d:Int} (ha:a.size<=maxLen) (hb:b.size<=maxLen) (hd:inI d):pO a b d=some (TV a b d):=by
 unfold pO kX TV
 rw [mT (So 1 hd MK),qA]
 cases hn:oU (⟨d,1,([]:List M.bA)⟩:M.aH) with
 | false=>simp [zC]
 | true =>
  have hI:=B6 (MG ha hb hd) (QI a b d)
  unfold C4 at hI
  simp only [qB,qD,if_false,qA,hI,if_true]
  unfold C4
  generalize AG _=c
  cases c<;>simp [zC]
theorem bH (x:Int):inI (i64.wrap x):=by unfold inI;rw [IntKind.wrap_i64];omega
def yA (x y:Int):Bool:=x==y
theorem KW {xs ys:List Int} (hx:xs.length<=maxLen):pI xs ys=some (eqL yA xs ys):=by
 have hm:=le_max hx
 unfold pI
 rw [BH (f:=yA) hx (E:=some true) (λn k hk hk'=>by
  simp only [iD]
  rw [if_pos (bB hk),aM hk,aM hk',qA,qA,bM qb]
  first | rw [fE];rfl | rw [pM];rfl) (λn=>by
  simp only [iD]
  rw [if_neg qk]),aY,Bool.and_true]
def J5 (x y:Int):Bool:=x==y
theorem LA {xs ys:List Int} (hx:xs.length<=maxLen):rM xs ys=some (eqL J5 xs ys):=by
 have hm:=le_max hx
 unfold rM
 rw [BH (f:=J5) hx (E:=some true) (λn k hk hk'=>by
  simp only [jM]
  rw [if_pos (bB hk),aM hk,aM hk',qA,qA,bM qb]
  first | rw [fE];rfl | rw [pM];rfl) (λn=>by
  simp only [jM]
  rw [if_neg qk]),aY,Bool.and_true]
def CH (x y:ByteArray):Bool:=x.toList==y.toList
theorem Iq {xs ys:List ByteArray} (hx:xs.length<=maxLen):mN xs ys=some (eqL CH xs ys):=by
 have hm:=le_max hx
 unfold mN
 rw [BH (f:=CH) hx (E:=some true) (λn k hk hk'=>by
  simp only [gB]
  rw [if_pos (bB hk),aM hk,aM hk',qA,qA,bM qb]
  first | rw [fE];rfl | rw [pM];rfl) (λn=>by
  simp only [gB]
  rw [if_neg qk]),aY,Bool.and_true]
def GQ (x y:M.Field):Bool:=((x.Name.toList==y.Name.toList)&&(x.N==y.N))
theorem JO {xs ys:List M.Field} (hx:xs.length<=maxLen):oA xs ys=some (eqL GQ xs ys):=by
 have hm:=le_max hx
 unfold oA
 rw [BH (f:=GQ) hx (E:=some true) (λn k hk hk'=>by
  simp only [gV]
  rw [if_pos (bB hk),aM hk,aM hk',qA,qA,bM qb]
  first | rw [fE];rfl | rw [pM];rfl) (λn=>by
  simp only [gV]
  rw [if_neg qk]),aY,Bool.and_true]
def AN (x y:M.aN):Bool:=((x.aA.toList==y.aA.toList)&&(x.Field.toList==y.Field.toList))
theorem Gd {xs ys:List M.aN} (hx:xs.length<=maxLen):kO xs ys=some (eqL AN xs ys):=by
 have hm:=le_max hx
 unfold kO
 rw [BH (f:=AN) hx (E:=some true) (λn k hk hk'=>by
  simp only [eU]
  rw [if_pos (bB hk),aM hk,aM hk',qA,qA,bM qb]
  first | rw [fE];rfl | rw [pM];rfl) (λn=>by
  simp only [eU]
  rw [if_neg qk]),aY,Bool.and_true]
def AX (x y:M.bA):Bool:=((x.aAK==y.aAK)&&((x.Seq==y.Seq)&&((x.Key.aAV==y.Key.aAV)&&((x.Key.N==y.Key.N)&&((x.Key.aAf.toList==y.Key.aAf.toList)&&((x.Field.toList==y.Field.toList)&&(x.N==y.N)))))))
theorem D1 {xs ys:List M.bA} (hx:xs.length<=maxLen):kV xs ys=some (eqL AX xs ys):=by
 have hm:=le_max hx
 unfold kV
 rw [BH (f:=AX) hx (E:=some true) (λn k hk hk'=>by
  simp only [gQ]
  rw [if_pos (bB hk),aM hk,aM hk',qA,qA,bM qb]
  first | rw [fE];rfl | rw [pM];rfl) (λn=>by
  simp only [gQ]
  rw [if_neg qk]),aY,Bool.and_true]
def EJ (x y:M.Instr):Bool:=((x.aAV==y.aAV)&&((x.R==y.R)&&((x.N==y.N)&&(x.aAf.toList==y.aAf.toList))))
theorem J0 {xs ys:List M.Instr} (hx:xs.length<=maxLen):nX xs ys=some (eqL EJ xs ys):=by
 have hm:=le_max hx
 unfold nX
 rw [BH (f:=EJ) hx (E:=some true) (λn k hk hk'=>by
  simp only [gS]
  rw [if_pos (bB hk),aM hk,aM hk',qA,qA,bM qb]
  first | rw [fE];rfl | rw [pM];rfl) (λn=>by
  simp only [gS]
  rw [if_neg qk]),aY,Bool.and_true]
def Cg (x y:M.aU):Bool:=((x.aAs.toList==y.aAs.toList)&&(x.aAB==y.aAB))
theorem Ie {xs ys:List M.aU} (hx:xs.length<=maxLen):mM xs ys=some (eqL Cg xs ys):=by
 have hm:=le_max hx
 unfold mM
 rw [BH (f:=Cg) hx (E:=some true) (λn k hk hk'=>by
  simp only [gC]
  rw [if_pos (bB hk),aM hk,aM hk',qA,qA,bM qb]
  first | rw [fE];rfl | rw [pM];rfl) (λn=>by
  simp only [gC]
  rw [if_neg qk]),aY,Bool.and_true]
def HZ (x y:M.tV):Bool:=((x.Name.toList==y.Name.toList)&&((x.bV==y.bV)&&((x.aAt==y.aAt)&&(x.aBA==y.aBA))))
theorem Kr {xs ys:List M.tV} (hx:xs.length<=maxLen):pE xs ys=some (eqL HZ xs ys):=by
 have hm:=le_max hx
 unfold pE
 rw [BH (f:=HZ) hx (E:=some true) (λn k hk hk'=>by
  simp only [iF]
  rw [if_pos (bB hk),aM hk,aM hk',qA,qA,bM qb]
  first | rw [fE];rfl | rw [pM];rfl) (λn=>by
  simp only [iF]
  rw [if_neg qk]),aY,Bool.and_true]
def Hn (x y:M.xV):Bool:=((x.To==y.To)&&((x.aBC==y.aBC)&&(x.N==y.N)))
theorem Ki {xs ys:List M.xV} (hx:xs.length<=maxLen):pL xs ys=some (eqL Hn xs ys):=by
 have hm:=le_max hx
 unfold pL
 rw [BH (f:=Hn) hx (E:=some true) (λn k hk hk'=>by
  simp only [iE]
  rw [if_pos (bB hk),aM hk,aM hk',qA,qA,bM qb]
  first | rw [fE];rfl | rw [pM];rfl) (λn=>by
  simp only [iE]
  rw [if_neg qk]),aY,Bool.and_true]
def Bp (x y:M.aK):Bool:=((x.aAK==y.aAK)&&(x.Seq==y.Seq))
theorem Hz {xs ys:List M.aK} (hx:xs.length<=maxLen):lG xs ys=some (eqL Bp xs ys):=by
 have hm:=le_max hx
 unfold lG
 rw [BH (f:=Bp) hx (E:=some true) (λn k hk hk'=>by
  simp only [fL]
  rw [if_pos (bB hk),aM hk,aM hk',qA,qA,bM qb]
  first | rw [fE];rfl | rw [pM];rfl) (λn=>by
  simp only [fL]
  rw [if_neg qk]),aY,Bool.and_true]
theorem D7 {p:M.aAR->M.aAR->Option Bool} {f:M.aAR->M.aAR->Bool} {xs ys:List M.aAR} (hx:xs.length<=maxLen) (hp : ∀x∈xs,∀y∈ys,p x y=some (f x y)):iI xs ys p=some (eqL f xs ys):=by
 have hm:=le_max hx
 unfold iI
 rw [BH (f:=f) hx (E:=some true) (λn k hk hk'=>by
  simp only [dS]
  rw [if_pos (bB hk),aM hk,aM hk',qA,qA,bM qb]
  rw [hp _ (qG hk) _ (qG hk'),qA,fE]) (λn=>by
  simp only [dS]
  rw [if_neg qk]),aY,Bool.and_true]
theorem Fl {p:M.aAL->M.aAL->Option Bool} {f:M.aAL->M.aAL->Bool} {xs ys:List M.aAL} (hx:xs.length<=maxLen) (hp : ∀x∈xs,∀y∈ys,p x y=some (f x y)):jJ xs ys p=some (eqL f xs ys):=by
 have hm:=le_max hx
 unfold jJ
 rw [BH (f:=f) hx (E:=some true) (λn k hk hk'=>by
  simp only [eL]
  rw [if_pos (bB hk),aM hk,aM hk',qA,qA,bM qb]
  rw [hp _ (qG hk) _ (qG hk'),qA,fE]) (λn=>by
  simp only [eL]
  rw [if_neg qk]),aY,Bool.and_true]
theorem Gq {p:M.aAQ->M.aAQ->Option Bool} {f:M.aAQ->M.aAQ->Bool} {xs ys:List M.aAQ} (hx:xs.length<=maxLen) (hp : ∀x∈xs,∀y∈ys,p x y=some (f x y)):kC xs ys p=some (eqL f xs ys):=by
 have hm:=le_max hx
 unfold kC
 rw [BH (f:=f) hx (E:=some true) (λn k hk hk'=>by
  simp only [eW]
  rw [if_pos (bB hk),aM hk,aM hk',qA,qA,bM qb]
  rw [hp _ (qG hk) _ (qG hk'),qA,fE]) (λn=>by
  simp only [eW]
  rw [if_neg qk]),aY,Bool.and_true]
theorem EY {p:M.aA->M.aA->Option Bool} {f:M.aA->M.aA->Bool} {xs ys:List M.aA} (hx:xs.length<=maxLen) (hp : ∀x∈xs,∀y∈ys,p x y=some (f x y)):jS xs ys p=some (eqL f xs ys):=by
 have hm:=le_max hx
 unfold jS
 rw [BH (f:=f) hx (E:=some true) (λn k hk hk'=>by
  simp only [eH]
  rw [if_pos (bB hk),aM hk,aM hk',qA,qA,bM qb]
  rw [hp _ (qG hk) _ (qG hk'),qA,fE]) (λn=>by
  simp only [eH]
  rw [if_neg qk]),aY,Bool.and_true]
theorem Eh {p:M.aO->M.aO->Option Bool} {f:M.aO->M.aO->Bool} {xs ys:List M.aO} (hx:xs.length<=maxLen) (hp : ∀x∈xs,∀y∈ys,p x y=some (f x y)):iJ xs ys p=some (eqL f xs ys):=by
 have hm:=le_max hx
 unfold iJ
 rw [BH (f:=f) hx (E:=some true) (λn k hk hk'=>by
  simp only [dR]
  rw [if_pos (bB hk),aM hk,aM hk',qA,qA,bM qb]
  rw [hp _ (qG hk) _ (qG hk'),qA,fE]) (λn=>by
  simp only [dR]
  rw [if_neg qk]),aY,Bool.and_true]
theorem Gn {p:M.bV->M.bV->Option Bool} {f:M.bV->M.bV->Bool} {xs ys:List M.bV} (hx:xs.length<=maxLen) (hp : ∀x∈xs,∀y∈ys,p x y=some (f x y)):kB xs ys p=some (eqL f xs ys):=by
 have hm:=le_max hx
 unfold kB
 rw [BH (f:=f) hx (E:=some true) (λn k hk hk'=>by
  simp only [eY]
  rw [if_pos (bB hk),aM hk,aM hk',qA,qA,bM qb]
  rw [hp _ (qG hk) _ (qG hk'),qA,fE]) (λn=>by
  simp only [eY]
  rw [if_neg qk]),aY,Bool.and_true]
theorem Gu {p:M.aAO->M.aAO->Option Bool} {f:M.aAO->M.aAO->Bool} {xs ys:List M.aAO} (hx:xs.length<=maxLen) (hp : ∀x∈xs,∀y∈ys,p x y=some (f x y)):kN xs ys p=some (eqL f xs ys):=by
 have hm:=le_max hx
 unfold kN
 rw [BH (f:=f) hx (E:=some true) (λn k hk hk'=>by
  simp only [eX]
  rw [if_pos (bB hk),aM hk,aM hk',qA,qA,bM qb]
  rw [hp _ (qG hk) _ (qG hk'),qA,fE]) (λn=>by
  simp only [eX]
  rw [if_neg qk]),aY,Bool.and_true]
theorem Ea {p:M.aAI->M.aAI->Option Bool} {f:M.aAI->M.aAI->Bool} {xs ys:List M.aAI} (hx:xs.length<=maxLen) (hp : ∀x∈xs,∀y∈ys,p x y=some (f x y)):iL xs ys p=some (eqL f xs ys):=by
 have hm:=le_max hx
 unfold iL
 rw [BH (f:=f) hx (E:=some true) (λn k hk hk'=>by
  simp only [dQ]
  rw [if_pos (bB hk),aM hk,aM hk',qA,qA,bM qb]
  rw [hp _ (qG hk) _ (qG hk'),qA,fE]) (λn=>by
  simp only [dQ]
  rw [if_neg qk]),aY,Bool.and_true]
theorem EM {a b:List Int} (ha:okB a) (hb:okB b):tC a b=some (eqL yA a b):=by unfold tC;rw [BU ha.2,BU hb.2,qA,qA,Lr ha.2 hb.2];rfl
theorem Bm {a b:List Int} (ha:okB a):oK a b=some (eqL yA a b):=by unfold oK;rw [KW ha.1,qA]
def Cz (x y:M.aAM):Bool:=(x.aA0==y.aA0)&&((x.aAw==y.aAw)&&((x.aAB==y.aAB)&&((x.aA9==y.aA9)&&eqL yA x.aA4 y.aA4)))
theorem Cm {a b:M.aAM} (ha:a.ok):mR a b=some (Cz a b):=by simp only [mR,Bm ha.aA4,qA,aY,zA,uV,Cz];ac_rfl
def EK (x y:M.aAR):Bool:=(x.aAO.toList==y.aAO.toList)&&((x.aAs.toList==y.aAs.toList)&&Cz x.aAM y.aAM)
def Ky (x y:M.aAL):Bool:=(x.aAB==y.aAB)&&eqL EK x.aAN y.aAN
def Eb (x y:M.aF):Bool:=eqL Ky x.aAE y.aAE
theorem EG {a b:M.aAR} (ha:a.ok):mX a b=some (EK a b):=by simp only [mX,Cm ha.aAM,qA,aY,zA,uV,EK]
theorem Ec {a b:M.aAL} (ha:a.ok):nH a b=some (Ky a b):=by simp only [nH,D7 (f:=EK) ha.aAN.1 (λx hx y hy=>EG (ha.aAN.2 x hx)),qA,aY,zA,uV,Ky]
theorem Cl {a b:M.aF} (ha:a.ok):mL a b=some (Eb a b):=by simp only [mL,Fl (f:=Ky) ha.aAE.1 (λx hx y hy=>Ec (ha.aAE.2 x hx)),qA,aY,zA,uV,Eb]
def Jj (x y:M.aC):Bool:=eqL GQ x.aAF y.aAF
theorem DK {a b:M.aC} (ha:a.ok):pA a b=some (Jj a b):=by simp only [pA,JO ha.aAF.1,qA,Jj]
def Vi (x y:M.Key):Bool:=((x.aAV==y.aAV)&&((x.N==y.N)&&(x.aAf.toList==y.aAf.toList)))
def N9 (x y:M.aAQ):Bool:=Vi x.Key y.Key&&Jj x.aC y.aC
def D9 (x y:M.aA):Bool:=(x.Name.toList==y.Name.toList)&&((x.aAd==y.aAd)&&eqL N9 x.aAD y.aAD)
theorem Fu {a b:M.aAQ} (ha:a.ok):oR a b=some (N9 a b):=by simp only [oR,DK ha.aC,qA,aY,zA,uV,N9,Vi]
theorem yM {a b:M.aA} (ha:a.ok):fV a b=some (D9 a b):=by simp only [fV,Gq (f:=N9) ha.aAD.1 (λx hx y hy=>Fu (ha.aAD.2 x hx)),qA,aY,zA,uV,D9]
def Cr (x y:M.aAA):Bool:=(x.Name.toList==y.Name.toList)&&((x.aAB==y.aAB)&&(eqL D9 x.aAH y.aAH&&eqL AN x.aAS y.aAS))
theorem CN {a b:M.aAA} (ha:a.ok):mP a b=some (Cr a b):=by simp only [mP,EY (f:=D9) ha.aAH.1 (λx hx y hy=>yM (ha.aAH.2 x hx)),Gd ha.aAS.1,qA,aY,zA,uV,Cr]
def Pv (x y:M.cR):Bool:=Cr x.aAU y.aAU&&(eqL yA x.Log y.Log&&(x.aAn==y.aAn))
theorem Fe {a b:M.cR} (ha:a.ok):sY a b=some (Pv a b):=by simp only [sY,CN ha.aAU,Bm ha.Log,qA,aY,zA,uV,Pv]
def HD (x y:M.aH):Bool:=(x.aAK==y.aAK)&&((x.aAh==y.aAh)&&eqL AX x.aAP y.aAP)
theorem C2 {a b:M.aH} (ha:a.ok):oC a b=some (HD a b):=by simp only [oC,D1 ha.aAP.1,qA,aY,zA,uV,HD]
def RH (x y:M.aAT):Bool:=HD x.aH y.aH&&((x.aAm==y.aAm)&&(x.aAb==y.aAb))
theorem E8 {a b:M.aAT} (ha:a.ok):tL a b=some (RH a b):=by simp only [tL,C2 ha.aH,qA,aY,zA,uV,RH]
def Es (x y:M.aG):Bool:=D9 x.aAU y.aAU&&((x.aAu==y.aAu)&&RH x.aAT y.aAT)
theorem C3 {a b:M.aG} (ha:a.ok):nV a b=some (Es a b):=by simp only [nV,yM ha.aAU,E8 ha.aAT,qA,aY,zA,uV,Es]
def V7 (x y:M.aAC):Bool:=((x.aAO.toList==y.aAO.toList)&&((x.aAc==y.aAc)&&((x.aAl==y.aAl)&&(x.aAr==y.aAr))))
def Fx (x y:M.aO):Bool:=(x.aAO.toList==y.aAO.toList)&&((x.Top.toList==y.Top.toList)&&(V7 x.aAC y.aAC&&(Eb x.aAE y.aAE&&(Pv x.cR y.cR&&(Es x.aG y.aG&&((x.aAk==y.aAk)&&(x.aAj==y.aAj)))))))
theorem DC {a b:M.aO} (ha:a.ok):lS a b=some (Fx a b):=by simp only [lS,Cl ha.aAE,Fe ha.cR,C3 ha.aG,qA,aY,zA,uV,Fx,V7]
def GK (x y:M.aJ):Bool:=eqL Fx x.aAG y.aAG
theorem C6 {a b:M.aJ} (ha:a.ok):nZ a b=some (GK a b):=by simp only [nZ,Eh (f:=Fx) ha.aAG.1 (λx hx y hy=>DC (ha.aAG.2 x hx)),qA,aY,zA,uV,GK]
def GH (x y:M.aAJ):Bool:=eqL EJ x.aAp y.aAp&&((x.Pc==y.Pc)&&(eqL J5 x.aA1 y.aA1&&((x.aAy==y.aAy)&&((x.aA6==y.aA6)&&(x.aA7==y.aA7)))))
theorem C1 {a b:M.aAJ} (ha:a.ok):nU a b=some (GH a b):=by simp only [nU,J0 ha.aAp.1,LA ha.aA1.1,qA,aY,zA,uV,GH]
def Ls (x y:M.bV):Bool:=(x.Id==y.Id)&&((x.aAO.toList==y.aAO.toList)&&((x.Top.toList==y.Top.toList)&&((x.aAB==y.aAB)&&(eqL Cg x.aU y.aU&&GH x.aAJ y.aAJ))))
theorem Gf {a b:M.bV} (ha:a.ok):fH a b=some (Ls a b):=by simp only [fH,Ie ha.aU.1,C1 ha.aAJ,qA,aY,zA,uV,Ls]
def DI (x y:M.aAI):Bool:=D9 x.aA y.aA&&(eqL Bp x.aK y.aK&&eqL AX x.aAZ y.aAZ)
theorem Dv {a b:M.aAI} (ha:a.ok):mB a b=some (DI a b):=by simp only [mB,yM ha.aA,Hz ha.aK.1,D1 ha.aAZ.1,qA,aY,zA,uV,DI]
end Go.Proofs.YtipmihbgjolaaaaGreat.gen
