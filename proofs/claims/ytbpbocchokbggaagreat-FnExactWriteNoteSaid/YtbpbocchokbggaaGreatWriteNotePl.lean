/-
  Helper text. No conditions.
-/
import Derived.Test.YtbpbocchokbggaaGreatWriteNotePk
set_option linter.all false
namespace Go.Proofs.YtbpbocchokbggaaGreat.gen
open Go Go.Sh
theorem IE{α R:Type}{l:List α}{f:α->Bool}{L:Nat->Int->Option R}{S:Nat->Option R}(j:l.length<=maxLen)
  (h1:∀n (k:Nat) (hk:k<l.length),L (n+1) (k:Int)=if f l[k]=true then L n ((k+1:Nat):Int)else S k)(h2:∀n,L (n+1) (l.length:Int)=S l.length):L fuel 0=S (l.takeWhile f).length:=by
 have I:=le_max j
 have key:∀(n k:Nat),l.length-k<n->k<=l.length->L n (k:Int)=S (k+((l.drop k).takeWhile f).length):=by
  intro n
  induction n with
  |zero=>intro k h _;omega
  |succ n C=>
   intro k J hk
   rcases Nat.lt_or_ge k l.length with h|h
   ·rw[h1 n k h,qW h,List.takeWhile_cons];by_cases hf:f l[k]=true;(rw[if_pos hf,if_pos hf,C (k+1) jD h,qJ];congr 1;omega);·rw[if_neg hf,if_neg hf];simp
   ·have:k=l.length:=by omega
    subst this
    rw[h2 n]
    simp
 have:=key fuel 0 jI jD
 simpa using this
def R6(s:M.aD)(b:M.aEJ):Nat:=(s.aEP.takeWhile (λx=>DX x b)).length
theorem OU(s:M.aD)(b:M.aEJ):R6 s b<=s.aEP.length:=(List.takeWhile_prefix _).length_le
def EY(s:M.aD)(b:M.aEJ):List M.aEJ:=if rY (nAt b.aET b.Top) s.aEP>=0 then s.aEP.set (rY (nAt b.aET b.Top) s.aEP).toNat b else s.aEP.take (R6 s b)++([b]++s.aEP.drop (R6 s b))
def Ol(s:M.aD)(l:List M.aEJ):M.aD×Bool:=if AR s=true then if AR (⟨l⟩:M.aD)=true then((⟨l⟩:M.aD),true)else(s,false)else(s,false)
def QN(s:M.aD)(b:M.aEJ):M.aD×Bool:=Ol s (EY s b)
theorem NX{s:M.aD}{b x:M.aEJ}(h:x∈EY s b):x=b\/x∈s.aEP:=by unfold EY at h;split at h;(rcases jC h with h|h;(exact .inr h);·exact .inl h);·simp only[qP,qp,qO,or_false]at h;rcases h with h|h|h;(exact .inr (qj h));(exact .inl h);·exact .inr (qv h)
theorem MX(s:M.aD)(b:M.aEJ):(EY s b).length<=s.aEP.length+1:=by have:=OU s b;unfold EY;split;(simp);·simp only[qE,qU,qJ,qK,qV];omega
theorem Uy(s:M.aD)(b:M.aEJ):aV M.aEJ.sz (EY s b)<=aV M.aEJ.sz s.aEP+M.aEJ.sz b:=by unfold EY;split;(exact HU);·rw[G7,G7];have:=G7 (f:=M.aEJ.sz) (s.aEP.take (R6 s b)) (s.aEP.drop (R6 s b));rw[qn]at this;simp only[aV];omega
theorem Vj{s:M.aD}(hz:M.aD.sz s<=1048576):∀x∈s.aEP,M.aEJ.sz x<=1048576:=λx j=>by have:=gL (f:=M.aEJ.sz) j;simp only[M.aD.sz]at hz;omega
theorem LW{s:M.aD}{b:M.aEJ}(j:s.ok)(hb:b.ok)(hz:M.aD.sz s<=1048576):M.aD.ok (⟨EY s b⟩:M.aD):=
 ⟨⟨by show(EY s b).length<=maxLen;have:=MX s b;simp only[M.aD.sz]at hz;unfold maxLen;omega,λx C=>by rcases NX C with rfl|h;(exact hb);·exact j.aEP.2 x h⟩⟩
theorem NZ{s:M.aD}{b:M.aEJ}(hz:M.aD.sz s<=1048576)(C:M.aEK.sz b.bK.aEe<=1048576):∀x∈EY s b,M.aEK.sz x.bK.aEe<=1048576:=λx j=>by rcases NX j with rfl|h;(exact C);·exact CM (Vj hz x h)
theorem U6{s:M.aD}{b:M.aEJ}(j:s.ok)(hb:b.ok)(hz:M.aD.sz s<=1048576):M.aD.ok (QN s b).1:=by unfold QN Ol;split;(split;(exact LW j hb hz);·exact j);·exact j
theorem Vs(s:M.aD)(b:M.aEJ):M.aD.sz (QN s b).1<=M.aD.sz s+M.aEJ.sz b+1:=by have h1:=MX s b;have h2:=Uy s b;unfold QN Ol;simp only[M.aD.sz];split;(split<;>simp only<;>omega);·simp only;omega
theorem Ph{s:M.aD}{l:List M.aEJ}(hs:s.ok)(hz:M.aD.sz s<=1048576)(U:M.aD.ok (⟨l⟩:M.aD))(zl:∀x∈l,M.aEK.sz x.bK.aEe<=1048576):
  ((cK s).bind λC=>if(!C)=true then(some s).bind λI=>some (I,false)else(cK (⟨l⟩:M.aD)).bind λJ=>if(!J)=true then(some s).bind λj=>some (j,false)else some ((⟨l⟩:M.aD),true))=some (Ol s l):=by
 rw[JA hs hz,qA,D3 U zl]
 unfold Ol
 cases AR s
 ·simp
 ·cases AR (⟨l⟩:M.aD)<;>simp
theorem PY{s:M.aD}{l:List M.aEJ}(hs:s.ok)(hz:M.aD.sz s<=1048576)(U:M.aD.ok (⟨l⟩:M.aD))(zl:∀x∈l,M.aEK.sz x.bK.aEe<=1048576):
  ((cM s).bind λC=>if(!C)=true then(some s).bind λI=>some (I,false)else(cM (⟨l⟩:M.aD)).bind λJ=>if(!J)=true then(some s).bind λj=>some (j,false)else some ((⟨l⟩:M.aD),true))=some (Ol s l):=by
 rw[Jn hs hz,qA,D8 U zl]
 unfold Ol
 cases AR s
 ·simp
 ·cases AR (⟨l⟩:M.aD)<;>simp
def tS(s:M.aD)(b:M.aEJ)(k:Nat):Option (M.aD×Bool):=(Ek s.aEP (k:Int)).bind λ_=>(app 328 ([]:List M.aEJ) (List.take (k:Int).toNat s.aEP)).bind λ_=>(gH b).bind λj=>(app 328 (List.take (k:Int).toNat s.aEP) ([j])).bind λ_=>(app 328 ((List.take (k:Int).toNat s.aEP)++[j]) (List.drop (k:Int).toNat s.aEP)).bind λ_=>(cK s).bind λI=>if(!I)=true then(eF s).bind λJ=>some (J,false)else(cK (⟨((List.take (k:Int).toNat s.aEP)++[j])++(List.drop (k:Int).toNat s.aEP)⟩:M.aD)).bind λU=>if(!U)=true then(eF s).bind λC=>some (C,false)else some ((⟨((List.take (k:Int).toNat s.aEP)++[j])++(List.drop (k:Int).toNat s.aEP)⟩:M.aD),true)
def tI(s:M.aD)(b:M.aEJ)(k:Nat):Option (M.aD×Bool):=(dE b).bind λj=>(HM 328 s.aEP (k:Int) ([j])).bind λaj=>(cM s).bind λC=>if(!C)=true then(cE s).bind λI=>some (I,false)else(cM (⟨List.take (k:Int).toNat s.aEP++([j]++List.drop (k:Int).toNat s.aEP)⟩:M.aD)).bind λJ=>if(!J)=true then(cE s).bind λU=>some (U,false)else some ((⟨List.take (k:Int).toNat s.aEP++([j]++List.drop (k:Int).toNat s.aEP)⟩:M.aD),true)
theorem Ig{s:M.aD}{b:M.aEJ}(C:s.ok)(hb:b.ok)(hz:M.aD.sz s<=1048576)(zc:M.aEJ.sz b<=1073741824)(U:M.aEK.sz b.bK.aEe<=1048576):vE s b=some (QN s b):=by
 have hm:=le_max C.aEP.1
 have hlen:s.aEP.length<=1048576:=by simp only[M.aD.sz]at hz;omega
 have ok:=LW C hb hz
 have all:=NZ (s:=s) hz U
 have hle:=OU s b
 unfold vE QN
 rw[DZ s jD,qA,D2 C,qA]
 by_cases h:rY (nAt b.aET b.Top) s.aEP>=0
 ·obtain⟨j,J,I⟩:=kN (show ¬rY (nAt b.aET b.Top) s.aEP<0 by omega)
  have e:EY s b=s.aEP.set (rY (nAt b.aET b.Top) s.aEP).toNat b:=by unfold EY;rw[if_pos h]
  rw[if_pos (by simpa using h),Az b jD,qA]
  rw[e]at ok all⊢
  rw[J]at ok all⊢
  rw[aM I,qA]
  exact Ph C hz ok all
 ·have e:EY s b=s.aEP.take (R6 s b)++([b]++s.aEP.drop (R6 s b)):=by unfold EY;rw[if_neg h]
  rw[if_neg (by simpa using h),IE (l:=s.aEP) (f:=λx=>DX x b) (L:=iR s b s) (S:=tS s b) C.aEP.1 (λn k hk=> ?_) (λn=> ?_)]
  ·show tS s b (R6 s b)=_;unfold tS;rw[J7 hle,qA,qH,GN jE jD,qA,Az b jD,qA,fR jP,qA,fR jM,qA,qT,<-e];rw[DZ s jD];exact Ph C hz ok all
  ·simp only[iR];rw[if_pos (bL hk),aM hk,qA,Gk,qA,bI jD];rfl
  ·simp only[iR];rw[if_neg jK];rfl
theorem IB{s:M.aD}{b:M.aEJ}(C:s.ok)(hb:b.ok)(hz:M.aD.sz s<=1048576)(zc:M.aEJ.sz b<=1073741824)(U:M.aEK.sz b.bK.aEe<=1048576):vN s b=some (QN s b):=by
 have hm:=le_max C.aEP.1
 have hlen:s.aEP.length<=1048576:=by simp only[M.aD.sz]at hz;omega
 have ok:=LW C hb hz
 have all:=NZ (s:=s) hz U
 have hle:=OU s b
 unfold vN QN
 rw[B8 s jD,qA,Eo C,qA]
 by_cases h:rY (nAt b.aET b.Top) s.aEP>=0
 ·obtain⟨j,J,I⟩:=kN (show ¬rY (nAt b.aET b.Top) s.aEP<0 by omega)
  have e:EY s b=s.aEP.set (rY (nAt b.aET b.Top) s.aEP).toNat b:=by unfold EY;rw[if_pos h]
  rw[if_pos (by simpa using h),uI b jD,qA]
  rw[e]at ok all⊢
  rw[J]at ok all⊢
  rw[aM I,qA]
  exact PY C hz ok all
 ·have e:EY s b=s.aEP.take (R6 s b)++([b]++s.aEP.drop (R6 s b)):=by unfold EY;rw[if_neg h]
  rw[if_neg (by simpa using h),IE (l:=s.aEP) (f:=λx=>DX x b) (L:=iO s b s) (S:=tI s b) C.aEP.1 (λn k hk=> ?_) (λn=> ?_)]
  ·show tI s b (R6 s b)=_;unfold tI;rw[uI b jD,qA,JE jO,qA,qH,<-e];rw[B8 s jD];exact PY C hz ok all
  ·simp only[iO];rw[if_pos (bL hk),aM hk,qA,Du,qA,bI jD];rfl
  ·simp only[iO];rw[if_neg jK];rfl
