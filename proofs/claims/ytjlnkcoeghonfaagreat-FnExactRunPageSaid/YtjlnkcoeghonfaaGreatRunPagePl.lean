/-
  Helper text. No conditions.
-/
import Derived.Test.YtjlnkcoeghonfaaGreatRunPagePk
set_option linter.all false
namespace Go.Proofs.YtjlnkcoeghonfaaGreat.gen
open Go Go.Sh
theorem LR{α R:Type}{l:List α}{f:α->Bool}{L:Nat->Int->Option R}{S:Nat->Option R}(j:l.length<=maxLen)
  (h1:∀n (k:Nat) (hk:k<l.length),L (n+1) (k:Int)=if f l[k]=true then L n ((k+1:Nat):Int)else S k)(h2:∀n,L (n+1) (l.length:Int)=S l.length):L fuel 0=S (l.takeWhile f).length:=by
 have I:=le_max j
 have key:∀(n k:Nat),l.length-k<n->k<=l.length->L n (k:Int)=S (k+((l.drop k).takeWhile f).length):=by
  intro n
  induction n with
  |zero=>intro k h _;omega
  |succ n C=>
   intro k J hk
   rcases Nat.lt_or_ge k l.length with h|h
   ·rw[h1 n k h,qW h,List.takeWhile_cons];by_cases hf:f l[k]=true;(rw[if_pos hf,if_pos hf,C (k+1) jD h,qJ];congr 1;omega);·rw[if_neg hf,if_neg hf];simp
   ·have:k=l.length:=by omega
    subst this
    rw[h2 n]
    simp
 have:=key fuel 0 jI jD
 simpa using this
def XY(s:M.aA)(b:M.aJi):Nat:=(s.aJp.takeWhile (λx=>GK x b)).length
theorem SJ(s:M.aA)(b:M.aJi):XY s b<=s.aJp.length:=(List.takeWhile_prefix _).length_le
def H7(s:M.aA)(b:M.aJi):List M.aJi:=if mF (nAt b.aJr b.Top) s.aJp>=0 then s.aJp.set (mF (nAt b.aJr b.Top) s.aJp).toNat b else s.aJp.take (XY s b)++([b]++s.aJp.drop (XY s b))
def R7(s:M.aA)(l:List M.aJi):M.aA×Bool:=if vG s=true then if vG (⟨l⟩:M.aA)=true then((⟨l⟩:M.aA),true)else(s,false)else(s,false)
def UK(s:M.aA)(b:M.aJi):M.aA×Bool:=R7 s (H7 s b)
theorem RH{s:M.aA}{b x:M.aJi}(h:x∈H7 s b):x=b\/x∈s.aJp:=by unfold H7 at h;split at h;(rcases jC h with h|h;(exact .inr h);·exact .inl h);·simp only[qP,qp,qO,or_false]at h;rcases h with h|h|h;(exact .inr (qj h));(exact .inl h);·exact .inr (qv h)
theorem Ve(s:M.aA)(b:M.aJi):(H7 s b).length<=s.aJp.length+1:=by have:=SJ s b;unfold H7;split;(simp);·simp only[qE,qU,qJ,qK,qV];omega
theorem Zt{s:M.aA}(hz:M.aA.sz s<=1500000):∀x∈s.aJp,M.aJi.sz x<=1500000:=λx j=>by have:=dW (f:=M.aJi.sz) j;simp only[M.aA.sz]at hz;omega
theorem PF{s:M.aA}{b:M.aJi}(j:s.ok)(hb:b.ok)(hz:M.aA.sz s<=1500000):M.aA.ok (⟨H7 s b⟩:M.aA):=
 ⟨⟨by show(H7 s b).length<=maxLen;have:=Ve s b;simp only[M.aA.sz]at hz;unfold maxLen;omega,λx C=>by rcases RH C with rfl|h;(exact hb);·exact j.aJp.2 x h⟩⟩
theorem RJ{s:M.aA}{b:M.aJi}(hz:M.aA.sz s<=1500000)(C:M.aJj.sz b.bL.aJ8<=1500000):∀x∈H7 s b,M.aJj.sz x.bL.aJ8<=1500000:=λx j=>by rcases RH j with rfl|h;(exact C);·exact CI (Zt hz x h)
theorem Zf{s:M.aA}{b:M.aJi}(j:s.ok)(hb:b.ok)(hz:M.aA.sz s<=1500000):M.aA.ok (UK s b).1:=by unfold UK R7;split;(split;(exact PF j hb hz);·exact j);·exact j
theorem Ta{s:M.aA}{l:List M.aJi}(hs:s.ok)(hz:M.aA.sz s<=1500000)(U:M.aA.ok (⟨l⟩:M.aA))(zl:∀x∈l,M.aJj.sz x.bL.aJ8<=1500000):
  ((cQ s).bind λC=>if(!C)=true then(some s).bind λI=>some (I,false)else(cQ (⟨l⟩:M.aA)).bind λJ=>if(!J)=true then(some s).bind λj=>some (j,false)else some ((⟨l⟩:M.aA),true))=some (R7 s l):=by
 rw[MS hs hz,qA,Er U zl]
 unfold R7
 cases vG s
 ·simp
 ·cases vG (⟨l⟩:M.aA)<;>simp
theorem TX{s:M.aA}{l:List M.aJi}(hs:s.ok)(hz:M.aA.sz s<=1500000)(U:M.aA.ok (⟨l⟩:M.aA))(zl:∀x∈l,M.aJj.sz x.bL.aJ8<=1500000):
  ((cR s).bind λC=>if(!C)=true then(some s).bind λI=>some (I,false)else(cR (⟨l⟩:M.aA)).bind λJ=>if(!J)=true then(some s).bind λj=>some (j,false)else some ((⟨l⟩:M.aA),true))=some (R7 s l):=by
 rw[Mz hs hz,qA,Ev U zl]
 unfold R7
 cases vG s
 ·simp
 ·cases vG (⟨l⟩:M.aA)<;>simp
def tS(s:M.aA)(b:M.aJi)(k:Nat):Option (M.aA×Bool):=(GR s.aJp (k:Int)).bind λ_=>(app 328 ([]:List M.aJi) (List.take (k:Int).toNat s.aJp)).bind λ_=>(gD b).bind λj=>(app 328 (List.take (k:Int).toNat s.aJp) ([j])).bind λ_=>(app 328 ((List.take (k:Int).toNat s.aJp)++[j]) (List.drop (k:Int).toNat s.aJp)).bind λ_=>(cQ s).bind λI=>if(!I)=true then(fH s).bind λJ=>some (J,false)else(cQ (⟨((List.take (k:Int).toNat s.aJp)++[j])++(List.drop (k:Int).toNat s.aJp)⟩:M.aA)).bind λU=>if(!U)=true then(fH s).bind λC=>some (C,false)else some ((⟨((List.take (k:Int).toNat s.aJp)++[j])++(List.drop (k:Int).toNat s.aJp)⟩:M.aA),true)
def tI(s:M.aA)(b:M.aJi)(k:Nat):Option (M.aA×Bool):=(eC b).bind λj=>(KO 328 s.aJp (k:Int) ([j])).bind λaj=>(cR s).bind λC=>if(!C)=true then(cN s).bind λI=>some (I,false)else(cR (⟨List.take (k:Int).toNat s.aJp++([j]++List.drop (k:Int).toNat s.aJp)⟩:M.aA)).bind λJ=>if(!J)=true then(cN s).bind λU=>some (U,false)else some ((⟨List.take (k:Int).toNat s.aJp++([j]++List.drop (k:Int).toNat s.aJp)⟩:M.aA),true)
theorem Lk{s:M.aA}{b:M.aJi}(C:s.ok)(hb:b.ok)(hz:M.aA.sz s<=1500000)(zc:M.aJi.sz b<=1073741824)(U:M.aJj.sz b.bL.aJ8<=1500000):zQ s b=some (UK s b):=by
 have hm:=le_max C.aJp.1
 have hlen:s.aJp.length<=1500000:=by simp only[M.aA.sz]at hz;omega
 have ok:=PF C hb hz
 have all:=RJ (s:=s) hz U
 have hle:=SJ s b
 unfold zQ UK
 rw[GN s jD,qA,rY C,qA]
 by_cases h:mF (nAt b.aJr b.Top) s.aJp>=0
 ·obtain⟨j,J,I⟩:=eN (show ¬mF (nAt b.aJr b.Top) s.aJp<0 by omega)
  have e:H7 s b=s.aJp.set (mF (nAt b.aJr b.Top) s.aJp).toNat b:=by unfold H7;rw[if_pos h]
  rw[if_pos (by simpa using h),AO b jD,qA]
  rw[e]at ok all⊢
  rw[J]at ok all⊢
  rw[aH I,qA]
  exact Ta C hz ok all
 ·have e:H7 s b=s.aJp.take (XY s b)++([b]++s.aJp.drop (XY s b)):=by unfold H7;rw[if_neg h]
  rw[if_neg (by simpa using h),LR (l:=s.aJp) (f:=λx=>GK x b) (L:=lC s b s) (S:=tS s b) C.aJp.1 (λn k hk=> ?_) (λn=> ?_)]
  ·show tS s b (XY s b)=_;unfold tS;rw[Lq hle,qA,qH,JX jE jD,qA,AO b jD,qA,eH jQ,qA,eH jM,qA,qT,<-e];rw[GN s jD];exact Ta C hz ok all
  ·simp only[lC];rw[if_pos (bE hk),aH hk,qA,Jw,qA,bG jD];rfl
  ·simp only[lC];rw[if_neg jK];rfl
theorem He{s:M.aA}{b:M.aJi}(C:s.ok)(hb:b.ok)(hz:M.aA.sz s<=1500000)(zc:M.aJi.sz b<=1073741824)(U:M.aJj.sz b.bL.aJ8<=1500000):tP s b=some (UK s b):=by
 have hm:=le_max C.aJp.1
 have hlen:s.aJp.length<=1500000:=by simp only[M.aA.sz]at hz;omega
 have ok:=PF C hb hz
 have all:=RJ (s:=s) hz U
 have hle:=SJ s b
 unfold tP UK
 rw[Eg s jD,qA,sK C,qA]
 by_cases h:mF (nAt b.aJr b.Top) s.aJp>=0
 ·obtain⟨j,J,I⟩:=eN (show ¬mF (nAt b.aJr b.Top) s.aJp<0 by omega)
  have e:H7 s b=s.aJp.set (mF (nAt b.aJr b.Top) s.aJp).toNat b:=by unfold H7;rw[if_pos h]
  rw[if_pos (by simpa using h),yS b jD,qA]
  rw[e]at ok all⊢
  rw[J]at ok all⊢
  rw[aH I,qA]
  exact TX C hz ok all
 ·have e:H7 s b=s.aJp.take (XY s b)++([b]++s.aJp.drop (XY s b)):=by unfold H7;rw[if_neg h]
  rw[if_neg (by simpa using h),LR (l:=s.aJp) (f:=λx=>GK x b) (L:=kY s b s) (S:=tI s b) C.aJp.1 (λn k hk=> ?_) (λn=> ?_)]
  ·show tI s b (XY s b)=_;unfold tI;rw[yS b jD,qA,MZ jO,qA,qH,<-e];rw[Eg s jD];exact TX C hz ok all
  ·simp only[kY];rw[if_pos (bE hk),aH hk,qA,FY,qA,bG jD];rfl
  ·simp only[kY];rw[if_neg jK];rfl
