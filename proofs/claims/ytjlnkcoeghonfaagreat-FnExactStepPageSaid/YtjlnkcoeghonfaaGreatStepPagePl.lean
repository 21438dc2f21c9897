/-
  Helper text. No conditions.
-/
import Derived.Test.YtjlnkcoeghonfaaGreatStepPagePk
set_option linter.all false
namespace Go.Proofs.YtjlnkcoeghonfaaGreat.gen
open Go Go.Sh
theorem LH{α R:Type}{l:List α}{f:α->Bool}{L:Nat->Int->Option R}{S:Nat->Option R}(j:l.length<=maxLen)
  (h1:∀n (k:Nat) (hk:k<l.length),L (n+1) (k:Int)=if f l[k]=true then L n ((k+1:Nat):Int)else S k)(h2:∀n,L (n+1) (l.length:Int)=S l.length):L fuel 0=S (l.takeWhile f).length:=by
 have I:=le_max j
 have key:∀(n k:Nat),l.length-k<n->k<=l.length->L n (k:Int)=S (k+((l.drop k).takeWhile f).length):=by
  intro n
  induction n with
  |zero=>intro k h _;omega
  |succ n C=>
   intro k J hk
   rcases Nat.lt_or_ge k l.length with h|h
   ·rw[h1 n k h,qW h,List.takeWhile_cons];by_cases hf:f l[k]=true;(rw[if_pos hf,if_pos hf,C (k+1) jD h,qJ];congr 1;omega);·rw[if_neg hf,if_neg hf];simp
   ·have:k=l.length:=by omega
    subst this
    rw[h2 n]
    simp
 have:=key fuel 0 jI jD
 simpa using this
def XS(s:M.aC)(b:M.aJa):Nat:=(s.aJh.takeWhile (λx=>GF x b)).length
theorem SE(s:M.aC)(b:M.aJa):XS s b<=s.aJh.length:=(List.takeWhile_prefix _).length_le
def HZ(s:M.aC)(b:M.aJa):List M.aJa:=if mD (nAt b.aJj b.Top) s.aJh>=0 then s.aJh.set (mD (nAt b.aJj b.Top) s.aJh).toNat b else s.aJh.take (XS s b)++([b]++s.aJh.drop (XS s b))
def RY(s:M.aC)(l:List M.aJa):M.aC×Bool:=if vD s=true then if vD (⟨l⟩:M.aC)=true then((⟨l⟩:M.aC),true)else(s,false)else(s,false)
def UE(s:M.aC)(b:M.aJa):M.aC×Bool:=RY s (HZ s b)
theorem RD{s:M.aC}{b x:M.aJa}(h:x∈HZ s b):x=b\/x∈s.aJh:=by unfold HZ at h;split at h;(rcases jC h with h|h;(exact .inr h);·exact .inl h);·simp only[qP,qp,qO,or_false]at h;rcases h with h|h|h;(exact .inr (qj h));(exact .inl h);·exact .inr (qv h)
theorem U9(s:M.aC)(b:M.aJa):(HZ s b).length<=s.aJh.length+1:=by have:=SE s b;unfold HZ;split;(simp);·simp only[qE,qU,qJ,qK,qV];omega
theorem Zl{s:M.aC}(hz:M.aC.sz s<=1048576):∀x∈s.aJh,M.aJa.sz x<=1048576:=λx j=>by have:=eD (f:=M.aJa.sz) j;simp only[M.aC.sz]at hz;omega
theorem PB{s:M.aC}{b:M.aJa}(j:s.ok)(hb:b.ok)(hz:M.aC.sz s<=1048576):M.aC.ok (⟨HZ s b⟩:M.aC):=
 ⟨⟨by show(HZ s b).length<=maxLen;have:=U9 s b;simp only[M.aC.sz]at hz;unfold maxLen;omega,λx C=>by rcases RD C with rfl|h;(exact hb);·exact j.aJh.2 x h⟩⟩
theorem RF{s:M.aC}{b:M.aJa}(hz:M.aC.sz s<=1048576)(C:M.aJb.sz b.bL.aJz<=1048576):∀x∈HZ s b,M.aJb.sz x.bL.aJz<=1048576:=λx j=>by rcases RD j with rfl|h;(exact C);·exact CD (Zl hz x h)
theorem Y7{s:M.aC}{b:M.aJa}(j:s.ok)(hb:b.ok)(hz:M.aC.sz s<=1048576):M.aC.ok (UE s b).1:=by unfold UE RY;split;(split;(exact PB j hb hz);·exact j);·exact j
theorem S4{s:M.aC}{l:List M.aJa}(hs:s.ok)(hz:M.aC.sz s<=1048576)(U:M.aC.ok (⟨l⟩:M.aC))(zl:∀x∈l,M.aJb.sz x.bL.aJz<=1048576):
  ((cQ s).bind λC=>if(!C)=true then(some s).bind λI=>some (I,false)else(cQ (⟨l⟩:M.aC)).bind λJ=>if(!J)=true then(some s).bind λj=>some (j,false)else some ((⟨l⟩:M.aC),true))=some (RY s l):=by
 rw[MK hs hz,qA,Ej U zl]
 unfold RY
 cases vD s
 ·simp
 ·cases vD (⟨l⟩:M.aC)<;>simp
theorem TR{s:M.aC}{l:List M.aJa}(hs:s.ok)(hz:M.aC.sz s<=1048576)(U:M.aC.ok (⟨l⟩:M.aC))(zl:∀x∈l,M.aJb.sz x.bL.aJz<=1048576):
  ((cR s).bind λC=>if(!C)=true then(some s).bind λI=>some (I,false)else(cR (⟨l⟩:M.aC)).bind λJ=>if(!J)=true then(some s).bind λj=>some (j,false)else some ((⟨l⟩:M.aC),true))=some (RY s l):=by
 rw[Ms hs hz,qA,En U zl]
 unfold RY
 cases vD s
 ·simp
 ·cases vD (⟨l⟩:M.aC)<;>simp
def tS(s:M.aC)(b:M.aJa)(k:Nat):Option (M.aC×Bool):=(GL s.aJh (k:Int)).bind λ_=>(app 328 ([]:List M.aJa) (List.take (k:Int).toNat s.aJh)).bind λ_=>(gC b).bind λj=>(app 328 (List.take (k:Int).toNat s.aJh) ([j])).bind λ_=>(app 328 ((List.take (k:Int).toNat s.aJh)++[j]) (List.drop (k:Int).toNat s.aJh)).bind λ_=>(cQ s).bind λI=>if(!I)=true then(fH s).bind λJ=>some (J,false)else(cQ (⟨((List.take (k:Int).toNat s.aJh)++[j])++(List.drop (k:Int).toNat s.aJh)⟩:M.aC)).bind λU=>if(!U)=true then(fH s).bind λC=>some (C,false)else some ((⟨((List.take (k:Int).toNat s.aJh)++[j])++(List.drop (k:Int).toNat s.aJh)⟩:M.aC),true)
def tI(s:M.aC)(b:M.aJa)(k:Nat):Option (M.aC×Bool):=(eB b).bind λj=>(KI 328 s.aJh (k:Int) ([j])).bind λaj=>(cR s).bind λC=>if(!C)=true then(cN s).bind λI=>some (I,false)else(cR (⟨List.take (k:Int).toNat s.aJh++([j]++List.drop (k:Int).toNat s.aJh)⟩:M.aC)).bind λJ=>if(!J)=true then(cN s).bind λU=>some (U,false)else some ((⟨List.take (k:Int).toNat s.aJh++([j]++List.drop (k:Int).toNat s.aJh)⟩:M.aC),true)
theorem Le{s:M.aC}{b:M.aJa}(C:s.ok)(hb:b.ok)(hz:M.aC.sz s<=1048576)(zc:M.aJa.sz b<=1073741824)(U:M.aJb.sz b.bL.aJz<=1048576):zO s b=some (UE s b):=by
 have hm:=le_max C.aJh.1
 have hlen:s.aJh.length<=1048576:=by simp only[M.aC.sz]at hz;omega
 have ok:=PB C hb hz
 have all:=RF (s:=s) hz U
 have hle:=SE s b
 unfold zO UE
 rw[GI s jD,qA,rU C,qA]
 by_cases h:mD (nAt b.aJj b.Top) s.aJh>=0
 ·obtain⟨j,J,I⟩:=eN (show ¬mD (nAt b.aJj b.Top) s.aJh<0 by omega)
  have e:HZ s b=s.aJh.set (mD (nAt b.aJj b.Top) s.aJh).toNat b:=by unfold HZ;rw[if_pos h]
  rw[if_pos (by simpa using h),AM b jD,qA]
  rw[e]at ok all⊢
  rw[J]at ok all⊢
  rw[aH I,qA]
  exact S4 C hz ok all
 ·have e:HZ s b=s.aJh.take (XS s b)++([b]++s.aJh.drop (XS s b)):=by unfold HZ;rw[if_neg h]
  rw[if_neg (by simpa using h),LH (l:=s.aJh) (f:=λx=>GF x b) (L:=lA s b s) (S:=tS s b) C.aJh.1 (λn k hk=> ?_) (λn=> ?_)]
  ·show tS s b (XS s b)=_;unfold tS;rw[Lk hle,qA,qH,JR jE jD,qA,AM b jD,qA,eH jQ,qA,eH jM,qA,qT,<-e];rw[GI s jD];exact S4 C hz ok all
  ·simp only[lA];rw[if_pos (bE hk),aH hk,qA,Jq,qA,bG jD];rfl
  ·simp only[lA];rw[if_neg jK];rfl
theorem G8{s:M.aC}{b:M.aJa}(C:s.ok)(hb:b.ok)(hz:M.aC.sz s<=1048576)(zc:M.aJa.sz b<=1073741824)(U:M.aJb.sz b.bL.aJz<=1048576):tO s b=some (UE s b):=by
 have hm:=le_max C.aJh.1
 have hlen:s.aJh.length<=1048576:=by simp only[M.aC.sz]at hz;omega
 have ok:=PB C hb hz
 have all:=RF (s:=s) hz U
 have hle:=SE s b
 unfold tO UE
 rw[D8 s jD,qA,sH C,qA]
 by_cases h:mD (nAt b.aJj b.Top) s.aJh>=0
 ·obtain⟨j,J,I⟩:=eN (show ¬mD (nAt b.aJj b.Top) s.aJh<0 by omega)
  have e:HZ s b=s.aJh.set (mD (nAt b.aJj b.Top) s.aJh).toNat b:=by unfold HZ;rw[if_pos h]
  rw[if_pos (by simpa using h),yQ b jD,qA]
  rw[e]at ok all⊢
  rw[J]at ok all⊢
  rw[aH I,qA]
  exact TR C hz ok all
 ·have e:HZ s b=s.aJh.take (XS s b)++([b]++s.aJh.drop (XS s b)):=by unfold HZ;rw[if_neg h]
  rw[if_neg (by simpa using h),LH (l:=s.aJh) (f:=λx=>GF x b) (L:=kW s b s) (S:=tI s b) C.aJh.1 (λn k hk=> ?_) (λn=> ?_)]
  ·show tI s b (XS s b)=_;unfold tI;rw[yQ b jD,qA,MQ jO,qA,qH,<-e];rw[D8 s jD];exact TR C hz ok all
  ·simp only[kW];rw[if_pos (bE hk),aH hk,qA,FR,qA,bG jD];rfl
  ·simp only[kW];rw[if_neg jK];rfl
