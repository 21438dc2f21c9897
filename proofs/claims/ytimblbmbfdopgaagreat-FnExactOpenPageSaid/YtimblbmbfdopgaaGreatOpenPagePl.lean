/-
  Helper text. No conditions.
-/
import Derived.Test.YtimblbmbfdopgaaGreatOpenPagePk
set_option linter.unusedVariables false
set_option linter.unusedSimpArgs false
namespace Go.Proofs.YtimblbmbfdopgaaGreat.gen
open Go Go.Sh
theorem aOr {α R:Type} {l:List α} {f:α→Bool} {L:Nat→Int→Option R} {S:Nat→Option R} (hl:l.length≤maxLen)
  (h1 : ∀n (k:Nat) (hk:k<l.length),L (n+1) (k:Int)=if f l[k]=true then L n ((k+1:Nat):Int) else S k) (h2 : ∀n,L (n+1) (l.length:Int)=S l.length):L fuel 0=S (l.takeWhile f).length:=by
 have hm:=le_max hl
 have key : ∀(n k:Nat),l.length-k<n→k≤l.length→L n (k:Int)=S (k+((l.drop k).takeWhile f).length):=by
  intro n
  induction n with
  | zero=>intro k h _;omega
  | succ n ih =>
   intro k hn hk
   rcases Nat.lt_or_ge k l.length with h | h
   ·rw [h1 n k h,qU h,List.takeWhile_cons]
    by_cases hf:f l[k]=true
    ·rw [if_pos hf,if_pos hf,ih (k+1) (by omega) h,qJ]
     congr 1
     omega
    ·rw [if_neg hf,if_neg hf]
     simp
   ·have:k=l.length:=by omega
    subst this
    rw [h2 n]
    simp
 have:=key fuel 0 (by unfold fuel;omega) (by omega)
 simpa using this
def aNX (s:M.aA) (b:M.aC):Nat:=(s.Buckets.takeWhile (fun x=>aDW x b)).length
theorem aKH (s:M.aA) (b:M.aC):aNX s b≤s.Buckets.length:=(List.takeWhile_prefix _).length_le
def aCZ (s:M.aA) (b:M.aC):List M.aC:=if aAP (nAt b.Site b.Top) s.Buckets≥0 then s.Buckets.set (aAP (nAt b.Site b.Top) s.Buckets).toNat b else s.Buckets.take (aNX s b)++([b]++s.Buckets.drop (aNX s b))
def aJr (s:M.aA) (l:List M.aC):M.aA×Bool:=if kD s=true then (if kD (⟨l⟩:M.aA)=true then ((⟨l⟩:M.aA),true) else (s,false)) else (s,false)
def aKU (s:M.aA) (b:M.aC):M.aA×Bool:=aJr s (aCZ s b)
theorem aLE {s:M.aA} {b x:M.aC} (h:x∈aCZ s b):x=b∨x∈s.Buckets:=by
 unfold aCZ at h
 split at h
 ·rcases List.mem_or_eq_of_mem_set h with h | h
  ·exact .inr h
  ·exact .inl h
 ·simp only [qO,List.mem_cons,List.not_mem_nil,or_false] at h
  rcases h with h | h | h
  ·exact .inr (List.mem_of_mem_take h)
  ·exact .inl h
  ·exact .inr (List.mem_of_mem_drop h)
theorem aKY (s:M.aA) (b:M.aC):(aCZ s b).length≤s.Buckets.length+1:=by
 have:=aKH s b
 unfold aCZ
 split
 ·simp
 ·simp only [qE,qS,qJ,qK,qT];omega
theorem aQO (s:M.aA) (b:M.aC):aF M.aC.sz (aCZ s b)≤aF M.aC.sz s.Buckets+M.aC.sz b:=by
 unfold aCZ
 split
 ·exact aLG
 ·rw [aDg,aDg]
  have:=aDg (f:=M.aC.sz) (s.Buckets.take (aNX s b)) (s.Buckets.drop (aNX s b))
  rw [List.take_append_drop] at this
  simp only [aF]
  omega
theorem aNv {s:M.aA} (hz:M.aA.sz s≤1048576) : ∀x∈s.Buckets,M.aC.sz x≤1048576:=fun x hx=>by
 have:=cF (f:=M.aC.sz) hx
 simp only [M.aA.sz] at hz
 omega
theorem aJu {s:M.aA} {b:M.aC} (hs:s.ok) (hb:b.ok) (hz:M.aA.sz s≤1048576):M.aA.ok (⟨aCZ s b⟩:M.aA):=
 ⟨⟨by show (aCZ s b).length≤maxLen;have:=aKY s b;simp only [M.aA.sz] at hz;unfold maxLen;omega,fun x hx=>by
  rcases aLE hx with rfl | h
  ·exact hb
  ·exact hs.Buckets.2 x h⟩⟩
theorem aIp {s:M.aA} {b:M.aC} (hz:M.aA.sz s≤1048576) (zb:M.Database.sz b.bC.Base≤1048576) : ∀x∈aCZ s b,M.Database.sz x.bC.Base≤1048576:=fun x hx=>by
 rcases aLE hx with rfl | h
 ·exact zb
 ·exact aDn (aNv hz x h)
theorem aNf {s:M.aA} {b:M.aC} (hs:s.ok) (hb:b.ok) (hz:M.aA.sz s≤1048576):M.aA.ok (aKU s b).1:=by
 unfold aKU aJr
 split
 ·split
  ·exact aJu hs hb hz
  ·exact hs
 ·exact hs
theorem aQ0 (s:M.aA) (b:M.aC):M.aA.sz (aKU s b).1≤M.aA.sz s+M.aC.sz b+1:=by
 have h1:=aKY s b
 have h2:=aQO s b
 unfold aKU aJr
 simp only [M.aA.sz]
 split
 ·split<;>simp only<;>omega
 ·simp only;omega
theorem aL8 {s:M.aA} {l:List M.aC} (hs:s.ok) (hz:M.aA.sz s≤1048576) (hl:M.aA.ok (⟨l⟩:M.aA)) (zl : ∀x∈l,M.Database.sz x.bC.Base≤1048576) :
  ((bW s).bind fun x93=>(if (!x93)=true then ((some s).bind fun x96=>(some (x96,false))) else ((bW (⟨l⟩:M.aA)).bind fun x98=>(if (!x98)=true then ((some s).bind fun x101=>(some (x101,false))) else (some ((⟨l⟩:M.aA),true))))))=some (aJr s l):=by
 rw [aH1 hs hz,qA,aCL hl zl]
 unfold aJr
 cases kD s
 ·simp
 ·cases kD (⟨l⟩:M.aA)<;>simp
theorem aMg {s:M.aA} {l:List M.aC} (hs:s.ok) (hz:M.aA.sz s≤1048576) (hl:M.aA.ok (⟨l⟩:M.aA)) (zl : ∀x∈l,M.Database.sz x.bC.Base≤1048576) :
  ((bX s).bind fun x93=>(if (!x93)=true then ((some s).bind fun x96=>(some (x96,false))) else ((bX (⟨l⟩:M.aA)).bind fun x98=>(if (!x98)=true then ((some s).bind fun x101=>(some (x101,false))) else (some ((⟨l⟩:M.aA),true))))))=some (aJr s l):=by
 rw [aHp hs hz,qA,aCN hl zl]
 unfold aJr
 cases kD s
 ·simp
 ·cases kD (⟨l⟩:M.aA)<;>simp
def tS (s:M.aA) (b:M.aC) (k:Nat):Option (M.aA×Bool):=(aHz s.Buckets (k:Int)).bind fun _=>((app 328 ([]:List M.aC) (List.take (k:Int).toNat s.Buckets)).bind fun _=>((jH b).bind fun x68=>((app 328 (List.take (k:Int).toNat s.Buckets) ([x68])).bind fun _=>((app 328 ((List.take (k:Int).toNat s.Buckets)++[x68]) (List.drop (k:Int).toNat s.Buckets)).bind fun _=>((bW s).bind fun x93=>(if (!x93)=true then ((eW s).bind fun x96=>(some (x96,false))) else ((bW (⟨(((List.take (k:Int).toNat s.Buckets)++[x68])++(List.drop (k:Int).toNat s.Buckets))⟩:M.aA)).bind fun x98=>(if (!x98)=true then ((eW s).bind fun x101=>(some (x101,false))) else (some ((⟨(((List.take (k:Int).toNat s.Buckets)++[x68])++(List.drop (k:Int).toNat s.Buckets))⟩:M.aA),true))))))))))
def tI (s:M.aA) (b:M.aC) (k:Nat):Option (M.aA×Bool):=(gP b).bind fun x51=>((aK9 328 s.Buckets (k:Int) ([x51])).bind fun x53=>((bX s).bind fun x63=>(if (!x63)=true then ((bT s).bind fun x66=>(some (x66,false))) else ((bX (⟨(List.take (k:Int).toNat s.Buckets++([x51]++List.drop (k:Int).toNat s.Buckets))⟩:M.aA)).bind fun x68=>(if (!x68)=true then ((bT s).bind fun x71=>(some (x71,false))) else (some ((⟨(List.take (k:Int).toNat s.Buckets++([x51]++List.drop (k:Int).toNat s.Buckets))⟩:M.aA),true)))))))
theorem aGs {s:M.aA} {b:M.aC} (hs:s.ok) (hb:b.ok) (hz:M.aA.sz s≤1048576) (zc:M.aC.sz b≤1073741824) (zb:M.Database.sz b.bC.Base≤1048576):mB s b=some (aKU s b):=by
 have hm:=le_max hs.Buckets.1
 have hlen:s.Buckets.length≤1048576:=by simp only [M.aA.sz] at hz;omega
 have ok:=aJu hs hb hz
 have all:=aIp (s:=s) hz zb
 have hle:=aKH s b
 unfold mB aKU
 rw [aDX s (by omega),qA,aAA hs,qA]
 by_cases h:aAP (nAt b.Site b.Top) s.Buckets≥0
 ·obtain ⟨j,hj,hlt⟩:=aBx (show ¬aAP (nAt b.Site b.Top) s.Buckets<0 by omega)
  have e:aCZ s b=s.Buckets.set (aAP (nAt b.Site b.Top) s.Buckets).toNat b:=by unfold aCZ;rw [if_pos h]
  rw [if_pos (by simpa using h),aCV b (by omega),qA]
  rw [e] at ok all ⊢
  rw [hj] at ok all ⊢
  rw [aN hlt,qA]
  exact aL8 hs hz ok all
 ·have e:aCZ s b=s.Buckets.take (aNX s b)++([b]++s.Buckets.drop (aNX s b)):=by unfold aCZ;rw [if_neg h]
  rw [if_neg (by simpa using h),aOr (l:=s.Buckets) (f:=fun x=>aDW x b) (L:=iP s b s) (S:=tS s b) hs.Buckets.1 (fun n k hk => ?_) (fun n => ?_)]
  ·show tS s b (aNX s b)=_
   unfold tS
   rw [aJ2 hle,qA,qH,aHI (by simp;omega) (by omega),qA,aCV b (by omega),qA,oF (by simp only [qS,qJ,qK];omega),qA,oF (by simp only [qE,qS,qT,qJ,qK];omega),qA,qR,←e]
   rw [aDX s (by omega)]
   exact aL8 hs hz ok all
  ·simp only [iP]
   rw [if_pos (bB hk),aN hk,qA,aFP,qA,bF (by omega)]
   rfl
  ·simp only [iP]
   rw [if_neg (by rw [aP];simp)]
   rfl
theorem aHE {s:M.aA} {b:M.aC} (hs:s.ok) (hb:b.ok) (hz:M.aA.sz s≤1048576) (zc:M.aC.sz b≤1073741824) (zb:M.Database.sz b.bC.Base≤1048576):mC s b=some (aKU s b):=by
 have hm:=le_max hs.Buckets.1
 have hlen:s.Buckets.length≤1048576:=by simp only [M.aA.sz] at hz;omega
 have ok:=aJu hs hb hz
 have all:=aIp (s:=s) hz zb
 have hle:=aKH s b
 unfold mC aKU
 rw [aCE s (by omega),qA,aCQ hs,qA]
 by_cases h:aAP (nAt b.Site b.Top) s.Buckets≥0
 ·obtain ⟨j,hj,hlt⟩:=aBx (show ¬aAP (nAt b.Site b.Top) s.Buckets<0 by omega)
  have e:aCZ s b=s.Buckets.set (aAP (nAt b.Site b.Top) s.Buckets).toNat b:=by unfold aCZ;rw [if_pos h]
  rw [if_pos (by simpa using h),aCR b (by omega),qA]
  rw [e] at ok all ⊢
  rw [hj] at ok all ⊢
  rw [aN hlt,qA]
  exact aMg hs hz ok all
 ·have e:aCZ s b=s.Buckets.take (aNX s b)++([b]++s.Buckets.drop (aNX s b)):=by unfold aCZ;rw [if_neg h]
  rw [if_neg (by simpa using h),aOr (l:=s.Buckets) (f:=fun x=>aDW x b) (L:=iM s b s) (S:=tI s b) hs.Buckets.1 (fun n k hk => ?_) (fun n => ?_)]
  ·show tI s b (aNX s b)=_
   unfold tI
   rw [aCR b (by omega),qA,aL9 (by simp only [qH,qJ,qK];omega),qA,qH,←e]
   rw [aCE s (by omega)]
   exact aMg hs hz ok all
  ·simp only [iM]
   rw [if_pos (bB hk),aN hk,qA,aC8,qA,bF (by omega)]
   rfl
  ·simp only [iM]
   rw [if_neg (by rw [aP];simp)]
   rfl
end Go.Proofs.YtimblbmbfdopgaaGreat.gen
