/-
  Helper text. No conditions.
-/
import Derived.Test.YtidhkhdnjonjfaaGreatUpdateWorkerPk
set_option linter.unusedVariables false
set_option linter.unusedSimpArgs false
namespace Go.Proofs.YtidhkhdnjonjfaaGreat.gen
open Go Go.Sh
theorem aKr {α R:Type} {l:List α} {f:α→Bool} {L:Nat→Int→Option R} {S:Nat→Option R} (hl:l.length≤maxLen)
  (h1 : ∀n (k:Nat) (hk:k<l.length),L (n+1) (k:Int)=if f l[k]=true then L n ((k+1:Nat):Int) else S k) (h2 : ∀n,L (n+1) (l.length:Int)=S l.length):L fuel 0=S (l.takeWhile f).length:=by
 have hm:=le_max hl
 have key : ∀(n k:Nat),l.length-k<n→k≤l.length→L n (k:Int)=S (k+((l.drop k).takeWhile f).length):=by
  intro n
  induction n with
  | zero=>intro k h _;omega
  | succ n ih =>
   intro k hn hk
   rcases Nat.lt_or_ge k l.length with h | h
   ·rw [h1 n k h,qV h,List.takeWhile_cons]
    by_cases hf:f l[k]=true
    ·rw [if_pos hf,if_pos hf,ih (k+1) (by omega) h,qJ]
     congr 1
     omega
    ·rw [if_neg hf,if_neg hf]
     simp
   ·have:k=l.length:=by omega
    subst this
    rw [h2 n]
    simp
 have:=key fuel 0 (by unfold fuel;omega) (by omega)
 simpa using this
def aO4 (s:M.aC) (b:M.Bucket):Nat:=(s.Buckets.takeWhile (fun x=>aDa x b)).length
theorem aMR (s:M.aC) (b:M.Bucket):aO4 s b≤s.Buckets.length:=(List.takeWhile_prefix _).length_le
def aEb (s:M.aC) (b:M.Bucket):List M.Bucket:=if yK (nAt b.Site b.Top) s.Buckets≥0 then s.Buckets.set (yK (nAt b.Site b.Top) s.Buckets).toNat b else s.Buckets.take (aO4 s b)++([b]++s.Buckets.drop (aO4 s b))
def aL5 (s:M.aC) (l:List M.Bucket):M.aC×Bool:=if oP s=true then (if oP (⟨l⟩:M.aC)=true then ((⟨l⟩:M.aC),true) else (s,false)) else (s,false)
def aN8 (s:M.aC) (b:M.Bucket):M.aC×Bool:=aL5 s (aEb s b)
theorem aLn {s:M.aC} {b x:M.Bucket} (h:x∈aEb s b):x=b∨x∈s.Buckets:=by
 unfold aEb at h
 split at h
 ·rcases List.mem_or_eq_of_mem_set h with h | h
  ·exact .inr h
  ·exact .inl h
 ·simp only [qP,List.mem_cons,qO,or_false] at h
  rcases h with h | h | h
  ·exact .inr (List.mem_of_mem_take h)
  ·exact .inl h
  ·exact .inr (List.mem_of_mem_drop h)
theorem aK5 (s:M.aC) (b:M.Bucket):(aEb s b).length≤s.Buckets.length+1:=by
 have:=aMR s b
 unfold aEb
 split
 ·simp
 ·simp only [qE,qT,qJ,qK,qU];omega
theorem aQv (s:M.aC) (b:M.Bucket):aF M.Bucket.sz (aEb s b)≤aF M.Bucket.sz s.Buckets+M.Bucket.sz b:=by
 unfold aEb
 split
 ·exact aLq
 ·rw [aDk,aDk]
  have:=aDk (f:=M.Bucket.sz) (s.Buckets.take (aO4 s b)) (s.Buckets.drop (aO4 s b))
  rw [List.take_append_drop] at this
  simp only [aF]
  omega
theorem aRO {s:M.aC} (hz:M.aC.sz s≤1048576) : ∀x∈s.Buckets,M.Bucket.sz x≤1048576:=fun x hx=>by
 have:=bO (f:=M.Bucket.sz) hx
 simp only [M.aC.sz] at hz
 omega
theorem aKV {s:M.aC} {b:M.Bucket} (hs:s.ok) (hb:b.ok) (hz:M.aC.sz s≤1048576):M.aC.ok (⟨aEb s b⟩:M.aC):=
 ⟨⟨by show (aEb s b).length≤maxLen;have:=aK5 s b;simp only [M.aC.sz] at hz;unfold maxLen;omega,fun x hx=>by
  rcases aLn hx with rfl | h
  ·exact hb
  ·exact hs.Buckets.2 x h⟩⟩
theorem aLp {s:M.aC} {b:M.Bucket} (hz:M.aC.sz s≤1048576) (zb:M.Database.sz b.bB.Base≤1048576) : ∀x∈aEb s b,M.Database.sz x.bB.Base≤1048576:=fun x hx=>by
 rcases aLn hx with rfl | h
 ·exact zb
 ·exact aA2 (aRO hz x h)
theorem aRF {s:M.aC} {b:M.Bucket} (hs:s.ok) (hb:b.ok) (hz:M.aC.sz s≤1048576):M.aC.ok (aN8 s b).1:=by
 unfold aN8 aL5
 split
 ·split
  ·exact aKV hs hb hz
  ·exact hs
 ·exact hs
theorem aRX (s:M.aC) (b:M.Bucket):M.aC.sz (aN8 s b).1≤M.aC.sz s+M.Bucket.sz b+1:=by
 have h1:=aK5 s b
 have h2:=aQv s b
 unfold aN8 aL5
 simp only [M.aC.sz]
 split
 ·split<;>simp only<;>omega
 ·simp only;omega
theorem aMh {s:M.aC} {l:List M.Bucket} (hs:s.ok) (hz:M.aC.sz s≤1048576) (hl:M.aC.ok (⟨l⟩:M.aC)) (zl : ∀x∈l,M.Database.sz x.bB.Base≤1048576) :
  ((bZ s).bind fun x93=>(if (!x93)=true then ((some s).bind fun x96=>(some (x96,false))) else ((bZ (⟨l⟩:M.aC)).bind fun x98=>(if (!x98)=true then ((some s).bind fun x101=>(some (x101,false))) else (some ((⟨l⟩:M.aC),true))))))=some (aL5 s l):=by
 rw [aII hs hz,qA,aCS hl zl]
 unfold aL5
 cases oP s
 ·simp
 ·cases oP (⟨l⟩:M.aC)<;>simp
theorem aNE {s:M.aC} {l:List M.Bucket} (hs:s.ok) (hz:M.aC.sz s≤1048576) (hl:M.aC.ok (⟨l⟩:M.aC)) (zl : ∀x∈l,M.Database.sz x.bB.Base≤1048576) :
  ((cA s).bind fun x93=>(if (!x93)=true then ((some s).bind fun x96=>(some (x96,false))) else ((cA (⟨l⟩:M.aC)).bind fun x98=>(if (!x98)=true then ((some s).bind fun x101=>(some (x101,false))) else (some ((⟨l⟩:M.aC),true))))))=some (aL5 s l):=by
 rw [aH9 hs hz,qA,aCU hl zl]
 unfold aL5
 cases oP s
 ·simp
 ·cases oP (⟨l⟩:M.aC)<;>simp
def tS (s:M.aC) (b:M.Bucket) (k:Nat):Option (M.aC×Bool):=(aEx s.Buckets (k:Int)).bind fun _=>((app 328 ([]:List M.Bucket) (List.take (k:Int).toNat s.Buckets)).bind fun _=>((gV b).bind fun x68=>((app 328 (List.take (k:Int).toNat s.Buckets) ([x68])).bind fun _=>((app 328 ((List.take (k:Int).toNat s.Buckets)++[x68]) (List.drop (k:Int).toNat s.Buckets)).bind fun _=>((bZ s).bind fun x93=>(if (!x93)=true then ((fD s).bind fun x96=>(some (x96,false))) else ((bZ (⟨(((List.take (k:Int).toNat s.Buckets)++[x68])++(List.drop (k:Int).toNat s.Buckets))⟩:M.aC)).bind fun x98=>(if (!x98)=true then ((fD s).bind fun x101=>(some (x101,false))) else (some ((⟨(((List.take (k:Int).toNat s.Buckets)++[x68])++(List.drop (k:Int).toNat s.Buckets))⟩:M.aC),true))))))))))
def tI (s:M.aC) (b:M.Bucket) (k:Nat):Option (M.aC×Bool):=(dP b).bind fun x51=>((aJi 328 s.Buckets (k:Int) ([x51])).bind fun x53=>((cA s).bind fun x63=>(if (!x63)=true then ((bU s).bind fun x66=>(some (x66,false))) else ((cA (⟨(List.take (k:Int).toNat s.Buckets++([x51]++List.drop (k:Int).toNat s.Buckets))⟩:M.aC)).bind fun x68=>(if (!x68)=true then ((bU s).bind fun x71=>(some (x71,false))) else (some ((⟨(List.take (k:Int).toNat s.Buckets++([x51]++List.drop (k:Int).toNat s.Buckets))⟩:M.aC),true)))))))
theorem aG2 {s:M.aC} {b:M.Bucket} (hs:s.ok) (hb:b.ok) (hz:M.aC.sz s≤1048576) (zc:M.Bucket.sz b≤1073741824) (zb:M.Database.sz b.bB.Base≤1048576):vX s b=some (aN8 s b):=by
 have hm:=le_max hs.Buckets.1
 have hlen:s.Buckets.length≤1048576:=by simp only [M.aC.sz] at hz;omega
 have ok:=aKV hs hb hz
 have all:=aLp (s:=s) hz zb
 have hle:=aMR s b
 unfold vX aN8
 rw [aDb s (by omega),qA,aCR hs,qA]
 by_cases h:yK (nAt b.Site b.Top) s.Buckets≥0
 ·obtain ⟨j,hj,hlt⟩:=vC (show ¬yK (nAt b.Site b.Top) s.Buckets<0 by omega)
  have e:aEb s b=s.Buckets.set (yK (nAt b.Site b.Top) s.Buckets).toNat b:=by unfold aEb;rw [if_pos h]
  rw [if_pos (by simpa using h),aBB b (by omega),qA]
  rw [e] at ok all ⊢
  rw [hj] at ok all ⊢
  rw [aM hlt,qA]
  exact aMh hs hz ok all
 ·have e:aEb s b=s.Buckets.take (aO4 s b)++([b]++s.Buckets.drop (aO4 s b)):=by unfold aEb;rw [if_neg h]
  rw [if_neg (by simpa using h),aKr (l:=s.Buckets) (f:=fun x=>aDa x b) (L:=iW s b s) (S:=tS s b) hs.Buckets.1 (fun n k hk => ?_) (fun n => ?_)]
  ·show tS s b (aO4 s b)=_
   unfold tS
   rw [aFm hle,qA,qH,aHo (by simp;omega) (by omega),qA,aBB b (by omega),qA,lM (by simp only [qT,qJ,qK];omega),qA,lM (by simp only [qE,qT,qU,qJ,qK];omega),qA,qS,←e]
   rw [aDb s (by omega)]
   exact aMh hs hz ok all
  ·simp only [iW]
   rw [if_pos (aY hk),aM hk,qA,aFX,qA,bC (by omega)]
   rfl
  ·simp only [iW]
   rw [if_neg (by rw [aO];simp)]
   rfl
theorem aHT {s:M.aC} {b:M.Bucket} (hs:s.ok) (hb:b.ok) (hz:M.aC.sz s≤1048576) (zc:M.Bucket.sz b≤1073741824) (zb:M.Database.sz b.bB.Base≤1048576):wD s b=some (aN8 s b):=by
 have hm:=le_max hs.Buckets.1
 have hlen:s.Buckets.length≤1048576:=by simp only [M.aC.sz] at hz;omega
 have ok:=aKV hs hb hz
 have all:=aLp (s:=s) hz zb
 have hle:=aMR s b
 unfold wD aN8
 rw [aCJ s (by omega),qA,aCW hs,qA]
 by_cases h:yK (nAt b.Site b.Top) s.Buckets≥0
 ·obtain ⟨j,hj,hlt⟩:=vC (show ¬yK (nAt b.Site b.Top) s.Buckets<0 by omega)
  have e:aEb s b=s.Buckets.set (yK (nAt b.Site b.Top) s.Buckets).toNat b:=by unfold aEb;rw [if_pos h]
  rw [if_pos (by simpa using h),uT b (by omega),qA]
  rw [e] at ok all ⊢
  rw [hj] at ok all ⊢
  rw [aM hlt,qA]
  exact aNE hs hz ok all
 ·have e:aEb s b=s.Buckets.take (aO4 s b)++([b]++s.Buckets.drop (aO4 s b)):=by unfold aEb;rw [if_neg h]
  rw [if_neg (by simpa using h),aKr (l:=s.Buckets) (f:=fun x=>aDa x b) (L:=iT s b s) (S:=tI s b) hs.Buckets.1 (fun n k hk => ?_) (fun n => ?_)]
  ·show tI s b (aO4 s b)=_
   unfold tI
   rw [uT b (by omega),qA,aIM (by simp only [qH,qJ,qK];omega),qA,qH,←e]
   rw [aCJ s (by omega)]
   exact aNE hs hz ok all
  ·simp only [iT]
   rw [if_pos (aY hk),aM hk,qA,aDC,qA,bC (by omega)]
   rfl
  ·simp only [iT]
   rw [if_neg (by rw [aO];simp)]
   rfl
end Go.Proofs.YtidhkhdnjonjfaaGreat.gen
