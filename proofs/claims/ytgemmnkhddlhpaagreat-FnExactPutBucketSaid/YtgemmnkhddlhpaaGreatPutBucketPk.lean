/-
  Helper text: plain laws of the functions. No conditions beyond those of each law.
-/
import Derived.Test.YtgemmnkhddlhpaaGreatPutBucketPi
namespace Go.Proofs.YtgemmnkhddlhpaaGreat.gen
open Go Go.Sh
set_option linter.unusedVariables false
set_option linter.unusedSimpArgs false
theorem stopAll {α R : Type} {l : List α} {f : α → Bool} {L : Nat → Int → Option R} {S : Nat → Option R} (hl : l.length ≤ maxLen)
    (h1 : ∀ n (k : Nat) (hk : k < l.length), L (n + 1) (k : Int) = if f l[k] = true then L n ((k + 1 : Nat) : Int) else S k) (h2 : ∀ n, L (n + 1) (l.length : Int) = S l.length) : L fuel 0 = S (l.takeWhile f).length := by
  have hm := le_max hl
  have key : ∀ (n k : Nat), l.length - k < n → k ≤ l.length → L n (k : Int) = S (k + ((l.drop k).takeWhile f).length) := by
    intro n
    induction n with
    | zero => intro k h _; omega
    | succ n ih =>
      intro k hn hk
      rcases Nat.lt_or_ge k l.length with h | h
      · rw [h1 n k h, List.drop_eq_getElem_cons h, List.takeWhile_cons]
        by_cases hf : f l[k] = true
        · rw [if_pos hf, if_pos hf, ih (k + 1) (by omega) h, List.length_cons]
          congr 1
          omega
        · rw [if_neg hf, if_neg hf]
          simp
      · have : k = l.length := by omega
        subst this
        rw [h2 n]
        simp
  have := key fuel 0 (by unfold fuel; omega) (by omega)
  simpa using this
def nPos (s : M.Storage) (b : M.Bucket) : Nat := (s.Buckets.takeWhile (fun x => nBefore x b)).length
theorem nPos_le (s : M.Storage) (b : M.Bucket) : nPos s b ≤ s.Buckets.length := (List.takeWhile_prefix _).length_le
def nPutL (s : M.Storage) (b : M.Bucket) : List M.Bucket := if fidx (nAt b.Site b.Top) s.Buckets ≥ 0 then s.Buckets.set (fidx (nAt b.Site b.Top) s.Buckets).toNat b else s.Buckets.take (nPos s b) ++ ([b] ++ s.Buckets.drop (nPos s b))
def nPutR (s : M.Storage) (l : List M.Bucket) : M.Storage × Bool := if nStorage s = true then (if nStorage (⟨l⟩ : M.Storage) = true then ((⟨l⟩ : M.Storage), true) else (s, false)) else (s, false)
def nPut (s : M.Storage) (b : M.Bucket) : M.Storage × Bool := nPutR s (nPutL s b)
theorem nPutL_mem {s : M.Storage} {b x : M.Bucket} (h : x ∈ nPutL s b) : x = b ∨ x ∈ s.Buckets := by
  unfold nPutL at h
  split at h
  · rcases List.mem_or_eq_of_mem_set h with h | h
    · exact .inr h
    · exact .inl h
  · simp only [List.mem_append, List.mem_cons, List.not_mem_nil, or_false] at h
    rcases h with h | h | h
    · exact .inr (List.mem_of_mem_take h)
    · exact .inl h
    · exact .inr (List.mem_of_mem_drop h)
theorem nPutL_len (s : M.Storage) (b : M.Bucket) : (nPutL s b).length ≤ s.Buckets.length + 1 := by
  have := nPos_le s b
  unfold nPutL
  split
  · simp
  · simp only [List.length_append, List.length_take, List.length_cons, List.length_nil, List.length_drop]; omega
theorem szSum_set {α : Type} {f : α → Nat} {x : α} : ∀ {l : List α} {i : Nat}, szSum f (l.set i x) ≤ szSum f l + f x
  | [], _ => by simp [szSum]
  | y :: l, 0 => by simp only [List.set_cons_zero, szSum]; omega
  | y :: l, i + 1 => by have := szSum_set (f := f) (x := x) (l := l) (i := i); simp only [List.set_cons_succ, szSum]; omega
theorem szSum_app {α : Type} {f : α → Nat} : ∀ (l r : List α), szSum f (l ++ r) = szSum f l + szSum f r
  | [], r => by simp [szSum]
  | y :: l, r => by simp only [List.cons_append, szSum, szSum_app l r]; omega
theorem nPutL_sz (s : M.Storage) (b : M.Bucket) : szSum M.Bucket.sz (nPutL s b) ≤ szSum M.Bucket.sz s.Buckets + M.Bucket.sz b := by
  unfold nPutL
  split
  · exact szSum_set
  · rw [szSum_app, szSum_app]
    have := szSum_app (f := M.Bucket.sz) (s.Buckets.take (nPos s b)) (s.Buckets.drop (nPos s b))
    rw [List.take_append_drop] at this
    simp only [szSum]
    omega
theorem sto_mem {s : M.Storage} (hz : M.Storage.sz s ≤ 1048576) : ∀ x ∈ s.Buckets, M.Bucket.sz x ≤ 1048576 := fun x hx => by
  have := szSum_le (f := M.Bucket.sz) hx
  simp only [M.Storage.sz] at hz
  omega
theorem nPutL_ok {s : M.Storage} {b : M.Bucket} (hs : s.ok) (hb : b.ok) (hz : M.Storage.sz s ≤ 1048576) : M.Storage.ok (⟨nPutL s b⟩ : M.Storage) :=
  ⟨⟨by show (nPutL s b).length ≤ maxLen; have := nPutL_len s b; simp only [M.Storage.sz] at hz; unfold maxLen; omega, fun x hx => by
    rcases nPutL_mem hx with rfl | h
    · exact hb
    · exact hs.Buckets.2 x h⟩⟩
theorem nPutL_all {s : M.Storage} {b : M.Bucket} (hz : M.Storage.sz s ≤ 1048576) (zb : M.Bucket.sz b ≤ 1048576) : ∀ x ∈ nPutL s b, M.Bucket.sz x ≤ 1048576 := fun x hx => by
  rcases nPutL_mem hx with rfl | h
  · exact zb
  · exact sto_mem hz x h
theorem nPut_ok {s : M.Storage} {b : M.Bucket} (hs : s.ok) (hb : b.ok) (hz : M.Storage.sz s ≤ 1048576) : M.Storage.ok (nPut s b).1 := by
  unfold nPut nPutR
  split
  · split
    · exact nPutL_ok hs hb hz
    · exact hs
  · exact hs
theorem nPut_sz (s : M.Storage) (b : M.Bucket) : M.Storage.sz (nPut s b).1 ≤ M.Storage.sz s + M.Bucket.sz b + 1 := by
  have h1 := nPutL_len s b
  have h2 := nPutL_sz s b
  unfold nPut nPutR
  simp only [M.Storage.sz]
  split
  · split <;> simp only <;> omega
  · simp only; omega
theorem put_spec {s : M.Storage} {l : List M.Bucket} (hs : s.ok) (hz : M.Storage.sz s ≤ 1048576) (hl : M.Storage.ok (⟨l⟩ : M.Storage)) (zl : ∀ x ∈ l, M.Bucket.sz x ≤ 1048576) :
    ((m_spec_IsStorage s).bind fun x93 => (if (!x93) = true then ((some s).bind fun x96 => (some (x96, false))) else ((m_spec_IsStorage (⟨l⟩ : M.Storage)).bind fun x98 => (if (!x98) = true then ((some s).bind fun x101 => (some (x101, false))) else (some ((⟨l⟩ : M.Storage), true)))))) = some (nPutR s l) := by
  rw [p_spec_IsStorage hs hz, Option.bind_some, p_spec_IsStorage' hl zl]
  unfold nPutR
  cases nStorage s
  · simp
  · cases nStorage (⟨l⟩ : M.Storage) <;> simp
theorem put_impl {s : M.Storage} {l : List M.Bucket} (hs : s.ok) (hz : M.Storage.sz s ≤ 1048576) (hl : M.Storage.ok (⟨l⟩ : M.Storage)) (zl : ∀ x ∈ l, M.Bucket.sz x ≤ 1048576) :
    ((m_impl_IsStorage s).bind fun x93 => (if (!x93) = true then ((some s).bind fun x96 => (some (x96, false))) else ((m_impl_IsStorage (⟨l⟩ : M.Storage)).bind fun x98 => (if (!x98) = true then ((some s).bind fun x101 => (some (x101, false))) else (some ((⟨l⟩ : M.Storage), true)))))) = some (nPutR s l) := by
  rw [p_impl_IsStorage hs hz, Option.bind_some, p_impl_IsStorage' hl zl]
  unfold nPutR
  cases nStorage s
  · simp
  · cases nStorage (⟨l⟩ : M.Storage) <;> simp
def tS (s : M.Storage) (b : M.Bucket) (k : Nat) : Option (M.Storage × Bool) := (slcHi s.Buckets (k : Int)).bind fun _ => ((app 328 ([] : List M.Bucket) (List.take (k : Int).toNat s.Buckets)).bind fun _ => ((m_spec_l27Copy b).bind fun x68 => ((app 328 (List.take (k : Int).toNat s.Buckets) ([x68])).bind fun _ => ((app 328 ((List.take (k : Int).toNat s.Buckets) ++ [x68]) (List.drop (k : Int).toNat s.Buckets)).bind fun _ => ((m_spec_IsStorage s).bind fun x93 => (if (!x93) = true then ((m_spec_l28Copy s).bind fun x96 => (some (x96, false))) else ((m_spec_IsStorage (⟨(((List.take (k : Int).toNat s.Buckets) ++ [x68]) ++ (List.drop (k : Int).toNat s.Buckets))⟩ : M.Storage)).bind fun x98 => (if (!x98) = true then ((m_spec_l28Copy s).bind fun x101 => (some (x101, false))) else (some ((⟨(((List.take (k : Int).toNat s.Buckets) ++ [x68]) ++ (List.drop (k : Int).toNat s.Buckets))⟩ : M.Storage), true))))))))))
def tI (s : M.Storage) (b : M.Bucket) (k : Nat) : Option (M.Storage × Bool) := (m_impl_copyBucket b).bind fun x51 => ((insAt 328 s.Buckets (k : Int) ([x51])).bind fun x53 => ((m_impl_IsStorage s).bind fun x63 => (if (!x63) = true then ((m_impl_copyStorage s).bind fun x66 => (some (x66, false))) else ((m_impl_IsStorage (⟨(List.take (k : Int).toNat s.Buckets ++ ([x51] ++ List.drop (k : Int).toNat s.Buckets))⟩ : M.Storage)).bind fun x68 => (if (!x68) = true then ((m_impl_copyStorage s).bind fun x71 => (some (x71, false))) else (some ((⟨(List.take (k : Int).toNat s.Buckets ++ ([x51] ++ List.drop (k : Int).toNat s.Buckets))⟩ : M.Storage), true)))))))
theorem p_spec_PutBucket {s : M.Storage} {b : M.Bucket} (hs : s.ok) (hb : b.ok) (hz : M.Storage.sz s ≤ 1048576) (zb : M.Bucket.sz b ≤ 1048576) : m_spec_PutBucket s b = some (nPut s b) := by
  have hm := le_max hs.Buckets.1
  have hlen : s.Buckets.length ≤ 1048576 := by simp only [M.Storage.sz] at hz; omega
  have ok := nPutL_ok hs hb hz
  have all := nPutL_all (s := s) hz zb
  have hle := nPos_le s b
  unfold m_spec_PutBucket nPut
  rw [p_spec_l28Copy s (by omega), Option.bind_some, p_spec_FindBucket hs, Option.bind_some]
  by_cases h : fidx (nAt b.Site b.Top) s.Buckets ≥ 0
  · obtain ⟨j, hj, hlt⟩ := fidx_nat (show ¬ fidx (nAt b.Site b.Top) s.Buckets < 0 by omega)
    have e : nPutL s b = s.Buckets.set (fidx (nAt b.Site b.Top) s.Buckets).toNat b := by unfold nPutL; rw [if_pos h]
    rw [if_pos (by simpa using h), p_spec_l27Copy b (by omega), Option.bind_some]
    rw [e] at ok all ⊢
    rw [hj] at ok all ⊢
    rw [idx_nat hlt, Option.bind_some]
    exact put_spec hs hz ok all
  · have e : nPutL s b = s.Buckets.take (nPos s b) ++ ([b] ++ s.Buckets.drop (nPos s b)) := by unfold nPutL; rw [if_neg h]
    rw [if_neg (by simpa using h), stopAll (l := s.Buckets) (f := fun x => nBefore x b) (L := m_spec_PutBucket_L1 s b s) (S := tS s b) hs.Buckets.1 (fun n k hk => ?_) (fun n => ?_)]
    · show tS s b (nPos s b) = _
      unfold tS
      rw [slcHi_n hle, Option.bind_some, Int.toNat_natCast, app0 (by simp; omega) (by omega), Option.bind_some, p_spec_l27Copy b (by omega), Option.bind_some, app_ok (by simp only [List.length_take, List.length_cons, List.length_nil]; omega), Option.bind_some, app_ok (by simp only [List.length_append, List.length_take, List.length_drop, List.length_cons, List.length_nil]; omega), Option.bind_some, List.append_assoc, ← e]
      rw [p_spec_l28Copy s (by omega)]
      exact put_spec hs hz ok all
    · simp only [m_spec_PutBucket_L1]
      rw [if_pos (lt_nat hk), idx_nat hk, Option.bind_some, p_spec_l28Less, Option.bind_some, wrapn (by omega)]
      rfl
    · simp only [m_spec_PutBucket_L1]
      rw [if_neg (by rw [nlt_nat]; simp)]
      rfl
theorem p_impl_PutBucket {s : M.Storage} {b : M.Bucket} (hs : s.ok) (hb : b.ok) (hz : M.Storage.sz s ≤ 1048576) (zb : M.Bucket.sz b ≤ 1048576) : m_impl_PutBucket s b = some (nPut s b) := by
  have hm := le_max hs.Buckets.1
  have hlen : s.Buckets.length ≤ 1048576 := by simp only [M.Storage.sz] at hz; omega
  have ok := nPutL_ok hs hb hz
  have all := nPutL_all (s := s) hz zb
  have hle := nPos_le s b
  unfold m_impl_PutBucket nPut
  rw [p_impl_copyStorage s (by omega), Option.bind_some, p_impl_FindBucket hs, Option.bind_some]
  by_cases h : fidx (nAt b.Site b.Top) s.Buckets ≥ 0
  · obtain ⟨j, hj, hlt⟩ := fidx_nat (show ¬ fidx (nAt b.Site b.Top) s.Buckets < 0 by omega)
    have e : nPutL s b = s.Buckets.set (fidx (nAt b.Site b.Top) s.Buckets).toNat b := by unfold nPutL; rw [if_pos h]
    rw [if_pos (by simpa using h), p_impl_copyBucket b (by omega), Option.bind_some]
    rw [e] at ok all ⊢
    rw [hj] at ok all ⊢
    rw [idx_nat hlt, Option.bind_some]
    exact put_impl hs hz ok all
  · have e : nPutL s b = s.Buckets.take (nPos s b) ++ ([b] ++ s.Buckets.drop (nPos s b)) := by unfold nPutL; rw [if_neg h]
    rw [if_neg (by simpa using h), stopAll (l := s.Buckets) (f := fun x => nBefore x b) (L := m_impl_PutBucket_L1 s b s) (S := tI s b) hs.Buckets.1 (fun n k hk => ?_) (fun n => ?_)]
    · show tI s b (nPos s b) = _
      unfold tI
      rw [p_impl_copyBucket b (by omega), Option.bind_some, insAt_ok (by simp only [Int.toNat_natCast, List.length_cons, List.length_nil]; omega), Option.bind_some, Int.toNat_natCast, ← e]
      rw [p_impl_copyStorage s (by omega)]
      exact put_impl hs hz ok all
    · simp only [m_impl_PutBucket_L1]
      rw [if_pos (lt_nat hk), idx_nat hk, Option.bind_some, p_impl_bucketBefore, Option.bind_some, wrapn (by omega)]
      rfl
    · simp only [m_impl_PutBucket_L1]
      rw [if_neg (by rw [nlt_nat]; simp)]
      rfl
theorem p_PutBucket {s : M.Storage} {b : M.Bucket} (hs : s.ok) (hb : b.ok) (hz : M.Storage.sz s ≤ 1048576) (zb : M.Bucket.sz b ≤ 1048576) : m_spec_PutBucket s b = some (nPut s b) ∧ m_impl_PutBucket s b = some (nPut s b) := ⟨p_spec_PutBucket hs hb hz zb, p_impl_PutBucket hs hb hz zb⟩

end Go.Proofs.YtgemmnkhddlhpaaGreat.gen
