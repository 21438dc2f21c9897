/-
  Helper text: walks: each function's contract out of its model. No conditions beyond those of each contract.
-/
import Derived.Test.YtgemmnkhddlhpaaGreatNewBucketTi
import Derived.Test.YtgemmnkhddlhpaaGreatNewBucketWimpl0
import Derived.Test.YtgemmnkhddlhpaaGreatNewBucketWimpl2
namespace Go.Proofs.YtgemmnkhddlhpaaGreat.gen
open Go Go.Sh
set_option linter.unusedVariables false
set_option linter.unusedSimpArgs false
set_option maxRecDepth 20000 in
set_option maxHeartbeats 4000000 in
theorem c_impl_IsBucket (p0 : M.Bucket) (r : Bool) (h : m_impl_IsBucket p0 = some r) : SCalls Tryz.prog 57 [(true, M.Bucket.en p0)] [(false, [.ro (.bool r)])] := by
  unfold m_impl_IsBucket at h
  simp only [M.Bucket.en]
  refine scalls_n (N := 50) (vars := [.tmp 2]) Tryz.func57 rfl rfl rfl (by decide +kernel) (Nat.le_of_ble_eq_true rfl) fun base wd => ?_
  refine sq (rn ?_)
  refine an (sq ?_)
  obtain ⟨x1, h2, h⟩ := bind_some h
  rcases bcas x1 with b3 | b3
  · replace h := ite_f b3 h
    refine rgo ?_
    refine ec1 20 (c_impl_IsName _ _ h2) ?_
    refine ec 20 ?_
    refine ez ?_
    refine an (rt ?_)
    cases h
    simp [Ret, TB, EN, *]
  replace h := ite_t b3 h
  obtain ⟨x4, h5, h⟩ := bind_some h
  rcases bcas x4 with b6 | b6
  · replace h := ite_f b6 h
    refine rgo ?_
    refine ec2 20 (c_impl_IsName _ _ h2) (c_impl_IsName _ _ h5) ?_
    refine ec 20 ?_
    refine ez ?_
    refine an (rt ?_)
    cases h
    simp [Ret, TB, EN, *]
  replace h := ite_t b6 h
  obtain ⟨x7, h8, h⟩ := bind_some h
  rcases bcas x7 with b9 | b9
  · replace h := ite_f b9 h
    refine rgo ?_
    refine ec2 11 (c_impl_IsName _ _ h2) (c_impl_IsName _ _ h5) ?_
    refine ec1 20 (c_impl_IsRegistration _ _ h8) ?_
    refine ez ?_
    refine an (rt ?_)
    cases h
    simp [Ret, TB, EN, *]
  replace h := ite_t b9 h
  rcases bcas (p0.Registration.Site.toList == p0.Site.toList) with b10 | b10
  · replace h := ite_f b10 h
    refine rgo ?_
    refine ec2 11 (c_impl_IsName _ _ h2) (c_impl_IsName _ _ h5) ?_
    refine ec1 20 (c_impl_IsRegistration _ _ h8) ?_
    refine ez ?_
    refine an (rt ?_)
    cases h
    simp [Ret, TB, EN, *]
  replace h := ite_t b10 h
  obtain ⟨x11, h12, h⟩ := bind_some h
  rcases bcas x11 with b13 | b13
  · replace h := ite_f b13 h
    refine rgo ?_
    refine ec2 11 (c_impl_IsName _ _ h2) (c_impl_IsName _ _ h5) ?_
    refine ec2 20 (c_impl_IsRegistration _ _ h8) (c_impl_IsCacheSet _ _ h12) ?_
    refine ez ?_
    refine an (rt ?_)
    cases h
    simp [Ret, TB, EN, *]
  replace h := ite_t b13 h
  obtain ⟨x14, h15, h⟩ := bind_some h
  rcases bcas x14 with b16 | b16
  · replace h := ite_f b16 h
    refine rgo ?_
    refine ec2 11 (c_impl_IsName _ _ h2) (c_impl_IsName _ _ h5) ?_
    refine ec2 19 (c_impl_IsRegistration _ _ h8) (c_impl_IsCacheSet _ _ h12) ?_
    refine ez1 (c_impl_IsDatabase _ _ h15) ?_
    refine an (rt ?_)
    cases h
    simp [Ret, TB, EN, *]
  replace h := ite_t b16 h
  obtain ⟨x17, h18, h⟩ := bind_some h
  rcases bcas x17 with b19 | b19
  · replace h := ite_f b19 h
    refine rgo ?_
    refine ec2 11 (c_impl_IsName _ _ h2) (c_impl_IsName _ _ h5) ?_
    refine ec2 19 (c_impl_IsRegistration _ _ h8) (c_impl_IsCacheSet _ _ h12) ?_
    refine ez2 (c_impl_IsDatabase _ _ h15) (c_impl_IsReplica _ _ h18) ?_
    refine an (rt ?_)
    cases h
    simp [Ret, TB, EN, *]
  replace h := ite_t b19 h
  obtain ⟨x20, h21, h⟩ := bind_some h
  rcases bcas x20 with b22 | b22
  · replace h := ite_f b22 h
    apply SW_run
    · simp +decide only [E, reduceIte, Nat.reduceAdd, Nat.reduceMul, Bool.not_true, Bool.not_false, L, ti3, ti9, ti23, ti26, ti30, ti33, ti43, ti45, b3, b6, b9, b10, b13, b16, b19, b22]
      refine ⟨_, c_impl_IsName _ _ h2, ?_⟩
      try simp +decide only [E, reduceIte, Nat.reduceAdd, Nat.reduceMul, Bool.not_true, Bool.not_false, L, ti3, ti9, ti23, ti26, ti30, ti33, ti43, ti45, b3, b6, b9, b10, b13, b16, b19, b22]
      refine ⟨_, c_impl_IsName _ _ h5, ?_⟩
      try simp +decide only [E, reduceIte, Nat.reduceAdd, Nat.reduceMul, Bool.not_true, Bool.not_false, L, ti3, ti9, ti23, ti26, ti30, ti33, ti43, ti45, b3, b6, b9, b10, b13, b16, b19, b22]
      refine ⟨_, c_impl_IsRegistration _ _ h8, ?_⟩
      try simp +decide only [E, reduceIte, Nat.reduceAdd, Nat.reduceMul, Bool.not_true, Bool.not_false, L, ti3, ti9, ti23, ti26, ti30, ti33, ti43, ti45, b3, b6, b9, b10, b13, b16, b19, b22]
      refine ⟨_, c_impl_IsCacheSet _ _ h12, ?_⟩
      try simp +decide only [E, reduceIte, Nat.reduceAdd, Nat.reduceMul, Bool.not_true, Bool.not_false, L, ti3, ti9, ti23, ti26, ti30, ti33, ti43, ti45, b3, b6, b9, b10, b13, b16, b19, b22]
      refine ⟨_, c_impl_IsDatabase _ _ h15, ?_⟩
      try simp +decide only [E, reduceIte, Nat.reduceAdd, Nat.reduceMul, Bool.not_true, Bool.not_false, L, ti3, ti9, ti23, ti26, ti30, ti33, ti43, ti45, b3, b6, b9, b10, b13, b16, b19, b22]
      refine ⟨_, c_impl_IsReplica _ _ h18, ?_⟩
      try simp +decide only [E, reduceIte, Nat.reduceAdd, Nat.reduceMul, Bool.not_true, Bool.not_false, L, ti3, ti9, ti23, ti26, ti30, ti33, ti43, ti45, b3, b6, b9, b10, b13, b16, b19, b22]
      refine ⟨_, c_impl_InRange _ _ _ _ h21, ?_⟩
      try simp +decide only [E, reduceIte, Nat.reduceAdd, Nat.reduceMul, Bool.not_true, Bool.not_false, L, ti3, ti9, ti23, ti26, ti30, ti33, ti43, ti45, b3, b6, b9, b10, b13, b16, b19, b22]
      exact Is.mk _
    refine an (rt ?_)
    cases h
    simp [Ret, TB, EN, *]
  replace h := ite_t b22 h
  obtain ⟨x23, h24, h⟩ := bind_some h
  apply SW_run
  · simp +decide only [E, reduceIte, Nat.reduceAdd, Nat.reduceMul, Bool.not_true, Bool.not_false, L, ti3, ti9, ti23, ti26, ti30, ti33, ti43, ti45, b3, b6, b9, b10, b13, b16, b19, b22]
    refine ⟨_, c_impl_IsName _ _ h2, ?_⟩
    try simp +decide only [E, reduceIte, Nat.reduceAdd, Nat.reduceMul, Bool.not_true, Bool.not_false, L, ti3, ti9, ti23, ti26, ti30, ti33, ti43, ti45, b3, b6, b9, b10, b13, b16, b19, b22]
    refine ⟨_, c_impl_IsName _ _ h5, ?_⟩
    try simp +decide only [E, reduceIte, Nat.reduceAdd, Nat.reduceMul, Bool.not_true, Bool.not_false, L, ti3, ti9, ti23, ti26, ti30, ti33, ti43, ti45, b3, b6, b9, b10, b13, b16, b19, b22]
    refine ⟨_, c_impl_IsRegistration _ _ h8, ?_⟩
    try simp +decide only [E, reduceIte, Nat.reduceAdd, Nat.reduceMul, Bool.not_true, Bool.not_false, L, ti3, ti9, ti23, ti26, ti30, ti33, ti43, ti45, b3, b6, b9, b10, b13, b16, b19, b22]
    refine ⟨_, c_impl_IsCacheSet _ _ h12, ?_⟩
    try simp +decide only [E, reduceIte, Nat.reduceAdd, Nat.reduceMul, Bool.not_true, Bool.not_false, L, ti3, ti9, ti23, ti26, ti30, ti33, ti43, ti45, b3, b6, b9, b10, b13, b16, b19, b22]
    refine ⟨_, c_impl_IsDatabase _ _ h15, ?_⟩
    try simp +decide only [E, reduceIte, Nat.reduceAdd, Nat.reduceMul, Bool.not_true, Bool.not_false, L, ti3, ti9, ti23, ti26, ti30, ti33, ti43, ti45, b3, b6, b9, b10, b13, b16, b19, b22]
    refine ⟨_, c_impl_IsReplica _ _ h18, ?_⟩
    try simp +decide only [E, reduceIte, Nat.reduceAdd, Nat.reduceMul, Bool.not_true, Bool.not_false, L, ti3, ti9, ti23, ti26, ti30, ti33, ti43, ti45, b3, b6, b9, b10, b13, b16, b19, b22]
    refine ⟨_, c_impl_InRange _ _ _ _ h21, ?_⟩
    try simp +decide only [E, reduceIte, Nat.reduceAdd, Nat.reduceMul, Bool.not_true, Bool.not_false, L, ti3, ti9, ti23, ti26, ti30, ti33, ti43, ti45, b3, b6, b9, b10, b13, b16, b19, b22]
    refine ⟨_, c_impl_UsageOf _ _ h24, ?_⟩
    try simp +decide only [E, reduceIte, Nat.reduceAdd, Nat.reduceMul, Bool.not_true, Bool.not_false, L, ti3, ti9, ti23, ti26, ti30, ti33, ti43, ti45, b3, b6, b9, b10, b13, b16, b19, b22]
    exact Is.mk _
  refine an (rt ?_)
  cases h
  simp [Ret, TB, EN, *]

set_option maxRecDepth 20000 in
set_option maxHeartbeats 4000000 in
theorem c_impl_NewBucket (p0 : ByteArray) (p1 : ByteArray) (p2 : Int) (r : (M.Bucket × Bool)) (h : m_impl_NewBucket p0 p1 p2 = some r) : SCalls Tryz.prog 11 [(false, [.str p0]), (false, [.str p1]), (false, [.int .i64 p2])] [(true, [.ro (.str r.1.Site), .ro (.str r.1.Top), .ro (.str r.1.Registration.Site), .ro (.int .i64 r.1.Registration.Installing), .ro (.int .i64 r.1.Registration.Waiting), .ro (.int .i64 r.1.Registration.Active), .own 297 2 (List.map M.Cache.en r.1.Caches.Caches), .ro (.str r.1.Disk.Base.Name), .ro (.int .i64 r.1.Disk.Base.Version), .own 36 3 (List.map M.Store.en r.1.Disk.Base.Stores), .own 337 2 (List.map M.IndexDef.en r.1.Disk.Base.Unique), .own 5 1 (List.map enB r.1.Disk.Log), .ro (.int .i64 r.1.Disk.Count), .ro (.str r.1.Replica.Base.Name), .own 315 4 (List.map M.Item.en r.1.Replica.Base.Items), .ro (.int .i64 r.1.Replica.Base.Auto), .ro (.int .i64 r.1.Replica.Seen), .ro (.int .i64 r.1.Replica.Sync.Outbox.Device), .ro (.int .i64 r.1.Replica.Sync.Outbox.Next), .own 261 7 (List.map M.Write.en r.1.Replica.Sync.Outbox.Writes), .ro (.int .i64 r.1.Replica.Sync.Tries), .ro (.int .i64 r.1.Replica.Sync.WaitUntil), .ro (.int .i64 r.1.LastUsed), .ro (.bool r.1.Persistent)]), (false, [.ro (.bool r.2)])] := by
  unfold m_impl_NewBucket at h
  refine scalls_n (N := 38) (vars := [.cell 6 45, .tmp 7]) Tryz.func11 rfl rfl rfl (by decide +kernel) (Nat.le_of_ble_eq_true rfl) fun base wd => ?_
  refine sq (rn ?_)
  refine an (sq ?_)
  obtain ⟨x1, h2, h⟩ := bind_some h
  refine rn1 (c_impl_NewOutbox _ _ h2) ?_
  refine an (sq (rn ?_))
  refine an (sq (sq ?_))
  refine cu (fun s => s.t 6 = .v false [.bp 6 1 0] ∧ s.t 9 = .v false [.dat (.bool x1.2)] ∧ s.t 10 = .v false [.bp 10 1 0] ∧ s.h 6 = (1, .box 45 [.dat (.str (⟨#[]⟩ : ByteArray)), .dat (.str (⟨#[]⟩ : ByteArray)), .dat (.str (⟨#[]⟩ : ByteArray)), .dat (.int .i64 0), .dat (.int .i64 0), .dat (.int .i64 0), .nil, .dat (.str (⟨#[]⟩ : ByteArray)), .dat (.int .i64 0), .nil, .nil, .nil, .dat (.int .i64 0), .dat (.str (⟨#[]⟩ : ByteArray)), .nil, .dat (.int .i64 0), .dat (.int .i64 0), .dat (.int .i64 0), .dat (.int .i64 0), .nil, .dat (.int .i64 0), .dat (.int .i64 0), .dat (.int .i64 0), .dat (.bool false)]) ∧ s.h 10 = (1, .box 45 [.dat (.str p0), .dat (.str p1), .dat (.str p0), .dat (.int .i64 0), .dat (.int .i64 0), .dat (.int .i64 0), .nil, .dat (.str (⟨#[97, 112, 112]⟩ : ByteArray)), .dat (.int .i64 1), .row 100021 1, .nil, .nil, .dat (.int .i64 0), .dat (.str (⟨#[110, 111, 116, 101, 115]⟩ : ByteArray)), .nil, .dat (.int .i64 0), .dat (.int .i64 0), .dat (.int .i64 x1.1.Device), .dat (.int .i64 x1.1.Next), .row 300013 1, .dat (.int .i64 0), .dat (.int .i64 0), .dat (.int .i64 0), .dat (.bool false)]) ∧ s.h 100021 = (1, .row 36 3 (List.map M.Store.en ([(⟨(⟨#[110, 111, 116, 101, 115]⟩ : ByteArray), ([] : List M.Item), 0⟩ : M.Store)])) true) ∧ s.h 300013 = (1, .row 261 7 (List.map M.Write.en x1.1.Writes) true) ∧ True) ?_
  rintro s3 ⟨f4, f5, f6, f7, f8, f9, f10, _⟩
  rcases bcase (!x1.2) with b11 | b11
  · replace h := ite_t b11 h
    refine rn ?_
    refine an (ct (sq (rn ?_)))
    refine an (rt ?_)
    cases h
    simp [Ret, TB, EN, *]
  replace h := ite_f b11 h
  obtain ⟨x12, h13, h⟩ := bind_some h
  refine rn1 (c_impl_IsBucket _ _ h13) ?_
  refine an ?_
  rcases bcase (!x12) with b14 | b14
  · replace h := ite_t b14 h
    refine ct (sq (rn ?_))
    refine an (rt ?_)
    cases h
    simp [Ret, TB, EN, *]
  replace h := ite_f b14 h
  refine cf (sk (an (sq (rn ?_))))
  refine an (rt ?_)
  cases h
  simp [Ret, TB, EN, *]

end Go.Proofs.YtgemmnkhddlhpaaGreat.gen
