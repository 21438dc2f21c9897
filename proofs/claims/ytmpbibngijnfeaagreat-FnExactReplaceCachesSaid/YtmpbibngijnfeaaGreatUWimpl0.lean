/-
  Helper text: walks: each function's contract out of its model. No conditions beyond those of each contract.
-/
import Derived.Test.YtmpbibngijnfeaaGreatUTi
import Derived.Test.YtmpbibngijnfeaaGreatUWlib
namespace Go.Proofs.YtmpbibngijnfeaaGreat.gen
open Go Go.Sh
set_option linter.unusedVariables false
set_option linter.unusedSimpArgs false
set_option maxRecDepth 20000
set_option maxHeartbeats 4000000
theorem c107 (p0 p1 p2 r) (h : m_impl_InRange p0 p1 p2 = some r) : Sc 107 [aI p0, aI p1, aI p2] [rB r] := by
 unfold m_impl_InRange at h
 exact sgo 15 [.tmp 6] Tryz.func107
instance : HasC 107 (type_of% @c107) := ⟨@c107⟩

theorem c141 (p0 p1 p2 r) (h : m_impl_isWord p0 p1 p2 = some r) : Sc 141 [aS p0, aI p1, aB p2] [rB r] := by
 have i1 := inv fun m s => ∃ v7 : Int, (s.t 0 = vS p0 ∧ s.t 1 = vI p1 ∧ s.t 2 = vB p2 ∧ s.t 7 = vI v7) ∧ m_impl_isWord_L1 p0 p1 p2 m v7 = some r
 have e1 := @m_impl_isWord_L1.eq_2
 unfold m_impl_isWord at h
 exact sgo 38 [.tmp 6] Tryz.func141
instance : HasC 141 (type_of% @c141) := ⟨@c141⟩

theorem c102 (p0 r) (h : m_impl_IsName p0 = some r) : Sc 102 [aS p0] [rB r] := by
 unfold m_impl_IsName at h
 exact sgo 5 [.tmp 2] Tryz.func102
instance : HasC 102 (type_of% @c102) := ⟨@c102⟩

theorem c103 (p0 r) (h : m_impl_IsRegistration p0 = some r) : Sc 103 [aX (M.Registration.en p0)] [rB r] := by
  unfold m_impl_IsRegistration at h
  simp only [EN]
  refine sgn 37 [.tmp 2] Tryz.func103 fun base wd => ?_
  refine sq (rn ?_)
  refine an (sq (rn ?_))
  refine an (sq (sq (rn ?_)))
  refine an (bk ?_)
  refine cu (fun s => s.t 1 = vP 1 1 0 ∧ s.t 3 = vI 0 ∧ s.t 12 = vR 100012 1 ∧ s.t 13 = vI ((3 : Nat) : Int) ∧ s.t 14 = vI 0 ∧ s.h 1 = (1, oX 48 (M.Registration.en p0)) ∧ s.h 100012 = (1, oW 3 1 enI ([p0.Active, p0.Waiting, p0.Installing])) ∧ True) ?_
  rintro s1 ⟨f2, f3, f4, f5, f6, f7, f8, _⟩
  refine SW_loop (fun m s => ∃ v3 : Int, ∃ v14 : Int, s.t 1 = vP 1 1 0 ∧ s.t 3 = vI v3 ∧ s.t 12 = vR 100012 1 ∧ s.t 13 = vI ((3 : Nat) : Int) ∧ s.t 14 = vI v14 ∧ s.h 1 = (1, oX 48 (M.Registration.en p0)) ∧ s.h 100012 = (1, oW 3 1 enI ([p0.Active, p0.Waiting, p0.Installing])) ∧ m_impl_IsRegistration_L1 p0 m v3 v14 = some r) fuel ?_ ?_
  · refine ⟨0, 0, ?_, ?_, ?_, ?_, ?_, ?_, ?_, h⟩
    all_goals simp +decide only [F, reduceIte, Nat.reduceAdd, Bool.not_true, Bool.not_false, EN, *, -h]
  rintro mL1 s9 ⟨v3, v14, f10, f11, f12, f13, f14, f15, f16, h⟩
  rcases mL1 with _ | mL1
  · exact absurd h (by simp [m_impl_IsRegistration_L1])
  simp only [m_impl_IsRegistration_L1] at h
  refine sq (rn ?_)
  refine an (sq ?_)
  rcases bcas (decide (v14 < ((3 : Nat) : Int))) with b17 | b17
  · replace h := ite_f b17 h
    refine cf (xt (aft_cx (aft_ix (aft_x (an (sq ?_))))))
    obtain ⟨x28, h29, h⟩ := bind_some h
    refine rn1 (c102 _ _ h29) ?_
    refine an (rt ?_)
    cases h
    simp [Ret, TB, EN, *]
  replace h := ite_t b17 h
  refine ct (sk (an (sq (bk (sq ?_)))))
  obtain ⟨x18, h19, h⟩ := bind_some h
  obtain ⟨q20, q21, q22⟩ := idx_some h19
  have q20m := congrArg (Option.map enI) (show ([p0.Active, p0.Waiting, p0.Installing])[v14.toNat]? = some x18 by assumption)
  simp only [← List.getElem?_map, List.map_cons, List.map_nil, Option.map_some, EN] at q20m
  simp only [List.length_cons, List.length_nil, Nat.reduceAdd] at q22
  refine rn ?_
  refine an (sq (sq ?_))
  obtain ⟨x23, h24, h⟩ := bind_some h
  rcases bcase (!x23) with b25 | b25
  · replace h := ite_t b25 h
    refine rn1 (c107 _ _ _ _ h24) ?_
    refine an (ct (sq (rn ?_)))
    refine an (rt ?_)
    cases h
    simp [Ret, TB, EN, *]
  replace h := ite_f b25 h
  rcases bcas (x18 != 0) with b26 | b26
  · replace h := ite_f b26 h
    refine rn1 (c107 _ _ _ _ h24) ?_
    refine an (cf (sk (an (rn ?_))))
    refine ab (an (rn ?_))
    refine aft_i ⟨mL1, by omega, (if x18 > v3 then x18 else v3), (IntKind.i64.wrap (v14 + 1)), ?_, ?_, ?_, ?_, ?_, ?_, ?_, h⟩
    all_goals simp +decide only [F, reduceIte, Nat.reduceAdd, Bool.not_true, Bool.not_false, EN, *, -h]
  replace h := ite_t b26 h
  refine rn1 (c107 _ _ _ _ h24) ?_
  refine an ?_
  rcases bcase (decide (x18 ≤ v3)) with b27 | b27
  · replace h := ite_t b27 h
    refine ct (sq (rn ?_))
    refine an (rt ?_)
    cases h
    simp [Ret, TB, EN, *]
  replace h := ite_f b27 h
  refine cf (sk (an (rn ?_)))
  refine ab (an (rn ?_))
  refine aft_i ⟨mL1, by omega, (if x18 > v3 then x18 else v3), (IntKind.i64.wrap (v14 + 1)), ?_, ?_, ?_, ?_, ?_, ?_, ?_, h⟩
  all_goals simp +decide only [F, reduceIte, Nat.reduceAdd, Bool.not_true, Bool.not_false, EN, *, -h]
instance : HasC 103 (type_of% @c103) := ⟨@c103⟩

theorem c184 (p0 c0 c1 r) (h : m_impl_entryAt_1 p0 c0 c1 = some r) : Sc 184 [aX (M.Cached.en p0), (false, [.ptr [.str c0]]), (false, [.ptr [.str c1]])] [rB r] := by
 unfold m_impl_entryAt_1 at h
 exact sgo 15 [.tmp 4] Tryz.func184
instance : HasC 184 (type_of% @c184) := ⟨@c184⟩

theorem c183 (p0 : List M.Cached) (p1 : M.Cached → Option Bool) (f1_ : FuncId) (k1_ : List D) (hp1 : ∀ z0 r, p1 z0 = some r → SCalls Tryz.prog f1_ ((true, M.Cached.en z0) ::  k1_.map fun c => (false, [c])) [(false, [.ro (.bool r)])]) (r : Int) (h : m_slices_IndexFunc_Cached p0 p1 = some r) : Sc 183 [(false, [.sl (List.map M.Cached.en p0)]), (false, [.fn f1_ k1_])] [rI r] := by
  unfold m_slices_IndexFunc_Cached at h
  simp only [EN]
  refine sgn 19 [.tmp 4] Tryz.func183 fun base wd => ?_
  refine sq (rn ?_)
  refine an (sq (sq (rn ?_)))
  refine an (bk ?_)
  refine SW_loop (fun m s => ∃ v8 : Int, s.t 0 = vL M.Cached.en p0 ∧ s.t 1 = .v false [.dat (.fn f1_ k1_)] ∧ s.t 7 = vI (List.length p0 : Int) ∧ s.t 8 = vI v8 ∧ m_slices_IndexFunc_Cached_L1 p0 p1 m v8 = some r) fuel ?_ ?_
  · refine ⟨0, ?_, ?_, ?_, ?_, h⟩
    all_goals simp +decide only [F, reduceIte, Nat.reduceAdd, Bool.not_true, Bool.not_false, EN, *, -h]
  rintro mL1 s1 ⟨v8, f2, f3, f4, f5, h⟩
  rcases mL1 with _ | mL1
  · exact absurd h (by simp [m_slices_IndexFunc_Cached_L1])
  simp only [m_slices_IndexFunc_Cached_L1] at h
  refine sq (rn ?_)
  refine an (sq ?_)
  rcases bcas (decide (v8 < (List.length p0 : Int))) with b6 | b6
  · replace h := ite_f b6 h
    refine cf (xt (aft_cx (aft_ix (aft_x (an (sq (rn ?_)))))))
    refine an (rt ?_)
    cases h
    simp [Ret, TB, EN, *]
  replace h := ite_t b6 h
  refine ct (sk (an (sq (bk (sq (rn ?_))))))
  refine an (sq ?_)
  obtain ⟨x7, h8, h⟩ := bind_some h
  obtain ⟨q9, q10, q11⟩ := idx_some h8
  obtain ⟨x12, h13, h⟩ := bind_some h
  refine rn1 (hp1 x7 x12 h13) ?_
  refine an ?_
  rcases bcase x12 with b14 | b14
  · replace h := ite_t b14 h
    refine ct (sq (rn ?_))
    refine an (rt ?_)
    cases h
    simp [Ret, TB, EN, *]
  replace h := ite_f b14 h
  refine cf (sk (ab (an (rn ?_))))
  refine aft_i ⟨mL1, by omega, (IntKind.i64.wrap (v8 + 1)), ?_, ?_, ?_, ?_, h⟩
  all_goals simp +decide only [F, reduceIte, Nat.reduceAdd, Bool.not_true, Bool.not_false, EN, *, -h]
instance : HasC 183 (type_of% @c183) := ⟨@c183⟩

theorem c142 (p0 p1 p2 r) (h : m_impl_entryAt p0 p1 p2 = some r) : Sc 142 [aX (M.Cache.en p0), aS p1, aS p2] [rI r] := by
  unfold m_impl_entryAt at h
  simp only [EN]
  refine sgn 11 [.tmp 6] Tryz.func142 fun base wd => ?_
  refine sq (rn ?_)
  refine an (sq ?_)
  obtain ⟨x1, h2, h⟩ := bind_some h
  refine rn1 (c183 p0.Entries (fun z0 => m_impl_entryAt_1 z0 p1 p2) 184 [.ptr [.str p1], .ptr [.str p2]] (fun z0 r hr => c184 z0 p1 p2 r hr) x1 h2) ?_
  refine an (rt ?_)
  cases h
  simp [Ret, TB, EN, *]
instance : HasC 142 (type_of% @c142) := ⟨@c142⟩

theorem c143 (p0 r) (h : m_impl_IsResponse p0 = some r) : Sc 143 [aX (M.Response.en p0)] [rB r] := by
 unfold m_impl_IsResponse at h
 exact sgo 22 [.tmp 2] Tryz.func143
instance : HasC 143 (type_of% @c143) := ⟨@c143⟩

theorem c104 (p0 r) (h : m_impl_IsCacheSet p0 = some r) : Sc 104 [aX (M.CacheSet.en p0)] [rB r] := by
 have i1 := inv fun m s => ∃ v10 : Int, (s.t 1 = vP 1 1 0 ∧ s.t 8 = vL M.Cache.en p0.Caches ∧ s.t 9 = vI (List.length p0.Caches : Int) ∧ s.t 10 = vI v10 ∧ s.h 1 = (1, oX 51 (M.CacheSet.en p0))) ∧ m_impl_IsCacheSet_L1 p0 m v10 = some r
 have e1 := @m_impl_IsCacheSet_L1.eq_2
 have i2 := fun (v10 : Int) (x8 : M.Cache) (k25 : Int → Option Bool) (s1 : St) => inv fun m s => ∃ v44_L2 : Int, (s.t 1 = vP 1 1 0 ∧ s.t 4 = vP 4 ((s1.h 4).1 + 1) 0 ∧ s.t 8 = vL M.Cache.en p0.Caches ∧ s.t 9 = vI (List.length p0.Caches : Int) ∧ s.t 10 = vI v10 ∧ s.t 42 = vL M.Cached.en x8.Entries ∧ s.t 43 = vI (List.length x8.Entries : Int) ∧ s.t 44 = vI v44_L2 ∧ s.h 1 = (1, oX 51 (M.CacheSet.en p0)) ∧ s.h 4 = (((s1.h 4).1 + 1), oX 144 (M.Cache.en x8))) ∧ m_impl_IsCacheSet_L2 x8 k25 m v44_L2 = some r
 have e2 := @m_impl_IsCacheSet_L2.eq_2
 have i3 := fun (v10 : Int) (x8 : M.Cache) (k57 : Int → Option Bool) (s1 : St) => inv fun m s => ∃ v44_L3 : Int, (s.t 1 = vP 1 1 0 ∧ s.t 4 = vP 4 ((s1.h 4).1 + 1) 0 ∧ s.t 8 = vL M.Cache.en p0.Caches ∧ s.t 9 = vI (List.length p0.Caches : Int) ∧ s.t 10 = vI v10 ∧ s.t 42 = vL M.Cached.en x8.Entries ∧ s.t 43 = vI (List.length x8.Entries : Int) ∧ s.t 44 = vI v44_L3 ∧ s.h 1 = (1, oX 51 (M.CacheSet.en p0)) ∧ s.h 4 = (((s1.h 4).1 + 1), oX 144 (M.Cache.en x8))) ∧ m_impl_IsCacheSet_L3 x8 k57 m v44_L3 = some r
 have e3 := @m_impl_IsCacheSet_L3.eq_2
 unfold m_impl_IsCacheSet at h
 exact sgo 81 [.tmp 2] Tryz.func104
instance : HasC 104 (type_of% @c104) := ⟨@c104⟩

theorem c211 (p0 r) (h : m_impl_isKeyText p0 = some r) : Sc 211 [aS p0] [rB r] := by
 have i1 := inv fun m s => ∃ v3 : Int, (s.t 0 = vS p0 ∧ s.t 3 = vI v3) ∧ m_impl_isKeyText_L1 p0 m v3 = some r
 have e1 := @m_impl_isKeyText_L1.eq_2
 unfold m_impl_isKeyText at h
 exact sgo 36 [.tmp 2] Tryz.func211
instance : HasC 211 (type_of% @c211) := ⟨@c211⟩

theorem c185 (p0 r) (h : m_impl_IsKey p0 = some r) : Sc 185 [aX (M.Key.en p0)] [rB r] := by
 unfold m_impl_IsKey at h
 exact sgo 39 [.tmp 2] Tryz.func185
instance : HasC 185 (type_of% @c185) := ⟨@c185⟩

theorem c186 (p0 r) (h : m_impl_IsRecord p0 = some r) : Sc 186 [aX (M.Record.en p0)] [rB r] := by
 have i1 := inv fun m s => ∃ v8 : Int, (s.t 1 = vP 1 1 0 ∧ s.t 6 = vL M.Field.en p0.Fields ∧ s.t 7 = vI (List.length p0.Fields : Int) ∧ s.t 8 = vI v8 ∧ s.h 1 = (1, oX 175 (M.Record.en p0))) ∧ m_impl_IsRecord_L1 p0 m v8 = some r
 have e1 := @m_impl_IsRecord_L1.eq_2
 unfold m_impl_IsRecord at h
 exact sgo 44 [.tmp 2] Tryz.func186
instance : HasC 186 (type_of% @c186) := ⟨@c186⟩

theorem c212 (p0 p1 r) (h : m_impl_compareInts p0 p1 = some r) : Sc 212 [aI p0, aI p1] [rI r] := by
 unfold m_impl_compareInts at h
 exact sgo 13 [.tmp 4] Tryz.func212
instance : HasC 212 (type_of% @c212) := ⟨@c212⟩

set_option maxRecDepth 100000 in
set_option maxHeartbeats 4000000 in
theorem c223 (p0 : ByteArray) (p1 : ByteArray) (r : Int) (h : m_internal_bytealg_CompareString p0 p1 = some r) : SCalls Tryz.prog 223 [(false, [.str p0]), (false, [.str p1])] [(false, [.ro (.int .i64 r)])] := by
  refine scalls_str2 Tryz.func223 rfl (by decide +kernel) fun w => ?_
  cases h
  go_enter Tryz.func223, Tryz.ntmps223
  go_wp2
  rw [run_callFunc_extern Tryz.func228 (by kernel_rfl) (by kernel_rfl) (by kernel_rfl) (e := Extern.BytealgCompare.compare) (by kernel_rfl), Lib.run_compareString]
  simp only [Result.andThen]
  rw [Oper.upon_value]
  go_wp2
  go_ret
  exact ⟨rfl, rfl⟩
instance : HasC 223 (type_of% @c223) := ⟨@c223⟩

theorem c213 (p0 p1 r) (h : m_strings_Compare p0 p1 = some r) : Sc 213 [aS p0, aS p1] [rI r] := by
 unfold m_strings_Compare at h
 exact sgo 8 [.tmp 4] Tryz.func213
instance : HasC 213 (type_of% @c213) := ⟨@c213⟩

theorem c187 (p0 p1 r) (h : m_impl_CompareKeys p0 p1 = some r) : Sc 187 [aX (M.Key.en p0), aX (M.Key.en p1)] [rI r] := by
 unfold m_impl_CompareKeys at h
 exact sgo 36 [.tmp 4] Tryz.func187
instance : HasC 187 (type_of% @c187) := ⟨@c187⟩

theorem c144 (p0 r) (h : m_impl_IsStore p0 = some r) : Sc 144 [aX (M.Store.en p0)] [rB r] := by
 have i1 := inv fun m s => ∃ v8 : Int, (s.t 1 = vP 1 1 0 ∧ s.t 6 = vL M.Item.en p0.Items ∧ s.t 7 = vI (List.length p0.Items : Int) ∧ s.t 8 = vI v8 ∧ s.h 1 = (1, oX 60 (M.Store.en p0))) ∧ m_impl_IsStore_L1 p0 m v8 = some r
 have e1 := @m_impl_IsStore_L1.eq_2
 unfold m_impl_IsStore at h
 exact sgo 55 [.tmp 2] Tryz.func144
instance : HasC 144 (type_of% @c144) := ⟨@c144⟩

theorem c189 (p0 c0 r) (h : m_impl_FindStore_1 p0 c0 = some r) : Sc 189 [aX (M.Store.en p0), (false, [.ptr [.str c0]])] [rB r] := by
 unfold m_impl_FindStore_1 at h
 exact sgo 8 [.tmp 3] Tryz.func189
instance : HasC 189 (type_of% @c189) := ⟨@c189⟩

theorem c188 (p0 : List M.Store) (p1 : M.Store → Option Bool) (f1_ : FuncId) (k1_ : List D) (hp1 : ∀ z0 r, p1 z0 = some r → SCalls Tryz.prog f1_ ((true, M.Store.en z0) ::  k1_.map fun c => (false, [c])) [(false, [.ro (.bool r)])]) (r : Int) (h : m_slices_IndexFunc_Store p0 p1 = some r) : Sc 188 [(false, [.sl (List.map M.Store.en p0)]), (false, [.fn f1_ k1_])] [rI r] := by
  unfold m_slices_IndexFunc_Store at h
  simp only [EN]
  refine sgn 19 [.tmp 4] Tryz.func188 fun base wd => ?_
  refine sq (rn ?_)
  refine an (sq (sq (rn ?_)))
  refine an (bk ?_)
  refine SW_loop (fun m s => ∃ v8 : Int, s.t 0 = vL M.Store.en p0 ∧ s.t 1 = .v false [.dat (.fn f1_ k1_)] ∧ s.t 7 = vI (List.length p0 : Int) ∧ s.t 8 = vI v8 ∧ m_slices_IndexFunc_Store_L1 p0 p1 m v8 = some r) fuel ?_ ?_
  · refine ⟨0, ?_, ?_, ?_, ?_, h⟩
    all_goals simp +decide only [F, reduceIte, Nat.reduceAdd, Bool.not_true, Bool.not_false, EN, *, -h]
  rintro mL1 s1 ⟨v8, f2, f3, f4, f5, h⟩
  rcases mL1 with _ | mL1
  · exact absurd h (by simp [m_slices_IndexFunc_Store_L1])
  simp only [m_slices_IndexFunc_Store_L1] at h
  refine sq (rn ?_)
  refine an (sq ?_)
  rcases bcas (decide (v8 < (List.length p0 : Int))) with b6 | b6
  · replace h := ite_f b6 h
    refine cf (xt (aft_cx (aft_ix (aft_x (an (sq (rn ?_)))))))
    refine an (rt ?_)
    cases h
    simp [Ret, TB, EN, *]
  replace h := ite_t b6 h
  refine ct (sk (an (sq (bk (sq (rn ?_))))))
  refine an (sq ?_)
  obtain ⟨x7, h8, h⟩ := bind_some h
  obtain ⟨q9, q10, q11⟩ := idx_some h8
  obtain ⟨x12, h13, h⟩ := bind_some h
  refine rn1 (hp1 x7 x12 h13) ?_
  refine an ?_
  rcases bcase x12 with b14 | b14
  · replace h := ite_t b14 h
    refine ct (sq (rn ?_))
    refine an (rt ?_)
    cases h
    simp [Ret, TB, EN, *]
  replace h := ite_f b14 h
  refine cf (sk (ab (an (rn ?_))))
  refine aft_i ⟨mL1, by omega, (IntKind.i64.wrap (v8 + 1)), ?_, ?_, ?_, ?_, h⟩
  all_goals simp +decide only [F, reduceIte, Nat.reduceAdd, Bool.not_true, Bool.not_false, EN, *, -h]
instance : HasC 188 (type_of% @c188) := ⟨@c188⟩

theorem c145 (p0 p1 r) (h : m_impl_FindStore p0 p1 = some r) : Sc 145 [aX (M.Database.en p0), aS p1] [rI r] := by
  unfold m_impl_FindStore at h
  simp only [EN]
  refine sgn 9 [.tmp 4] Tryz.func145 fun base wd => ?_
  refine sq (rn ?_)
  refine an (sq ?_)
  obtain ⟨x1, h2, h⟩ := bind_some h
  refine rn1 (c188 p0.Stores (fun z0 => m_impl_FindStore_1 z0 p1) 189 [.ptr [.str p1]] (fun z0 r hr => c189 z0 p1 r hr) x1 h2) ?_
  refine an (rt ?_)
  cases h
  simp [Ret, TB, EN, *]
instance : HasC 145 (type_of% @c145) := ⟨@c145⟩

theorem c190 (p0 p1 r) (h : m_slices_Index_IndexDef p0 p1 = some r) : Sc 190 [aL M.IndexDef.en p0, aX (M.IndexDef.en p1)] [rI r] := by
 have i1 := inv fun m s => ∃ v8 : Int, (s.t 0 = vL M.IndexDef.en p0 ∧ s.t 3 = vP 3 1 0 ∧ s.t 7 = vI (List.length p0 : Int) ∧ s.t 8 = vI v8 ∧ s.h 3 = (1, oX 159 (M.IndexDef.en p1))) ∧ m_slices_Index_IndexDef_L1 p0 p1 m v8 = some r
 have e1 := @m_slices_Index_IndexDef_L1.eq_2
 unfold m_slices_Index_IndexDef at h
 exact sgo 19 [.tmp 4] Tryz.func190
instance : HasC 190 (type_of% @c190) := ⟨@c190⟩

theorem c146 (p0 p1 r) (h : m_slices_Contains_IndexDef p0 p1 = some r) : Sc 146 [aL M.IndexDef.en p0, aX (M.IndexDef.en p1)] [rB r] := by
 unfold m_slices_Contains_IndexDef at h
 exact sgo 9 [.tmp 4] Tryz.func146
instance : HasC 146 (type_of% @c146) := ⟨@c146⟩

theorem c227 (p0 c0 r) (h : m_impl_fieldAt_1 p0 c0 = some r) : Sc 227 [aX (M.Field.en p0), (false, [.ptr [.str c0]])] [rB r] := by
 unfold m_impl_fieldAt_1 at h
 exact sgo 8 [.tmp 3] Tryz.func227
instance : HasC 227 (type_of% @c227) := ⟨@c227⟩

theorem c226 (p0 : List M.Field) (p1 : M.Field → Option Bool) (f1_ : FuncId) (k1_ : List D) (hp1 : ∀ z0 r, p1 z0 = some r → SCalls Tryz.prog f1_ ((true, M.Field.en z0) ::  k1_.map fun c => (false, [c])) [(false, [.ro (.bool r)])]) (r : Int) (h : m_slices_IndexFunc_Field p0 p1 = some r) : Sc 226 [(false, [.sl (List.map M.Field.en p0)]), (false, [.fn f1_ k1_])] [rI r] := by
  unfold m_slices_IndexFunc_Field at h
  simp only [EN]
  refine sgn 19 [.tmp 4] Tryz.func226 fun base wd => ?_
  refine sq (rn ?_)
  refine an (sq (sq (rn ?_)))
  refine an (bk ?_)
  refine SW_loop (fun m s => ∃ v8 : Int, s.t 0 = vL M.Field.en p0 ∧ s.t 1 = .v false [.dat (.fn f1_ k1_)] ∧ s.t 7 = vI (List.length p0 : Int) ∧ s.t 8 = vI v8 ∧ m_slices_IndexFunc_Field_L1 p0 p1 m v8 = some r) fuel ?_ ?_
  · refine ⟨0, ?_, ?_, ?_, ?_, h⟩
    all_goals simp +decide only [F, reduceIte, Nat.reduceAdd, Bool.not_true, Bool.not_false, EN, *, -h]
  rintro mL1 s1 ⟨v8, f2, f3, f4, f5, h⟩
  rcases mL1 with _ | mL1
  · exact absurd h (by simp [m_slices_IndexFunc_Field_L1])
  simp only [m_slices_IndexFunc_Field_L1] at h
  refine sq (rn ?_)
  refine an (sq ?_)
  rcases bcas (decide (v8 < (List.length p0 : Int))) with b6 | b6
  · replace h := ite_f b6 h
    refine cf (xt (aft_cx (aft_ix (aft_x (an (sq (rn ?_)))))))
    refine an (rt ?_)
    cases h
    simp [Ret, TB, EN, *]
  replace h := ite_t b6 h
  refine ct (sk (an (sq (bk (sq (rn ?_))))))
  refine an (sq ?_)
  obtain ⟨x7, h8, h⟩ := bind_some h
  obtain ⟨q9, q10, q11⟩ := idx_some h8
  obtain ⟨x12, h13, h⟩ := bind_some h
  refine rn1 (hp1 x7 x12 h13) ?_
  refine an ?_
  rcases bcase x12 with b14 | b14
  · replace h := ite_t b14 h
    refine ct (sq (rn ?_))
    refine an (rt ?_)
    cases h
    simp [Ret, TB, EN, *]
  replace h := ite_f b14 h
  refine cf (sk (ab (an (rn ?_))))
  refine aft_i ⟨mL1, by omega, (IntKind.i64.wrap (v8 + 1)), ?_, ?_, ?_, ?_, h⟩
  all_goals simp +decide only [F, reduceIte, Nat.reduceAdd, Bool.not_true, Bool.not_false, EN, *, -h]
instance : HasC 226 (type_of% @c226) := ⟨@c226⟩

theorem c216 (p0 p1 r) (h : m_impl_fieldAt p0 p1 = some r) : Sc 216 [aX (M.Record.en p0), aS p1] [rI r] := by
  unfold m_impl_fieldAt at h
  simp only [EN]
  refine sgn 9 [.tmp 4] Tryz.func216 fun base wd => ?_
  refine sq (rn ?_)
  refine an (sq ?_)
  obtain ⟨x1, h2, h⟩ := bind_some h
  refine rn1 (c226 p0.Fields (fun z0 => m_impl_fieldAt_1 z0 p1) 227 [.ptr [.str p1]] (fun z0 r hr => c227 z0 p1 r hr) x1 h2) ?_
  refine an (rt ?_)
  cases h
  simp [Ret, TB, EN, *]
instance : HasC 216 (type_of% @c216) := ⟨@c216⟩

theorem c192 (p0 p1 r) (h : m_impl_GetField p0 p1 = some r) : Sc 192 [aX (M.Record.en p0), aS p1] [rI r.1, rB r.2] := by
 unfold m_impl_GetField at h
 exact sgo 18 [.tmp 4, .tmp 5] Tryz.func192
instance : HasC 192 (type_of% @c192) := ⟨@c192⟩

theorem c214 (p0 p1 p2 r) (h : m_impl_fieldBefore p0 p1 p2 = some r) : Sc 214 [aX (M.Item.en p0), aX (M.Item.en p1), aS p2] [rB r] := by
 unfold m_impl_fieldBefore at h
 exact sgo 41 [.tmp 6] Tryz.func214
instance : HasC 214 (type_of% @c214) := ⟨@c214⟩

theorem c219 (p0 r) (h : m_impl_copyRecord p0 = some r) : Sc 219 [aX (M.Record.en p0)] [(true, M.Record.rs r)] := by
 unfold m_impl_copyRecord at h
 exact sgo 8 [.cell 2 175] Tryz.func219
instance : HasC 219 (type_of% @c219) := ⟨@c219⟩

theorem c198 (p0 r) (h : m_impl_copyItem p0 = some r) : Sc 198 [aX (M.Item.en p0)] [(true, M.Item.rs r)] := by
 unfold m_impl_copyItem at h
 exact sgo 9 [.cell 2 177] Tryz.func198
instance : HasC 198 (type_of% @c198) := ⟨@c198⟩

theorem c191 (p0 p1 r) (h : m_impl_IndexOn p0 p1 = some r) : Sc 191 [aX (M.Store.en p0), aS p1] [rW 177 4 M.Item.en r] := by
  unfold m_impl_IndexOn at h
  simp only [EN]
  refine sgn 52 [.tmp 4] Tryz.func191 fun base wd => ?_
  refine sq (rn ?_)
  refine an (sq (rn ?_))
  refine an (sq (sq ?_))
  refine cu (fun s => s.t 1 = vS p1 ∧ s.t 2 = vP 2 1 0 ∧ s.t 5 = vR 100011 1 ∧ s.h 2 = (1, oX 60 (M.Store.en p0)) ∧ s.h 100011 = (1, oW 177 4 M.Item.en ([] : List M.Item)) ∧ True) ?_
  rintro s1 ⟨f2, f3, f4, f5, f6, _⟩
  refine rn ?_
  refine an (bk ?_)
  refine SW_loop (fun m s => ∃ v15 : Int, ∃ r11 : List M.Item, ∃ u11 : Nat, s.t 1 = vS p1 ∧ s.t 5 = vR 100011 u11 ∧ s.t 13 = vL M.Item.en p0.Items ∧ s.t 14 = vI (List.length p0.Items : Int) ∧ s.t 15 = vI v15 ∧ s.h 100011 = (u11, oW 177 4 M.Item.en r11) ∧ m_impl_IndexOn_L1 p0 p1 m v15 r11 = some r) fuel ?_ ?_
  · refine ⟨0, ([] : List M.Item), 1, ?_, ?_, ?_, ?_, ?_, ?_, h⟩
    all_goals simp +decide only [F, reduceIte, Nat.reduceAdd, Bool.not_true, Bool.not_false, EN, *, -h]
  rintro mL1 s7 ⟨v15, r11, u11, f8, f9, f10, f11, f12, f13, h⟩
  rcases mL1 with _ | mL1
  · exact absurd h (by simp [m_impl_IndexOn_L1])
  simp only [m_impl_IndexOn_L1] at h
  refine sq (rn ?_)
  refine an (sq ?_)
  rcases bcas (decide (v15 < (List.length p0.Items : Int))) with b14 | b14
  · replace h := ite_f b14 h
    refine cf (xt (aft_cx (aft_ix (aft_x (an (sq (rn ?_)))))))
    refine an (rt ?_)
    cases h
    simp [Ret, TB, EN, *]
  replace h := ite_t b14 h
  refine ct (sk (an (sq (bk (sq ?_)))))
  obtain ⟨x15, h16, h⟩ := bind_some h
  obtain ⟨q17, q18, q19⟩ := idx_some h16
  refine rn ?_
  refine an (sq (sq ?_))
  obtain ⟨x20, h21, h⟩ := bind_some h
  refine rn1 (c192 _ _ _ h21) ?_
  refine an (sq (rn ?_))
  refine an ?_
  rcases bcase (!x20.2) with b22 | b22
  · replace h := ite_t b22 h
    refine ct (xt (aft_cx (aft_x (an (rn ?_)))))
    refine aft_i ⟨mL1, by omega, (IntKind.i64.wrap (v15 + 1)), r11, u11, ?_, ?_, ?_, ?_, ?_, ?_, h⟩
    all_goals simp +decide only [F, reduceIte, Nat.reduceAdd, Bool.not_true, Bool.not_false, EN, *, -h]
  replace h := ite_f b22 h
  refine cf (sk (an (sq (rn ?_))))
  refine an (sq (bk ?_))
  obtain ⟨k24, e25, h⟩ := absk (f := fun kk => m_impl_IndexOn_L2 p1 r11 x15 kk fuel (List.length r11 : Int)) h
  refine SW_loop (fun m s => ∃ v10_L2 : Int, s.t 1 = vS p1 ∧ s.t 5 = vR 100011 u11 ∧ s.t 7 = vP 7 ((s7.h 7).1 + 1) 0 ∧ s.t 10 = vI v10_L2 ∧ s.t 13 = vL M.Item.en p0.Items ∧ s.t 14 = vI (List.length p0.Items : Int) ∧ s.t 15 = vI v15 ∧ s.h 7 = (((s7.h 7).1 + 1), oX 177 (M.Item.en x15)) ∧ s.h 100011 = (u11, oW 177 4 M.Item.en r11) ∧ m_impl_IndexOn_L2 p1 r11 x15 k24 m v10_L2 = some r) fuel ?_ ?_
  · refine ⟨(List.length r11 : Int), ?_, ?_, ?_, ?_, ?_, ?_, ?_, ?_, ?_, h⟩
    all_goals simp +decide only [F, reduceIte, Nat.reduceAdd, Bool.not_true, Bool.not_false, EN, *, -h]
  rintro mL2 s23 ⟨v10_L2, f26, f27, f28, f29, f30, f31, f32, f33, f34, h⟩
  rcases mL2 with _ | mL2
  · exact absurd h (by simp [m_impl_IndexOn_L2])
  simp only [m_impl_IndexOn_L2] at h
  refine sq (sq ?_)
  rcases bcas (decide (v10_L2 > 0)) with b35 | b35
  · replace h := ite_f b35 h
    refine rd mixed ?_
    refine an (cf (xt (aft_cx ?_)))
    subst e25
    refine aft_ix (aft_x (an ?_))
    obtain ⟨x55, h56, h⟩ := bind_some h
    obtain ⟨x57, h58, h⟩ := bind_some h
    apply SW_run
    · simp +decide only [E, reduceIte, Nat.reduceAdd, Nat.reduceMul, Bool.not_true, Bool.not_false, ← List.map_take, ← List.map_drop, L, ti58, ti177, M.Item.en, EN, b14, q17, q18, q19, b22, f26, f27, f28, f29, f30, f31, f32, f33, f34, b35]
      refine ⟨_, c198 _ _ h56, ?_⟩
      try simp +decide only [E, reduceIte, Nat.reduceAdd, Nat.reduceMul, Bool.not_true, Bool.not_false, ← List.map_take, ← List.map_drop, L, ti58, ti177, M.Item.en, EN, b14, q17, q18, q19, b22, f26, f27, f28, f29, f30, f31, f32, f33, f34, b35]
      refine ⟨_, L215.ed215 _, ?_⟩
      try simp +decide only [E, reduceIte, Nat.reduceAdd, Nat.reduceMul, Bool.not_true, Bool.not_false, ← List.map_take, ← List.map_drop, L, ti58, ti177, M.Item.en, EN, b14, q17, q18, q19, b22, f26, f27, f28, f29, f30, f31, f32, f33, f34, b35]
      refine ⟨by (have hb := insAt_some h58); simp [M.Item.en, List.length_append] at hb ⊢ <;> omega, ?_⟩
      try simp +decide only [E, reduceIte, Nat.reduceAdd, Nat.reduceMul, Bool.not_true, Bool.not_false, ← List.map_take, ← List.map_drop, L, ti58, ti177, M.Item.en, EN, b14, q17, q18, q19, b22, f26, f27, f28, f29, f30, f31, f32, f33, f34, b35]
      exact Is.mk _
    refine ab (an ?_)
    refine cu (fun s => s.t 1 = vS p1 ∧ s.t 5 = vR 100011 (u11 + 1) ∧ s.t 13 = vL M.Item.en p0.Items ∧ s.t 14 = vI (List.length p0.Items : Int) ∧ s.t 15 = vI v15 ∧ s.h 100011 = ((u11 + 1), oW 177 4 M.Item.en (List.take v10_L2.toNat r11 ++ ([x55] ++ List.drop v10_L2.toNat r11))) ∧ True) ?_
    rintro s59 ⟨f60, f61, f62, f63, f64, f65, _⟩
    refine rn ?_
    refine aft_i ⟨mL1, by omega, (IntKind.i64.wrap (v15 + 1)), (List.take v10_L2.toNat r11 ++ ([x55] ++ List.drop v10_L2.toNat r11)), (u11 + 1), ?_, ?_, ?_, ?_, ?_, ?_, h⟩
    all_goals simp +decide only [F, reduceIte, Nat.reduceAdd, Bool.not_true, Bool.not_false, EN, *, -h]
  replace h := ite_t b35 h
  obtain ⟨x36, h37, h⟩ := bind_some h
  obtain ⟨q38, q39, q40⟩ := idx_some h37
  obtain ⟨x41, h42, h⟩ := bind_some h
  refine rd1 mixed (c214 _ _ _ _ h42) ?_
  refine an ?_
  rcases bcase x41 with b43 | b43
  · replace h := ite_t b43 h
    refine ct (sk (an (bk (rn ?_))))
    refine ab ?_
    refine aft_i ⟨mL2, by omega, (IntKind.i64.wrap (v10_L2 - 1)), ?_, ?_, ?_, ?_, ?_, ?_, ?_, ?_, ?_, h⟩
    all_goals simp +decide only [F, reduceIte, Nat.reduceAdd, Bool.not_true, Bool.not_false, EN, *, -h]
  replace h := ite_f b43 h
  refine cf (xt (aft_cx ?_))
  subst e25
  refine aft_ix (aft_x (an ?_))
  obtain ⟨x44, h45, h⟩ := bind_some h
  obtain ⟨x46, h47, h⟩ := bind_some h
  apply SW_run
  · simp +decide only [E, reduceIte, Nat.reduceAdd, Nat.reduceMul, Bool.not_true, Bool.not_false, ← List.map_take, ← List.map_drop, L, ti58, ti177, M.Item.en, EN, b14, q17, q18, q19, b22, f26, f27, f28, f29, f30, f31, f32, f33, f34, b35, q38, q39, q40, b43]
    refine ⟨_, c198 _ _ h45, ?_⟩
    try simp +decide only [E, reduceIte, Nat.reduceAdd, Nat.reduceMul, Bool.not_true, Bool.not_false, ← List.map_take, ← List.map_drop, L, ti58, ti177, M.Item.en, EN, b14, q17, q18, q19, b22, f26, f27, f28, f29, f30, f31, f32, f33, f34, b35, q38, q39, q40, b43]
    refine ⟨_, L215.ed215 _, ?_⟩
    try simp +decide only [E, reduceIte, Nat.reduceAdd, Nat.reduceMul, Bool.not_true, Bool.not_false, ← List.map_take, ← List.map_drop, L, ti58, ti177, M.Item.en, EN, b14, q17, q18, q19, b22, f26, f27, f28, f29, f30, f31, f32, f33, f34, b35, q38, q39, q40, b43]
    refine ⟨by (have hb := insAt_some h47); simp [M.Item.en, List.length_append] at hb ⊢ <;> omega, ?_⟩
    try simp +decide only [E, reduceIte, Nat.reduceAdd, Nat.reduceMul, Bool.not_true, Bool.not_false, ← List.map_take, ← List.map_drop, L, ti58, ti177, M.Item.en, EN, b14, q17, q18, q19, b22, f26, f27, f28, f29, f30, f31, f32, f33, f34, b35, q38, q39, q40, b43]
    exact Is.mk _
  refine ab (an ?_)
  refine cu (fun s => s.t 1 = vS p1 ∧ s.t 5 = vR 100011 (u11 + 1) ∧ s.t 13 = vL M.Item.en p0.Items ∧ s.t 14 = vI (List.length p0.Items : Int) ∧ s.t 15 = vI v15 ∧ s.h 100011 = ((u11 + 1), oW 177 4 M.Item.en (List.take v10_L2.toNat r11 ++ ([x44] ++ List.drop v10_L2.toNat r11))) ∧ True) ?_
  rintro s48 ⟨f49, f50, f51, f52, f53, f54, _⟩
  refine rn ?_
  refine aft_i ⟨mL1, by omega, (IntKind.i64.wrap (v15 + 1)), (List.take v10_L2.toNat r11 ++ ([x44] ++ List.drop v10_L2.toNat r11)), (u11 + 1), ?_, ?_, ?_, ?_, ?_, ?_, h⟩
  all_goals simp +decide only [F, reduceIte, Nat.reduceAdd, Bool.not_true, Bool.not_false, EN, *, -h]
instance : HasC 191 (type_of% @c191) := ⟨@c191⟩

theorem c147 (p0 p1 r) (h : m_impl_UniqueFault p0 p1 = some r) : Sc 147 [aX (M.Store.en p0), aS p1] [(true, M.Key.rs r.1), (true, M.Key.rs r.2.1), rB r.2.2] := by
 have i1 := fun (x1 : (List M.Item)) => inv fun m s => ∃ v8 : Int, (s.t 1 = vS p1 ∧ s.t 4 = vP 4 1 0 ∧ s.t 5 = vP 5 1 0 ∧ s.t 7 = vR 100015 1 ∧ s.t 8 = vI v8 ∧ s.h 4 = (1, oB 172 [cI 0, cI 0, cS (⟨#[]⟩ : ByteArray)]) ∧ s.h 5 = (1, oB 172 [cI 0, cI 0, cS (⟨#[]⟩ : ByteArray)]) ∧ s.h 100015 = (1, oW 177 4 M.Item.en x1)) ∧ m_impl_UniqueFault_L1 p1 x1 m v8 = some r
 have e1 := @m_impl_UniqueFault_L1.eq_2
 unfold m_impl_UniqueFault at h
 exact sgo 59 [.cell 4 172, .cell 5 172, .tmp 6] Tryz.func147
instance : HasC 147 (type_of% @c147) := ⟨@c147⟩

end Go.Proofs.YtmpbibngijnfeaaGreat.gen
