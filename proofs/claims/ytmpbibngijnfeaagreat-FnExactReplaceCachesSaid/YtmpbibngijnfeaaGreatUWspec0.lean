/-
  Helper text: walks: each function's contract out of its model. No conditions beyond those of each contract.
-/
import Derived.Test.YtmpbibngijnfeaaGreatUTi
namespace Go.Proofs.YtmpbibngijnfeaaGreat.gen
open Go Go.Sh
set_option linter.unusedVariables false
set_option linter.unusedSimpArgs false
set_option maxRecDepth 20000
set_option maxHeartbeats 4000000
theorem c130 (p0 r) (h : m_spec_l15Copy p0 = some r) : Sc 130 [aX (M.Response.en p0)] [(true, M.Response.rs r)] := by
 unfold m_spec_l15Copy at h
 exact sgo 11 [.cell 2 188] Tryz.func130
instance : HasC 130 (type_of% @c130) := ⟨@c130⟩

theorem c89 (p0 r) (h : m_spec_l17Cache p0 = some r) : Sc 89 [aX (M.Cache.en p0)] [(true, M.Cache.rs r)] := by
 have i1 := invM [.b 3 1 7050000 190 7] fun m s => ∃ v4 : Int, ∃ r50000 : List M.Cached, ∃ u50000 : Nat, (s.t 1 = vP 1 1 0 ∧ s.t 2 = vP 2 1 0 ∧ s.t 3 = vP 3 1 0 ∧ s.t 4 = vI v4 ∧ s.h 1 = (1, oX 144 (M.Cache.en p0)) ∧ s.h 2 = (1, oB 144 [cI 0, .nil]) ∧ s.h 3 = (1, oB 144 [cI p0.Version, .row 7050000 u50000]) ∧ s.h 7050000 = (u50000, oW 190 7 M.Cached.en r50000)) ∧ m_spec_l17Cache_L1 p0 m v4 r50000 = some r
 have e1 := @m_spec_l17Cache_L1.eq_2
 unfold m_spec_l17Cache at h
 exact sgo 36 [.cell 2 144] Tryz.func89
instance : HasC 89 (type_of% @c89) := ⟨@c89⟩

theorem c57 (p0 r) (h : m_spec_l17Copy p0 = some r) : Sc 57 [aX (M.CacheSet.en p0)] [(true, M.CacheSet.rs r)] := by
 have i1 := invM [.b 3 0 7050000 144 2] fun m s => ∃ v4 : Int, ∃ r50000 : List M.Cache, ∃ u50000 : Nat, (s.t 1 = vP 1 1 0 ∧ s.t 2 = vP 2 1 0 ∧ s.t 3 = vP 3 1 0 ∧ s.t 4 = vI v4 ∧ s.h 1 = (1, oX 51 (M.CacheSet.en p0)) ∧ s.h 2 = (1, oB 51 [.nil]) ∧ s.h 3 = (1, oB 51 [.row 7050000 u50000]) ∧ s.h 7050000 = (u50000, oW 144 2 M.Cache.en r50000)) ∧ m_spec_l17Copy_L1 p0 m v4 r50000 = some r
 have e1 := @m_spec_l17Copy_L1.eq_2
 unfold m_spec_l17Copy at h
 exact sgo 25 [.cell 2 51] Tryz.func57
instance : HasC 57 (type_of% @c57) := ⟨@c57⟩

theorem c162 (p0 r) (h : m_spec_l5Copy p0 = some r) : Sc 162 [aX (M.Record.en p0)] [(true, M.Record.rs r)] := by
 unfold m_spec_l5Copy at h
 exact sgo 8 [.cell 2 175] Tryz.func162
instance : HasC 162 (type_of% @c162) := ⟨@c162⟩

theorem c121 (p0 r) (h : m_spec_l6Item p0 = some r) : Sc 121 [aX (M.Item.en p0)] [(true, M.Item.rs r)] := by
 unfold m_spec_l6Item at h
 exact sgo 9 [.cell 2 177] Tryz.func121
instance : HasC 121 (type_of% @c121) := ⟨@c121⟩

theorem c80 (p0 r) (h : m_spec_l6Copy p0 = some r) : Sc 80 [aX (M.Store.en p0)] [(true, M.Store.rs r)] := by
 have i1 := invM [.b 3 1 7050000 177 4] fun m s => ∃ v4 : Int, ∃ r50000 : List M.Item, ∃ u50000 : Nat, (s.t 1 = vP 1 1 0 ∧ s.t 2 = vP 2 1 0 ∧ s.t 3 = vP 3 1 0 ∧ s.t 4 = vI v4 ∧ s.h 1 = (1, oX 60 (M.Store.en p0)) ∧ s.h 2 = (1, oB 60 [cS (⟨#[]⟩ : ByteArray), .nil, cI 0]) ∧ s.h 3 = (1, oB 60 [cS p0.Name, .row 7050000 u50000, cI p0.Auto]) ∧ s.h 7050000 = (u50000, oW 177 4 M.Item.en r50000)) ∧ m_spec_l6Copy_L1 p0 m v4 r50000 = some r
 have e1 := @m_spec_l6Copy_L1.eq_2
 unfold m_spec_l6Copy at h
 exact sgo 29 [.cell 2 60] Tryz.func80
instance : HasC 80 (type_of% @c80) := ⟨@c80⟩

theorem c63 (p0 r) (h : m_spec_l8Copy p0 = some r) : Sc 63 [aX (M.Database.en p0)] [(true, M.Database.rs r)] := by
 have i1 := invM [.b 3 2 7050000 60 3] fun m s => ∃ v4 : Int, ∃ r50000 : List M.Store, ∃ u50000 : Nat, (s.t 1 = vP 1 1 0 ∧ s.t 2 = vP 2 1 0 ∧ s.t 3 = vP 3 1 0 ∧ s.t 4 = vI v4 ∧ s.h 1 = (1, oX 55 (M.Database.en p0)) ∧ s.h 2 = (1, oB 55 [cS (⟨#[]⟩ : ByteArray), cI 0, .nil, .nil]) ∧ s.h 3 = (1, oB 55 [cS p0.Name, cI p0.Version, .row 7050000 u50000, .row 100009 2]) ∧ s.h 100009 = (2, oW 159 2 M.IndexDef.en p0.Unique) ∧ s.h 7050000 = (u50000, oW 60 3 M.Store.en r50000)) ∧ m_spec_l8Copy_L1 p0 m v4 r50000 = some r
 have e1 := @m_spec_l8Copy_L1.eq_2
 unfold m_spec_l8Copy at h
 exact sgo 33 [.cell 2 55] Tryz.func63
instance : HasC 63 (type_of% @c63) := ⟨@c63⟩

theorem c34 (p0 r) (h : m_spec_l12Copy p0 = some r) : Sc 34 [aX (M.Disk.en p0)] [(true, M.Disk.rs r)] := by
 unfold m_spec_l12Copy at h
 exact sgo 13 [.cell 2 57] Tryz.func34
instance : HasC 34 (type_of% @c34) := ⟨@c34⟩

theorem c122 (p0 r) (h : m_spec_l20Copy p0 = some r) : Sc 122 [aX (M.Outbox.en p0)] [(true, M.Outbox.rs r)] := by
 unfold m_spec_l20Copy at h
 exact sgo 11 [.cell 2 63] Tryz.func122
instance : HasC 122 (type_of% @c122) := ⟨@c122⟩

theorem c81 (p0 r) (h : m_spec_l22Copy p0 = some r) : Sc 81 [aX (M.Sync.en p0)] [(true, M.Sync.rs r)] := by
 unfold m_spec_l22Copy at h
 exact sgo 10 [.cell 2 65] Tryz.func81
instance : HasC 81 (type_of% @c81) := ⟨@c81⟩

theorem c49 (p0 r) (h : m_spec_l23Copy p0 = some r) : Sc 49 [aX (M.Replica.en p0)] [(true, M.Replica.rs r)] := by
 unfold m_spec_l23Copy at h
 exact sgo 12 [.cell 2 67] Tryz.func49
instance : HasC 49 (type_of% @c49) := ⟨@c49⟩

theorem c33 (p0 r) (h : m_spec_l27Copy p0 = some r) : Sc 33 [aX (M.Bucket.en p0)] [(true, M.Bucket.rs r)] := by
 unfold m_spec_l27Copy at h
 exact sgo 18 [.cell 2 69] Tryz.func33
instance : HasC 33 (type_of% @c33) := ⟨@c33⟩

theorem c99 (p0 p1 p2 r) (h : m_spec_l1In p0 p1 p2 = some r) : Sc 99 [aI p0, aI p1, aI p2] [rB r] := by
 unfold m_spec_l1In at h
 exact sgo 15 [.tmp 6] Tryz.func99
instance : HasC 99 (type_of% @c99) := ⟨@c99⟩

theorem c94 (p0 r) (h : m_spec_IsName p0 = some r) : Sc 94 [aS p0] [rB r] := by
 have i1 := inv fun m s => ∃ v3 : Int, (s.t 0 = vS p0 ∧ s.t 3 = vI v3) ∧ m_spec_IsName_L1 p0 m v3 = some r
 have e1 := @m_spec_IsName_L1.eq_2
 unfold m_spec_IsName at h
 exact sgo 23 [.tmp 2] Tryz.func94
instance : HasC 94 (type_of% @c94) := ⟨@c94⟩

theorem c95 (p0 r) (h : m_spec_IsRegistration p0 = some r) : Sc 95 [aX (M.Registration.en p0)] [rB r] := by
  unfold m_spec_IsRegistration at h
  simp only [EN]
  refine sgn 52 [.tmp 2] Tryz.func95 fun base wd => ?_
  refine sq (rn ?_)
  refine an (sq (rn ?_))
  refine an (sq (rn ?_))
  refine an (sq (sq ?_))
  refine cu (fun s => s.t 1 = vP 1 1 0 ∧ s.t 3 = vI 0 ∧ s.t 4 = vR 100012 1 ∧ s.h 1 = (1, oX 48 (M.Registration.en p0)) ∧ s.h 100012 = (1, oW 3 1 enI ([p0.Active, p0.Waiting, p0.Installing])) ∧ True) ?_
  rintro s1 ⟨f2, f3, f4, f5, f6, _⟩
  refine rn ?_
  refine an (bk ?_)
  refine SW_loop (fun m s => ∃ v3 : Int, ∃ v5 : Int, s.t 1 = vP 1 1 0 ∧ s.t 3 = vI v3 ∧ s.t 4 = vR 100012 1 ∧ s.t 5 = vI v5 ∧ s.h 1 = (1, oX 48 (M.Registration.en p0)) ∧ s.h 100012 = (1, oW 3 1 enI ([p0.Active, p0.Waiting, p0.Installing])) ∧ m_spec_IsRegistration_L1 p0 m v3 v5 = some r) fuel ?_ ?_
  · refine ⟨0, 0, ?_, ?_, ?_, ?_, ?_, ?_, h⟩
    all_goals simp +decide only [F, reduceIte, Nat.reduceAdd, Bool.not_true, Bool.not_false, EN, *, -h]
  rintro mL1 s7 ⟨v3, v5, f8, f9, f10, f11, f12, f13, h⟩
  rcases mL1 with _ | mL1
  · exact absurd h (by simp [m_spec_IsRegistration_L1])
  simp only [m_spec_IsRegistration_L1] at h
  refine sq (sq (rn ?_))
  refine an ?_
  rcases bcas (decide (v5 < ((3 : Nat) : Int))) with b14 | b14
  · replace h := ite_f b14 h
    refine cf (xt (aft_cx (aft_ix (aft_x (an (sq ?_))))))
    obtain ⟨x25, h26, h⟩ := bind_some h
    refine rn1 (c94 _ _ h26) ?_
    refine an (rt ?_)
    cases h
    simp [Ret, TB, EN, *]
  replace h := ite_t b14 h
  refine ct (sk (an (sq (bk (sq (sq ?_))))))
  obtain ⟨x15, h16, h⟩ := bind_some h
  obtain ⟨q17, q18, q19⟩ := idx_some h16
  have q17m := congrArg (Option.map enI) (show ([p0.Active, p0.Waiting, p0.Installing])[v5.toNat]? = some x15 by assumption)
  simp only [← List.getElem?_map, List.map_cons, List.map_nil, Option.map_some, EN] at q17m
  simp only [List.length_cons, List.length_nil, Nat.reduceAdd] at q19
  obtain ⟨x20, h21, h⟩ := bind_some h
  rcases bcase (!x20) with b22 | b22
  · replace h := ite_t b22 h
    refine rn1 (c99 _ _ _ _ h21) ?_
    refine an (ct (sq (rn ?_)))
    refine an (rt ?_)
    cases h
    simp [Ret, TB, EN, *]
  replace h := ite_f b22 h
  rcases bcas (x15 != 0) with b23 | b23
  · replace h := ite_f b23 h
    refine rn1 (c99 _ _ _ _ h21) ?_
    refine an (cf (sk (an (sq (rn ?_)))))
    refine an (cf (sk (ab (an (rn ?_)))))
    refine aft_i ⟨mL1, by omega, v3, (IntKind.i64.wrap (v5 + 1)), ?_, ?_, ?_, ?_, ?_, ?_, h⟩
    all_goals simp +decide only [F, reduceIte, Nat.reduceAdd, Bool.not_true, Bool.not_false, EN, *, -h]
  replace h := ite_t b23 h
  refine rn1 (c99 _ _ _ _ h21) ?_
  refine an ?_
  rcases bcase (decide (x15 ≤ v3)) with b24 | b24
  · replace h := ite_t b24 h
    refine ct (sq (rn ?_))
    refine an (rt ?_)
    cases h
    simp [Ret, TB, EN, *]
  replace h := ite_f b24 h
  refine cf (sk (an (sq (rn ?_))))
  refine an (ct (rn ?_))
  refine ab (an (rn ?_))
  refine aft_i ⟨mL1, by omega, x15, (IntKind.i64.wrap (v5 + 1)), ?_, ?_, ?_, ?_, ?_, ?_, h⟩
  all_goals simp +decide only [F, reduceIte, Nat.reduceAdd, Bool.not_true, Bool.not_false, EN, *, -h]
instance : HasC 95 (type_of% @c95) := ⟨@c95⟩

theorem c172 (p0 r) (h : m_spec_IsResponse p0 = some r) : Sc 172 [aX (M.Response.en p0)] [rB r] := by
 unfold m_spec_IsResponse at h
 exact sgo 22 [.tmp 2] Tryz.func172
instance : HasC 172 (type_of% @c172) := ⟨@c172⟩

theorem c133 (p0 r) (h : m_spec_l17Entries p0 = some r) : Sc 133 [aL M.Cached.en p0] [rB r] := by
 have i1 := inv fun m s => ∃ v3 : Int, (s.t 0 = vL M.Cached.en p0 ∧ s.t 3 = vI v3) ∧ m_spec_l17Entries_L1 p0 m v3 = some r
 have e1 := @m_spec_l17Entries_L1.eq_2
 have i2 := fun (v3 : Int) (x5 : M.Cached) (k20 : Int → Option Bool) => inv fun m s => ∃ v4_L2 : Int, (s.t 0 = vL M.Cached.en p0 ∧ s.t 3 = vI v3 ∧ s.t 4 = vI v4_L2) ∧ m_spec_l17Entries_L2 p0 v3 x5 k20 m v4_L2 = some r
 have e2 := @m_spec_l17Entries_L2.eq_2
 unfold m_spec_l17Entries at h
 exact sgo 68 [.tmp 2] Tryz.func133
instance : HasC 133 (type_of% @c133) := ⟨@c133⟩

theorem c96 (p0 r) (h : m_spec_IsCacheSet p0 = some r) : Sc 96 [aX (M.CacheSet.en p0)] [rB r] := by
 have i1 := inv fun m s => ∃ v3 : Int, (s.t 1 = vP 1 1 0 ∧ s.t 3 = vI v3 ∧ s.h 1 = (1, oX 51 (M.CacheSet.en p0))) ∧ m_spec_IsCacheSet_L1 p0 m v3 = some r
 have e1 := @m_spec_IsCacheSet_L1.eq_2
 unfold m_spec_IsCacheSet at h
 exact sgo 53 [.tmp 2] Tryz.func96
instance : HasC 96 (type_of% @c96) := ⟨@c96⟩

theorem c206 (p0 r) (h : m_spec_l4Text p0 = some r) : Sc 206 [aS p0] [rB r] := by
 have i1 := inv fun m s => ∃ v3 : Int, (s.t 0 = vS p0 ∧ s.t 3 = vI v3) ∧ m_spec_l4Text_L1 p0 m v3 = some r
 have e1 := @m_spec_l4Text_L1.eq_2
 unfold m_spec_l4Text at h
 exact sgo 35 [.tmp 2] Tryz.func206
instance : HasC 206 (type_of% @c206) := ⟨@c206⟩

theorem c173 (p0 r) (h : m_spec_IsKey p0 = some r) : Sc 173 [aX (M.Key.en p0)] [rB r] := by
 unfold m_spec_IsKey at h
 exact sgo 36 [.tmp 2] Tryz.func173
instance : HasC 173 (type_of% @c173) := ⟨@c173⟩

theorem c174 (p0 r) (h : m_spec_IsRecord p0 = some r) : Sc 174 [aX (M.Record.en p0)] [rB r] := by
 have i1 := inv fun m s => ∃ v3 : Int, (s.t 1 = vP 1 1 0 ∧ s.t 3 = vI v3 ∧ s.h 1 = (1, oX 175 (M.Record.en p0))) ∧ m_spec_IsRecord_L1 p0 m v3 = some r
 have e1 := @m_spec_IsRecord_L1.eq_2
 unfold m_spec_IsRecord at h
 exact sgo 53 [.tmp 2] Tryz.func174
instance : HasC 174 (type_of% @c174) := ⟨@c174⟩

theorem c207 (p0 p1 r) (h : m_spec_l4Sign p0 p1 = some r) : Sc 207 [aB p0, aB p1] [rI r] := by
 unfold m_spec_l4Sign at h
 exact sgo 7 [.tmp 4] Tryz.func207
instance : HasC 207 (type_of% @c207) := ⟨@c207⟩

theorem c175 (p0 p1 r) (h : m_spec_CompareKeys p0 p1 = some r) : Sc 175 [aX (M.Key.en p0), aX (M.Key.en p1)] [rI r] := by
 unfold m_spec_CompareKeys at h
 exact sgo 46 [.tmp 4] Tryz.func175
instance : HasC 175 (type_of% @c175) := ⟨@c175⟩

theorem c134 (p0 r) (h : m_spec_IsStore p0 = some r) : Sc 134 [aX (M.Store.en p0)] [rB r] := by
 have i1 := inv fun m s => ∃ v3 : Int, (s.t 1 = vP 1 1 0 ∧ s.t 3 = vI v3 ∧ s.h 1 = (1, oX 60 (M.Store.en p0))) ∧ m_spec_IsStore_L1 p0 m v3 = some r
 have e1 := @m_spec_IsStore_L1.eq_2
 unfold m_spec_IsStore at h
 exact sgo 64 [.tmp 2] Tryz.func134
instance : HasC 134 (type_of% @c134) := ⟨@c134⟩

theorem c135 (p0 p1 r) (h : m_spec_FindStore p0 p1 = some r) : Sc 135 [aX (M.Database.en p0), aS p1] [rI r] := by
 have i1 := inv fun m s => ∃ v5 : Int, (s.t 1 = vS p1 ∧ s.t 2 = vP 2 1 0 ∧ s.t 5 = vI v5 ∧ s.h 2 = (1, oX 55 (M.Database.en p0))) ∧ m_spec_FindStore_L1 p0 p1 m v5 = some r
 have e1 := @m_spec_FindStore_L1.eq_2
 unfold m_spec_FindStore at h
 exact sgo 22 [.tmp 4] Tryz.func135
instance : HasC 135 (type_of% @c135) := ⟨@c135⟩

theorem c177 (p0 p1 r) (h : m_spec_GetField p0 p1 = some r) : Sc 177 [aX (M.Record.en p0), aS p1] [rI r.1, rB r.2] := by
 have i1 := inv fun m s => ∃ v6 : Int, (s.t 1 = vS p1 ∧ s.t 2 = vP 2 1 0 ∧ s.t 6 = vI v6 ∧ s.h 2 = (1, oX 175 (M.Record.en p0))) ∧ m_spec_GetField_L1 p0 p1 m v6 = some r
 have e1 := @m_spec_GetField_L1.eq_2
 unfold m_spec_GetField at h
 exact sgo 28 [.tmp 4, .tmp 5] Tryz.func177
instance : HasC 177 (type_of% @c177) := ⟨@c177⟩

theorem c208 (p0 p1 p2 r) (h : m_spec_l7Less p0 p1 p2 = some r) : Sc 208 [aX (M.Item.en p0), aX (M.Item.en p1), aS p2] [rB r] := by
 unfold m_spec_l7Less at h
 exact sgo 41 [.tmp 6] Tryz.func208
instance : HasC 208 (type_of% @c208) := ⟨@c208⟩

theorem c176 (p0 p1 r) (h : m_spec_IndexOn p0 p1 = some r) : Sc 176 [aX (M.Store.en p0), aS p1] [rW 177 4 M.Item.en r] := by
  unfold m_spec_IndexOn at h
  simp only [EN]
  refine sgn 72 [.tmp 4] Tryz.func176 fun base wd => ?_
  refine sq (rn ?_)
  refine an (sq (rn ?_))
  refine an (sq (sq ?_))
  refine cu (fun s => s.t 1 = vS p1 ∧ s.t 2 = vP 2 1 0 ∧ s.t 5 = vR 100011 1 ∧ s.h 2 = (1, oX 60 (M.Store.en p0)) ∧ s.h 100011 = (1, oW 177 4 M.Item.en ([] : List M.Item)) ∧ True) ?_
  rintro s1 ⟨f2, f3, f4, f5, f6, _⟩
  refine rn ?_
  refine an (bk ?_)
  refine SW_gho ((Gho.ren_t (i := 5) (K := 7050000) (j := 100011) (by simp +decide only [F, reduceIte, Nat.reduceAdd, Bool.not_true, Bool.not_false, EN, *, -h]; rfl) (by simp +decide only [F, reduceIte, Nat.reduceAdd, Bool.not_true, Bool.not_false, EN, *, -h]; rfl))) ?_
  refine SW_loopG (fun m s => ∃ v6 : Int, ∃ r50000 : List M.Item, ∃ u50000 : Nat, s.t 1 = vS p1 ∧ s.t 2 = vP 2 1 0 ∧ s.t 5 = vR 7050000 u50000 ∧ s.t 6 = vI v6 ∧ s.h 2 = (1, oX 60 (M.Store.en p0)) ∧ s.h 7050000 = (u50000, oW 177 4 M.Item.en r50000) ∧ m_spec_IndexOn_L1 p0 p1 m v6 r50000 = some r) fuel ?_ ?_
  · refine ⟨0, ([] : List M.Item), ((s1.h 7050000).1 + 1), ?_, ?_, ?_, ?_, ?_, ?_, h⟩
    all_goals simp +decide only [F, reduceIte, Nat.reduceAdd, Bool.not_true, Bool.not_false, EN, *, -h]
  rintro mL1 s7 ⟨v6, r50000, u50000, f8, f9, f10, f11, f12, f13, h⟩
  rcases mL1 with _ | mL1
  · exact absurd h (by simp [m_spec_IndexOn_L1])
  simp only [m_spec_IndexOn_L1] at h
  refine sq (sq (rn ?_))
  refine an ?_
  rcases bcas (decide (v6 < (List.length p0.Items : Int))) with b14 | b14
  · replace h := ite_f b14 h
    refine cf (xt (aft_cx (aft_ix (aft_x (an (sq (rn ?_)))))))
    refine an (rt ?_)
    cases h
    simp [Ret, TB, EN, *]
  replace h := ite_t b14 h
  refine ct (sk (an (sq (bk (sq (sq ?_))))))
  obtain ⟨x15, h16, h⟩ := bind_some h
  obtain ⟨q17, q18, q19⟩ := idx_some h16
  obtain ⟨x20, h21, h⟩ := bind_some h
  refine rn1 (c177 _ _ _ h21) ?_
  refine an (sq (rn ?_))
  refine an ?_
  rcases bcase (!x20.2) with b22 | b22
  · replace h := ite_t b22 h
    refine ct (xt (aft_cx (aft_x (an (rn ?_)))))
    refine aft_i ⟨_, (Gho.ren_t (i := 5) (K := 7050000) (j := 7050000) (by simp +decide only [F, reduceIte, Nat.reduceAdd, Bool.not_true, Bool.not_false, EN, *, -h]; rfl) (by simp +decide only [F, reduceIte, Nat.reduceAdd, Bool.not_true, Bool.not_false, EN, *, -h]; rfl)), mL1, by omega, (IntKind.i64.wrap (v6 + 1)), r50000, (u50000 + 1), ?_, ?_, ?_, ?_, ?_, ?_, h⟩
    all_goals simp +decide only [F, reduceIte, Nat.reduceAdd, Bool.not_true, Bool.not_false, EN, *, -h]
  replace h := ite_f b22 h
  refine cf (sk (an (sq (rn ?_))))
  refine an (sq (bk ?_))
  obtain ⟨k24, e25, h⟩ := absk (f := fun kk => m_spec_IndexOn_L2 p1 r50000 x15 kk fuel (List.length r50000 : Int)) h
  refine SW_loop (fun m s => ∃ v9_L2 : Int, s.t 1 = vS p1 ∧ s.t 2 = vP 2 1 0 ∧ s.t 5 = vR 7050000 u50000 ∧ s.t 6 = vI v6 ∧ s.t 9 = vI v9_L2 ∧ s.h 2 = (1, oX 60 (M.Store.en p0)) ∧ s.h 7050000 = (u50000, oW 177 4 M.Item.en r50000) ∧ m_spec_IndexOn_L2 p1 r50000 x15 k24 m v9_L2 = some r) fuel ?_ ?_
  · refine ⟨(List.length r50000 : Int), ?_, ?_, ?_, ?_, ?_, ?_, ?_, h⟩
    all_goals simp +decide only [F, reduceIte, Nat.reduceAdd, Bool.not_true, Bool.not_false, EN, *, -h]
  rintro mL2 s23 ⟨v9_L2, f26, f27, f28, f29, f30, f31, f32, h⟩
  rcases mL2 with _ | mL2
  · exact absurd h (by simp [m_spec_IndexOn_L2])
  simp only [m_spec_IndexOn_L2] at h
  refine sq (sq ?_)
  rcases bcas (decide (v9_L2 > 0)) with b33 | b33
  · replace h := ite_f b33 h
    refine rd mixed ?_
    refine an (cf (xt (aft_cx ?_)))
    subst e25
    refine aft_ix (aft_x (an (sq ?_)))
    obtain ⟨x79, h80, h⟩ := bind_some h
    obtain ⟨x81, h82, h⟩ := bind_some h
    apply SW_run
    · simp +decide only [E, reduceIte, Nat.reduceAdd, Nat.reduceMul, Bool.not_true, Bool.not_false, ← List.map_take, ← List.map_drop, L, ti58, ti177, M.Item.en, EN, b14, q17, q18, q19, b22, f26, f27, f28, f29, f30, f31, f32, b33]
      refine ⟨by first | exact slcHi_p h80 | exact (slcHi_p h80).2 | exact (slcHi_p h80).2.2, ?_⟩
      try simp +decide only [E, reduceIte, Nat.reduceAdd, Nat.reduceMul, Bool.not_true, Bool.not_false, ← List.map_take, ← List.map_drop, L, ti58, ti177, M.Item.en, EN, b14, q17, q18, q19, b22, f26, f27, f28, f29, f30, f31, f32, b33]
      refine ⟨by (have hb := app_some h82); simp [M.Item.en, List.length_append, strBytes_len, ← List.map_take, ← List.map_drop, -List.map_take, -List.map_drop] at hb ⊢ <;> omega, ?_⟩
      try simp +decide only [E, reduceIte, Nat.reduceAdd, Nat.reduceMul, Bool.not_true, Bool.not_false, ← List.map_take, ← List.map_drop, L, ti58, ti177, M.Item.en, EN, b14, q17, q18, q19, b22, f26, f27, f28, f29, f30, f31, f32, b33]
      exact Is.mk _
    refine an (sq ?_)
    refine cu (fun s => s.t 1 = vS p1 ∧ s.t 2 = vP 2 1 0 ∧ s.t 5 = vR 7050000 u50000 ∧ s.t 6 = vI v6 ∧ s.t 9 = vI v9_L2 ∧ s.t 10 = vR 100052 (((s23.h 100052).1 + 1) + 1) ∧ s.h 2 = (1, oX 60 (M.Store.en p0)) ∧ s.h 100052 = ((((s23.h 100052).1 + 1) + 1), oW 177 4 M.Item.en (List.take v9_L2.toNat r50000)) ∧ s.h 7050000 = (u50000, .row 177 4 (opqTo 4 0 v9_L2.toNat (List.map M.Item.en r50000)) true) ∧ True) ?_
    rintro s83 ⟨f84, f85, f86, f87, f88, f89, f90, f91, f92, _⟩
    obtain ⟨x93, h94, h⟩ := bind_some h
    obtain ⟨x95, h96, h⟩ := bind_some h
    refine rn2 (c121 _ _ h94) h96 ?_
    refine an ?_
    refine cu (fun s => s.t 1 = vS p1 ∧ s.t 2 = vP 2 1 0 ∧ s.t 5 = vR 7050000 u50000 ∧ s.t 6 = vI v6 ∧ s.t 9 = vI v9_L2 ∧ s.t 10 = vR 100052 ((((s23.h 100052).1 + 1) + 1) + 1) ∧ s.h 2 = (1, oX 60 (M.Store.en p0)) ∧ s.h 100052 = (((((s23.h 100052).1 + 1) + 1) + 1), oW 177 4 M.Item.en ((List.take v9_L2.toNat r50000) ++ [x93])) ∧ s.h 7050000 = (u50000, .row 177 4 (opqTo 4 0 v9_L2.toNat (List.map M.Item.en r50000)) true) ∧ True) ?_
    rintro s97 ⟨f98, f99, f100, f101, f102, f103, f104, f105, f106, _⟩
    obtain ⟨x107, h108, h⟩ := bind_some h
    apply SW_run
    · simp +decide only [E, reduceIte, Nat.reduceAdd, Nat.reduceMul, Bool.not_true, Bool.not_false, ← List.map_take, ← List.map_drop, L, ti58, ti177, M.Item.en, EN, b14, q17, q18, q19, b22, b33, f98, f99, f100, f101, f102, f103, f104, f105, f106]
      refine ⟨by first | exact opq_ge (slcHi_p h80).1 | exact (opq_ge (slcHi_p h80).1).2 | exact (opq_ge (slcHi_p h80).1).2.2, ?_⟩
      try simp +decide only [E, reduceIte, Nat.reduceAdd, Nat.reduceMul, Bool.not_true, Bool.not_false, ← List.map_take, ← List.map_drop, L, ti58, ti177, M.Item.en, EN, b14, q17, q18, q19, b22, b33, f98, f99, f100, f101, f102, f103, f104, f105, f106]
      refine ⟨by (have hb := app_some h108); simp [M.Item.en, List.length_append, strBytes_len, ← List.map_take, ← List.map_drop, -List.map_take, -List.map_drop] at hb ⊢ <;> omega, ?_⟩
      try simp +decide only [E, reduceIte, Nat.reduceAdd, Nat.reduceMul, Bool.not_true, Bool.not_false, ← List.map_take, ← List.map_drop, L, ti58, ti177, M.Item.en, EN, b14, q17, q18, q19, b22, b33, f98, f99, f100, f101, f102, f103, f104, f105, f106]
      exact Is.mk _
    refine ab (an ?_)
    refine cu (fun s => s.t 1 = vS p1 ∧ s.t 2 = vP 2 1 0 ∧ s.t 5 = vR 100052 (((((s23.h 100052).1 + 1) + 1) + 1) + 1) ∧ s.t 6 = vI v6 ∧ s.h 2 = (1, oX 60 (M.Store.en p0)) ∧ s.h 100052 = ((((((s23.h 100052).1 + 1) + 1) + 1) + 1), oW 177 4 M.Item.en (((List.take v9_L2.toNat r50000) ++ [x93]) ++ (List.drop v9_L2.toNat r50000))) ∧ True) ?_
    rintro s109 ⟨f110, f111, f112, f113, f114, f115, _⟩
    refine rn ?_
    refine aft_i ⟨_, (Gho.ren_t (i := 5) (K := 7050000) (j := 100052) (by simp +decide only [F, reduceIte, Nat.reduceAdd, Bool.not_true, Bool.not_false, EN, *, -h]; rfl) (by simp +decide only [F, reduceIte, Nat.reduceAdd, Bool.not_true, Bool.not_false, EN, *, -h]; rfl)), mL1, by omega, (IntKind.i64.wrap (v6 + 1)), (((List.take v9_L2.toNat r50000) ++ [x93]) ++ (List.drop v9_L2.toNat r50000)), ((s109.h 7050000).1 + 1), ?_, ?_, ?_, ?_, ?_, ?_, h⟩
    all_goals simp +decide only [F, reduceIte, Nat.reduceAdd, Bool.not_true, Bool.not_false, EN, *, -h]
  replace h := ite_t b33 h
  obtain ⟨x34, h35, h⟩ := bind_some h
  obtain ⟨q36, q37, q38⟩ := idx_some h35
  obtain ⟨x39, h40, h⟩ := bind_some h
  refine rd1 mixed (c208 _ _ _ _ h40) ?_
  refine an ?_
  rcases bcase x39 with b41 | b41
  · replace h := ite_t b41 h
    refine ct (sk (an (bk (rn ?_))))
    refine ab ?_
    refine aft_i ⟨mL2, by omega, (IntKind.i64.wrap (v9_L2 - 1)), ?_, ?_, ?_, ?_, ?_, ?_, ?_, h⟩
    all_goals simp +decide only [F, reduceIte, Nat.reduceAdd, Bool.not_true, Bool.not_false, EN, *, -h]
  replace h := ite_f b41 h
  refine cf (xt (aft_cx ?_))
  subst e25
  refine aft_ix (aft_x (an (sq ?_)))
  obtain ⟨x42, h43, h⟩ := bind_some h
  obtain ⟨x44, h45, h⟩ := bind_some h
  apply SW_run
  · simp +decide only [E, reduceIte, Nat.reduceAdd, Nat.reduceMul, Bool.not_true, Bool.not_false, ← List.map_take, ← List.map_drop, L, ti58, ti177, M.Item.en, EN, b14, q17, q18, q19, b22, f26, f27, f28, f29, f30, f31, f32, b33, q36, q37, q38, b41]
    refine ⟨by first | exact slcHi_p h43 | exact (slcHi_p h43).2 | exact (slcHi_p h43).2.2, ?_⟩
    try simp +decide only [E, reduceIte, Nat.reduceAdd, Nat.reduceMul, Bool.not_true, Bool.not_false, ← List.map_take, ← List.map_drop, L, ti58, ti177, M.Item.en, EN, b14, q17, q18, q19, b22, f26, f27, f28, f29, f30, f31, f32, b33, q36, q37, q38, b41]
    refine ⟨by (have hb := app_some h45); simp [M.Item.en, List.length_append, strBytes_len, ← List.map_take, ← List.map_drop, -List.map_take, -List.map_drop] at hb ⊢ <;> omega, ?_⟩
    try simp +decide only [E, reduceIte, Nat.reduceAdd, Nat.reduceMul, Bool.not_true, Bool.not_false, ← List.map_take, ← List.map_drop, L, ti58, ti177, M.Item.en, EN, b14, q17, q18, q19, b22, f26, f27, f28, f29, f30, f31, f32, b33, q36, q37, q38, b41]
    exact Is.mk _
  refine an (sq ?_)
  refine cu (fun s => s.t 1 = vS p1 ∧ s.t 2 = vP 2 1 0 ∧ s.t 5 = vR 7050000 u50000 ∧ s.t 6 = vI v6 ∧ s.t 9 = vI v9_L2 ∧ s.t 10 = vR 100052 (((s23.h 100052).1 + 1) + 1) ∧ s.h 2 = (1, oX 60 (M.Store.en p0)) ∧ s.h 100052 = ((((s23.h 100052).1 + 1) + 1), oW 177 4 M.Item.en (List.take v9_L2.toNat r50000)) ∧ s.h 7050000 = (u50000, .row 177 4 (opqTo 4 0 v9_L2.toNat (List.map M.Item.en r50000)) true) ∧ True) ?_
  rintro s46 ⟨f47, f48, f49, f50, f51, f52, f53, f54, f55, _⟩
  obtain ⟨x56, h57, h⟩ := bind_some h
  obtain ⟨x58, h59, h⟩ := bind_some h
  refine rn2 (c121 _ _ h57) h59 ?_
  refine an ?_
  refine cu (fun s => s.t 1 = vS p1 ∧ s.t 2 = vP 2 1 0 ∧ s.t 5 = vR 7050000 u50000 ∧ s.t 6 = vI v6 ∧ s.t 9 = vI v9_L2 ∧ s.t 10 = vR 100052 ((((s23.h 100052).1 + 1) + 1) + 1) ∧ s.h 2 = (1, oX 60 (M.Store.en p0)) ∧ s.h 100052 = (((((s23.h 100052).1 + 1) + 1) + 1), oW 177 4 M.Item.en ((List.take v9_L2.toNat r50000) ++ [x56])) ∧ s.h 7050000 = (u50000, .row 177 4 (opqTo 4 0 v9_L2.toNat (List.map M.Item.en r50000)) true) ∧ True) ?_
  rintro s60 ⟨f61, f62, f63, f64, f65, f66, f67, f68, f69, _⟩
  obtain ⟨x70, h71, h⟩ := bind_some h
  apply SW_run
  · simp +decide only [E, reduceIte, Nat.reduceAdd, Nat.reduceMul, Bool.not_true, Bool.not_false, ← List.map_take, ← List.map_drop, L, ti58, ti177, M.Item.en, EN, b14, q17, q18, q19, b22, b33, q36, q37, q38, b41, f61, f62, f63, f64, f65, f66, f67, f68, f69]
    refine ⟨by first | exact opq_ge (slcHi_p h43).1 | exact (opq_ge (slcHi_p h43).1).2 | exact (opq_ge (slcHi_p h43).1).2.2, ?_⟩
    try simp +decide only [E, reduceIte, Nat.reduceAdd, Nat.reduceMul, Bool.not_true, Bool.not_false, ← List.map_take, ← List.map_drop, L, ti58, ti177, M.Item.en, EN, b14, q17, q18, q19, b22, b33, q36, q37, q38, b41, f61, f62, f63, f64, f65, f66, f67, f68, f69]
    refine ⟨by (have hb := app_some h71); simp [M.Item.en, List.length_append, strBytes_len, ← List.map_take, ← List.map_drop, -List.map_take, -List.map_drop] at hb ⊢ <;> omega, ?_⟩
    try simp +decide only [E, reduceIte, Nat.reduceAdd, Nat.reduceMul, Bool.not_true, Bool.not_false, ← List.map_take, ← List.map_drop, L, ti58, ti177, M.Item.en, EN, b14, q17, q18, q19, b22, b33, q36, q37, q38, b41, f61, f62, f63, f64, f65, f66, f67, f68, f69]
    exact Is.mk _
  refine ab (an ?_)
  refine cu (fun s => s.t 1 = vS p1 ∧ s.t 2 = vP 2 1 0 ∧ s.t 5 = vR 100052 (((((s23.h 100052).1 + 1) + 1) + 1) + 1) ∧ s.t 6 = vI v6 ∧ s.h 2 = (1, oX 60 (M.Store.en p0)) ∧ s.h 100052 = ((((((s23.h 100052).1 + 1) + 1) + 1) + 1), oW 177 4 M.Item.en (((List.take v9_L2.toNat r50000) ++ [x56]) ++ (List.drop v9_L2.toNat r50000))) ∧ True) ?_
  rintro s72 ⟨f73, f74, f75, f76, f77, f78, _⟩
  refine rn ?_
  refine aft_i ⟨_, (Gho.ren_t (i := 5) (K := 7050000) (j := 100052) (by simp +decide only [F, reduceIte, Nat.reduceAdd, Bool.not_true, Bool.not_false, EN, *, -h]; rfl) (by simp +decide only [F, reduceIte, Nat.reduceAdd, Bool.not_true, Bool.not_false, EN, *, -h]; rfl)), mL1, by omega, (IntKind.i64.wrap (v6 + 1)), (((List.take v9_L2.toNat r50000) ++ [x56]) ++ (List.drop v9_L2.toNat r50000)), ((s72.h 7050000).1 + 1), ?_, ?_, ?_, ?_, ?_, ?_, h⟩
  all_goals simp +decide only [F, reduceIte, Nat.reduceAdd, Bool.not_true, Bool.not_false, EN, *, -h]
instance : HasC 176 (type_of% @c176) := ⟨@c176⟩

theorem c136 (p0 p1 r) (h : m_spec_UniqueFault p0 p1 = some r) : Sc 136 [aX (M.Store.en p0), aS p1] [(true, M.Key.rs r.1), (true, M.Key.rs r.2.1), rB r.2.2] := by
 have i1 := fun (x1 : (List M.Item)) => inv fun m s => ∃ v8 : Int, (s.t 1 = vS p1 ∧ s.t 4 = vP 4 1 0 ∧ s.t 5 = vP 5 1 0 ∧ s.t 7 = vR 100015 1 ∧ s.t 8 = vI v8 ∧ s.h 4 = (1, oB 172 [cI 0, cI 0, cS (⟨#[]⟩ : ByteArray)]) ∧ s.h 5 = (1, oB 172 [cI 0, cI 0, cS (⟨#[]⟩ : ByteArray)]) ∧ s.h 100015 = (1, oW 177 4 M.Item.en x1)) ∧ m_spec_UniqueFault_L1 p1 x1 m v8 = some r
 have e1 := @m_spec_UniqueFault_L1.eq_2
 unfold m_spec_UniqueFault at h
 exact sgo 59 [.cell 4 172, .cell 5 172, .tmp 6] Tryz.func136
instance : HasC 136 (type_of% @c136) := ⟨@c136⟩

theorem c97 (p0 r) (h : m_spec_IsDatabase p0 = some r) : Sc 97 [aX (M.Database.en p0)] [rB r] := by
 have i1 := inv fun m s => ∃ v3 : Int, (s.t 1 = vP 1 1 0 ∧ s.t 3 = vI v3 ∧ s.h 1 = (1, oX 55 (M.Database.en p0))) ∧ m_spec_IsDatabase_L1 p0 m v3 = some r
 have e1 := @m_spec_IsDatabase_L1.eq_2
 have i2 := inv fun m s => ∃ v4 : Int, (s.t 1 = vP 1 1 0 ∧ s.t 4 = vI v4 ∧ s.h 1 = (1, oX 55 (M.Database.en p0))) ∧ m_spec_IsDatabase_L2 p0 m v4 = some r
 have e2 := @m_spec_IsDatabase_L2.eq_2
 have i3 := fun (v4 : Int) (x26 : M.IndexDef) (k46 : Int → Option Bool) => inv fun m s => ∃ v9_L3 : Int, (s.t 1 = vP 1 1 0 ∧ s.t 4 = vI v4 ∧ s.t 9 = vI v9_L3 ∧ s.h 1 = (1, oX 55 (M.Database.en p0))) ∧ m_spec_IsDatabase_L3 p0 v4 x26 k46 m v9_L3 = some r
 have e3 := @m_spec_IsDatabase_L3.eq_2
 unfold m_spec_IsDatabase at h
 exact sgo 124 [.tmp 2] Tryz.func97
instance : HasC 97 (type_of% @c97) := ⟨@c97⟩

theorem c178 (p0 r) (h : m_spec_IsQueuedWrite p0 = some r) : Sc 178 [aX (M.Write.en p0)] [rB r] := by
 unfold m_spec_IsQueuedWrite at h
 exact sgo 26 [.tmp 2] Tryz.func178
instance : HasC 178 (type_of% @c178) := ⟨@c178⟩

theorem c137 (p0 r) (h : m_spec_IsOutbox p0 = some r) : Sc 137 [aX (M.Outbox.en p0)] [rB r] := by
 have i1 := inv fun m s => ∃ v4 : Int, (s.t 1 = vP 1 1 0 ∧ s.t 3 = vI (List.length p0.Writes : Int) ∧ s.t 4 = vI v4 ∧ s.h 1 = (1, oX 63 (M.Outbox.en p0))) ∧ m_spec_IsOutbox_L1 p0 m v4 = some r
 have e1 := @m_spec_IsOutbox_L1.eq_2
 unfold m_spec_IsOutbox at h
 exact sgo 60 [.tmp 2] Tryz.func137
instance : HasC 137 (type_of% @c137) := ⟨@c137⟩

theorem c98 (p0 r) (h : m_spec_IsReplica p0 = some r) : Sc 98 [aX (M.Replica.en p0)] [rB r] := by
 unfold m_spec_IsReplica at h
 exact sgo 23 [.tmp 2] Tryz.func98
instance : HasC 98 (type_of% @c98) := ⟨@c98⟩

theorem c179 (p0 p1 r) (h : m_spec_StoredSize p0 p1 = some r) : Sc 179 [aX (M.Response.en p0), aB p1] [rI r] := by
 unfold m_spec_StoredSize at h
 exact sgo 10 [.tmp 4] Tryz.func179
instance : HasC 179 (type_of% @c179) := ⟨@c179⟩

theorem c138 (p0 r) (h : m_spec_SizeCaches p0 = some r) : Sc 138 [aX (M.CacheSet.en p0)] [rI r] := by
 have i1 := inv fun m s => ∃ v3 : Int, ∃ v4 : Int, (s.t 1 = vP 1 1 0 ∧ s.t 3 = vI v3 ∧ s.t 4 = vI v4 ∧ s.h 1 = (1, oX 51 (M.CacheSet.en p0))) ∧ m_spec_SizeCaches_L1 p0 m v3 v4 = some r
 have e1 := @m_spec_SizeCaches_L1.eq_2
 have i2 := fun (v4 : Int) (k8 : Int → Int → Option Int) => inv fun m s => ∃ v3_L2 : Int, ∃ v5_L2 : Int, (s.t 1 = vP 1 1 0 ∧ s.t 3 = vI v3_L2 ∧ s.t 4 = vI v4 ∧ s.t 5 = vI v5_L2 ∧ s.h 1 = (1, oX 51 (M.CacheSet.en p0))) ∧ m_spec_SizeCaches_L2 p0 v4 k8 m v3_L2 v5_L2 = some r
 have e2 := @m_spec_SizeCaches_L2.eq_2
 unfold m_spec_SizeCaches at h
 exact sgo 43 [.tmp 2] Tryz.func138
instance : HasC 138 (type_of% @c138) := ⟨@c138⟩

theorem c181 (p0 r) (h : m_spec_EncodeKey p0 = some r) : Sc 181 [aX (M.Key.en p0)] [rW 5 1 enB r] := by
  unfold m_spec_EncodeKey at h
  simp only [EN]
  refine sgn 38 [.tmp 2] Tryz.func181 fun base wd => ?_
  refine sq (rn ?_)
  refine an (sq (sq ?_))
  obtain ⟨x1, h2, h⟩ := bind_some h
  refine rn1 (c173 _ _ h2) ?_
  refine an ?_
  rcases bcase (!x1) with b3 | b3
  · replace h := ite_t b3 h
    refine ct (sq (rn ?_))
    refine an (rt ?_)
    cases h
    simp [Ret, TB, EN, *]
  replace h := ite_f b3 h
  refine cf (sk (an (sq (rn ?_))))
  refine an (sq (sq ?_))
  refine cu (fun s => s.t 1 = vP 1 1 0 ∧ s.t 3 = vR 100012 1 ∧ s.h 1 = (1, oX 172 (M.Key.en p0)) ∧ s.h 100012 = (1, oW 5 1 enB ([(IntKind.u8.wrap p0.Kind)])) ∧ True) ?_
  rintro s4 ⟨f5, f6, f7, f8, _⟩
  refine rn ?_
  refine an (bk ?_)
  refine SW_loop (fun m s => ∃ v4 : Int, ∃ r12 : List Int, ∃ u12 : Nat, s.t 1 = vP 1 1 0 ∧ s.t 3 = vR 100012 u12 ∧ s.t 4 = vI v4 ∧ s.h 1 = (1, oX 172 (M.Key.en p0)) ∧ s.h 100012 = (u12, oW 5 1 enB r12) ∧ m_spec_EncodeKey_L1 p0 m v4 r12 = some r) fuel ?_ ?_
  · refine ⟨5, ([(IntKind.u8.wrap p0.Kind)]), 1, ?_, ?_, ?_, ?_, ?_, h⟩
    all_goals simp +decide only [F, reduceIte, Nat.reduceAdd, Bool.not_true, Bool.not_false, EN, *, -h]
  rintro mL1 s9 ⟨v4, r12, u12, f10, f11, f12, f13, f14, h⟩
  rcases mL1 with _ | mL1
  · exact absurd h (by simp [m_spec_EncodeKey_L1])
  simp only [m_spec_EncodeKey_L1] at h
  refine sq (sq ?_)
  rcases bcas (decide (v4 ≥ 0)) with b15 | b15
  · replace h := ite_f b15 h
    refine rn ?_
    refine an (cf (xt (aft_cx (aft_ix (aft_x (an (sq ?_)))))))
    obtain ⟨x28, h29, h⟩ := bind_some h
    refine rn1 h29 ?_
    refine an (rt ?_)
    cases h
    simp [Ret, TB, EN, *]
  replace h := ite_t b15 h
  refine rn ?_
  refine an ?_
  rcases bcas (p0.Kind != 2) with b16 | b16
  · replace h := ite_f b16 h
    refine cf (xt (aft_cx (aft_ix (aft_x (an (sq ?_))))))
    obtain ⟨x26, h27, h⟩ := bind_some h
    refine rn1 h27 ?_
    refine an (rt ?_)
    cases h
    simp [Ret, TB, EN, *]
  replace h := ite_t b16 h
  refine ct (sk (an (sq (bk ?_))))
  rcases bcas (decide (0 ≤ (IntKind.i64.wrap (8 * v4)))) with b17 | b17
  · replace h := ite_f b17 h
    cases h
  replace h := ite_t b17 h
  obtain ⟨x18, h19, h⟩ := bind_some h
  apply SW_run
  · simp +decide only [E, reduceIte, Nat.reduceAdd, Nat.reduceMul, Bool.not_true, Bool.not_false, shr_ok, L, ti3, ti5, ti31, ti172, enB, EN, b3, f10, f11, f12, f13, f14, b15, b16, b17]
    refine ⟨by (have hb := app_some h19); simp [enB, List.length_append, strBytes_len] at hb ⊢ <;> omega, ?_⟩
    try simp +decide only [E, reduceIte, Nat.reduceAdd, Nat.reduceMul, Bool.not_true, Bool.not_false, shr_ok, L, ti3, ti5, ti31, ti172, enB, EN, b3, f10, f11, f12, f13, f14, b15, b16, b17]
    exact Is.mk _
  refine ab (an ?_)
  refine cu (fun s => s.t 1 = vP 1 1 0 ∧ s.t 3 = vR 100012 (u12 + 1) ∧ s.t 4 = vI v4 ∧ s.h 1 = (1, oX 172 (M.Key.en p0)) ∧ s.h 100012 = ((u12 + 1), oW 5 1 enB (r12 ++ [(IntKind.u8.wrap (IntKind.i64.wrap (BitVec.ofInt (IntKind.i64.bits) (Int.fdiv (IntKind.i64.wrap (p0.N + 1000000000000)) (2 ^ (min (IntKind.i64.wrap (8 * v4)).toNat IntKind.i64.bits))) &&& BitVec.ofInt (IntKind.i64.bits) 255).toNat))])) ∧ True) ?_
  rintro s20 ⟨f21, f22, f23, f24, f25, _⟩
  refine rn ?_
  refine aft_i ⟨mL1, by omega, (IntKind.i64.wrap (v4 - 1)), (r12 ++ [(IntKind.u8.wrap (IntKind.i64.wrap (BitVec.ofInt (IntKind.i64.bits) (Int.fdiv (IntKind.i64.wrap (p0.N + 1000000000000)) (2 ^ (min (IntKind.i64.wrap (8 * v4)).toNat IntKind.i64.bits))) &&& BitVec.ofInt (IntKind.i64.bits) 255).toNat))]), (u12 + 1), ?_, ?_, ?_, ?_, ?_, h⟩
  all_goals simp +decide only [F, reduceIte, Nat.reduceAdd, Bool.not_true, Bool.not_false, EN, *, -h]
instance : HasC 181 (type_of% @c181) := ⟨@c181⟩

end Go.Proofs.YtmpbibngijnfeaaGreat.gen
