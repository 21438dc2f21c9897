/-
  Helper text: walks: each function's contract out of its model. No conditions beyond those of each contract.
-/
import Derived.Test.YtgemmnkhddlhpaaGreatPutBucketTi
import Derived.Test.YtgemmnkhddlhpaaGreatPutBucketWmark0
namespace Go.Proofs.YtgemmnkhddlhpaaGreat.gen
open Go Go.Sh
set_option linter.unusedVariables false
set_option linter.unusedSimpArgs false
set_option maxRecDepth 20000
set_option maxHeartbeats 4000000
set_option maxHeartbeats 4000000 in
theorem c_laws_markBucketS (p0 : List M.Bucket) (p1 : Int) (r : (List M.Bucket × Int)) (h : m_laws_markBucketS p0 p1 = some r) : MCalls Tryz.prog 129 false ([.sl (List.map M.Bucket.en p0)]) ([.sl (List.map M.Bucket.en r.1)]) p1 r.2 := by
  unfold m_laws_markBucketS at h
  refine mcalls_of (N := 223) (r := 4) Tryz.func129 rfl rfl rfl (by decide +kernel) (by decide) fun cx => ?_
  refine msq (mrn ?_)
  refine man (msq (msq (mrn ?_)))
  refine man (mbk ?_)
  refine MW_loop (fun m s => ∃ v1 : Int, ∃ v5 : Int, ∃ r99 : List M.Bucket, s.t 0 = .unk ∧ s.m 0 = some (.top 0) ∧ s.t 1 = .v false [.dat (.int .i64 v1)] ∧ s.t 5 = .v false [.dat (.int .i64 v5)] ∧ s.ds = [.sl (List.map M.Bucket.en r99)] ∧ m_laws_markBucketS_L1 m v1 v5 r99 = some r) fuel ?_ ?_
  · refine ⟨p1, 0, p0, ?_, ?_, ?_, ?_, ?_, h⟩
    all_goals simp +decide only [MF, F, reduceIte, Nat.reduceAdd, Bool.not_true, Bool.not_false, EN, *, -h]
  rintro mL1 s1 ⟨v1, v5, r99, f2, f3, f4, f5, f6, h⟩
  rcases mL1 with _ | mL1
  · exact absurd h (by simp [m_laws_markBucketS_L1])
  simp only [m_laws_markBucketS_L1] at h
  refine msq (msq (mrn ?_))
  refine man ?_
  rcases bcas (decide (v5 < (List.length r99 : Int))) with b7 | b7
  · replace h := ite_f b7 h
    refine mcf (mxt (maft_cx (maft_ix (maft_x (man (msq (mrn ?_)))))))
    refine man (mrt ?_)
    cases h
    refine ⟨?_, ?_⟩ <;> (try simp +decide only [MF, F, ME, reduceIte, Nat.reduceAdd, EN, *])
  replace h := ite_t b7 h
  refine mct (msk (man (msq (mbk (msq ?_)))))
  obtain ⟨x8, h9, h⟩ := bind_some h
  obtain ⟨x10, h11, h⟩ := bind_some h
  obtain ⟨q12, q13, q14⟩ := idx_some h11
  refine mrn1 (c219 _ _ h9) ?_
  obtain ⟨y15, e16, h⟩ := bind_some h
  replace e16 := (Option.some.inj e16).symm
  refine man (msq ?_)
  refine mcu (fun s => s.t 0 = .unk ∧ s.m 0 = some (.top 0) ∧ s.t 1 = .v false [.dat (.int .i64 v1)] ∧ s.t 5 = .v false [.dat (.int .i64 v5)] ∧ s.ds = [.sl (List.map M.Bucket.en y15)] ∧ True) ?_
  rintro s17 ⟨f18, f19, f20, f21, f22, _⟩
  clear e16
  refine mrn ?_
  refine man (msq ?_)
  obtain ⟨x23, h24, h⟩ := bind_some h
  obtain ⟨x25, h26, h⟩ := bind_some h
  obtain ⟨q27, q28, q29⟩ := idx_some h26
  refine mrn1 (c219 _ _ h24) ?_
  obtain ⟨y30, e31, h⟩ := bind_some h
  replace e31 := (Option.some.inj e31).symm
  refine man (msq ?_)
  refine mcu (fun s => s.t 0 = .unk ∧ s.m 0 = some (.top 0) ∧ s.t 1 = .v false [.dat (.int .i64 (IntKind.i64.wrap (v1 + 1)))] ∧ s.t 5 = .v false [.dat (.int .i64 v5)] ∧ s.ds = [.sl (List.map M.Bucket.en y30)] ∧ True) ?_
  rintro s32 ⟨f33, f34, f35, f36, f37, _⟩
  clear e31
  refine mrn ?_
  refine man (msq ?_)
  obtain ⟨x38, h39, h⟩ := bind_some h
  obtain ⟨x40, h41, h⟩ := bind_some h
  obtain ⟨q42, q43, q44⟩ := idx_some h41
  refine mrn1 (c219 _ _ h39) ?_
  obtain ⟨y45, e46, h⟩ := bind_some h
  replace e46 := (Option.some.inj e46).symm
  refine man (msq ?_)
  refine mcu (fun s => s.t 0 = .unk ∧ s.m 0 = some (.top 0) ∧ s.t 1 = .v false [.dat (.int .i64 (IntKind.i64.wrap ((IntKind.i64.wrap (v1 + 1)) + 1)))] ∧ s.t 5 = .v false [.dat (.int .i64 v5)] ∧ s.ds = [.sl (List.map M.Bucket.en y45)] ∧ True) ?_
  rintro s47 ⟨f48, f49, f50, f51, f52, _⟩
  clear e46
  refine mrn ?_
  refine man (msq ?_)
  obtain ⟨x53, h54, h⟩ := bind_some h
  obtain ⟨q55, q56, q57⟩ := idx_some h54
  refine mrn ?_
  obtain ⟨y58, e59, h⟩ := bind_some h
  replace e59 := (Option.some.inj e59).symm
  refine man (msq ?_)
  refine mcu (fun s => s.t 0 = .unk ∧ s.m 0 = some (.top 0) ∧ s.t 1 = .v false [.dat (.int .i64 (IntKind.i64.wrap ((IntKind.i64.wrap ((IntKind.i64.wrap (v1 + 1)) + 1)) + 1)))] ∧ s.t 5 = .v false [.dat (.int .i64 v5)] ∧ s.ds = [.sl (List.map M.Bucket.en y58)] ∧ True) ?_
  rintro s60 ⟨f61, f62, f63, f64, f65, _⟩
  clear e59
  refine mrn ?_
  refine man (msq ?_)
  obtain ⟨x66, h67, h⟩ := bind_some h
  obtain ⟨q68, q69, q70⟩ := idx_some h67
  refine mrn ?_
  obtain ⟨y71, e72, h⟩ := bind_some h
  replace e72 := (Option.some.inj e72).symm
  refine man (msq ?_)
  refine mcu (fun s => s.t 0 = .unk ∧ s.m 0 = some (.top 0) ∧ s.t 1 = .v false [.dat (.int .i64 (IntKind.i64.wrap ((IntKind.i64.wrap ((IntKind.i64.wrap ((IntKind.i64.wrap (v1 + 1)) + 1)) + 1)) + 1)))] ∧ s.t 5 = .v false [.dat (.int .i64 v5)] ∧ s.ds = [.sl (List.map M.Bucket.en y71)] ∧ True) ?_
  rintro s73 ⟨f74, f75, f76, f77, f78, _⟩
  clear e72
  refine mrn ?_
  refine man (msq ?_)
  obtain ⟨x79, h80, h⟩ := bind_some h
  obtain ⟨q81, q82, q83⟩ := idx_some h80
  refine mrn ?_
  obtain ⟨y84, e85, h⟩ := bind_some h
  replace e85 := (Option.some.inj e85).symm
  refine man (msq ?_)
  refine mcu (fun s => s.t 0 = .unk ∧ s.m 0 = some (.top 0) ∧ s.t 1 = .v false [.dat (.int .i64 (IntKind.i64.wrap ((IntKind.i64.wrap ((IntKind.i64.wrap ((IntKind.i64.wrap ((IntKind.i64.wrap (v1 + 1)) + 1)) + 1)) + 1)) + 1)))] ∧ s.t 5 = .v false [.dat (.int .i64 v5)] ∧ s.ds = [.sl (List.map M.Bucket.en y84)] ∧ True) ?_
  rintro s86 ⟨f87, f88, f89, f90, f91, _⟩
  clear e85
  refine mrn ?_
  refine man (msq ?_)
  obtain ⟨x92, h93, h⟩ := bind_some h
  obtain ⟨q94, q95, q96⟩ := idx_some h93
  obtain ⟨x97, h98, h⟩ := bind_some h
  refine mrn1 (c_laws_markCacheS _ _ _ h98) ?_
  obtain ⟨y99, e100, h⟩ := bind_some h
  replace e100 := (Option.some.inj e100).symm
  refine man (msq ?_)
  refine mcu (fun s => s.t 0 = .unk ∧ s.m 0 = some (.top 0) ∧ s.t 1 = .v false [.dat (.int .i64 x97.2)] ∧ s.t 5 = .v false [.dat (.int .i64 v5)] ∧ s.ds = [.sl (List.map M.Bucket.en y99)] ∧ True) ?_
  rintro s101 ⟨f102, f103, f104, f105, f106, _⟩
  clear e100
  obtain ⟨x107, h108, h⟩ := bind_some h
  obtain ⟨x109, h110, h⟩ := bind_some h
  obtain ⟨q111, q112, q113⟩ := idx_some h110
  refine mrn1 (c219 _ _ h108) ?_
  obtain ⟨y114, e115, h⟩ := bind_some h
  replace e115 := (Option.some.inj e115).symm
  refine man (msq ?_)
  refine mcu (fun s => s.t 0 = .unk ∧ s.m 0 = some (.top 0) ∧ s.t 1 = .v false [.dat (.int .i64 x97.2)] ∧ s.t 5 = .v false [.dat (.int .i64 v5)] ∧ s.ds = [.sl (List.map M.Bucket.en y114)] ∧ True) ?_
  rintro s116 ⟨f117, f118, f119, f120, f121, _⟩
  clear e115
  refine mrn ?_
  refine man (msq ?_)
  obtain ⟨x122, h123, h⟩ := bind_some h
  obtain ⟨q124, q125, q126⟩ := idx_some h123
  refine mrn ?_
  obtain ⟨y127, e128, h⟩ := bind_some h
  replace e128 := (Option.some.inj e128).symm
  refine man (msq ?_)
  refine mcu (fun s => s.t 0 = .unk ∧ s.m 0 = some (.top 0) ∧ s.t 1 = .v false [.dat (.int .i64 (IntKind.i64.wrap (x97.2 + 1)))] ∧ s.t 5 = .v false [.dat (.int .i64 v5)] ∧ s.ds = [.sl (List.map M.Bucket.en y127)] ∧ True) ?_
  rintro s129 ⟨f130, f131, f132, f133, f134, _⟩
  clear e128
  refine mrn ?_
  refine man (msq ?_)
  obtain ⟨x135, h136, h⟩ := bind_some h
  obtain ⟨q137, q138, q139⟩ := idx_some h136
  obtain ⟨x140, h141, h⟩ := bind_some h
  refine mrn1 (c_laws_markStoreS _ _ _ h141) ?_
  obtain ⟨y142, e143, h⟩ := bind_some h
  replace e143 := (Option.some.inj e143).symm
  refine man (msq ?_)
  refine mcu (fun s => s.t 0 = .unk ∧ s.m 0 = some (.top 0) ∧ s.t 1 = .v false [.dat (.int .i64 x140.2)] ∧ s.t 5 = .v false [.dat (.int .i64 v5)] ∧ s.ds = [.sl (List.map M.Bucket.en y142)] ∧ True) ?_
  rintro s144 ⟨f145, f146, f147, f148, f149, _⟩
  clear e143
  obtain ⟨x150, h151, h⟩ := bind_some h
  obtain ⟨q152, q153, q154⟩ := idx_some h151
  obtain ⟨x155, h156, h⟩ := bind_some h
  refine mrn1 (c_laws_markIndexDefS _ _ _ h156) ?_
  obtain ⟨y157, e158, h⟩ := bind_some h
  replace e158 := (Option.some.inj e158).symm
  refine man (msq ?_)
  refine mcu (fun s => s.t 0 = .unk ∧ s.m 0 = some (.top 0) ∧ s.t 1 = .v false [.dat (.int .i64 x155.2)] ∧ s.t 5 = .v false [.dat (.int .i64 v5)] ∧ s.ds = [.sl (List.map M.Bucket.en y157)] ∧ True) ?_
  rintro s159 ⟨f160, f161, f162, f163, f164, _⟩
  clear e158
  obtain ⟨x165, h166, h⟩ := bind_some h
  obtain ⟨q167, q168, q169⟩ := idx_some h166
  obtain ⟨x170, h171, h⟩ := bind_some h
  refine mrn1 (c_laws_markByteS _ _ _ h171) ?_
  obtain ⟨y172, e173, h⟩ := bind_some h
  replace e173 := (Option.some.inj e173).symm
  refine man (msq ?_)
  refine mcu (fun s => s.t 0 = .unk ∧ s.m 0 = some (.top 0) ∧ s.t 1 = .v false [.dat (.int .i64 x170.2)] ∧ s.t 5 = .v false [.dat (.int .i64 v5)] ∧ s.ds = [.sl (List.map M.Bucket.en y172)] ∧ True) ?_
  rintro s174 ⟨f175, f176, f177, f178, f179, _⟩
  clear e173
  obtain ⟨x180, h181, h⟩ := bind_some h
  obtain ⟨q182, q183, q184⟩ := idx_some h181
  refine mrn ?_
  obtain ⟨y185, e186, h⟩ := bind_some h
  replace e186 := (Option.some.inj e186).symm
  refine man (msq ?_)
  refine mcu (fun s => s.t 0 = .unk ∧ s.m 0 = some (.top 0) ∧ s.t 1 = .v false [.dat (.int .i64 x170.2)] ∧ s.t 5 = .v false [.dat (.int .i64 v5)] ∧ s.ds = [.sl (List.map M.Bucket.en y185)] ∧ True) ?_
  rintro s187 ⟨f188, f189, f190, f191, f192, _⟩
  clear e186
  refine mrn ?_
  refine man (msq ?_)
  obtain ⟨x193, h194, h⟩ := bind_some h
  obtain ⟨x195, h196, h⟩ := bind_some h
  obtain ⟨q197, q198, q199⟩ := idx_some h196
  refine mrn1 (c219 _ _ h194) ?_
  obtain ⟨y200, e201, h⟩ := bind_some h
  replace e201 := (Option.some.inj e201).symm
  refine man (msq ?_)
  refine mcu (fun s => s.t 0 = .unk ∧ s.m 0 = some (.top 0) ∧ s.t 1 = .v false [.dat (.int .i64 (IntKind.i64.wrap (x170.2 + 1)))] ∧ s.t 5 = .v false [.dat (.int .i64 v5)] ∧ s.ds = [.sl (List.map M.Bucket.en y200)] ∧ True) ?_
  rintro s202 ⟨f203, f204, f205, f206, f207, _⟩
  clear e201
  refine mrn ?_
  refine man (msq ?_)
  obtain ⟨x208, h209, h⟩ := bind_some h
  obtain ⟨q210, q211, q212⟩ := idx_some h209
  obtain ⟨x213, h214, h⟩ := bind_some h
  refine mrn1 (c_laws_markItemS _ _ _ h214) ?_
  obtain ⟨y215, e216, h⟩ := bind_some h
  replace e216 := (Option.some.inj e216).symm
  refine man (msq ?_)
  refine mcu (fun s => s.t 0 = .unk ∧ s.m 0 = some (.top 0) ∧ s.t 1 = .v false [.dat (.int .i64 x213.2)] ∧ s.t 5 = .v false [.dat (.int .i64 v5)] ∧ s.ds = [.sl (List.map M.Bucket.en y215)] ∧ True) ?_
  rintro s217 ⟨f218, f219, f220, f221, f222, _⟩
  clear e216
  obtain ⟨x223, h224, h⟩ := bind_some h
  obtain ⟨q225, q226, q227⟩ := idx_some h224
  refine mrn ?_
  obtain ⟨y228, e229, h⟩ := bind_some h
  replace e229 := (Option.some.inj e229).symm
  refine man (msq ?_)
  refine mcu (fun s => s.t 0 = .unk ∧ s.m 0 = some (.top 0) ∧ s.t 1 = .v false [.dat (.int .i64 x213.2)] ∧ s.t 5 = .v false [.dat (.int .i64 v5)] ∧ s.ds = [.sl (List.map M.Bucket.en y228)] ∧ True) ?_
  rintro s230 ⟨f231, f232, f233, f234, f235, _⟩
  clear e229
  refine mrn ?_
  refine man (msq ?_)
  obtain ⟨x236, h237, h⟩ := bind_some h
  obtain ⟨q238, q239, q240⟩ := idx_some h237
  refine mrn ?_
  obtain ⟨y241, e242, h⟩ := bind_some h
  replace e242 := (Option.some.inj e242).symm
  refine man (msq ?_)
  refine mcu (fun s => s.t 0 = .unk ∧ s.m 0 = some (.top 0) ∧ s.t 1 = .v false [.dat (.int .i64 (IntKind.i64.wrap (x213.2 + 1)))] ∧ s.t 5 = .v false [.dat (.int .i64 v5)] ∧ s.ds = [.sl (List.map M.Bucket.en y241)] ∧ True) ?_
  rintro s243 ⟨f244, f245, f246, f247, f248, _⟩
  clear e242
  refine mrn ?_
  refine man (msq ?_)
  obtain ⟨x249, h250, h⟩ := bind_some h
  obtain ⟨q251, q252, q253⟩ := idx_some h250
  refine mrn ?_
  obtain ⟨y254, e255, h⟩ := bind_some h
  replace e255 := (Option.some.inj e255).symm
  refine man (msq ?_)
  refine mcu (fun s => s.t 0 = .unk ∧ s.m 0 = some (.top 0) ∧ s.t 1 = .v false [.dat (.int .i64 (IntKind.i64.wrap ((IntKind.i64.wrap (x213.2 + 1)) + 1)))] ∧ s.t 5 = .v false [.dat (.int .i64 v5)] ∧ s.ds = [.sl (List.map M.Bucket.en y254)] ∧ True) ?_
  rintro s256 ⟨f257, f258, f259, f260, f261, _⟩
  clear e255
  refine mrn ?_
  refine man (msq ?_)
  obtain ⟨x262, h263, h⟩ := bind_some h
  obtain ⟨q264, q265, q266⟩ := idx_some h263
  refine mrn ?_
  obtain ⟨y267, e268, h⟩ := bind_some h
  replace e268 := (Option.some.inj e268).symm
  refine man (msq ?_)
  refine mcu (fun s => s.t 0 = .unk ∧ s.m 0 = some (.top 0) ∧ s.t 1 = .v false [.dat (.int .i64 (IntKind.i64.wrap ((IntKind.i64.wrap ((IntKind.i64.wrap (x213.2 + 1)) + 1)) + 1)))] ∧ s.t 5 = .v false [.dat (.int .i64 v5)] ∧ s.ds = [.sl (List.map M.Bucket.en y267)] ∧ True) ?_
  rintro s269 ⟨f270, f271, f272, f273, f274, _⟩
  clear e268
  refine mrn ?_
  refine man (msq ?_)
  obtain ⟨x275, h276, h⟩ := bind_some h
  obtain ⟨q277, q278, q279⟩ := idx_some h276
  obtain ⟨x280, h281, h⟩ := bind_some h
  refine mrn1 (c_laws_markWriteS _ _ _ h281) ?_
  obtain ⟨y282, e283, h⟩ := bind_some h
  replace e283 := (Option.some.inj e283).symm
  refine man (msq ?_)
  refine mcu (fun s => s.t 0 = .unk ∧ s.m 0 = some (.top 0) ∧ s.t 1 = .v false [.dat (.int .i64 x280.2)] ∧ s.t 5 = .v false [.dat (.int .i64 v5)] ∧ s.ds = [.sl (List.map M.Bucket.en y282)] ∧ True) ?_
  rintro s284 ⟨f285, f286, f287, f288, f289, _⟩
  clear e283
  obtain ⟨x290, h291, h⟩ := bind_some h
  obtain ⟨q292, q293, q294⟩ := idx_some h291
  refine mrn ?_
  obtain ⟨y295, e296, h⟩ := bind_some h
  replace e296 := (Option.some.inj e296).symm
  refine man (msq ?_)
  refine mcu (fun s => s.t 0 = .unk ∧ s.m 0 = some (.top 0) ∧ s.t 1 = .v false [.dat (.int .i64 x280.2)] ∧ s.t 5 = .v false [.dat (.int .i64 v5)] ∧ s.ds = [.sl (List.map M.Bucket.en y295)] ∧ True) ?_
  rintro s297 ⟨f298, f299, f300, f301, f302, _⟩
  clear e296
  refine mrn ?_
  refine man (msq ?_)
  obtain ⟨x303, h304, h⟩ := bind_some h
  obtain ⟨q305, q306, q307⟩ := idx_some h304
  refine mrn ?_
  obtain ⟨y308, e309, h⟩ := bind_some h
  replace e309 := (Option.some.inj e309).symm
  refine man (msq ?_)
  refine mcu (fun s => s.t 0 = .unk ∧ s.m 0 = some (.top 0) ∧ s.t 1 = .v false [.dat (.int .i64 (IntKind.i64.wrap (x280.2 + 1)))] ∧ s.t 5 = .v false [.dat (.int .i64 v5)] ∧ s.ds = [.sl (List.map M.Bucket.en y308)] ∧ True) ?_
  rintro s310 ⟨f311, f312, f313, f314, f315, _⟩
  clear e309
  refine mrn ?_
  refine man (msq ?_)
  obtain ⟨x316, h317, h⟩ := bind_some h
  obtain ⟨q318, q319, q320⟩ := idx_some h317
  refine mrn ?_
  obtain ⟨y321, e322, h⟩ := bind_some h
  replace e322 := (Option.some.inj e322).symm
  refine man (msq ?_)
  refine mcu (fun s => s.t 0 = .unk ∧ s.m 0 = some (.top 0) ∧ s.t 1 = .v false [.dat (.int .i64 (IntKind.i64.wrap ((IntKind.i64.wrap (x280.2 + 1)) + 1)))] ∧ s.t 5 = .v false [.dat (.int .i64 v5)] ∧ s.ds = [.sl (List.map M.Bucket.en y321)] ∧ True) ?_
  rintro s323 ⟨f324, f325, f326, f327, f328, _⟩
  clear e322
  refine mrn ?_
  refine man (msq ?_)
  obtain ⟨x329, h330, h⟩ := bind_some h
  obtain ⟨q331, q332, q333⟩ := idx_some h330
  refine mrn ?_
  obtain ⟨y334, e335, h⟩ := bind_some h
  replace e335 := (Option.some.inj e335).symm
  refine man ?_
  refine mcu (fun s => s.t 0 = .unk ∧ s.m 0 = some (.top 0) ∧ s.t 1 = .v false [.dat (.int .i64 (IntKind.i64.wrap ((IntKind.i64.wrap ((IntKind.i64.wrap (x280.2 + 1)) + 1)) + 1)))] ∧ s.t 5 = .v false [.dat (.int .i64 v5)] ∧ s.ds = [.sl (List.map M.Bucket.en y334)] ∧ True) ?_
  rintro s336 ⟨f337, f338, f339, f340, f341, _⟩
  clear e335
  refine mrn ?_
  refine mab (man (mrn ?_))
  refine maft_i ⟨mL1, by omega, (IntKind.i64.wrap ((IntKind.i64.wrap ((IntKind.i64.wrap ((IntKind.i64.wrap (x280.2 + 1)) + 1)) + 1)) + 1)), (IntKind.i64.wrap (v5 + 1)), y334, ?_, ?_, ?_, ?_, ?_, h⟩
  all_goals simp +decide only [MF, F, reduceIte, Nat.reduceAdd, Bool.not_true, Bool.not_false, EN, *, -h]

set_option maxHeartbeats 4000000 in
theorem c_laws_markStorage (p0 : M.Storage) (p1 : Int) (r : (List M.Bucket × Int)) (h : m_laws_markStorage p0 p1 = some r) : MCalls Tryz.prog 47 true (M.Storage.en p0) ([.sl (List.map M.Bucket.en r.1)]) p1 r.2 := by
  unfold m_laws_markStorage at h
  simp only [M.Storage.en]
  refine mcalls_of (N := 10) (r := 4) Tryz.func47 rfl rfl rfl (by decide +kernel) (by decide) fun cx => ?_
  refine msq (mrn ?_)
  refine man (msq ?_)
  obtain ⟨x1, h2, h⟩ := bind_some h
  refine mrn1 (c_laws_markBucketS _ _ _ h2) ?_
  refine man (msq (mrn ?_))
  refine man (mrt ?_)
  cases h
  refine ⟨?_, ?_⟩ <;> (try simp +decide only [MF, F, ME, reduceIte, Nat.reduceAdd, EN, *])

set_option maxHeartbeats 4000000 in
theorem c_laws_markCacheSet (p0 : M.CacheSet) (p1 : Int) (r : (List M.Cache × Int)) (h : m_laws_markCacheSet p0 p1 = some r) : MCalls Tryz.prog 41 true (M.CacheSet.en p0) ([.sl (List.map M.Cache.en r.1)]) p1 r.2 := by
  unfold m_laws_markCacheSet at h
  simp only [M.CacheSet.en]
  refine mcalls_of (N := 10) (r := 4) Tryz.func41 rfl rfl rfl (by decide +kernel) (by decide) fun cx => ?_
  refine msq (mrn ?_)
  refine man (msq ?_)
  obtain ⟨x1, h2, h⟩ := bind_some h
  refine mrn1 (c_laws_markCacheS _ _ _ h2) ?_
  refine man (msq (mrn ?_))
  refine man (mrt ?_)
  cases h
  refine ⟨?_, ?_⟩ <;> (try simp +decide only [MF, F, ME, reduceIte, Nat.reduceAdd, EN, *])

set_option maxHeartbeats 4000000 in
theorem c_laws_markDatabase (p0 : M.Database) (p1 : Int) (r : (List M.Store × List M.IndexDef × Int)) (h : m_laws_markDatabase p0 p1 = some r) : MCalls Tryz.prog 100 true (M.Database.en p0) ([.str p0.Name, .int .i64 p0.Version, .sl (List.map M.Store.en r.1), .sl (List.map M.IndexDef.en r.2.1)]) p1 r.2.2 := by
  unfold m_laws_markDatabase at h
  simp only [M.Database.en]
  refine mcalls_of (N := 14) (r := 4) Tryz.func100 rfl rfl rfl (by decide +kernel) (by decide) fun cx => ?_
  refine msq (mrn ?_)
  refine man (msq ?_)
  obtain ⟨x1, h2, h⟩ := bind_some h
  refine mrn1 (c_laws_markStoreS _ _ _ h2) ?_
  refine man (msq ?_)
  refine mcu (fun s => s.t 1 = .v false [.dat (.int .i64 x1.2)] ∧ s.t 2 = .unk ∧ s.m 2 = some (.bx 0) ∧ s.ds = [.str p0.Name, .int .i64 p0.Version, .sl (List.map M.Store.en x1.1), .sl (List.map M.IndexDef.en p0.Unique)] ∧ True) ?_
  rintro s3 ⟨f4, f5, f6, f7, _⟩
  obtain ⟨x8, h9, h⟩ := bind_some h
  refine mrn1 (c_laws_markIndexDefS _ _ _ h9) ?_
  refine man (msq (mrn ?_))
  refine man (mrt ?_)
  cases h
  refine ⟨?_, ?_⟩ <;> (try simp +decide only [MF, F, ME, reduceIte, Nat.reduceAdd, EN, *])

set_option maxHeartbeats 4000000 in
theorem c_laws_markDisk (p0 : M.Disk) (p1 : Int) (r : (List M.Store × List M.IndexDef × List Int × Int)) (h : m_laws_markDisk p0 p1 = some r) : MCalls Tryz.prog 27 true (M.Disk.en p0) ([.str p0.Base.Name, .int .i64 p0.Base.Version, .sl (List.map M.Store.en r.1), .sl (List.map M.IndexDef.en r.2.1), .sl (List.map enB r.2.2.1), .int .i64 p0.Count]) p1 r.2.2.2 := by
  unfold m_laws_markDisk at h
  simp only [M.Disk.en]
  refine mcalls_of (N := 14) (r := 4) Tryz.func27 rfl rfl rfl (by decide +kernel) (by decide) fun cx => ?_
  refine msq (mrn ?_)
  refine man (msq ?_)
  obtain ⟨x1, h2, h⟩ := bind_some h
  refine mrn1 (c_laws_markDatabase _ _ _ h2) ?_
  refine man (msq ?_)
  refine mcu (fun s => s.t 1 = .v false [.dat (.int .i64 x1.2.2)] ∧ s.t 2 = .unk ∧ s.m 2 = some (.bx 0) ∧ s.ds = [.str p0.Base.Name, .int .i64 p0.Base.Version, .sl (List.map M.Store.en x1.1), .sl (List.map M.IndexDef.en x1.2.1), .sl (List.map enB p0.Log), .int .i64 p0.Count] ∧ True) ?_
  rintro s3 ⟨f4, f5, f6, f7, _⟩
  obtain ⟨x8, h9, h⟩ := bind_some h
  refine mrn1 (c_laws_markByteS _ _ _ h9) ?_
  refine man (msq (mrn ?_))
  refine man (mrt ?_)
  cases h
  refine ⟨?_, ?_⟩ <;> (try simp +decide only [MF, F, ME, reduceIte, Nat.reduceAdd, EN, *])

set_option maxHeartbeats 4000000 in
theorem c_laws_markStore (p0 : M.Store) (p1 : Int) (r : (List M.Item × Int)) (h : m_laws_markStore p0 p1 = some r) : MCalls Tryz.prog 109 true (M.Store.en p0) ([.str p0.Name, .sl (List.map M.Item.en r.1), .int .i64 p0.Auto]) p1 r.2 := by
  unfold m_laws_markStore at h
  simp only [M.Store.en]
  refine mcalls_of (N := 10) (r := 4) Tryz.func109 rfl rfl rfl (by decide +kernel) (by decide) fun cx => ?_
  refine msq (mrn ?_)
  refine man (msq ?_)
  obtain ⟨x1, h2, h⟩ := bind_some h
  refine mrn1 (c_laws_markItemS _ _ _ h2) ?_
  refine man (msq (mrn ?_))
  refine man (mrt ?_)
  cases h
  refine ⟨?_, ?_⟩ <;> (try simp +decide only [MF, F, ME, reduceIte, Nat.reduceAdd, EN, *])

set_option maxHeartbeats 4000000 in
theorem c_laws_markOutbox (p0 : M.Outbox) (p1 : Int) (r : (List M.Write × Int)) (h : m_laws_markOutbox p0 p1 = some r) : MCalls Tryz.prog 206 true (M.Outbox.en p0) ([.int .i64 p0.Device, .int .i64 p0.Next, .sl (List.map M.Write.en r.1)]) p1 r.2 := by
  unfold m_laws_markOutbox at h
  simp only [M.Outbox.en]
  refine mcalls_of (N := 10) (r := 4) Tryz.func206 rfl rfl rfl (by decide +kernel) (by decide) fun cx => ?_
  refine msq (mrn ?_)
  refine man (msq ?_)
  obtain ⟨x1, h2, h⟩ := bind_some h
  refine mrn1 (c_laws_markWriteS _ _ _ h2) ?_
  refine man (msq (mrn ?_))
  refine man (mrt ?_)
  cases h
  refine ⟨?_, ?_⟩ <;> (try simp +decide only [MF, F, ME, reduceIte, Nat.reduceAdd, EN, *])

set_option maxHeartbeats 4000000 in
theorem c_laws_markSync (p0 : M.Sync) (p1 : Int) (r : (List M.Write × Int)) (h : m_laws_markSync p0 p1 = some r) : MCalls Tryz.prog 110 true (M.Sync.en p0) ([.int .i64 p0.Outbox.Device, .int .i64 p0.Outbox.Next, .sl (List.map M.Write.en r.1), .int .i64 p0.Tries, .int .i64 p0.WaitUntil]) p1 r.2 := by
  unfold m_laws_markSync at h
  simp only [M.Sync.en]
  refine mcalls_of (N := 10) (r := 4) Tryz.func110 rfl rfl rfl (by decide +kernel) (by decide) fun cx => ?_
  refine msq (mrn ?_)
  refine man (msq ?_)
  obtain ⟨x1, h2, h⟩ := bind_some h
  refine mrn1 (c_laws_markOutbox _ _ _ h2) ?_
  refine man (msq (mrn ?_))
  refine man (mrt ?_)
  cases h
  refine ⟨?_, ?_⟩ <;> (try simp +decide only [MF, F, ME, reduceIte, Nat.reduceAdd, EN, *])

set_option maxHeartbeats 4000000 in
theorem c_laws_markReplica (p0 : M.Replica) (p1 : Int) (r : (List M.Item × List M.Write × Int)) (h : m_laws_markReplica p0 p1 = some r) : MCalls Tryz.prog 33 true (M.Replica.en p0) ([.str p0.Base.Name, .sl (List.map M.Item.en r.1), .int .i64 p0.Base.Auto, .int .i64 p0.Seen, .int .i64 p0.Sync.Outbox.Device, .int .i64 p0.Sync.Outbox.Next, .sl (List.map M.Write.en r.2.1), .int .i64 p0.Sync.Tries, .int .i64 p0.Sync.WaitUntil]) p1 r.2.2 := by
  unfold m_laws_markReplica at h
  simp only [M.Replica.en]
  refine mcalls_of (N := 14) (r := 4) Tryz.func33 rfl rfl rfl (by decide +kernel) (by decide) fun cx => ?_
  refine msq (mrn ?_)
  refine man (msq ?_)
  obtain ⟨x1, h2, h⟩ := bind_some h
  refine mrn1 (c_laws_markStore _ _ _ h2) ?_
  refine man (msq ?_)
  refine mcu (fun s => s.t 1 = .v false [.dat (.int .i64 x1.2)] ∧ s.t 2 = .unk ∧ s.m 2 = some (.bx 0) ∧ s.ds = [.str p0.Base.Name, .sl (List.map M.Item.en x1.1), .int .i64 p0.Base.Auto, .int .i64 p0.Seen, .int .i64 p0.Sync.Outbox.Device, .int .i64 p0.Sync.Outbox.Next, .sl (List.map M.Write.en p0.Sync.Outbox.Writes), .int .i64 p0.Sync.Tries, .int .i64 p0.Sync.WaitUntil] ∧ True) ?_
  rintro s3 ⟨f4, f5, f6, f7, _⟩
  obtain ⟨x8, h9, h⟩ := bind_some h
  refine mrn1 (c_laws_markSync _ _ _ h9) ?_
  refine man (msq (mrn ?_))
  refine man (mrt ?_)
  cases h
  refine ⟨?_, ?_⟩ <;> (try simp +decide only [MF, F, ME, reduceIte, Nat.reduceAdd, EN, *])

set_option maxHeartbeats 4000000 in
theorem c_laws_markBucket (p0 : M.Bucket) (p1 : Int) (r : (List M.Cache × List M.Store × List M.IndexDef × List Int × List M.Item × List M.Write × Int)) (h : m_laws_markBucket p0 p1 = some r) : MCalls Tryz.prog 13 true (M.Bucket.en p0) ([.str p0.Site, .str p0.Top, .str p0.Registration.Site, .int .i64 p0.Registration.Installing, .int .i64 p0.Registration.Waiting, .int .i64 p0.Registration.Active, .sl (List.map M.Cache.en r.1), .str p0.Disk.Base.Name, .int .i64 p0.Disk.Base.Version, .sl (List.map M.Store.en r.2.1), .sl (List.map M.IndexDef.en r.2.2.1), .sl (List.map enB r.2.2.2.1), .int .i64 p0.Disk.Count, .str p0.Replica.Base.Name, .sl (List.map M.Item.en r.2.2.2.2.1), .int .i64 p0.Replica.Base.Auto, .int .i64 p0.Replica.Seen, .int .i64 p0.Replica.Sync.Outbox.Device, .int .i64 p0.Replica.Sync.Outbox.Next, .sl (List.map M.Write.en r.2.2.2.2.2.1), .int .i64 p0.Replica.Sync.Tries, .int .i64 p0.Replica.Sync.WaitUntil, .int .i64 p0.LastUsed, .bool p0.Persistent]) p1 r.2.2.2.2.2.2 := by
  unfold m_laws_markBucket at h
  simp only [M.Bucket.en]
  refine mcalls_of (N := 18) (r := 4) Tryz.func13 rfl rfl rfl (by decide +kernel) (by decide) fun cx => ?_
  refine msq (mrn ?_)
  refine man (msq ?_)
  obtain ⟨x1, h2, h⟩ := bind_some h
  refine mrn1 (c_laws_markCacheSet _ _ _ h2) ?_
  refine man (msq ?_)
  refine mcu (fun s => s.t 1 = .v false [.dat (.int .i64 x1.2)] ∧ s.t 2 = .unk ∧ s.m 2 = some (.bx 0) ∧ s.ds = [.str p0.Site, .str p0.Top, .str p0.Registration.Site, .int .i64 p0.Registration.Installing, .int .i64 p0.Registration.Waiting, .int .i64 p0.Registration.Active, .sl (List.map M.Cache.en x1.1), .str p0.Disk.Base.Name, .int .i64 p0.Disk.Base.Version, .sl (List.map M.Store.en p0.Disk.Base.Stores), .sl (List.map M.IndexDef.en p0.Disk.Base.Unique), .sl (List.map enB p0.Disk.Log), .int .i64 p0.Disk.Count, .str p0.Replica.Base.Name, .sl (List.map M.Item.en p0.Replica.Base.Items), .int .i64 p0.Replica.Base.Auto, .int .i64 p0.Replica.Seen, .int .i64 p0.Replica.Sync.Outbox.Device, .int .i64 p0.Replica.Sync.Outbox.Next, .sl (List.map M.Write.en p0.Replica.Sync.Outbox.Writes), .int .i64 p0.Replica.Sync.Tries, .int .i64 p0.Replica.Sync.WaitUntil, .int .i64 p0.LastUsed, .bool p0.Persistent] ∧ True) ?_
  rintro s3 ⟨f4, f5, f6, f7, _⟩
  obtain ⟨x8, h9, h⟩ := bind_some h
  refine mrn1 (c_laws_markDisk _ _ _ h9) ?_
  refine man (msq ?_)
  refine mcu (fun s => s.t 1 = .v false [.dat (.int .i64 x8.2.2.2)] ∧ s.t 2 = .unk ∧ s.m 2 = some (.bx 0) ∧ s.ds = [.str p0.Site, .str p0.Top, .str p0.Registration.Site, .int .i64 p0.Registration.Installing, .int .i64 p0.Registration.Waiting, .int .i64 p0.Registration.Active, .sl (List.map M.Cache.en x1.1), .str p0.Disk.Base.Name, .int .i64 p0.Disk.Base.Version, .sl (List.map M.Store.en x8.1), .sl (List.map M.IndexDef.en x8.2.1), .sl (List.map enB x8.2.2.1), .int .i64 p0.Disk.Count, .str p0.Replica.Base.Name, .sl (List.map M.Item.en p0.Replica.Base.Items), .int .i64 p0.Replica.Base.Auto, .int .i64 p0.Replica.Seen, .int .i64 p0.Replica.Sync.Outbox.Device, .int .i64 p0.Replica.Sync.Outbox.Next, .sl (List.map M.Write.en p0.Replica.Sync.Outbox.Writes), .int .i64 p0.Replica.Sync.Tries, .int .i64 p0.Replica.Sync.WaitUntil, .int .i64 p0.LastUsed, .bool p0.Persistent] ∧ True) ?_
  rintro s10 ⟨f11, f12, f13, f14, _⟩
  obtain ⟨x15, h16, h⟩ := bind_some h
  refine mrn1 (c_laws_markReplica _ _ _ h16) ?_
  refine man (msq (mrn ?_))
  refine man (mrt ?_)
  cases h
  refine ⟨?_, ?_⟩ <;> (try simp +decide only [MF, F, ME, reduceIte, Nat.reduceAdd, EN, *])

end Go.Proofs.YtgemmnkhddlhpaaGreat.gen
