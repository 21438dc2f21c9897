/-
  Helper text. No conditions.
-/
import Derived.Test.YtnhpbpnhmapeeaaGreatSendNoteTi
namespace Go.Proofs.YtnhpbpnhmapeeaaGreat.gen
open Go Go.Sh
open Go.IntKind (i64)
set_option linter.unusedVariables false
set_option linter.unusedSimpArgs false
set_option maxRecDepth 20000
set_option maxHeartbeats 4000000
theorem aDr (p0 r) (h:aJ p0=some r):Sc 126 [aI p0] [rS r]:=by
 have i1:=inv fun m s=>∃v0:Int,∃v3:ByteArray,(s.t 0=vI v0∧s.t 3=vS v3)∧kQ m v0 v3=some r
 have e1:=@kQ.eq_2
 unfold aJ at h
 exact sgo 20 [.tmp 2] Tryz.func126
instance:bG 126 (type_of% @aDr):=⟨@aDr⟩
set_option maxHeartbeats 4000000 in
theorem aCv (p0:List Int) (p1:Int) (r:(List Int×Int)) (h:oD p0 p1=some r):lT Tryz.prog 291 false ([.sl (List.map enB p0)]) ([.sl (List.map enB r.1)]) p1 r.2:=by
 unfold oD at h
 refine fE (N:=20) (r:=4) Tryz.func291 rfl rfl rfl (by decide +kernel) (by decide) fun cx => ?_
 refine msq (mrn ?_)
 refine man (msq (msq (mrn ?_)))
 refine man (mbk ?_)
 refine sH (fun m s=>∃v1:Int,∃v5:Int,∃r99:List Int,s.t 0 = .unk∧s.m 0=some (.top 0)∧s.t 1 = .v false [.dat (.int .i64 v1)]∧s.t 5 = .v false [.dat (.int .i64 v5)]∧s.ds=[.sl (List.map enB r99)]∧dS m v1 v5 r99=some r) fuel ?_ ?_
 ·refine ⟨p1,0,p0,?_,?_,?_,?_,?_,h⟩
  all_goals simp +decide only [MF,F,reduceIte,Nat.reduceAdd,Bool.not_true,Bool.not_false,EN, *,-h]
 rintro mL1 s1 ⟨v1,v5,r99,f2,f3,f4,f5,f6,h⟩
 rcases mL1 with _ | mL1
 ·exact absurd h (by simp [dS])
 simp only [dS] at h
 refine msq (msq (mrn ?_))
 refine man ?_
 rcases rQ (decide (v5<(List.length r99:Int))) with b7 | b7
 ·replace h:=bA b7 h
  refine mcf (mxt (sE (sD (aAZ (man (msq (mrn ?_)))))))
  refine man (mrt ?_)
  cases h
  refine ⟨?_,?_⟩<;>(try simp +decide only [MF,F,ME,reduceIte,Nat.reduceAdd,EN, *])
 replace h:=bB b7 h
 refine mct (msk (man (msq (mbk (msq ?_)))))
 obtain ⟨x8,h9,h⟩:=bind_some h
 obtain ⟨q10,q11,q12⟩:=aR h9
 refine mrn ?_
 obtain ⟨y13,e14,h⟩:=bind_some h
 replace e14:=(Option.some.inj e14).symm
 refine man ?_
 refine mcu (fun s=>s.t 0 = .unk∧s.m 0=some (.top 0)∧s.t 1 = .v false [.dat (.int .i64 v1)]∧s.t 5 = .v false [.dat (.int .i64 v5)]∧s.ds=[.sl (List.map enB y13)]∧True) ?_
 rintro s15 ⟨f16,f17,f18,f19,f20,_⟩
 clear e14
 refine mrn ?_
 refine mab (man (mrn ?_))
 refine aAl ⟨mL1,by omega,(i64.wrap (v1+1)),(i64.wrap (v5+1)),y13,?_,?_,?_,?_,?_,h⟩
 all_goals simp +decide only [MF,F,reduceIte,Nat.reduceAdd,Bool.not_true,Bool.not_false,EN, *,-h]
set_option maxHeartbeats 4000000 in
theorem aEQ (p0:List M.Cached) (p1:Int) (r:(List M.Cached×Int)) (h:oN p0 p1=some r):lT Tryz.prog 368 false ([.sl (List.map M.Cached.en p0)]) ([.sl (List.map M.Cached.en r.1)]) p1 r.2:=by
 unfold oN at h
 refine fE (N:=71) (r:=4) Tryz.func368 rfl rfl rfl (by decide +kernel) (by decide) fun cx => ?_
 refine msq (mrn ?_)
 refine man (msq (msq (mrn ?_)))
 refine man (mbk ?_)
 refine sH (fun m s=>∃v1:Int,∃v5:Int,∃r99:List M.Cached,s.t 0 = .unk∧s.m 0=some (.top 0)∧s.t 1 = .v false [.dat (.int .i64 v1)]∧s.t 5 = .v false [.dat (.int .i64 v5)]∧s.ds=[.sl (List.map M.Cached.en r99)]∧cN m v1 v5 r99=some r) fuel ?_ ?_
 ·refine ⟨p1,0,p0,?_,?_,?_,?_,?_,h⟩
  all_goals simp +decide only [MF,F,reduceIte,Nat.reduceAdd,Bool.not_true,Bool.not_false,EN, *,-h]
 rintro mL1 s1 ⟨v1,v5,r99,f2,f3,f4,f5,f6,h⟩
 rcases mL1 with _ | mL1
 ·exact absurd h (by simp [cN])
 simp only [cN] at h
 refine msq (msq (mrn ?_))
 refine man ?_
 rcases rQ (decide (v5<(List.length r99:Int))) with b7 | b7
 ·replace h:=bA b7 h
  refine mcf (mxt (sE (sD (aAZ (man (msq (mrn ?_)))))))
  refine man (mrt ?_)
  cases h
  refine ⟨?_,?_⟩<;>(try simp +decide only [MF,F,ME,reduceIte,Nat.reduceAdd,EN, *])
 replace h:=bB b7 h
 refine mct (msk (man (msq (mbk (msq ?_)))))
 obtain ⟨x8,h9,h⟩:=bind_some h
 obtain ⟨x10,h11,h⟩:=bind_some h
 obtain ⟨q12,q13,q14⟩:=aR h11
 refine aBR (aDr _ _ h9) ?_
 obtain ⟨y15,e16,h⟩:=bind_some h
 replace e16:=(Option.some.inj e16).symm
 refine man (msq ?_)
 refine mcu (fun s=>s.t 0 = .unk∧s.m 0=some (.top 0)∧s.t 1 = .v false [.dat (.int .i64 v1)]∧s.t 5 = .v false [.dat (.int .i64 v5)]∧s.ds=[.sl (List.map M.Cached.en y15)]∧True) ?_
 rintro s17 ⟨f18,f19,f20,f21,f22,_⟩
 clear e16
 refine mrn ?_
 refine man (msq ?_)
 obtain ⟨x23,h24,h⟩:=bind_some h
 obtain ⟨x25,h26,h⟩:=bind_some h
 obtain ⟨q27,q28,q29⟩:=aR h26
 refine aBR (aDr _ _ h24) ?_
 obtain ⟨y30,e31,h⟩:=bind_some h
 replace e31:=(Option.some.inj e31).symm
 refine man (msq ?_)
 refine mcu (fun s=>s.t 0 = .unk∧s.m 0=some (.top 0)∧s.t 1 = .v false [.dat (.int .i64 (i64.wrap (v1+1)))]∧s.t 5 = .v false [.dat (.int .i64 v5)]∧s.ds=[.sl (List.map M.Cached.en y30)]∧True) ?_
 rintro s32 ⟨f33,f34,f35,f36,f37,_⟩
 clear e31
 refine mrn ?_
 refine man (msq ?_)
 obtain ⟨x38,h39,h⟩:=bind_some h
 obtain ⟨q40,q41,q42⟩:=aR h39
 refine mrn ?_
 obtain ⟨y43,e44,h⟩:=bind_some h
 replace e44:=(Option.some.inj e44).symm
 refine man (msq ?_)
 refine mcu (fun s=>s.t 0 = .unk∧s.m 0=some (.top 0)∧s.t 1 = .v false [.dat (.int .i64 (i64.wrap ((i64.wrap (v1+1))+1)))]∧s.t 5 = .v false [.dat (.int .i64 v5)]∧s.ds=[.sl (List.map M.Cached.en y43)]∧True) ?_
 rintro s45 ⟨f46,f47,f48,f49,f50,_⟩
 clear e44
 refine mrn ?_
 refine man (msq ?_)
 obtain ⟨x51,h52,h⟩:=bind_some h
 obtain ⟨q53,q54,q55⟩:=aR h52
 refine mrn ?_
 obtain ⟨y56,e57,h⟩:=bind_some h
 replace e57:=(Option.some.inj e57).symm
 refine man (msq ?_)
 refine mcu (fun s=>s.t 0 = .unk∧s.m 0=some (.top 0)∧s.t 1 = .v false [.dat (.int .i64 (i64.wrap ((i64.wrap ((i64.wrap (v1+1))+1))+1)))]∧s.t 5 = .v false [.dat (.int .i64 v5)]∧s.ds=[.sl (List.map M.Cached.en y56)]∧True) ?_
 rintro s58 ⟨f59,f60,f61,f62,f63,_⟩
 clear e57
 refine mrn ?_
 refine man (msq ?_)
 obtain ⟨x64,h65,h⟩:=bind_some h
 obtain ⟨q66,q67,q68⟩:=aR h65
 refine mrn ?_
 obtain ⟨y69,e70,h⟩:=bind_some h
 replace e70:=(Option.some.inj e70).symm
 refine man (msq ?_)
 refine mcu (fun s=>s.t 0 = .unk∧s.m 0=some (.top 0)∧s.t 1 = .v false [.dat (.int .i64 (i64.wrap ((i64.wrap ((i64.wrap ((i64.wrap (v1+1))+1))+1))+1)))]∧s.t 5 = .v false [.dat (.int .i64 v5)]∧s.ds=[.sl (List.map M.Cached.en y69)]∧True) ?_
 rintro s71 ⟨f72,f73,f74,f75,f76,_⟩
 clear e70
 refine mrn ?_
 refine man (msq ?_)
 obtain ⟨x77,h78,h⟩:=bind_some h
 obtain ⟨q79,q80,q81⟩:=aR h78
 obtain ⟨x82,h83,h⟩:=bind_some h
 refine aBR (aCv _ _ _ h83) ?_
 obtain ⟨y84,e85,h⟩:=bind_some h
 replace e85:=(Option.some.inj e85).symm
 refine man (msq ?_)
 refine mcu (fun s=>s.t 0 = .unk∧s.m 0=some (.top 0)∧s.t 1 = .v false [.dat (.int .i64 x82.2)]∧s.t 5 = .v false [.dat (.int .i64 v5)]∧s.ds=[.sl (List.map M.Cached.en y84)]∧True) ?_
 rintro s86 ⟨f87,f88,f89,f90,f91,_⟩
 clear e85
 obtain ⟨x92,h93,h⟩:=bind_some h
 obtain ⟨q94,q95,q96⟩:=aR h93
 refine mrn ?_
 obtain ⟨y97,e98,h⟩:=bind_some h
 replace e98:=(Option.some.inj e98).symm
 refine man ?_
 refine mcu (fun s=>s.t 0 = .unk∧s.m 0=some (.top 0)∧s.t 1 = .v false [.dat (.int .i64 x82.2)]∧s.t 5 = .v false [.dat (.int .i64 v5)]∧s.ds=[.sl (List.map M.Cached.en y97)]∧True) ?_
 rintro s99 ⟨f100,f101,f102,f103,f104,_⟩
 clear e98
 refine mrn ?_
 refine mab (man (mrn ?_))
 refine aAl ⟨mL1,by omega,(i64.wrap (x82.2+1)),(i64.wrap (v5+1)),y97,?_,?_,?_,?_,?_,h⟩
 all_goals simp +decide only [MF,F,reduceIte,Nat.reduceAdd,Bool.not_true,Bool.not_false,EN, *,-h]
set_option maxHeartbeats 4000000 in
theorem aFN (p0:List M.Cache) (p1:Int) (r:(List M.Cache×Int)) (h:rO p0 p1=some r):lT Tryz.prog 288 false ([.sl (List.map M.Cache.en p0)]) ([.sl (List.map M.Cache.en r.1)]) p1 r.2:=by
 unfold rO at h
 refine fE (N:=27) (r:=4) Tryz.func288 rfl rfl rfl (by decide +kernel) (by decide) fun cx => ?_
 refine msq (mrn ?_)
 refine man (msq (msq (mrn ?_)))
 refine man (mbk ?_)
 refine sH (fun m s=>∃v1:Int,∃v5:Int,∃r99:List M.Cache,s.t 0 = .unk∧s.m 0=some (.top 0)∧s.t 1 = .v false [.dat (.int .i64 v1)]∧s.t 5 = .v false [.dat (.int .i64 v5)]∧s.ds=[.sl (List.map M.Cache.en r99)]∧dB m v1 v5 r99=some r) fuel ?_ ?_
 ·refine ⟨p1,0,p0,?_,?_,?_,?_,?_,h⟩
  all_goals simp +decide only [MF,F,reduceIte,Nat.reduceAdd,Bool.not_true,Bool.not_false,EN, *,-h]
 rintro mL1 s1 ⟨v1,v5,r99,f2,f3,f4,f5,f6,h⟩
 rcases mL1 with _ | mL1
 ·exact absurd h (by simp [dB])
 simp only [dB] at h
 refine msq (msq (mrn ?_))
 refine man ?_
 rcases rQ (decide (v5<(List.length r99:Int))) with b7 | b7
 ·replace h:=bA b7 h
  refine mcf (mxt (sE (sD (aAZ (man (msq (mrn ?_)))))))
  refine man (mrt ?_)
  cases h
  refine ⟨?_,?_⟩<;>(try simp +decide only [MF,F,ME,reduceIte,Nat.reduceAdd,EN, *])
 replace h:=bB b7 h
 refine mct (msk (man (msq (mbk (msq ?_)))))
 obtain ⟨x8,h9,h⟩:=bind_some h
 obtain ⟨q10,q11,q12⟩:=aR h9
 refine mrn ?_
 obtain ⟨y13,e14,h⟩:=bind_some h
 replace e14:=(Option.some.inj e14).symm
 refine man (msq ?_)
 refine mcu (fun s=>s.t 0 = .unk∧s.m 0=some (.top 0)∧s.t 1 = .v false [.dat (.int .i64 v1)]∧s.t 5 = .v false [.dat (.int .i64 v5)]∧s.ds=[.sl (List.map M.Cache.en y13)]∧True) ?_
 rintro s15 ⟨f16,f17,f18,f19,f20,_⟩
 clear e14
 refine mrn ?_
 refine man ?_
 obtain ⟨x21,h22,h⟩:=bind_some h
 obtain ⟨q23,q24,q25⟩:=aR h22
 obtain ⟨x26,h27,h⟩:=bind_some h
 refine aBR (aEQ _ _ _ h27) ?_
 obtain ⟨y28,e29,h⟩:=bind_some h
 replace e29:=(Option.some.inj e29).symm
 refine mab (man ?_)
 refine mcu (fun s=>s.t 0 = .unk∧s.m 0=some (.top 0)∧s.t 1 = .v false [.dat (.int .i64 x26.2)]∧s.t 5 = .v false [.dat (.int .i64 v5)]∧s.ds=[.sl (List.map M.Cache.en y28)]∧True) ?_
 rintro s30 ⟨f31,f32,f33,f34,f35,_⟩
 clear e29
 refine mrn ?_
 refine aAl ⟨mL1,by omega,x26.2,(i64.wrap (v5+1)),y28,?_,?_,?_,?_,?_,h⟩
 all_goals simp +decide only [MF,F,reduceIte,Nat.reduceAdd,Bool.not_true,Bool.not_false,EN, *,-h]
set_option maxHeartbeats 4000000 in
theorem aFL (p0:List M.Field) (p1:Int) (r:(List M.Field×Int)) (h:rE p0 p1=some r):lT Tryz.prog 292 false ([.sl (List.map M.Field.en p0)]) ([.sl (List.map M.Field.en r.1)]) p1 r.2:=by
 unfold rE at h
 refine fE (N:=28) (r:=4) Tryz.func292 rfl rfl rfl (by decide +kernel) (by decide) fun cx => ?_
 refine msq (mrn ?_)
 refine man (msq (msq (mrn ?_)))
 refine man (mbk ?_)
 refine sH (fun m s=>∃v1:Int,∃v5:Int,∃r99:List M.Field,s.t 0 = .unk∧s.m 0=some (.top 0)∧s.t 1 = .v false [.dat (.int .i64 v1)]∧s.t 5 = .v false [.dat (.int .i64 v5)]∧s.ds=[.sl (List.map M.Field.en r99)]∧cX m v1 v5 r99=some r) fuel ?_ ?_
 ·refine ⟨p1,0,p0,?_,?_,?_,?_,?_,h⟩
  all_goals simp +decide only [MF,F,reduceIte,Nat.reduceAdd,Bool.not_true,Bool.not_false,EN, *,-h]
 rintro mL1 s1 ⟨v1,v5,r99,f2,f3,f4,f5,f6,h⟩
 rcases mL1 with _ | mL1
 ·exact absurd h (by simp [cX])
 simp only [cX] at h
 refine msq (msq (mrn ?_))
 refine man ?_
 rcases rQ (decide (v5<(List.length r99:Int))) with b7 | b7
 ·replace h:=bA b7 h
  refine mcf (mxt (sE (sD (aAZ (man (msq (mrn ?_)))))))
  refine man (mrt ?_)
  cases h
  refine ⟨?_,?_⟩<;>(try simp +decide only [MF,F,ME,reduceIte,Nat.reduceAdd,EN, *])
 replace h:=bB b7 h
 refine mct (msk (man (msq (mbk (msq ?_)))))
 obtain ⟨x8,h9,h⟩:=bind_some h
 obtain ⟨x10,h11,h⟩:=bind_some h
 obtain ⟨q12,q13,q14⟩:=aR h11
 refine aBR (aDr _ _ h9) ?_
 obtain ⟨y15,e16,h⟩:=bind_some h
 replace e16:=(Option.some.inj e16).symm
 refine man (msq ?_)
 refine mcu (fun s=>s.t 0 = .unk∧s.m 0=some (.top 0)∧s.t 1 = .v false [.dat (.int .i64 v1)]∧s.t 5 = .v false [.dat (.int .i64 v5)]∧s.ds=[.sl (List.map M.Field.en y15)]∧True) ?_
 rintro s17 ⟨f18,f19,f20,f21,f22,_⟩
 clear e16
 refine mrn ?_
 refine man (msq ?_)
 obtain ⟨x23,h24,h⟩:=bind_some h
 obtain ⟨q25,q26,q27⟩:=aR h24
 refine mrn ?_
 obtain ⟨y28,e29,h⟩:=bind_some h
 replace e29:=(Option.some.inj e29).symm
 refine man ?_
 refine mcu (fun s=>s.t 0 = .unk∧s.m 0=some (.top 0)∧s.t 1 = .v false [.dat (.int .i64 (i64.wrap (v1+1)))]∧s.t 5 = .v false [.dat (.int .i64 v5)]∧s.ds=[.sl (List.map M.Field.en y28)]∧True) ?_
 rintro s30 ⟨f31,f32,f33,f34,f35,_⟩
 clear e29
 refine mrn ?_
 refine mab (man (mrn ?_))
 refine aAl ⟨mL1,by omega,(i64.wrap ((i64.wrap (v1+1))+1)),(i64.wrap (v5+1)),y28,?_,?_,?_,?_,?_,h⟩
 all_goals simp +decide only [MF,F,reduceIte,Nat.reduceAdd,Bool.not_true,Bool.not_false,EN, *,-h]
set_option maxHeartbeats 4000000 in
theorem aBT (p0:List M.Item) (p1:Int) (r:(List M.Item×Int)) (h:kY p0 p1=some r):lT Tryz.prog 192 false ([.sl (List.map M.Item.en p0)]) ([.sl (List.map M.Item.en r.1)]) p1 r.2:=by
 unfold kY at h
 refine fE (N:=46) (r:=4) Tryz.func192 rfl rfl rfl (by decide +kernel) (by decide) fun cx => ?_
 refine msq (mrn ?_)
 refine man (msq (msq (mrn ?_)))
 refine man (mbk ?_)
 refine sH (fun m s=>∃v1:Int,∃v5:Int,∃r99:List M.Item,s.t 0 = .unk∧s.m 0=some (.top 0)∧s.t 1 = .v false [.dat (.int .i64 v1)]∧s.t 5 = .v false [.dat (.int .i64 v5)]∧s.ds=[.sl (List.map M.Item.en r99)]∧dQ m v1 v5 r99=some r) fuel ?_ ?_
 ·refine ⟨p1,0,p0,?_,?_,?_,?_,?_,h⟩
  all_goals simp +decide only [MF,F,reduceIte,Nat.reduceAdd,Bool.not_true,Bool.not_false,EN, *,-h]
 rintro mL1 s1 ⟨v1,v5,r99,f2,f3,f4,f5,f6,h⟩
 rcases mL1 with _ | mL1
 ·exact absurd h (by simp [dQ])
 simp only [dQ] at h
 refine msq (msq (mrn ?_))
 refine man ?_
 rcases rQ (decide (v5<(List.length r99:Int))) with b7 | b7
 ·replace h:=bA b7 h
  refine mcf (mxt (sE (sD (aAZ (man (msq (mrn ?_)))))))
  refine man (mrt ?_)
  cases h
  refine ⟨?_,?_⟩<;>(try simp +decide only [MF,F,ME,reduceIte,Nat.reduceAdd,EN, *])
 replace h:=bB b7 h
 refine mct (msk (man (msq (mbk (msq ?_)))))
 obtain ⟨x8,h9,h⟩:=bind_some h
 obtain ⟨q10,q11,q12⟩:=aR h9
 refine mrn ?_
 obtain ⟨y13,e14,h⟩:=bind_some h
 replace e14:=(Option.some.inj e14).symm
 refine man (msq ?_)
 refine mcu (fun s=>s.t 0 = .unk∧s.m 0=some (.top 0)∧s.t 1 = .v false [.dat (.int .i64 v1)]∧s.t 5 = .v false [.dat (.int .i64 v5)]∧s.ds=[.sl (List.map M.Item.en y13)]∧True) ?_
 rintro s15 ⟨f16,f17,f18,f19,f20,_⟩
 clear e14
 refine mrn ?_
 refine man (msq ?_)
 obtain ⟨x21,h22,h⟩:=bind_some h
 obtain ⟨q23,q24,q25⟩:=aR h22
 refine mrn ?_
 obtain ⟨y26,e27,h⟩:=bind_some h
 replace e27:=(Option.some.inj e27).symm
 refine man (msq ?_)
 refine mcu (fun s=>s.t 0 = .unk∧s.m 0=some (.top 0)∧s.t 1 = .v false [.dat (.int .i64 (i64.wrap (v1+1)))]∧s.t 5 = .v false [.dat (.int .i64 v5)]∧s.ds=[.sl (List.map M.Item.en y26)]∧True) ?_
 rintro s28 ⟨f29,f30,f31,f32,f33,_⟩
 clear e27
 refine mrn ?_
 refine man (msq ?_)
 obtain ⟨x34,h35,h⟩:=bind_some h
 obtain ⟨x36,h37,h⟩:=bind_some h
 obtain ⟨q38,q39,q40⟩:=aR h37
 refine aBR (aDr _ _ h35) ?_
 obtain ⟨y41,e42,h⟩:=bind_some h
 replace e42:=(Option.some.inj e42).symm
 refine man (msq ?_)
 refine mcu (fun s=>s.t 0 = .unk∧s.m 0=some (.top 0)∧s.t 1 = .v false [.dat (.int .i64 (i64.wrap ((i64.wrap (v1+1))+1)))]∧s.t 5 = .v false [.dat (.int .i64 v5)]∧s.ds=[.sl (List.map M.Item.en y41)]∧True) ?_
 rintro s43 ⟨f44,f45,f46,f47,f48,_⟩
 clear e42
 refine mrn ?_
 refine man ?_
 obtain ⟨x49,h50,h⟩:=bind_some h
 obtain ⟨q51,q52,q53⟩:=aR h50
 obtain ⟨x54,h55,h⟩:=bind_some h
 refine aBR (aFL _ _ _ h55) ?_
 obtain ⟨y56,e57,h⟩:=bind_some h
 replace e57:=(Option.some.inj e57).symm
 refine mab (man ?_)
 refine mcu (fun s=>s.t 0 = .unk∧s.m 0=some (.top 0)∧s.t 1 = .v false [.dat (.int .i64 x54.2)]∧s.t 5 = .v false [.dat (.int .i64 v5)]∧s.ds=[.sl (List.map M.Item.en y56)]∧True) ?_
 rintro s58 ⟨f59,f60,f61,f62,f63,_⟩
 clear e57
 refine mrn ?_
 refine aAl ⟨mL1,by omega,x54.2,(i64.wrap (v5+1)),y56,?_,?_,?_,?_,?_,h⟩
 all_goals simp +decide only [MF,F,reduceIte,Nat.reduceAdd,Bool.not_true,Bool.not_false,EN, *,-h]
set_option maxHeartbeats 4000000 in
theorem aFa (p0:List M.aE) (p1:Int) (r:(List M.aE×Int)) (h:qI p0 p1=some r):lT Tryz.prog 289 false ([.sl (List.map M.aE.en p0)]) ([.sl (List.map M.aE.en r.1)]) p1 r.2:=by
 unfold qI at h
 refine fE (N:=35) (r:=4) Tryz.func289 rfl rfl rfl (by decide +kernel) (by decide) fun cx => ?_
 refine msq (mrn ?_)
 refine man (msq (msq (mrn ?_)))
 refine man (mbk ?_)
 refine sH (fun m s=>∃v1:Int,∃v5:Int,∃r99:List M.aE,s.t 0 = .unk∧s.m 0=some (.top 0)∧s.t 1 = .v false [.dat (.int .i64 v1)]∧s.t 5 = .v false [.dat (.int .i64 v5)]∧s.ds=[.sl (List.map M.aE.en r99)]∧cZ m v1 v5 r99=some r) fuel ?_ ?_
 ·refine ⟨p1,0,p0,?_,?_,?_,?_,?_,h⟩
  all_goals simp +decide only [MF,F,reduceIte,Nat.reduceAdd,Bool.not_true,Bool.not_false,EN, *,-h]
 rintro mL1 s1 ⟨v1,v5,r99,f2,f3,f4,f5,f6,h⟩
 rcases mL1 with _ | mL1
 ·exact absurd h (by simp [cZ])
 simp only [cZ] at h
 refine msq (msq (mrn ?_))
 refine man ?_
 rcases rQ (decide (v5<(List.length r99:Int))) with b7 | b7
 ·replace h:=bA b7 h
  refine mcf (mxt (sE (sD (aAZ (man (msq (mrn ?_)))))))
  refine man (mrt ?_)
  cases h
  refine ⟨?_,?_⟩<;>(try simp +decide only [MF,F,ME,reduceIte,Nat.reduceAdd,EN, *])
 replace h:=bB b7 h
 refine mct (msk (man (msq (mbk (msq ?_)))))
 obtain ⟨x8,h9,h⟩:=bind_some h
 obtain ⟨x10,h11,h⟩:=bind_some h
 obtain ⟨q12,q13,q14⟩:=aR h11
 refine aBR (aDr _ _ h9) ?_
 obtain ⟨y15,e16,h⟩:=bind_some h
 replace e16:=(Option.some.inj e16).symm
 refine man (msq ?_)
 refine mcu (fun s=>s.t 0 = .unk∧s.m 0=some (.top 0)∧s.t 1 = .v false [.dat (.int .i64 v1)]∧s.t 5 = .v false [.dat (.int .i64 v5)]∧s.ds=[.sl (List.map M.aE.en y15)]∧True) ?_
 rintro s17 ⟨f18,f19,f20,f21,f22,_⟩
 clear e16
 refine mrn ?_
 refine man (msq ?_)
 obtain ⟨x23,h24,h⟩:=bind_some h
 obtain ⟨q25,q26,q27⟩:=aR h24
 obtain ⟨x28,h29,h⟩:=bind_some h
 refine aBR (aBT _ _ _ h29) ?_
 obtain ⟨y30,e31,h⟩:=bind_some h
 replace e31:=(Option.some.inj e31).symm
 refine man (msq ?_)
 refine mcu (fun s=>s.t 0 = .unk∧s.m 0=some (.top 0)∧s.t 1 = .v false [.dat (.int .i64 x28.2)]∧s.t 5 = .v false [.dat (.int .i64 v5)]∧s.ds=[.sl (List.map M.aE.en y30)]∧True) ?_
 rintro s32 ⟨f33,f34,f35,f36,f37,_⟩
 clear e31
 obtain ⟨x38,h39,h⟩:=bind_some h
 obtain ⟨q40,q41,q42⟩:=aR h39
 refine mrn ?_
 obtain ⟨y43,e44,h⟩:=bind_some h
 replace e44:=(Option.some.inj e44).symm
 refine man ?_
 refine mcu (fun s=>s.t 0 = .unk∧s.m 0=some (.top 0)∧s.t 1 = .v false [.dat (.int .i64 x28.2)]∧s.t 5 = .v false [.dat (.int .i64 v5)]∧s.ds=[.sl (List.map M.aE.en y43)]∧True) ?_
 rintro s45 ⟨f46,f47,f48,f49,f50,_⟩
 clear e44
 refine mrn ?_
 refine mab (man (mrn ?_))
 refine aAl ⟨mL1,by omega,(i64.wrap (x28.2+1)),(i64.wrap (v5+1)),y43,?_,?_,?_,?_,?_,h⟩
 all_goals simp +decide only [MF,F,reduceIte,Nat.reduceAdd,Bool.not_true,Bool.not_false,EN, *,-h]
set_option maxHeartbeats 4000000 in
theorem aDk (p0:List M.aD) (p1:Int) (r:(List M.aD×Int)) (h:lH p0 p1=some r):lT Tryz.prog 290 false ([.sl (List.map M.aD.en p0)]) ([.sl (List.map M.aD.en r.1)]) p1 r.2:=by
 unfold lH at h
 refine fE (N:=29) (r:=4) Tryz.func290 rfl rfl rfl (by decide +kernel) (by decide) fun cx => ?_
 refine msq (mrn ?_)
 refine man (msq (msq (mrn ?_)))
 refine man (mbk ?_)
 refine sH (fun m s=>∃v1:Int,∃v5:Int,∃r99:List M.aD,s.t 0 = .unk∧s.m 0=some (.top 0)∧s.t 1 = .v false [.dat (.int .i64 v1)]∧s.t 5 = .v false [.dat (.int .i64 v5)]∧s.ds=[.sl (List.map M.aD.en r99)]∧bU m v1 v5 r99=some r) fuel ?_ ?_
 ·refine ⟨p1,0,p0,?_,?_,?_,?_,?_,h⟩
  all_goals simp +decide only [MF,F,reduceIte,Nat.reduceAdd,Bool.not_true,Bool.not_false,EN, *,-h]
 rintro mL1 s1 ⟨v1,v5,r99,f2,f3,f4,f5,f6,h⟩
 rcases mL1 with _ | mL1
 ·exact absurd h (by simp [bU])
 simp only [bU] at h
 refine msq (msq (mrn ?_))
 refine man ?_
 rcases rQ (decide (v5<(List.length r99:Int))) with b7 | b7
 ·replace h:=bA b7 h
  refine mcf (mxt (sE (sD (aAZ (man (msq (mrn ?_)))))))
  refine man (mrt ?_)
  cases h
  refine ⟨?_,?_⟩<;>(try simp +decide only [MF,F,ME,reduceIte,Nat.reduceAdd,EN, *])
 replace h:=bB b7 h
 refine mct (msk (man (msq (mbk (msq ?_)))))
 obtain ⟨x8,h9,h⟩:=bind_some h
 obtain ⟨x10,h11,h⟩:=bind_some h
 obtain ⟨q12,q13,q14⟩:=aR h11
 refine aBR (aDr _ _ h9) ?_
 obtain ⟨y15,e16,h⟩:=bind_some h
 replace e16:=(Option.some.inj e16).symm
 refine man (msq ?_)
 refine mcu (fun s=>s.t 0 = .unk∧s.m 0=some (.top 0)∧s.t 1 = .v false [.dat (.int .i64 v1)]∧s.t 5 = .v false [.dat (.int .i64 v5)]∧s.ds=[.sl (List.map M.aD.en y15)]∧True) ?_
 rintro s17 ⟨f18,f19,f20,f21,f22,_⟩
 clear e16
 refine mrn ?_
 refine man (msq ?_)
 obtain ⟨x23,h24,h⟩:=bind_some h
 obtain ⟨x25,h26,h⟩:=bind_some h
 obtain ⟨q27,q28,q29⟩:=aR h26
 refine aBR (aDr _ _ h24) ?_
 obtain ⟨y30,e31,h⟩:=bind_some h
 replace e31:=(Option.some.inj e31).symm
 refine man ?_
 refine mcu (fun s=>s.t 0 = .unk∧s.m 0=some (.top 0)∧s.t 1 = .v false [.dat (.int .i64 (i64.wrap (v1+1)))]∧s.t 5 = .v false [.dat (.int .i64 v5)]∧s.ds=[.sl (List.map M.aD.en y30)]∧True) ?_
 rintro s32 ⟨f33,f34,f35,f36,f37,_⟩
 clear e31
 refine mrn ?_
 refine mab (man (mrn ?_))
 refine aAl ⟨mL1,by omega,(i64.wrap ((i64.wrap (v1+1))+1)),(i64.wrap (v5+1)),y30,?_,?_,?_,?_,?_,h⟩
 all_goals simp +decide only [MF,F,reduceIte,Nat.reduceAdd,Bool.not_true,Bool.not_false,EN, *,-h]
set_option maxHeartbeats 4000000 in
theorem aCR (p0:List M.aV) (p1:Int) (r:(List M.aV×Int)) (h:mC p0 p1=some r):lT Tryz.prog 194 false ([.sl (List.map M.aV.en p0)]) ([.sl (List.map M.aV.en r.1)]) p1 r.2:=by
 unfold mC at h
 refine fE (N:=67) (r:=4) Tryz.func194 rfl rfl rfl (by decide +kernel) (by decide) fun cx => ?_
 refine msq (mrn ?_)
 refine man (msq (msq (mrn ?_)))
 refine man (mbk ?_)
 refine sH (fun m s=>∃v1:Int,∃v5:Int,∃r99:List M.aV,s.t 0 = .unk∧s.m 0=some (.top 0)∧s.t 1 = .v false [.dat (.int .i64 v1)]∧s.t 5 = .v false [.dat (.int .i64 v5)]∧s.ds=[.sl (List.map M.aV.en r99)]∧cY m v1 v5 r99=some r) fuel ?_ ?_
 ·refine ⟨p1,0,p0,?_,?_,?_,?_,?_,h⟩
  all_goals simp +decide only [MF,F,reduceIte,Nat.reduceAdd,Bool.not_true,Bool.not_false,EN, *,-h]
 rintro mL1 s1 ⟨v1,v5,r99,f2,f3,f4,f5,f6,h⟩
 rcases mL1 with _ | mL1
 ·exact absurd h (by simp [cY])
 simp only [cY] at h
 refine msq (msq (mrn ?_))
 refine man ?_
 rcases rQ (decide (v5<(List.length r99:Int))) with b7 | b7
 ·replace h:=bA b7 h
  refine mcf (mxt (sE (sD (aAZ (man (msq (mrn ?_)))))))
  refine man (mrt ?_)
  cases h
  refine ⟨?_,?_⟩<;>(try simp +decide only [MF,F,ME,reduceIte,Nat.reduceAdd,EN, *])
 replace h:=bB b7 h
 refine mct (msk (man (msq (mbk (msq ?_)))))
 obtain ⟨x8,h9,h⟩:=bind_some h
 obtain ⟨q10,q11,q12⟩:=aR h9
 refine mrn ?_
 obtain ⟨y13,e14,h⟩:=bind_some h
 replace e14:=(Option.some.inj e14).symm
 refine man (msq ?_)
 refine mcu (fun s=>s.t 0 = .unk∧s.m 0=some (.top 0)∧s.t 1 = .v false [.dat (.int .i64 v1)]∧s.t 5 = .v false [.dat (.int .i64 v5)]∧s.ds=[.sl (List.map M.aV.en y13)]∧True) ?_
 rintro s15 ⟨f16,f17,f18,f19,f20,_⟩
 clear e14
 refine mrn ?_
 refine man (msq ?_)
 obtain ⟨x21,h22,h⟩:=bind_some h
 obtain ⟨q23,q24,q25⟩:=aR h22
 refine mrn ?_
 obtain ⟨y26,e27,h⟩:=bind_some h
 replace e27:=(Option.some.inj e27).symm
 refine man (msq ?_)
 refine mcu (fun s=>s.t 0 = .unk∧s.m 0=some (.top 0)∧s.t 1 = .v false [.dat (.int .i64 (i64.wrap (v1+1)))]∧s.t 5 = .v false [.dat (.int .i64 v5)]∧s.ds=[.sl (List.map M.aV.en y26)]∧True) ?_
 rintro s28 ⟨f29,f30,f31,f32,f33,_⟩
 clear e27
 refine mrn ?_
 refine man (msq ?_)
 obtain ⟨x34,h35,h⟩:=bind_some h
 obtain ⟨q36,q37,q38⟩:=aR h35
 refine mrn ?_
 obtain ⟨y39,e40,h⟩:=bind_some h
 replace e40:=(Option.some.inj e40).symm
 refine man (msq ?_)
 refine mcu (fun s=>s.t 0 = .unk∧s.m 0=some (.top 0)∧s.t 1 = .v false [.dat (.int .i64 (i64.wrap ((i64.wrap (v1+1))+1)))]∧s.t 5 = .v false [.dat (.int .i64 v5)]∧s.ds=[.sl (List.map M.aV.en y39)]∧True) ?_
 rintro s41 ⟨f42,f43,f44,f45,f46,_⟩
 clear e40
 refine mrn ?_
 refine man (msq ?_)
 obtain ⟨x47,h48,h⟩:=bind_some h
 obtain ⟨q49,q50,q51⟩:=aR h48
 refine mrn ?_
 obtain ⟨y52,e53,h⟩:=bind_some h
 replace e53:=(Option.some.inj e53).symm
 refine man (msq ?_)
 refine mcu (fun s=>s.t 0 = .unk∧s.m 0=some (.top 0)∧s.t 1 = .v false [.dat (.int .i64 (i64.wrap ((i64.wrap ((i64.wrap (v1+1))+1))+1)))]∧s.t 5 = .v false [.dat (.int .i64 v5)]∧s.ds=[.sl (List.map M.aV.en y52)]∧True) ?_
 rintro s54 ⟨f55,f56,f57,f58,f59,_⟩
 clear e53
 refine mrn ?_
 refine man (msq ?_)
 obtain ⟨x60,h61,h⟩:=bind_some h
 obtain ⟨x62,h63,h⟩:=bind_some h
 obtain ⟨q64,q65,q66⟩:=aR h63
 refine aBR (aDr _ _ h61) ?_
 obtain ⟨y67,e68,h⟩:=bind_some h
 replace e68:=(Option.some.inj e68).symm
 refine man (msq ?_)
 refine mcu (fun s=>s.t 0 = .unk∧s.m 0=some (.top 0)∧s.t 1 = .v false [.dat (.int .i64 (i64.wrap ((i64.wrap ((i64.wrap ((i64.wrap (v1+1))+1))+1))+1)))]∧s.t 5 = .v false [.dat (.int .i64 v5)]∧s.ds=[.sl (List.map M.aV.en y67)]∧True) ?_
 rintro s69 ⟨f70,f71,f72,f73,f74,_⟩
 clear e68
 refine mrn ?_
 refine man (msq ?_)
 obtain ⟨x75,h76,h⟩:=bind_some h
 obtain ⟨x77,h78,h⟩:=bind_some h
 obtain ⟨q79,q80,q81⟩:=aR h78
 refine aBR (aDr _ _ h76) ?_
 obtain ⟨y82,e83,h⟩:=bind_some h
 replace e83:=(Option.some.inj e83).symm
 refine man (msq ?_)
 refine mcu (fun s=>s.t 0 = .unk∧s.m 0=some (.top 0)∧s.t 1 = .v false [.dat (.int .i64 (i64.wrap ((i64.wrap ((i64.wrap ((i64.wrap ((i64.wrap (v1+1))+1))+1))+1))+1)))]∧s.t 5 = .v false [.dat (.int .i64 v5)]∧s.ds=[.sl (List.map M.aV.en y82)]∧True) ?_
 rintro s84 ⟨f85,f86,f87,f88,f89,_⟩
 clear e83
 refine mrn ?_
 refine man (msq ?_)
 obtain ⟨x90,h91,h⟩:=bind_some h
 obtain ⟨q92,q93,q94⟩:=aR h91
 refine mrn ?_
 obtain ⟨y95,e96,h⟩:=bind_some h
 replace e96:=(Option.some.inj e96).symm
 refine man ?_
 refine mcu (fun s=>s.t 0 = .unk∧s.m 0=some (.top 0)∧s.t 1 = .v false [.dat (.int .i64 (i64.wrap ((i64.wrap ((i64.wrap ((i64.wrap ((i64.wrap ((i64.wrap (v1+1))+1))+1))+1))+1))+1)))]∧s.t 5 = .v false [.dat (.int .i64 v5)]∧s.ds=[.sl (List.map M.aV.en y95)]∧True) ?_
 rintro s97 ⟨f98,f99,f100,f101,f102,_⟩
 clear e96
 refine mrn ?_
 refine mab (man (mrn ?_))
 refine aAl ⟨mL1,by omega,(i64.wrap ((i64.wrap ((i64.wrap ((i64.wrap ((i64.wrap ((i64.wrap ((i64.wrap (v1+1))+1))+1))+1))+1))+1))+1)),(i64.wrap (v5+1)),y95,?_,?_,?_,?_,?_,h⟩
 all_goals simp +decide only [MF,F,reduceIte,Nat.reduceAdd,Bool.not_true,Bool.not_false,EN, *,-h]
end Go.Proofs.YtnhpbpnhmapeeaaGreat.gen
