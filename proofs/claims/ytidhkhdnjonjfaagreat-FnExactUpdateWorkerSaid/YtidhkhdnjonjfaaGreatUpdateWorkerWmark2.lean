/-
  Helper text. No conditions.
-/
import Derived.Test.YtidhkhdnjonjfaaGreatUpdateWorkerTi
import Derived.Test.YtidhkhdnjonjfaaGreatUpdateWorkerWmark0
import Derived.Test.YtidhkhdnjonjfaaGreatUpdateWorkerWmark1
set_option linter.unusedVariables false
set_option linter.unusedSimpArgs false
namespace Go.Proofs.YtidhkhdnjonjfaaGreat.gen
open Go Go.Sh
open Go.IntKind (i64)
set_option maxRecDepth 20000
set_option maxHeartbeats 4000000
set_option maxHeartbeats 4000000 in
theorem aIA (p0:List M.dA) (p1:Int) (r:(List M.dA×Int)) (h:wY p0 p1=some r):oT Tryz.prog 245 false ([.sl (List.map M.dA.en p0)]) ([.sl (List.map M.dA.en r.1)]) p1 r.2:=by
 unfold wY at h
 refine gU (N:=46) (r:=4) Tryz.func245 rfl rfl rfl (by decide +kernel) (by decide) fun cx => ?_
 refine msq (mrn ?_)
 refine man (msq (msq (mrn ?_)))
 refine man (mbk ?_)
 refine vH (fun m s=>∃v1:Int,∃v5:Int,∃r99:List M.dA,s.t 0 = .unk∧s.m 0=some (.top 0)∧s.t 1 = .v false [.dat (.int .i64 v1)]∧s.t 5 = .v false [.dat (.int .i64 v5)]∧s.ds=[.sl (List.map M.dA.en r99)]∧dZ m v1 v5 r99=some r) fuel ?_ ?_
 ·refine ⟨p1,0,p0,?_,?_,?_,?_,?_,h⟩
  all_goals simp +decide only [MF,F,reduceIte,Nat.reduceAdd,qB,qC,EN, *,-h]
 rintro mL1 s1 ⟨v1,v5,r99,f2,f3,f4,f5,f6,h⟩
 rcases mL1 with _ | mL1
 ·exact absurd h (by simp [dZ])
 simp only [dZ] at h
 refine msq (msq (mrn ?_))
 refine man ?_
 rcases aEL (decide (v5<(List.length r99:Int))) with b7 | b7
 ·replace h:=bR b7 h
  refine mcf (mxt (vE (vD (aBk (man (msq (mrn ?_)))))))
  refine man (mrt ?_)
  cases h
  refine ⟨?_,?_⟩<;>(try simp +decide only [MF,F,ME,reduceIte,Nat.reduceAdd,EN, *])
 replace h:=bT b7 h
 refine mct (msk (man (msq (mbk (msq ?_)))))
 obtain ⟨x8,h9,h⟩:=bind_some h
 obtain ⟨x10,h11,h⟩:=bind_some h
 obtain ⟨q12,q13,q14⟩:=aT h11
 refine aC6 (aFW _ _ h9) ?_
 obtain ⟨y15,e16,h⟩:=bind_some h
 replace e16:=(Option.some.inj e16).symm
 refine man (msq ?_)
 refine mcu (fun s=>s.t 0 = .unk∧s.m 0=some (.top 0)∧s.t 1 = .v false [.dat (.int .i64 v1)]∧s.t 5 = .v false [.dat (.int .i64 v5)]∧s.ds=[.sl (List.map M.dA.en y15)]∧True) ?_
 rintro s17 ⟨f18,f19,f20,f21,f22,_⟩
 clear e16
 refine mrn ?_
 refine man (msq ?_)
 obtain ⟨x23,h24,h⟩:=bind_some h
 obtain ⟨q25,q26,q27⟩:=aT h24
 refine mrn ?_
 obtain ⟨y28,e29,h⟩:=bind_some h
 replace e29:=(Option.some.inj e29).symm
 refine man (msq ?_)
 refine mcu (fun s=>s.t 0 = .unk∧s.m 0=some (.top 0)∧s.t 1 = .v false [.dat (.int .i64 (i64.wrap (v1+1)))]∧s.t 5 = .v false [.dat (.int .i64 v5)]∧s.ds=[.sl (List.map M.dA.en y28)]∧True) ?_
 rintro s30 ⟨f31,f32,f33,f34,f35,_⟩
 clear e29
 refine mrn ?_
 refine man (msq ?_)
 obtain ⟨x36,h37,h⟩:=bind_some h
 obtain ⟨q38,q39,q40⟩:=aT h37
 refine mrn ?_
 obtain ⟨y41,e42,h⟩:=bind_some h
 replace e42:=(Option.some.inj e42).symm
 refine man (msq ?_)
 refine mcu (fun s=>s.t 0 = .unk∧s.m 0=some (.top 0)∧s.t 1 = .v false [.dat (.int .i64 (i64.wrap ((i64.wrap (v1+1))+1)))]∧s.t 5 = .v false [.dat (.int .i64 v5)]∧s.ds=[.sl (List.map M.dA.en y41)]∧True) ?_
 rintro s43 ⟨f44,f45,f46,f47,f48,_⟩
 clear e42
 refine mrn ?_
 refine man (msq ?_)
 obtain ⟨x49,h50,h⟩:=bind_some h
 obtain ⟨q51,q52,q53⟩:=aT h50
 refine mrn ?_
 obtain ⟨y54,e55,h⟩:=bind_some h
 replace e55:=(Option.some.inj e55).symm
 refine man ?_
 refine mcu (fun s=>s.t 0 = .unk∧s.m 0=some (.top 0)∧s.t 1 = .v false [.dat (.int .i64 (i64.wrap ((i64.wrap ((i64.wrap (v1+1))+1))+1)))]∧s.t 5 = .v false [.dat (.int .i64 v5)]∧s.ds=[.sl (List.map M.dA.en y54)]∧True) ?_
 rintro s56 ⟨f57,f58,f59,f60,f61,_⟩
 clear e55
 refine mrn ?_
 refine mab (man (mrn ?_))
 refine aB0 ⟨mL1,by omega,(i64.wrap ((i64.wrap ((i64.wrap ((i64.wrap (v1+1))+1))+1))+1)),(i64.wrap (v5+1)),y54,?_,?_,?_,?_,?_,h⟩
 all_goals simp +decide only [MF,F,reduceIte,Nat.reduceAdd,qB,qC,EN, *,-h]
set_option maxHeartbeats 4000000 in
theorem aFK (p0:M.aP) (p1:Int) (r:(List M.dA×Int)) (h:sQ p0 p1=some r):oT Tryz.prog 114 true (M.aP.en p0) ([.sl (List.map M.dA.en r.1)]) p1 r.2:=by
 unfold sQ at h
 simp only [M.aP.en]
 refine gU (N:=10) (r:=4) Tryz.func114 rfl rfl rfl (by decide +kernel) (by decide) fun cx => ?_
 refine msq (mrn ?_)
 refine man (msq ?_)
 obtain ⟨x1,h2,h⟩:=bind_some h
 refine aC6 (aIA _ _ _ h2) ?_
 refine man (msq (mrn ?_))
 refine man (mrt ?_)
 cases h
 refine ⟨?_,?_⟩<;>(try simp +decide only [MF,F,ME,reduceIte,Nat.reduceAdd,EN, *])
set_option maxHeartbeats 4000000 in
theorem aIF (p0:List M.fW) (p1:Int) (r:(List M.fW×Int)) (h:xB p0 p1=some r):oT Tryz.prog 246 false ([.sl (List.map M.fW.en p0)]) ([.sl (List.map M.fW.en r.1)]) p1 r.2:=by
 unfold xB at h
 refine gU (N:=34) (r:=4) Tryz.func246 rfl rfl rfl (by decide +kernel) (by decide) fun cx => ?_
 refine msq (mrn ?_)
 refine man (msq (msq (mrn ?_)))
 refine man (mbk ?_)
 refine vH (fun m s=>∃v1:Int,∃v5:Int,∃r99:List M.fW,s.t 0 = .unk∧s.m 0=some (.top 0)∧s.t 1 = .v false [.dat (.int .i64 v1)]∧s.t 5 = .v false [.dat (.int .i64 v5)]∧s.ds=[.sl (List.map M.fW.en r99)]∧dX m v1 v5 r99=some r) fuel ?_ ?_
 ·refine ⟨p1,0,p0,?_,?_,?_,?_,?_,h⟩
  all_goals simp +decide only [MF,F,reduceIte,Nat.reduceAdd,qB,qC,EN, *,-h]
 rintro mL1 s1 ⟨v1,v5,r99,f2,f3,f4,f5,f6,h⟩
 rcases mL1 with _ | mL1
 ·exact absurd h (by simp [dX])
 simp only [dX] at h
 refine msq (msq (mrn ?_))
 refine man ?_
 rcases aEL (decide (v5<(List.length r99:Int))) with b7 | b7
 ·replace h:=bR b7 h
  refine mcf (mxt (vE (vD (aBk (man (msq (mrn ?_)))))))
  refine man (mrt ?_)
  cases h
  refine ⟨?_,?_⟩<;>(try simp +decide only [MF,F,ME,reduceIte,Nat.reduceAdd,EN, *])
 replace h:=bT b7 h
 refine mct (msk (man (msq (mbk (msq ?_)))))
 obtain ⟨x8,h9,h⟩:=bind_some h
 obtain ⟨q10,q11,q12⟩:=aT h9
 refine mrn ?_
 obtain ⟨y13,e14,h⟩:=bind_some h
 replace e14:=(Option.some.inj e14).symm
 refine man (msq ?_)
 refine mcu (fun s=>s.t 0 = .unk∧s.m 0=some (.top 0)∧s.t 1 = .v false [.dat (.int .i64 v1)]∧s.t 5 = .v false [.dat (.int .i64 v5)]∧s.ds=[.sl (List.map M.fW.en y13)]∧True) ?_
 rintro s15 ⟨f16,f17,f18,f19,f20,_⟩
 clear e14
 refine mrn ?_
 refine man (msq ?_)
 obtain ⟨x21,h22,h⟩:=bind_some h
 obtain ⟨q23,q24,q25⟩:=aT h22
 refine mrn ?_
 obtain ⟨y26,e27,h⟩:=bind_some h
 replace e27:=(Option.some.inj e27).symm
 refine man (msq ?_)
 refine mcu (fun s=>s.t 0 = .unk∧s.m 0=some (.top 0)∧s.t 1 = .v false [.dat (.int .i64 (i64.wrap (v1+1)))]∧s.t 5 = .v false [.dat (.int .i64 v5)]∧s.ds=[.sl (List.map M.fW.en y26)]∧True) ?_
 rintro s28 ⟨f29,f30,f31,f32,f33,_⟩
 clear e27
 refine mrn ?_
 refine man (msq ?_)
 obtain ⟨x34,h35,h⟩:=bind_some h
 obtain ⟨q36,q37,q38⟩:=aT h35
 refine mrn ?_
 obtain ⟨y39,e40,h⟩:=bind_some h
 replace e40:=(Option.some.inj e40).symm
 refine man ?_
 refine mcu (fun s=>s.t 0 = .unk∧s.m 0=some (.top 0)∧s.t 1 = .v false [.dat (.int .i64 (i64.wrap ((i64.wrap (v1+1))+1)))]∧s.t 5 = .v false [.dat (.int .i64 v5)]∧s.ds=[.sl (List.map M.fW.en y39)]∧True) ?_
 rintro s41 ⟨f42,f43,f44,f45,f46,_⟩
 clear e40
 refine mrn ?_
 refine mab (man (mrn ?_))
 refine aB0 ⟨mL1,by omega,(i64.wrap ((i64.wrap ((i64.wrap (v1+1))+1))+1)),(i64.wrap (v5+1)),y39,?_,?_,?_,?_,?_,h⟩
 all_goals simp +decide only [MF,F,reduceIte,Nat.reduceAdd,qB,qC,EN, *,-h]
set_option maxHeartbeats 4000000 in
theorem aGY (p0:M.Channel) (p1:Int) (r:(List M.fW×Int)) (h:yM p0 p1=some r):oT Tryz.prog 115 true (M.Channel.en p0) ([.sl (List.map M.fW.en r.1)]) p1 r.2:=by
 unfold yM at h
 simp only [M.Channel.en]
 refine gU (N:=10) (r:=4) Tryz.func115 rfl rfl rfl (by decide +kernel) (by decide) fun cx => ?_
 refine msq (mrn ?_)
 refine man (msq ?_)
 obtain ⟨x1,h2,h⟩:=bind_some h
 refine aC6 (aIF _ _ _ h2) ?_
 refine man (msq (mrn ?_))
 refine man (mrt ?_)
 cases h
 refine ⟨?_,?_⟩<;>(try simp +decide only [MF,F,ME,reduceIte,Nat.reduceAdd,EN, *])
set_option maxHeartbeats 4000000 in
theorem aF4 (p0:List ByteArray) (p1:Int) (r:(List ByteArray×Int)) (h:pQ p0 p1=some r):oT Tryz.prog 247 false ([.sl (List.map enS p0)]) ([.sl (List.map enS r.1)]) p1 r.2:=by
 unfold pQ at h
 refine gU (N:=20) (r:=4) Tryz.func247 rfl rfl rfl (by decide +kernel) (by decide) fun cx => ?_
 refine msq (mrn ?_)
 refine man (msq (msq (mrn ?_)))
 refine man (mbk ?_)
 refine vH (fun m s=>∃v1:Int,∃v5:Int,∃r99:List ByteArray,s.t 0 = .unk∧s.m 0=some (.top 0)∧s.t 1 = .v false [.dat (.int .i64 v1)]∧s.t 5 = .v false [.dat (.int .i64 v5)]∧s.ds=[.sl (List.map enS r99)]∧cX m v1 v5 r99=some r) fuel ?_ ?_
 ·refine ⟨p1,0,p0,?_,?_,?_,?_,?_,h⟩
  all_goals simp +decide only [MF,F,reduceIte,Nat.reduceAdd,qB,qC,EN, *,-h]
 rintro mL1 s1 ⟨v1,v5,r99,f2,f3,f4,f5,f6,h⟩
 rcases mL1 with _ | mL1
 ·exact absurd h (by simp [cX])
 simp only [cX] at h
 refine msq (msq (mrn ?_))
 refine man ?_
 rcases aEL (decide (v5<(List.length r99:Int))) with b7 | b7
 ·replace h:=bR b7 h
  refine mcf (mxt (vE (vD (aBk (man (msq (mrn ?_)))))))
  refine man (mrt ?_)
  cases h
  refine ⟨?_,?_⟩<;>(try simp +decide only [MF,F,ME,reduceIte,Nat.reduceAdd,EN, *])
 replace h:=bT b7 h
 refine mct (msk (man (msq (mbk (msq ?_)))))
 obtain ⟨x8,h9,h⟩:=bind_some h
 obtain ⟨x10,h11,h⟩:=bind_some h
 obtain ⟨q12,q13,q14⟩:=aT h11
 refine aC6 (aFW _ _ h9) ?_
 obtain ⟨y15,e16,h⟩:=bind_some h
 replace e16:=(Option.some.inj e16).symm
 refine man ?_
 refine mcu (fun s=>s.t 0 = .unk∧s.m 0=some (.top 0)∧s.t 1 = .v false [.dat (.int .i64 v1)]∧s.t 5 = .v false [.dat (.int .i64 v5)]∧s.ds=[.sl (List.map enS y15)]∧True) ?_
 rintro s17 ⟨f18,f19,f20,f21,f22,_⟩
 clear e16
 refine mrn ?_
 refine mab (man (mrn ?_))
 refine aB0 ⟨mL1,by omega,(i64.wrap (v1+1)),(i64.wrap (v5+1)),y15,?_,?_,?_,?_,?_,h⟩
 all_goals simp +decide only [MF,F,reduceIte,Nat.reduceAdd,qB,qC,EN, *,-h]
set_option maxHeartbeats 4000000 in
theorem aH3 (p0:List M.Site) (p1:Int) (r:(List M.Site×Int)) (h:wQ p0 p1=some r):oT Tryz.prog 116 false ([.sl (List.map M.Site.en p0)]) ([.sl (List.map M.Site.en r.1)]) p1 r.2:=by
 unfold wQ at h
 refine gU (N:=44) (r:=4) Tryz.func116 rfl rfl rfl (by decide +kernel) (by decide) fun cx => ?_
 refine msq (mrn ?_)
 refine man (msq (msq (mrn ?_)))
 refine man (mbk ?_)
 refine vH (fun m s=>∃v1:Int,∃v5:Int,∃r99:List M.Site,s.t 0 = .unk∧s.m 0=some (.top 0)∧s.t 1 = .v false [.dat (.int .i64 v1)]∧s.t 5 = .v false [.dat (.int .i64 v5)]∧s.ds=[.sl (List.map M.Site.en r99)]∧eD m v1 v5 r99=some r) fuel ?_ ?_
 ·refine ⟨p1,0,p0,?_,?_,?_,?_,?_,h⟩
  all_goals simp +decide only [MF,F,reduceIte,Nat.reduceAdd,qB,qC,EN, *,-h]
 rintro mL1 s1 ⟨v1,v5,r99,f2,f3,f4,f5,f6,h⟩
 rcases mL1 with _ | mL1
 ·exact absurd h (by simp [eD])
 simp only [eD] at h
 refine msq (msq (mrn ?_))
 refine man ?_
 rcases aEL (decide (v5<(List.length r99:Int))) with b7 | b7
 ·replace h:=bR b7 h
  refine mcf (mxt (vE (vD (aBk (man (msq (mrn ?_)))))))
  refine man (mrt ?_)
  cases h
  refine ⟨?_,?_⟩<;>(try simp +decide only [MF,F,ME,reduceIte,Nat.reduceAdd,EN, *])
 replace h:=bT b7 h
 refine mct (msk (man (msq (mbk (msq ?_)))))
 obtain ⟨x8,h9,h⟩:=bind_some h
 obtain ⟨x10,h11,h⟩:=bind_some h
 obtain ⟨q12,q13,q14⟩:=aT h11
 refine aC6 (aFW _ _ h9) ?_
 obtain ⟨y15,e16,h⟩:=bind_some h
 replace e16:=(Option.some.inj e16).symm
 refine man (msq ?_)
 refine mcu (fun s=>s.t 0 = .unk∧s.m 0=some (.top 0)∧s.t 1 = .v false [.dat (.int .i64 v1)]∧s.t 5 = .v false [.dat (.int .i64 v5)]∧s.ds=[.sl (List.map M.Site.en y15)]∧True) ?_
 rintro s17 ⟨f18,f19,f20,f21,f22,_⟩
 clear e16
 refine mrn ?_
 refine man (msq ?_)
 obtain ⟨x23,h24,h⟩:=bind_some h
 obtain ⟨q25,q26,q27⟩:=aT h24
 refine mrn ?_
 obtain ⟨y28,e29,h⟩:=bind_some h
 replace e29:=(Option.some.inj e29).symm
 refine man (msq ?_)
 refine mcu (fun s=>s.t 0 = .unk∧s.m 0=some (.top 0)∧s.t 1 = .v false [.dat (.int .i64 (i64.wrap (v1+1)))]∧s.t 5 = .v false [.dat (.int .i64 v5)]∧s.ds=[.sl (List.map M.Site.en y28)]∧True) ?_
 rintro s30 ⟨f31,f32,f33,f34,f35,_⟩
 clear e29
 refine mrn ?_
 refine man (msq ?_)
 obtain ⟨x36,h37,h⟩:=bind_some h
 obtain ⟨q38,q39,q40⟩:=aT h37
 obtain ⟨x41,h42,h⟩:=bind_some h
 refine aC6 (aF4 _ _ _ h42) ?_
 obtain ⟨y43,e44,h⟩:=bind_some h
 replace e44:=(Option.some.inj e44).symm
 refine man (msq ?_)
 refine mcu (fun s=>s.t 0 = .unk∧s.m 0=some (.top 0)∧s.t 1 = .v false [.dat (.int .i64 x41.2)]∧s.t 5 = .v false [.dat (.int .i64 v5)]∧s.ds=[.sl (List.map M.Site.en y43)]∧True) ?_
 rintro s45 ⟨f46,f47,f48,f49,f50,_⟩
 clear e44
 obtain ⟨x51,h52,h⟩:=bind_some h
 obtain ⟨q53,q54,q55⟩:=aT h52
 refine mrn ?_
 obtain ⟨y56,e57,h⟩:=bind_some h
 replace e57:=(Option.some.inj e57).symm
 refine man ?_
 refine mcu (fun s=>s.t 0 = .unk∧s.m 0=some (.top 0)∧s.t 1 = .v false [.dat (.int .i64 x41.2)]∧s.t 5 = .v false [.dat (.int .i64 v5)]∧s.ds=[.sl (List.map M.Site.en y56)]∧True) ?_
 rintro s58 ⟨f59,f60,f61,f62,f63,_⟩
 clear e57
 refine mrn ?_
 refine mab (man (mrn ?_))
 refine aB0 ⟨mL1,by omega,(i64.wrap (x41.2+1)),(i64.wrap (v5+1)),y56,?_,?_,?_,?_,?_,h⟩
 all_goals simp +decide only [MF,F,reduceIte,Nat.reduceAdd,qB,qC,EN, *,-h]
set_option maxHeartbeats 4000000 in
theorem aFc (p0:List M.aK) (p1:Int) (r:(List M.aK×Int)) (h:oI p0 p1=some r):oT Tryz.prog 249 false ([.sl (List.map M.aK.en p0)]) ([.sl (List.map M.aK.en r.1)]) p1 r.2:=by
 unfold oI at h
 refine gU (N:=27) (r:=4) Tryz.func249 rfl rfl rfl (by decide +kernel) (by decide) fun cx => ?_
 refine msq (mrn ?_)
 refine man (msq (msq (mrn ?_)))
 refine man (mbk ?_)
 refine vH (fun m s=>∃v1:Int,∃v5:Int,∃r99:List M.aK,s.t 0 = .unk∧s.m 0=some (.top 0)∧s.t 1 = .v false [.dat (.int .i64 v1)]∧s.t 5 = .v false [.dat (.int .i64 v5)]∧s.ds=[.sl (List.map M.aK.en r99)]∧cM m v1 v5 r99=some r) fuel ?_ ?_
 ·refine ⟨p1,0,p0,?_,?_,?_,?_,?_,h⟩
  all_goals simp +decide only [MF,F,reduceIte,Nat.reduceAdd,qB,qC,EN, *,-h]
 rintro mL1 s1 ⟨v1,v5,r99,f2,f3,f4,f5,f6,h⟩
 rcases mL1 with _ | mL1
 ·exact absurd h (by simp [cM])
 simp only [cM] at h
 refine msq (msq (mrn ?_))
 refine man ?_
 rcases aEL (decide (v5<(List.length r99:Int))) with b7 | b7
 ·replace h:=bR b7 h
  refine mcf (mxt (vE (vD (aBk (man (msq (mrn ?_)))))))
  refine man (mrt ?_)
  cases h
  refine ⟨?_,?_⟩<;>(try simp +decide only [MF,F,ME,reduceIte,Nat.reduceAdd,EN, *])
 replace h:=bT b7 h
 refine mct (msk (man (msq (mbk (msq ?_)))))
 obtain ⟨x8,h9,h⟩:=bind_some h
 obtain ⟨q10,q11,q12⟩:=aT h9
 refine mrn ?_
 obtain ⟨y13,e14,h⟩:=bind_some h
 replace e14:=(Option.some.inj e14).symm
 refine man (msq ?_)
 refine mcu (fun s=>s.t 0 = .unk∧s.m 0=some (.top 0)∧s.t 1 = .v false [.dat (.int .i64 v1)]∧s.t 5 = .v false [.dat (.int .i64 v5)]∧s.ds=[.sl (List.map M.aK.en y13)]∧True) ?_
 rintro s15 ⟨f16,f17,f18,f19,f20,_⟩
 clear e14
 refine mrn ?_
 refine man (msq ?_)
 obtain ⟨x21,h22,h⟩:=bind_some h
 obtain ⟨q23,q24,q25⟩:=aT h22
 refine mrn ?_
 obtain ⟨y26,e27,h⟩:=bind_some h
 replace e27:=(Option.some.inj e27).symm
 refine man ?_
 refine mcu (fun s=>s.t 0 = .unk∧s.m 0=some (.top 0)∧s.t 1 = .v false [.dat (.int .i64 (i64.wrap (v1+1)))]∧s.t 5 = .v false [.dat (.int .i64 v5)]∧s.ds=[.sl (List.map M.aK.en y26)]∧True) ?_
 rintro s28 ⟨f29,f30,f31,f32,f33,_⟩
 clear e27
 refine mrn ?_
 refine mab (man (mrn ?_))
 refine aB0 ⟨mL1,by omega,(i64.wrap ((i64.wrap (v1+1))+1)),(i64.wrap (v5+1)),y26,?_,?_,?_,?_,?_,h⟩
 all_goals simp +decide only [MF,F,reduceIte,Nat.reduceAdd,qB,qC,EN, *,-h]
set_option maxHeartbeats 4000000 in
theorem aGV (p0:List M.Server) (p1:Int) (r:(List M.Server×Int)) (h:rH p0 p1=some r):oT Tryz.prog 117 false ([.sl (List.map M.Server.en p0)]) ([.sl (List.map M.Server.en r.1)]) p1 r.2:=by
 unfold rH at h
 refine gU (N:=52) (r:=4) Tryz.func117 rfl rfl rfl (by decide +kernel) (by decide) fun cx => ?_
 refine msq (mrn ?_)
 refine man (msq (msq (mrn ?_)))
 refine man (mbk ?_)
 refine vH (fun m s=>∃v1:Int,∃v5:Int,∃r99:List M.Server,s.t 0 = .unk∧s.m 0=some (.top 0)∧s.t 1 = .v false [.dat (.int .i64 v1)]∧s.t 5 = .v false [.dat (.int .i64 v5)]∧s.ds=[.sl (List.map M.Server.en r99)]∧cQ m v1 v5 r99=some r) fuel ?_ ?_
 ·refine ⟨p1,0,p0,?_,?_,?_,?_,?_,h⟩
  all_goals simp +decide only [MF,F,reduceIte,Nat.reduceAdd,qB,qC,EN, *,-h]
 rintro mL1 s1 ⟨v1,v5,r99,f2,f3,f4,f5,f6,h⟩
 rcases mL1 with _ | mL1
 ·exact absurd h (by simp [cQ])
 simp only [cQ] at h
 refine msq (msq (mrn ?_))
 refine man ?_
 rcases aEL (decide (v5<(List.length r99:Int))) with b7 | b7
 ·replace h:=bR b7 h
  refine mcf (mxt (vE (vD (aBk (man (msq (mrn ?_)))))))
  refine man (mrt ?_)
  cases h
  refine ⟨?_,?_⟩<;>(try simp +decide only [MF,F,ME,reduceIte,Nat.reduceAdd,EN, *])
 replace h:=bT b7 h
 refine mct (msk (man (msq (mbk (msq ?_)))))
 obtain ⟨x8,h9,h⟩:=bind_some h
 obtain ⟨x10,h11,h⟩:=bind_some h
 obtain ⟨q12,q13,q14⟩:=aT h11
 refine aC6 (aFW _ _ h9) ?_
 obtain ⟨y15,e16,h⟩:=bind_some h
 replace e16:=(Option.some.inj e16).symm
 refine man (msq ?_)
 refine mcu (fun s=>s.t 0 = .unk∧s.m 0=some (.top 0)∧s.t 1 = .v false [.dat (.int .i64 v1)]∧s.t 5 = .v false [.dat (.int .i64 v5)]∧s.ds=[.sl (List.map M.Server.en y15)]∧True) ?_
 rintro s17 ⟨f18,f19,f20,f21,f22,_⟩
 clear e16
 refine mrn ?_
 refine man (msq ?_)
 obtain ⟨x23,h24,h⟩:=bind_some h
 obtain ⟨q25,q26,q27⟩:=aT h24
 obtain ⟨x28,h29,h⟩:=bind_some h
 refine aC6 (aCn _ _ _ h29) ?_
 obtain ⟨y30,e31,h⟩:=bind_some h
 replace e31:=(Option.some.inj e31).symm
 refine man (msq ?_)
 refine mcu (fun s=>s.t 0 = .unk∧s.m 0=some (.top 0)∧s.t 1 = .v false [.dat (.int .i64 x28.2)]∧s.t 5 = .v false [.dat (.int .i64 v5)]∧s.ds=[.sl (List.map M.Server.en y30)]∧True) ?_
 rintro s32 ⟨f33,f34,f35,f36,f37,_⟩
 clear e31
 obtain ⟨x38,h39,h⟩:=bind_some h
 obtain ⟨q40,q41,q42⟩:=aT h39
 refine mrn ?_
 obtain ⟨y43,e44,h⟩:=bind_some h
 replace e44:=(Option.some.inj e44).symm
 refine man (msq ?_)
 refine mcu (fun s=>s.t 0 = .unk∧s.m 0=some (.top 0)∧s.t 1 = .v false [.dat (.int .i64 x28.2)]∧s.t 5 = .v false [.dat (.int .i64 v5)]∧s.ds=[.sl (List.map M.Server.en y43)]∧True) ?_
 rintro s45 ⟨f46,f47,f48,f49,f50,_⟩
 clear e44
 refine mrn ?_
 refine man (msq ?_)
 obtain ⟨x51,h52,h⟩:=bind_some h
 obtain ⟨q53,q54,q55⟩:=aT h52
 obtain ⟨x56,h57,h⟩:=bind_some h
 refine aC6 (aFc _ _ _ h57) ?_
 obtain ⟨y58,e59,h⟩:=bind_some h
 replace e59:=(Option.some.inj e59).symm
 refine man ?_
 refine mcu (fun s=>s.t 0 = .unk∧s.m 0=some (.top 0)∧s.t 1 = .v false [.dat (.int .i64 x56.2)]∧s.t 5 = .v false [.dat (.int .i64 v5)]∧s.ds=[.sl (List.map M.Server.en y58)]∧True) ?_
 rintro s60 ⟨f61,f62,f63,f64,f65,_⟩
 clear e59
 obtain ⟨x66,h67,h⟩:=bind_some h
 obtain ⟨q68,q69,q70⟩:=aT h67
 obtain ⟨x71,h72,h⟩:=bind_some h
 refine aC6 (aDn _ _ _ h72) ?_
 obtain ⟨y73,e74,h⟩:=bind_some h
 replace e74:=(Option.some.inj e74).symm
 refine mab (man ?_)
 refine mcu (fun s=>s.t 0 = .unk∧s.m 0=some (.top 0)∧s.t 1 = .v false [.dat (.int .i64 x71.2)]∧s.t 5 = .v false [.dat (.int .i64 v5)]∧s.ds=[.sl (List.map M.Server.en y73)]∧True) ?_
 rintro s75 ⟨f76,f77,f78,f79,f80,_⟩
 clear e74
 refine mrn ?_
 refine aB0 ⟨mL1,by omega,x71.2,(i64.wrap (v5+1)),y73,?_,?_,?_,?_,?_,h⟩
 all_goals simp +decide only [MF,F,reduceIte,Nat.reduceAdd,qB,qC,EN, *,-h]
set_option maxHeartbeats 4000000 in
theorem aEN (p0:M.World) (p1:Int) (r:(List M.Bucket×List M.bJ×List M.dA×List M.fW×List M.Site×List M.Server×Int)) (h:pD p0 p1=some r):oT Tryz.prog 29 true (M.World.en p0) ([.int .i64 p0.Now,.bool p0.Online,.int .i64 p0.Device,.sl (List.map M.Bucket.en r.1),.sl (List.map M.bJ.en r.2.1),.int .i64 p0.NextPage,.sl (List.map M.dA.en r.2.2.1),.sl (List.map M.fW.en r.2.2.2.1),.sl (List.map M.Site.en r.2.2.2.2.1),.sl (List.map M.Server.en r.2.2.2.2.2.1)]) p1 r.2.2.2.2.2.2:=by
 unfold pD at h
 simp only [M.World.en]
 refine gU (N:=30) (r:=4) Tryz.func29 rfl rfl rfl (by decide +kernel) (by decide) fun cx => ?_
 refine msq (mrn ?_)
 refine man (msq ?_)
 obtain ⟨x1,h2,h⟩:=bind_some h
 refine aC6 (aGa _ _ _ h2) ?_
 refine man (msq ?_)
 refine mcu (fun s=>s.t 1 = .v false [.dat (.int .i64 x1.2)]∧s.t 2 = .unk∧s.m 2=some (.bx 0)∧s.ds=[.int .i64 p0.Now,.bool p0.Online,.int .i64 p0.Device,.sl (List.map M.Bucket.en x1.1),.sl (List.map M.bJ.en p0.Pages),.int .i64 p0.NextPage,.sl (List.map M.dA.en p0.Locks.Locks),.sl (List.map M.fW.en p0.Channel.Mails),.sl (List.map M.Site.en p0.Sites),.sl (List.map M.Server.en p0.Servers)]∧True) ?_
 rintro s3 ⟨f4,f5,f6,f7,_⟩
 obtain ⟨x8,h9,h⟩:=bind_some h
 refine aC6 (aH7 _ _ _ h9) ?_
 refine man (msq ?_)
 refine mcu (fun s=>s.t 1 = .v false [.dat (.int .i64 x8.2)]∧s.t 2 = .unk∧s.m 2=some (.bx 0)∧s.ds=[.int .i64 p0.Now,.bool p0.Online,.int .i64 p0.Device,.sl (List.map M.Bucket.en x1.1),.sl (List.map M.bJ.en x8.1),.int .i64 p0.NextPage,.sl (List.map M.dA.en p0.Locks.Locks),.sl (List.map M.fW.en p0.Channel.Mails),.sl (List.map M.Site.en p0.Sites),.sl (List.map M.Server.en p0.Servers)]∧True) ?_
 rintro s10 ⟨f11,f12,f13,f14,_⟩
 obtain ⟨x15,h16,h⟩:=bind_some h
 refine aC6 (aFK _ _ _ h16) ?_
 refine man (msq ?_)
 refine mcu (fun s=>s.t 1 = .v false [.dat (.int .i64 x15.2)]∧s.t 2 = .unk∧s.m 2=some (.bx 0)∧s.ds=[.int .i64 p0.Now,.bool p0.Online,.int .i64 p0.Device,.sl (List.map M.Bucket.en x1.1),.sl (List.map M.bJ.en x8.1),.int .i64 p0.NextPage,.sl (List.map M.dA.en x15.1),.sl (List.map M.fW.en p0.Channel.Mails),.sl (List.map M.Site.en p0.Sites),.sl (List.map M.Server.en p0.Servers)]∧True) ?_
 rintro s17 ⟨f18,f19,f20,f21,_⟩
 obtain ⟨x22,h23,h⟩:=bind_some h
 refine aC6 (aGY _ _ _ h23) ?_
 refine man (msq ?_)
 refine mcu (fun s=>s.t 1 = .v false [.dat (.int .i64 x22.2)]∧s.t 2 = .unk∧s.m 2=some (.bx 0)∧s.ds=[.int .i64 p0.Now,.bool p0.Online,.int .i64 p0.Device,.sl (List.map M.Bucket.en x1.1),.sl (List.map M.bJ.en x8.1),.int .i64 p0.NextPage,.sl (List.map M.dA.en x15.1),.sl (List.map M.fW.en x22.1),.sl (List.map M.Site.en p0.Sites),.sl (List.map M.Server.en p0.Servers)]∧True) ?_
 rintro s24 ⟨f25,f26,f27,f28,_⟩
 obtain ⟨x29,h30,h⟩:=bind_some h
 refine aC6 (aH3 _ _ _ h30) ?_
 refine man (msq ?_)
 refine mcu (fun s=>s.t 1 = .v false [.dat (.int .i64 x29.2)]∧s.t 2 = .unk∧s.m 2=some (.bx 0)∧s.ds=[.int .i64 p0.Now,.bool p0.Online,.int .i64 p0.Device,.sl (List.map M.Bucket.en x1.1),.sl (List.map M.bJ.en x8.1),.int .i64 p0.NextPage,.sl (List.map M.dA.en x15.1),.sl (List.map M.fW.en x22.1),.sl (List.map M.Site.en x29.1),.sl (List.map M.Server.en p0.Servers)]∧True) ?_
 rintro s31 ⟨f32,f33,f34,f35,_⟩
 obtain ⟨x36,h37,h⟩:=bind_some h
 refine aC6 (aGV _ _ _ h37) ?_
 refine man (msq (mrn ?_))
 refine man (mrt ?_)
 cases h
 refine ⟨?_,?_⟩<;>(try simp +decide only [MF,F,ME,reduceIte,Nat.reduceAdd,EN, *])
end Go.Proofs.YtidhkhdnjonjfaaGreat.gen
