/-
  Helper text. No conditions.
-/
import Derived.Test.YtnhpbpnhmapeeaaGreatSendNoteTi
import Derived.Test.YtnhpbpnhmapeeaaGreatSendNoteWmark0
import Derived.Test.YtnhpbpnhmapeeaaGreatSendNoteWmark1
namespace Go.Proofs.YtnhpbpnhmapeeaaGreat.gen
open Go Go.Sh
open Go.IntKind (i64)
set_option linter.unusedVariables false
set_option linter.unusedSimpArgs false
set_option maxRecDepth 20000
set_option maxHeartbeats 4000000
set_option maxHeartbeats 4000000 in
theorem aF5 (p0:List M.cT) (p1:Int) (r:(List M.cT×Int)) (h:tP p0 p1=some r):lT Tryz.prog 189 false ([.sl (List.map M.cT.en p0)]) ([.sl (List.map M.cT.en r.1)]) p1 r.2:=by
 unfold tP at h
 refine fE (N:=46) (r:=4) Tryz.func189 rfl rfl rfl (by decide +kernel) (by decide) fun cx => ?_
 refine msq (mrn ?_)
 refine man (msq (msq (mrn ?_)))
 refine man (mbk ?_)
 refine sH (fun m s=>∃v1:Int,∃v5:Int,∃r99:List M.cT,s.t 0 = .unk∧s.m 0=some (.top 0)∧s.t 1 = .v false [.dat (.int .i64 v1)]∧s.t 5 = .v false [.dat (.int .i64 v5)]∧s.ds=[.sl (List.map M.cT.en r99)]∧dM m v1 v5 r99=some r) fuel ?_ ?_
 ·refine ⟨p1,0,p0,?_,?_,?_,?_,?_,h⟩
  all_goals simp +decide only [MF,F,reduceIte,Nat.reduceAdd,Bool.not_true,Bool.not_false,EN, *,-h]
 rintro mL1 s1 ⟨v1,v5,r99,f2,f3,f4,f5,f6,h⟩
 rcases mL1 with _ | mL1
 ·exact absurd h (by simp [dM])
 simp only [dM] at h
 refine msq (msq (mrn ?_))
 refine man ?_
 rcases rQ (decide (v5<(List.length r99:Int))) with b7 | b7
 ·replace h:=bA b7 h
  refine mcf (mxt (sE (sD (aAZ (man (msq (mrn ?_)))))))
  refine man (mrt ?_)
  cases h
  refine ⟨?_,?_⟩<;>(try simp +decide only [MF,F,ME,reduceIte,Nat.reduceAdd,EN, *])
 replace h:=bB b7 h
 refine mct (msk (man (msq (mbk (msq ?_)))))
 obtain ⟨x8,h9,h⟩:=bind_some h
 obtain ⟨x10,h11,h⟩:=bind_some h
 obtain ⟨q12,q13,q14⟩:=aR h11
 refine aBR (aDr _ _ h9) ?_
 obtain ⟨y15,e16,h⟩:=bind_some h
 replace e16:=(Option.some.inj e16).symm
 refine man (msq ?_)
 refine mcu (fun s=>s.t 0 = .unk∧s.m 0=some (.top 0)∧s.t 1 = .v false [.dat (.int .i64 v1)]∧s.t 5 = .v false [.dat (.int .i64 v5)]∧s.ds=[.sl (List.map M.cT.en y15)]∧True) ?_
 rintro s17 ⟨f18,f19,f20,f21,f22,_⟩
 clear e16
 refine mrn ?_
 refine man (msq ?_)
 obtain ⟨x23,h24,h⟩:=bind_some h
 obtain ⟨q25,q26,q27⟩:=aR h24
 refine mrn ?_
 obtain ⟨y28,e29,h⟩:=bind_some h
 replace e29:=(Option.some.inj e29).symm
 refine man (msq ?_)
 refine mcu (fun s=>s.t 0 = .unk∧s.m 0=some (.top 0)∧s.t 1 = .v false [.dat (.int .i64 (i64.wrap (v1+1)))]∧s.t 5 = .v false [.dat (.int .i64 v5)]∧s.ds=[.sl (List.map M.cT.en y28)]∧True) ?_
 rintro s30 ⟨f31,f32,f33,f34,f35,_⟩
 clear e29
 refine mrn ?_
 refine man (msq ?_)
 obtain ⟨x36,h37,h⟩:=bind_some h
 obtain ⟨q38,q39,q40⟩:=aR h37
 refine mrn ?_
 obtain ⟨y41,e42,h⟩:=bind_some h
 replace e42:=(Option.some.inj e42).symm
 refine man (msq ?_)
 refine mcu (fun s=>s.t 0 = .unk∧s.m 0=some (.top 0)∧s.t 1 = .v false [.dat (.int .i64 (i64.wrap ((i64.wrap (v1+1))+1)))]∧s.t 5 = .v false [.dat (.int .i64 v5)]∧s.ds=[.sl (List.map M.cT.en y41)]∧True) ?_
 rintro s43 ⟨f44,f45,f46,f47,f48,_⟩
 clear e42
 refine mrn ?_
 refine man (msq ?_)
 obtain ⟨x49,h50,h⟩:=bind_some h
 obtain ⟨q51,q52,q53⟩:=aR h50
 refine mrn ?_
 obtain ⟨y54,e55,h⟩:=bind_some h
 replace e55:=(Option.some.inj e55).symm
 refine man ?_
 refine mcu (fun s=>s.t 0 = .unk∧s.m 0=some (.top 0)∧s.t 1 = .v false [.dat (.int .i64 (i64.wrap ((i64.wrap ((i64.wrap (v1+1))+1))+1)))]∧s.t 5 = .v false [.dat (.int .i64 v5)]∧s.ds=[.sl (List.map M.cT.en y54)]∧True) ?_
 rintro s56 ⟨f57,f58,f59,f60,f61,_⟩
 clear e55
 refine mrn ?_
 refine mab (man (mrn ?_))
 refine aAl ⟨mL1,by omega,(i64.wrap ((i64.wrap ((i64.wrap ((i64.wrap (v1+1))+1))+1))+1)),(i64.wrap (v5+1)),y54,?_,?_,?_,?_,?_,h⟩
 all_goals simp +decide only [MF,F,reduceIte,Nat.reduceAdd,Bool.not_true,Bool.not_false,EN, *,-h]
set_option maxHeartbeats 4000000 in
theorem aDl (p0:M.aW) (p1:Int) (r:(List M.cT×Int)) (h:pR p0 p1=some r):lT Tryz.prog 78 true (M.aW.en p0) ([.sl (List.map M.cT.en r.1)]) p1 r.2:=by
 unfold pR at h
 simp only [M.aW.en]
 refine fE (N:=10) (r:=4) Tryz.func78 rfl rfl rfl (by decide +kernel) (by decide) fun cx => ?_
 refine msq (mrn ?_)
 refine man (msq ?_)
 obtain ⟨x1,h2,h⟩:=bind_some h
 refine aBR (aF5 _ _ _ h2) ?_
 refine man (msq (mrn ?_))
 refine man (mrt ?_)
 cases h
 refine ⟨?_,?_⟩<;>(try simp +decide only [MF,F,ME,reduceIte,Nat.reduceAdd,EN, *])
set_option maxHeartbeats 4000000 in
theorem aF9 (p0:List M.eO) (p1:Int) (r:(List M.eO×Int)) (h:tT p0 p1=some r):lT Tryz.prog 190 false ([.sl (List.map M.eO.en p0)]) ([.sl (List.map M.eO.en r.1)]) p1 r.2:=by
 unfold tT at h
 refine fE (N:=34) (r:=4) Tryz.func190 rfl rfl rfl (by decide +kernel) (by decide) fun cx => ?_
 refine msq (mrn ?_)
 refine man (msq (msq (mrn ?_)))
 refine man (mbk ?_)
 refine sH (fun m s=>∃v1:Int,∃v5:Int,∃r99:List M.eO,s.t 0 = .unk∧s.m 0=some (.top 0)∧s.t 1 = .v false [.dat (.int .i64 v1)]∧s.t 5 = .v false [.dat (.int .i64 v5)]∧s.ds=[.sl (List.map M.eO.en r99)]∧dK m v1 v5 r99=some r) fuel ?_ ?_
 ·refine ⟨p1,0,p0,?_,?_,?_,?_,?_,h⟩
  all_goals simp +decide only [MF,F,reduceIte,Nat.reduceAdd,Bool.not_true,Bool.not_false,EN, *,-h]
 rintro mL1 s1 ⟨v1,v5,r99,f2,f3,f4,f5,f6,h⟩
 rcases mL1 with _ | mL1
 ·exact absurd h (by simp [dK])
 simp only [dK] at h
 refine msq (msq (mrn ?_))
 refine man ?_
 rcases rQ (decide (v5<(List.length r99:Int))) with b7 | b7
 ·replace h:=bA b7 h
  refine mcf (mxt (sE (sD (aAZ (man (msq (mrn ?_)))))))
  refine man (mrt ?_)
  cases h
  refine ⟨?_,?_⟩<;>(try simp +decide only [MF,F,ME,reduceIte,Nat.reduceAdd,EN, *])
 replace h:=bB b7 h
 refine mct (msk (man (msq (mbk (msq ?_)))))
 obtain ⟨x8,h9,h⟩:=bind_some h
 obtain ⟨q10,q11,q12⟩:=aR h9
 refine mrn ?_
 obtain ⟨y13,e14,h⟩:=bind_some h
 replace e14:=(Option.some.inj e14).symm
 refine man (msq ?_)
 refine mcu (fun s=>s.t 0 = .unk∧s.m 0=some (.top 0)∧s.t 1 = .v false [.dat (.int .i64 v1)]∧s.t 5 = .v false [.dat (.int .i64 v5)]∧s.ds=[.sl (List.map M.eO.en y13)]∧True) ?_
 rintro s15 ⟨f16,f17,f18,f19,f20,_⟩
 clear e14
 refine mrn ?_
 refine man (msq ?_)
 obtain ⟨x21,h22,h⟩:=bind_some h
 obtain ⟨q23,q24,q25⟩:=aR h22
 refine mrn ?_
 obtain ⟨y26,e27,h⟩:=bind_some h
 replace e27:=(Option.some.inj e27).symm
 refine man (msq ?_)
 refine mcu (fun s=>s.t 0 = .unk∧s.m 0=some (.top 0)∧s.t 1 = .v false [.dat (.int .i64 (i64.wrap (v1+1)))]∧s.t 5 = .v false [.dat (.int .i64 v5)]∧s.ds=[.sl (List.map M.eO.en y26)]∧True) ?_
 rintro s28 ⟨f29,f30,f31,f32,f33,_⟩
 clear e27
 refine mrn ?_
 refine man (msq ?_)
 obtain ⟨x34,h35,h⟩:=bind_some h
 obtain ⟨q36,q37,q38⟩:=aR h35
 refine mrn ?_
 obtain ⟨y39,e40,h⟩:=bind_some h
 replace e40:=(Option.some.inj e40).symm
 refine man ?_
 refine mcu (fun s=>s.t 0 = .unk∧s.m 0=some (.top 0)∧s.t 1 = .v false [.dat (.int .i64 (i64.wrap ((i64.wrap (v1+1))+1)))]∧s.t 5 = .v false [.dat (.int .i64 v5)]∧s.ds=[.sl (List.map M.eO.en y39)]∧True) ?_
 rintro s41 ⟨f42,f43,f44,f45,f46,_⟩
 clear e40
 refine mrn ?_
 refine mab (man (mrn ?_))
 refine aAl ⟨mL1,by omega,(i64.wrap ((i64.wrap ((i64.wrap (v1+1))+1))+1)),(i64.wrap (v5+1)),y39,?_,?_,?_,?_,?_,h⟩
 all_goals simp +decide only [MF,F,reduceIte,Nat.reduceAdd,Bool.not_true,Bool.not_false,EN, *,-h]
set_option maxHeartbeats 4000000 in
theorem aEt (p0:M.Channel) (p1:Int) (r:(List M.eO×Int)) (h:vD p0 p1=some r):lT Tryz.prog 79 true (M.Channel.en p0) ([.sl (List.map M.eO.en r.1)]) p1 r.2:=by
 unfold vD at h
 simp only [M.Channel.en]
 refine fE (N:=10) (r:=4) Tryz.func79 rfl rfl rfl (by decide +kernel) (by decide) fun cx => ?_
 refine msq (mrn ?_)
 refine man (msq ?_)
 obtain ⟨x1,h2,h⟩:=bind_some h
 refine aBR (aF9 _ _ _ h2) ?_
 refine man (msq (mrn ?_))
 refine man (mrt ?_)
 cases h
 refine ⟨?_,?_⟩<;>(try simp +decide only [MF,F,ME,reduceIte,Nat.reduceAdd,EN, *])
set_option maxHeartbeats 4000000 in
theorem aEP (p0:List ByteArray) (p1:Int) (r:(List ByteArray×Int)) (h:oH p0 p1=some r):lT Tryz.prog 191 false ([.sl (List.map enS p0)]) ([.sl (List.map enS r.1)]) p1 r.2:=by
 unfold oH at h
 refine fE (N:=20) (r:=4) Tryz.func191 rfl rfl rfl (by decide +kernel) (by decide) fun cx => ?_
 refine msq (mrn ?_)
 refine man (msq (msq (mrn ?_)))
 refine man (mbk ?_)
 refine sH (fun m s=>∃v1:Int,∃v5:Int,∃r99:List ByteArray,s.t 0 = .unk∧s.m 0=some (.top 0)∧s.t 1 = .v false [.dat (.int .i64 v1)]∧s.t 5 = .v false [.dat (.int .i64 v5)]∧s.ds=[.sl (List.map enS r99)]∧cQ m v1 v5 r99=some r) fuel ?_ ?_
 ·refine ⟨p1,0,p0,?_,?_,?_,?_,?_,h⟩
  all_goals simp +decide only [MF,F,reduceIte,Nat.reduceAdd,Bool.not_true,Bool.not_false,EN, *,-h]
 rintro mL1 s1 ⟨v1,v5,r99,f2,f3,f4,f5,f6,h⟩
 rcases mL1 with _ | mL1
 ·exact absurd h (by simp [cQ])
 simp only [cQ] at h
 refine msq (msq (mrn ?_))
 refine man ?_
 rcases rQ (decide (v5<(List.length r99:Int))) with b7 | b7
 ·replace h:=bA b7 h
  refine mcf (mxt (sE (sD (aAZ (man (msq (mrn ?_)))))))
  refine man (mrt ?_)
  cases h
  refine ⟨?_,?_⟩<;>(try simp +decide only [MF,F,ME,reduceIte,Nat.reduceAdd,EN, *])
 replace h:=bB b7 h
 refine mct (msk (man (msq (mbk (msq ?_)))))
 obtain ⟨x8,h9,h⟩:=bind_some h
 obtain ⟨x10,h11,h⟩:=bind_some h
 obtain ⟨q12,q13,q14⟩:=aR h11
 refine aBR (aDr _ _ h9) ?_
 obtain ⟨y15,e16,h⟩:=bind_some h
 replace e16:=(Option.some.inj e16).symm
 refine man ?_
 refine mcu (fun s=>s.t 0 = .unk∧s.m 0=some (.top 0)∧s.t 1 = .v false [.dat (.int .i64 v1)]∧s.t 5 = .v false [.dat (.int .i64 v5)]∧s.ds=[.sl (List.map enS y15)]∧True) ?_
 rintro s17 ⟨f18,f19,f20,f21,f22,_⟩
 clear e16
 refine mrn ?_
 refine mab (man (mrn ?_))
 refine aAl ⟨mL1,by omega,(i64.wrap (v1+1)),(i64.wrap (v5+1)),y15,?_,?_,?_,?_,?_,h⟩
 all_goals simp +decide only [MF,F,reduceIte,Nat.reduceAdd,Bool.not_true,Bool.not_false,EN, *,-h]
set_option maxHeartbeats 4000000 in
theorem aFy (p0:List M.Site) (p1:Int) (r:(List M.Site×Int)) (h:tJ p0 p1=some r):lT Tryz.prog 80 false ([.sl (List.map M.Site.en p0)]) ([.sl (List.map M.Site.en r.1)]) p1 r.2:=by
 unfold tJ at h
 refine fE (N:=44) (r:=4) Tryz.func80 rfl rfl rfl (by decide +kernel) (by decide) fun cx => ?_
 refine msq (mrn ?_)
 refine man (msq (msq (mrn ?_)))
 refine man (mbk ?_)
 refine sH (fun m s=>∃v1:Int,∃v5:Int,∃r99:List M.Site,s.t 0 = .unk∧s.m 0=some (.top 0)∧s.t 1 = .v false [.dat (.int .i64 v1)]∧s.t 5 = .v false [.dat (.int .i64 v5)]∧s.ds=[.sl (List.map M.Site.en r99)]∧dR m v1 v5 r99=some r) fuel ?_ ?_
 ·refine ⟨p1,0,p0,?_,?_,?_,?_,?_,h⟩
  all_goals simp +decide only [MF,F,reduceIte,Nat.reduceAdd,Bool.not_true,Bool.not_false,EN, *,-h]
 rintro mL1 s1 ⟨v1,v5,r99,f2,f3,f4,f5,f6,h⟩
 rcases mL1 with _ | mL1
 ·exact absurd h (by simp [dR])
 simp only [dR] at h
 refine msq (msq (mrn ?_))
 refine man ?_
 rcases rQ (decide (v5<(List.length r99:Int))) with b7 | b7
 ·replace h:=bA b7 h
  refine mcf (mxt (sE (sD (aAZ (man (msq (mrn ?_)))))))
  refine man (mrt ?_)
  cases h
  refine ⟨?_,?_⟩<;>(try simp +decide only [MF,F,ME,reduceIte,Nat.reduceAdd,EN, *])
 replace h:=bB b7 h
 refine mct (msk (man (msq (mbk (msq ?_)))))
 obtain ⟨x8,h9,h⟩:=bind_some h
 obtain ⟨x10,h11,h⟩:=bind_some h
 obtain ⟨q12,q13,q14⟩:=aR h11
 refine aBR (aDr _ _ h9) ?_
 obtain ⟨y15,e16,h⟩:=bind_some h
 replace e16:=(Option.some.inj e16).symm
 refine man (msq ?_)
 refine mcu (fun s=>s.t 0 = .unk∧s.m 0=some (.top 0)∧s.t 1 = .v false [.dat (.int .i64 v1)]∧s.t 5 = .v false [.dat (.int .i64 v5)]∧s.ds=[.sl (List.map M.Site.en y15)]∧True) ?_
 rintro s17 ⟨f18,f19,f20,f21,f22,_⟩
 clear e16
 refine mrn ?_
 refine man (msq ?_)
 obtain ⟨x23,h24,h⟩:=bind_some h
 obtain ⟨q25,q26,q27⟩:=aR h24
 refine mrn ?_
 obtain ⟨y28,e29,h⟩:=bind_some h
 replace e29:=(Option.some.inj e29).symm
 refine man (msq ?_)
 refine mcu (fun s=>s.t 0 = .unk∧s.m 0=some (.top 0)∧s.t 1 = .v false [.dat (.int .i64 (i64.wrap (v1+1)))]∧s.t 5 = .v false [.dat (.int .i64 v5)]∧s.ds=[.sl (List.map M.Site.en y28)]∧True) ?_
 rintro s30 ⟨f31,f32,f33,f34,f35,_⟩
 clear e29
 refine mrn ?_
 refine man (msq ?_)
 obtain ⟨x36,h37,h⟩:=bind_some h
 obtain ⟨q38,q39,q40⟩:=aR h37
 obtain ⟨x41,h42,h⟩:=bind_some h
 refine aBR (aEP _ _ _ h42) ?_
 obtain ⟨y43,e44,h⟩:=bind_some h
 replace e44:=(Option.some.inj e44).symm
 refine man (msq ?_)
 refine mcu (fun s=>s.t 0 = .unk∧s.m 0=some (.top 0)∧s.t 1 = .v false [.dat (.int .i64 x41.2)]∧s.t 5 = .v false [.dat (.int .i64 v5)]∧s.ds=[.sl (List.map M.Site.en y43)]∧True) ?_
 rintro s45 ⟨f46,f47,f48,f49,f50,_⟩
 clear e44
 obtain ⟨x51,h52,h⟩:=bind_some h
 obtain ⟨q53,q54,q55⟩:=aR h52
 refine mrn ?_
 obtain ⟨y56,e57,h⟩:=bind_some h
 replace e57:=(Option.some.inj e57).symm
 refine man ?_
 refine mcu (fun s=>s.t 0 = .unk∧s.m 0=some (.top 0)∧s.t 1 = .v false [.dat (.int .i64 x41.2)]∧s.t 5 = .v false [.dat (.int .i64 v5)]∧s.ds=[.sl (List.map M.Site.en y56)]∧True) ?_
 rintro s58 ⟨f59,f60,f61,f62,f63,_⟩
 clear e57
 refine mrn ?_
 refine mab (man (mrn ?_))
 refine aAl ⟨mL1,by omega,(i64.wrap (x41.2+1)),(i64.wrap (v5+1)),y56,?_,?_,?_,?_,?_,h⟩
 all_goals simp +decide only [MF,F,reduceIte,Nat.reduceAdd,Bool.not_true,Bool.not_false,EN, *,-h]
set_option maxHeartbeats 4000000 in
theorem aD3 (p0:List M.aO) (p1:Int) (r:(List M.aO×Int)) (h:nA p0 p1=some r):lT Tryz.prog 193 false ([.sl (List.map M.aO.en p0)]) ([.sl (List.map M.aO.en r.1)]) p1 r.2:=by
 unfold nA at h
 refine fE (N:=27) (r:=4) Tryz.func193 rfl rfl rfl (by decide +kernel) (by decide) fun cx => ?_
 refine msq (mrn ?_)
 refine man (msq (msq (mrn ?_)))
 refine man (mbk ?_)
 refine sH (fun m s=>∃v1:Int,∃v5:Int,∃r99:List M.aO,s.t 0 = .unk∧s.m 0=some (.top 0)∧s.t 1 = .v false [.dat (.int .i64 v1)]∧s.t 5 = .v false [.dat (.int .i64 v5)]∧s.ds=[.sl (List.map M.aO.en r99)]∧bZ m v1 v5 r99=some r) fuel ?_ ?_
 ·refine ⟨p1,0,p0,?_,?_,?_,?_,?_,h⟩
  all_goals simp +decide only [MF,F,reduceIte,Nat.reduceAdd,Bool.not_true,Bool.not_false,EN, *,-h]
 rintro mL1 s1 ⟨v1,v5,r99,f2,f3,f4,f5,f6,h⟩
 rcases mL1 with _ | mL1
 ·exact absurd h (by simp [bZ])
 simp only [bZ] at h
 refine msq (msq (mrn ?_))
 refine man ?_
 rcases rQ (decide (v5<(List.length r99:Int))) with b7 | b7
 ·replace h:=bA b7 h
  refine mcf (mxt (sE (sD (aAZ (man (msq (mrn ?_)))))))
  refine man (mrt ?_)
  cases h
  refine ⟨?_,?_⟩<;>(try simp +decide only [MF,F,ME,reduceIte,Nat.reduceAdd,EN, *])
 replace h:=bB b7 h
 refine mct (msk (man (msq (mbk (msq ?_)))))
 obtain ⟨x8,h9,h⟩:=bind_some h
 obtain ⟨q10,q11,q12⟩:=aR h9
 refine mrn ?_
 obtain ⟨y13,e14,h⟩:=bind_some h
 replace e14:=(Option.some.inj e14).symm
 refine man (msq ?_)
 refine mcu (fun s=>s.t 0 = .unk∧s.m 0=some (.top 0)∧s.t 1 = .v false [.dat (.int .i64 v1)]∧s.t 5 = .v false [.dat (.int .i64 v5)]∧s.ds=[.sl (List.map M.aO.en y13)]∧True) ?_
 rintro s15 ⟨f16,f17,f18,f19,f20,_⟩
 clear e14
 refine mrn ?_
 refine man (msq ?_)
 obtain ⟨x21,h22,h⟩:=bind_some h
 obtain ⟨q23,q24,q25⟩:=aR h22
 refine mrn ?_
 obtain ⟨y26,e27,h⟩:=bind_some h
 replace e27:=(Option.some.inj e27).symm
 refine man ?_
 refine mcu (fun s=>s.t 0 = .unk∧s.m 0=some (.top 0)∧s.t 1 = .v false [.dat (.int .i64 (i64.wrap (v1+1)))]∧s.t 5 = .v false [.dat (.int .i64 v5)]∧s.ds=[.sl (List.map M.aO.en y26)]∧True) ?_
 rintro s28 ⟨f29,f30,f31,f32,f33,_⟩
 clear e27
 refine mrn ?_
 refine mab (man (mrn ?_))
 refine aAl ⟨mL1,by omega,(i64.wrap ((i64.wrap (v1+1))+1)),(i64.wrap (v5+1)),y26,?_,?_,?_,?_,?_,h⟩
 all_goals simp +decide only [MF,F,reduceIte,Nat.reduceAdd,Bool.not_true,Bool.not_false,EN, *,-h]
set_option maxHeartbeats 4000000 in
theorem aEq (p0:List M.Server) (p1:Int) (r:(List M.Server×Int)) (h:oV p0 p1=some r):lT Tryz.prog 81 false ([.sl (List.map M.Server.en p0)]) ([.sl (List.map M.Server.en r.1)]) p1 r.2:=by
 unfold oV at h
 refine fE (N:=52) (r:=4) Tryz.func81 rfl rfl rfl (by decide +kernel) (by decide) fun cx => ?_
 refine msq (mrn ?_)
 refine man (msq (msq (mrn ?_)))
 refine man (mbk ?_)
 refine sH (fun m s=>∃v1:Int,∃v5:Int,∃r99:List M.Server,s.t 0 = .unk∧s.m 0=some (.top 0)∧s.t 1 = .v false [.dat (.int .i64 v1)]∧s.t 5 = .v false [.dat (.int .i64 v5)]∧s.ds=[.sl (List.map M.Server.en r99)]∧cJ m v1 v5 r99=some r) fuel ?_ ?_
 ·refine ⟨p1,0,p0,?_,?_,?_,?_,?_,h⟩
  all_goals simp +decide only [MF,F,reduceIte,Nat.reduceAdd,Bool.not_true,Bool.not_false,EN, *,-h]
 rintro mL1 s1 ⟨v1,v5,r99,f2,f3,f4,f5,f6,h⟩
 rcases mL1 with _ | mL1
 ·exact absurd h (by simp [cJ])
 simp only [cJ] at h
 refine msq (msq (mrn ?_))
 refine man ?_
 rcases rQ (decide (v5<(List.length r99:Int))) with b7 | b7
 ·replace h:=bA b7 h
  refine mcf (mxt (sE (sD (aAZ (man (msq (mrn ?_)))))))
  refine man (mrt ?_)
  cases h
  refine ⟨?_,?_⟩<;>(try simp +decide only [MF,F,ME,reduceIte,Nat.reduceAdd,EN, *])
 replace h:=bB b7 h
 refine mct (msk (man (msq (mbk (msq ?_)))))
 obtain ⟨x8,h9,h⟩:=bind_some h
 obtain ⟨x10,h11,h⟩:=bind_some h
 obtain ⟨q12,q13,q14⟩:=aR h11
 refine aBR (aDr _ _ h9) ?_
 obtain ⟨y15,e16,h⟩:=bind_some h
 replace e16:=(Option.some.inj e16).symm
 refine man (msq ?_)
 refine mcu (fun s=>s.t 0 = .unk∧s.m 0=some (.top 0)∧s.t 1 = .v false [.dat (.int .i64 v1)]∧s.t 5 = .v false [.dat (.int .i64 v5)]∧s.ds=[.sl (List.map M.Server.en y15)]∧True) ?_
 rintro s17 ⟨f18,f19,f20,f21,f22,_⟩
 clear e16
 refine mrn ?_
 refine man (msq ?_)
 obtain ⟨x23,h24,h⟩:=bind_some h
 obtain ⟨q25,q26,q27⟩:=aR h24
 obtain ⟨x28,h29,h⟩:=bind_some h
 refine aBR (aBT _ _ _ h29) ?_
 obtain ⟨y30,e31,h⟩:=bind_some h
 replace e31:=(Option.some.inj e31).symm
 refine man (msq ?_)
 refine mcu (fun s=>s.t 0 = .unk∧s.m 0=some (.top 0)∧s.t 1 = .v false [.dat (.int .i64 x28.2)]∧s.t 5 = .v false [.dat (.int .i64 v5)]∧s.ds=[.sl (List.map M.Server.en y30)]∧True) ?_
 rintro s32 ⟨f33,f34,f35,f36,f37,_⟩
 clear e31
 obtain ⟨x38,h39,h⟩:=bind_some h
 obtain ⟨q40,q41,q42⟩:=aR h39
 refine mrn ?_
 obtain ⟨y43,e44,h⟩:=bind_some h
 replace e44:=(Option.some.inj e44).symm
 refine man (msq ?_)
 refine mcu (fun s=>s.t 0 = .unk∧s.m 0=some (.top 0)∧s.t 1 = .v false [.dat (.int .i64 x28.2)]∧s.t 5 = .v false [.dat (.int .i64 v5)]∧s.ds=[.sl (List.map M.Server.en y43)]∧True) ?_
 rintro s45 ⟨f46,f47,f48,f49,f50,_⟩
 clear e44
 refine mrn ?_
 refine man (msq ?_)
 obtain ⟨x51,h52,h⟩:=bind_some h
 obtain ⟨q53,q54,q55⟩:=aR h52
 obtain ⟨x56,h57,h⟩:=bind_some h
 refine aBR (aD3 _ _ _ h57) ?_
 obtain ⟨y58,e59,h⟩:=bind_some h
 replace e59:=(Option.some.inj e59).symm
 refine man ?_
 refine mcu (fun s=>s.t 0 = .unk∧s.m 0=some (.top 0)∧s.t 1 = .v false [.dat (.int .i64 x56.2)]∧s.t 5 = .v false [.dat (.int .i64 v5)]∧s.ds=[.sl (List.map M.Server.en y58)]∧True) ?_
 rintro s60 ⟨f61,f62,f63,f64,f65,_⟩
 clear e59
 obtain ⟨x66,h67,h⟩:=bind_some h
 obtain ⟨q68,q69,q70⟩:=aR h67
 obtain ⟨x71,h72,h⟩:=bind_some h
 refine aBR (aCR _ _ _ h72) ?_
 obtain ⟨y73,e74,h⟩:=bind_some h
 replace e74:=(Option.some.inj e74).symm
 refine mab (man ?_)
 refine mcu (fun s=>s.t 0 = .unk∧s.m 0=some (.top 0)∧s.t 1 = .v false [.dat (.int .i64 x71.2)]∧s.t 5 = .v false [.dat (.int .i64 v5)]∧s.ds=[.sl (List.map M.Server.en y73)]∧True) ?_
 rintro s75 ⟨f76,f77,f78,f79,f80,_⟩
 clear e74
 refine mrn ?_
 refine aAl ⟨mL1,by omega,x71.2,(i64.wrap (v5+1)),y73,?_,?_,?_,?_,?_,h⟩
 all_goals simp +decide only [MF,F,reduceIte,Nat.reduceAdd,Bool.not_true,Bool.not_false,EN, *,-h]
set_option maxHeartbeats 4000000 in
theorem aCq (p0:M.World) (p1:Int) (r:(List M.aA×List M.bJ×List M.cT×List M.eO×List M.Site×List M.Server×Int)) (h:nZ p0 p1=some r):lT Tryz.prog 19 true (M.World.en p0) ([.int .i64 p0.Now,.bool p0.Online,.int .i64 p0.Device,.sl (List.map M.aA.en r.1),.sl (List.map M.bJ.en r.2.1),.int .i64 p0.NextPage,.sl (List.map M.cT.en r.2.2.1),.sl (List.map M.eO.en r.2.2.2.1),.sl (List.map M.Site.en r.2.2.2.2.1),.sl (List.map M.Server.en r.2.2.2.2.2.1)]) p1 r.2.2.2.2.2.2:=by
 unfold nZ at h
 simp only [M.World.en]
 refine fE (N:=30) (r:=4) Tryz.func19 rfl rfl rfl (by decide +kernel) (by decide) fun cx => ?_
 refine msq (mrn ?_)
 refine man (msq ?_)
 obtain ⟨x1,h2,h⟩:=bind_some h
 refine aBR (aEv _ _ _ h2) ?_
 refine man (msq ?_)
 refine mcu (fun s=>s.t 1 = .v false [.dat (.int .i64 x1.2)]∧s.t 2 = .unk∧s.m 2=some (.bx 0)∧s.ds=[.int .i64 p0.Now,.bool p0.Online,.int .i64 p0.Device,.sl (List.map M.aA.en x1.1),.sl (List.map M.bJ.en p0.Pages),.int .i64 p0.NextPage,.sl (List.map M.cT.en p0.Locks.Locks),.sl (List.map M.eO.en p0.Channel.Mails),.sl (List.map M.Site.en p0.Sites),.sl (List.map M.Server.en p0.Servers)]∧True) ?_
 rintro s3 ⟨f4,f5,f6,f7,_⟩
 obtain ⟨x8,h9,h⟩:=bind_some h
 refine aBR (aF2 _ _ _ h9) ?_
 refine man (msq ?_)
 refine mcu (fun s=>s.t 1 = .v false [.dat (.int .i64 x8.2)]∧s.t 2 = .unk∧s.m 2=some (.bx 0)∧s.ds=[.int .i64 p0.Now,.bool p0.Online,.int .i64 p0.Device,.sl (List.map M.aA.en x1.1),.sl (List.map M.bJ.en x8.1),.int .i64 p0.NextPage,.sl (List.map M.cT.en p0.Locks.Locks),.sl (List.map M.eO.en p0.Channel.Mails),.sl (List.map M.Site.en p0.Sites),.sl (List.map M.Server.en p0.Servers)]∧True) ?_
 rintro s10 ⟨f11,f12,f13,f14,_⟩
 obtain ⟨x15,h16,h⟩:=bind_some h
 refine aBR (aDl _ _ _ h16) ?_
 refine man (msq ?_)
 refine mcu (fun s=>s.t 1 = .v false [.dat (.int .i64 x15.2)]∧s.t 2 = .unk∧s.m 2=some (.bx 0)∧s.ds=[.int .i64 p0.Now,.bool p0.Online,.int .i64 p0.Device,.sl (List.map M.aA.en x1.1),.sl (List.map M.bJ.en x8.1),.int .i64 p0.NextPage,.sl (List.map M.cT.en x15.1),.sl (List.map M.eO.en p0.Channel.Mails),.sl (List.map M.Site.en p0.Sites),.sl (List.map M.Server.en p0.Servers)]∧True) ?_
 rintro s17 ⟨f18,f19,f20,f21,_⟩
 obtain ⟨x22,h23,h⟩:=bind_some h
 refine aBR (aEt _ _ _ h23) ?_
 refine man (msq ?_)
 refine mcu (fun s=>s.t 1 = .v false [.dat (.int .i64 x22.2)]∧s.t 2 = .unk∧s.m 2=some (.bx 0)∧s.ds=[.int .i64 p0.Now,.bool p0.Online,.int .i64 p0.Device,.sl (List.map M.aA.en x1.1),.sl (List.map M.bJ.en x8.1),.int .i64 p0.NextPage,.sl (List.map M.cT.en x15.1),.sl (List.map M.eO.en x22.1),.sl (List.map M.Site.en p0.Sites),.sl (List.map M.Server.en p0.Servers)]∧True) ?_
 rintro s24 ⟨f25,f26,f27,f28,_⟩
 obtain ⟨x29,h30,h⟩:=bind_some h
 refine aBR (aFy _ _ _ h30) ?_
 refine man (msq ?_)
 refine mcu (fun s=>s.t 1 = .v false [.dat (.int .i64 x29.2)]∧s.t 2 = .unk∧s.m 2=some (.bx 0)∧s.ds=[.int .i64 p0.Now,.bool p0.Online,.int .i64 p0.Device,.sl (List.map M.aA.en x1.1),.sl (List.map M.bJ.en x8.1),.int .i64 p0.NextPage,.sl (List.map M.cT.en x15.1),.sl (List.map M.eO.en x22.1),.sl (List.map M.Site.en x29.1),.sl (List.map M.Server.en p0.Servers)]∧True) ?_
 rintro s31 ⟨f32,f33,f34,f35,_⟩
 obtain ⟨x36,h37,h⟩:=bind_some h
 refine aBR (aEq _ _ _ h37) ?_
 refine man (msq (mrn ?_))
 refine man (mrt ?_)
 cases h
 refine ⟨?_,?_⟩<;>(try simp +decide only [MF,F,ME,reduceIte,Nat.reduceAdd,EN, *])
set_option maxHeartbeats 4000000 in
theorem aEd (p0:M.Machine) (p1:Int) (r:(List M.Instr×List Int×Int)) (h:vA p0 p1=some r):lT Tryz.prog 104 true (M.Machine.en p0) ([.sl (List.map M.Instr.en r.1),.int .i64 p0.Pc,.sl (List.map enI r.2.1),.int .i64 p0.Steps,.bool p0.Done,.bool p0.Wait]) p1 r.2.2:=by
 unfold vA at h
 simp only [M.Machine.en]
 refine fE (N:=14) (r:=4) Tryz.func104 rfl rfl rfl (by decide +kernel) (by decide) fun cx => ?_
 refine msq (mrn ?_)
 refine man (msq ?_)
 obtain ⟨x1,h2,h⟩:=bind_some h
 refine aBR (aCT _ _ _ h2) ?_
 refine man (msq ?_)
 refine mcu (fun s=>s.t 1 = .v false [.dat (.int .i64 x1.2)]∧s.t 2 = .unk∧s.m 2=some (.bx 0)∧s.ds=[.sl (List.map M.Instr.en x1.1),.int .i64 p0.Pc,.sl (List.map enI p0.Regs),.int .i64 p0.Steps,.bool p0.Done,.bool p0.Wait]∧True) ?_
 rintro s3 ⟨f4,f5,f6,f7,_⟩
 obtain ⟨x8,h9,h⟩:=bind_some h
 refine aBR (aDA _ _ _ h9) ?_
 refine man (msq (mrn ?_))
 refine man (mrt ?_)
 cases h
 refine ⟨?_,?_⟩<;>(try simp +decide only [MF,F,ME,reduceIte,Nat.reduceAdd,EN, *])
set_option maxHeartbeats 4000000 in
theorem aGl (p0:M.bJ) (p1:Int) (r:(List M.aM×List M.Instr×List Int×Int)) (h:wI p0 p1=some r):lT Tryz.prog 26 true (M.bJ.en p0) ([.int .i64 p0.Id,.str p0.Site,.str p0.Top,.int .i64 p0.Version,.sl (List.map M.aM.en r.1),.sl (List.map M.Instr.en r.2.1),.int .i64 p0.Machine.Pc,.sl (List.map enI r.2.2.1),.int .i64 p0.Machine.Steps,.bool p0.Machine.Done,.bool p0.Machine.Wait]) p1 r.2.2.2:=by
 unfold wI at h
 simp only [M.bJ.en]
 refine fE (N:=14) (r:=4) Tryz.func26 rfl rfl rfl (by decide +kernel) (by decide) fun cx => ?_
 refine msq (mrn ?_)
 refine man (msq ?_)
 obtain ⟨x1,h2,h⟩:=bind_some h
 refine aBR (aCC _ _ _ h2) ?_
 refine man (msq ?_)
 refine mcu (fun s=>s.t 1 = .v false [.dat (.int .i64 x1.2)]∧s.t 2 = .unk∧s.m 2=some (.bx 0)∧s.ds=[.int .i64 p0.Id,.str p0.Site,.str p0.Top,.int .i64 p0.Version,.sl (List.map M.aM.en x1.1),.sl (List.map M.Instr.en p0.Machine.Script),.int .i64 p0.Machine.Pc,.sl (List.map enI p0.Machine.Regs),.int .i64 p0.Machine.Steps,.bool p0.Machine.Done,.bool p0.Machine.Wait]∧True) ?_
 rintro s3 ⟨f4,f5,f6,f7,_⟩
 obtain ⟨x8,h9,h⟩:=bind_some h
 refine aBR (aEd _ _ _ h9) ?_
 refine man (msq (mrn ?_))
 refine man (mrt ?_)
 cases h
 refine ⟨?_,?_⟩<;>(try simp +decide only [MF,F,ME,reduceIte,Nat.reduceAdd,EN, *])
end Go.Proofs.YtnhpbpnhmapeeaaGreat.gen
