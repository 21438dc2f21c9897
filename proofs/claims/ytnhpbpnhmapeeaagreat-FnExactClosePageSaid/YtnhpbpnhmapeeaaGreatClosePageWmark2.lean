/-
  Helper text. No conditions.
-/
import Derived.Test.YtnhpbpnhmapeeaaGreatClosePageTi
import Derived.Test.YtnhpbpnhmapeeaaGreatClosePageWmark0
import Derived.Test.YtnhpbpnhmapeeaaGreatClosePageWmark1
namespace Go.Proofs.YtnhpbpnhmapeeaaGreat.gen
open Go Go.Sh
open Go.IntKind (i64)
set_option linter.unusedVariables false
set_option linter.unusedSimpArgs false
set_option maxRecDepth 20000
set_option maxHeartbeats 4000000
set_option maxHeartbeats 4000000 in
theorem aFy (p0:List M.bF) (p1:Int) (r:(List M.bF×Int)) (h:tG p0 p1=some r):nF Tryz.prog 189 false ([.sl (List.map M.bF.en p0)]) ([.sl (List.map M.bF.en r.1)]) p1 r.2:=by
 unfold tG at h
 refine gE (N:=46) (r:=4) Tryz.func189 rfl rfl rfl (by decide +kernel) (by decide) fun cx => ?_
 refine msq (mrn ?_)
 refine man (msq (msq (mrn ?_)))
 refine man (mbk ?_)
 refine rV (fun m s=>∃v1:Int,∃v5:Int,∃r99:List M.bF,s.t 0 = .unk∧s.m 0=some (.top 0)∧s.t 1 = .v false [.dat (.int .i64 v1)]∧s.t 5 = .v false [.dat (.int .i64 v5)]∧s.ds=[.sl (List.map M.bF.en r99)]∧dS m v1 v5 r99=some r) fuel ?_ ?_
 ·refine ⟨p1,0,p0,?_,?_,?_,?_,?_,h⟩
  all_goals simp +decide only [MF,F,reduceIte,Nat.reduceAdd,Bool.not_true,Bool.not_false,EN, *,-h]
 rintro mL1 s1 ⟨v1,v5,r99,f2,f3,f4,f5,f6,h⟩
 rcases mL1 with _ | mL1
 ·exact absurd h (by simp [dS])
 simp only [dS] at h
 refine msq (msq (mrn ?_))
 refine man ?_
 rcases aA5 (decide (v5<(List.length r99:Int))) with b7 | b7
 ·replace h:=bH b7 h
  refine mcf (mxt (rT (rR (aAP (man (msq (mrn ?_)))))))
  refine man (mrt ?_)
  cases h
  refine ⟨?_,?_⟩<;>(try simp +decide only [MF,F,ME,reduceIte,Nat.reduceAdd,EN, *])
 replace h:=bI b7 h
 refine mct (msk (man (msq (mbk (msq ?_)))))
 obtain ⟨x8,h9,h⟩:=bind_some h
 obtain ⟨x10,h11,h⟩:=bind_some h
 obtain ⟨q12,q13,q14⟩:=aR h11
 refine aBc (aDO _ _ h9) ?_
 obtain ⟨y15,e16,h⟩:=bind_some h
 replace e16:=(Option.some.inj e16).symm
 refine man (msq ?_)
 refine mcu (fun s=>s.t 0 = .unk∧s.m 0=some (.top 0)∧s.t 1 = .v false [.dat (.int .i64 v1)]∧s.t 5 = .v false [.dat (.int .i64 v5)]∧s.ds=[.sl (List.map M.bF.en y15)]∧True) ?_
 rintro s17 ⟨f18,f19,f20,f21,f22,_⟩
 clear e16
 refine mrn ?_
 refine man (msq ?_)
 obtain ⟨x23,h24,h⟩:=bind_some h
 obtain ⟨q25,q26,q27⟩:=aR h24
 refine mrn ?_
 obtain ⟨y28,e29,h⟩:=bind_some h
 replace e29:=(Option.some.inj e29).symm
 refine man (msq ?_)
 refine mcu (fun s=>s.t 0 = .unk∧s.m 0=some (.top 0)∧s.t 1 = .v false [.dat (.int .i64 (i64.wrap (v1+1)))]∧s.t 5 = .v false [.dat (.int .i64 v5)]∧s.ds=[.sl (List.map M.bF.en y28)]∧True) ?_
 rintro s30 ⟨f31,f32,f33,f34,f35,_⟩
 clear e29
 refine mrn ?_
 refine man (msq ?_)
 obtain ⟨x36,h37,h⟩:=bind_some h
 obtain ⟨q38,q39,q40⟩:=aR h37
 refine mrn ?_
 obtain ⟨y41,e42,h⟩:=bind_some h
 replace e42:=(Option.some.inj e42).symm
 refine man (msq ?_)
 refine mcu (fun s=>s.t 0 = .unk∧s.m 0=some (.top 0)∧s.t 1 = .v false [.dat (.int .i64 (i64.wrap ((i64.wrap (v1+1))+1)))]∧s.t 5 = .v false [.dat (.int .i64 v5)]∧s.ds=[.sl (List.map M.bF.en y41)]∧True) ?_
 rintro s43 ⟨f44,f45,f46,f47,f48,_⟩
 clear e42
 refine mrn ?_
 refine man (msq ?_)
 obtain ⟨x49,h50,h⟩:=bind_some h
 obtain ⟨q51,q52,q53⟩:=aR h50
 refine mrn ?_
 obtain ⟨y54,e55,h⟩:=bind_some h
 replace e55:=(Option.some.inj e55).symm
 refine man ?_
 refine mcu (fun s=>s.t 0 = .unk∧s.m 0=some (.top 0)∧s.t 1 = .v false [.dat (.int .i64 (i64.wrap ((i64.wrap ((i64.wrap (v1+1))+1))+1)))]∧s.t 5 = .v false [.dat (.int .i64 v5)]∧s.ds=[.sl (List.map M.bF.en y54)]∧True) ?_
 rintro s56 ⟨f57,f58,f59,f60,f61,_⟩
 clear e55
 refine mrn ?_
 refine mab (man (mrn ?_))
 refine aAe ⟨mL1,by omega,(i64.wrap ((i64.wrap ((i64.wrap ((i64.wrap (v1+1))+1))+1))+1)),(i64.wrap (v5+1)),y54,?_,?_,?_,?_,?_,h⟩
 all_goals simp +decide only [MF,F,reduceIte,Nat.reduceAdd,Bool.not_true,Bool.not_false,EN, *,-h]
set_option maxHeartbeats 4000000 in
theorem aDJ (p0:M.aE) (p1:Int) (r:(List M.bF×Int)) (h:pL p0 p1=some r):nF Tryz.prog 78 true (M.aE.en p0) ([.sl (List.map M.bF.en r.1)]) p1 r.2:=by
 unfold pL at h
 simp only [M.aE.en]
 refine gE (N:=10) (r:=4) Tryz.func78 rfl rfl rfl (by decide +kernel) (by decide) fun cx => ?_
 refine msq (mrn ?_)
 refine man (msq ?_)
 obtain ⟨x1,h2,h⟩:=bind_some h
 refine aBc (aFy _ _ _ h2) ?_
 refine man (msq (mrn ?_))
 refine man (mrt ?_)
 cases h
 refine ⟨?_,?_⟩<;>(try simp +decide only [MF,F,ME,reduceIte,Nat.reduceAdd,EN, *])
set_option maxHeartbeats 4000000 in
theorem aF3 (p0:List M.bU) (p1:Int) (r:(List M.bU×Int)) (h:tK p0 p1=some r):nF Tryz.prog 190 false ([.sl (List.map M.bU.en p0)]) ([.sl (List.map M.bU.en r.1)]) p1 r.2:=by
 unfold tK at h
 refine gE (N:=34) (r:=4) Tryz.func190 rfl rfl rfl (by decide +kernel) (by decide) fun cx => ?_
 refine msq (mrn ?_)
 refine man (msq (msq (mrn ?_)))
 refine man (mbk ?_)
 refine rV (fun m s=>∃v1:Int,∃v5:Int,∃r99:List M.bU,s.t 0 = .unk∧s.m 0=some (.top 0)∧s.t 1 = .v false [.dat (.int .i64 v1)]∧s.t 5 = .v false [.dat (.int .i64 v5)]∧s.ds=[.sl (List.map M.bU.en r99)]∧dQ m v1 v5 r99=some r) fuel ?_ ?_
 ·refine ⟨p1,0,p0,?_,?_,?_,?_,?_,h⟩
  all_goals simp +decide only [MF,F,reduceIte,Nat.reduceAdd,Bool.not_true,Bool.not_false,EN, *,-h]
 rintro mL1 s1 ⟨v1,v5,r99,f2,f3,f4,f5,f6,h⟩
 rcases mL1 with _ | mL1
 ·exact absurd h (by simp [dQ])
 simp only [dQ] at h
 refine msq (msq (mrn ?_))
 refine man ?_
 rcases aA5 (decide (v5<(List.length r99:Int))) with b7 | b7
 ·replace h:=bH b7 h
  refine mcf (mxt (rT (rR (aAP (man (msq (mrn ?_)))))))
  refine man (mrt ?_)
  cases h
  refine ⟨?_,?_⟩<;>(try simp +decide only [MF,F,ME,reduceIte,Nat.reduceAdd,EN, *])
 replace h:=bI b7 h
 refine mct (msk (man (msq (mbk (msq ?_)))))
 obtain ⟨x8,h9,h⟩:=bind_some h
 obtain ⟨q10,q11,q12⟩:=aR h9
 refine mrn ?_
 obtain ⟨y13,e14,h⟩:=bind_some h
 replace e14:=(Option.some.inj e14).symm
 refine man (msq ?_)
 refine mcu (fun s=>s.t 0 = .unk∧s.m 0=some (.top 0)∧s.t 1 = .v false [.dat (.int .i64 v1)]∧s.t 5 = .v false [.dat (.int .i64 v5)]∧s.ds=[.sl (List.map M.bU.en y13)]∧True) ?_
 rintro s15 ⟨f16,f17,f18,f19,f20,_⟩
 clear e14
 refine mrn ?_
 refine man (msq ?_)
 obtain ⟨x21,h22,h⟩:=bind_some h
 obtain ⟨q23,q24,q25⟩:=aR h22
 refine mrn ?_
 obtain ⟨y26,e27,h⟩:=bind_some h
 replace e27:=(Option.some.inj e27).symm
 refine man (msq ?_)
 refine mcu (fun s=>s.t 0 = .unk∧s.m 0=some (.top 0)∧s.t 1 = .v false [.dat (.int .i64 (i64.wrap (v1+1)))]∧s.t 5 = .v false [.dat (.int .i64 v5)]∧s.ds=[.sl (List.map M.bU.en y26)]∧True) ?_
 rintro s28 ⟨f29,f30,f31,f32,f33,_⟩
 clear e27
 refine mrn ?_
 refine man (msq ?_)
 obtain ⟨x34,h35,h⟩:=bind_some h
 obtain ⟨q36,q37,q38⟩:=aR h35
 refine mrn ?_
 obtain ⟨y39,e40,h⟩:=bind_some h
 replace e40:=(Option.some.inj e40).symm
 refine man ?_
 refine mcu (fun s=>s.t 0 = .unk∧s.m 0=some (.top 0)∧s.t 1 = .v false [.dat (.int .i64 (i64.wrap ((i64.wrap (v1+1))+1)))]∧s.t 5 = .v false [.dat (.int .i64 v5)]∧s.ds=[.sl (List.map M.bU.en y39)]∧True) ?_
 rintro s41 ⟨f42,f43,f44,f45,f46,_⟩
 clear e40
 refine mrn ?_
 refine mab (man (mrn ?_))
 refine aAe ⟨mL1,by omega,(i64.wrap ((i64.wrap ((i64.wrap (v1+1))+1))+1)),(i64.wrap (v5+1)),y39,?_,?_,?_,?_,?_,h⟩
 all_goals simp +decide only [MF,F,reduceIte,Nat.reduceAdd,Bool.not_true,Bool.not_false,EN, *,-h]
set_option maxHeartbeats 4000000 in
theorem aEU (p0:M.Channel) (p1:Int) (r:(List M.bU×Int)) (h:uV p0 p1=some r):nF Tryz.prog 79 true (M.Channel.en p0) ([.sl (List.map M.bU.en r.1)]) p1 r.2:=by
 unfold uV at h
 simp only [M.Channel.en]
 refine gE (N:=10) (r:=4) Tryz.func79 rfl rfl rfl (by decide +kernel) (by decide) fun cx => ?_
 refine msq (mrn ?_)
 refine man (msq ?_)
 obtain ⟨x1,h2,h⟩:=bind_some h
 refine aBc (aF3 _ _ _ h2) ?_
 refine man (msq (mrn ?_))
 refine man (mrt ?_)
 cases h
 refine ⟨?_,?_⟩<;>(try simp +decide only [MF,F,ME,reduceIte,Nat.reduceAdd,EN, *])
set_option maxHeartbeats 4000000 in
theorem aD1 (p0:List ByteArray) (p1:Int) (r:(List ByteArray×Int)) (h:nR p0 p1=some r):nF Tryz.prog 191 false ([.sl (List.map enS p0)]) ([.sl (List.map enS r.1)]) p1 r.2:=by
 unfold nR at h
 refine gE (N:=20) (r:=4) Tryz.func191 rfl rfl rfl (by decide +kernel) (by decide) fun cx => ?_
 refine msq (mrn ?_)
 refine man (msq (msq (mrn ?_)))
 refine man (mbk ?_)
 refine rV (fun m s=>∃v1:Int,∃v5:Int,∃r99:List ByteArray,s.t 0 = .unk∧s.m 0=some (.top 0)∧s.t 1 = .v false [.dat (.int .i64 v1)]∧s.t 5 = .v false [.dat (.int .i64 v5)]∧s.ds=[.sl (List.map enS r99)]∧cQ m v1 v5 r99=some r) fuel ?_ ?_
 ·refine ⟨p1,0,p0,?_,?_,?_,?_,?_,h⟩
  all_goals simp +decide only [MF,F,reduceIte,Nat.reduceAdd,Bool.not_true,Bool.not_false,EN, *,-h]
 rintro mL1 s1 ⟨v1,v5,r99,f2,f3,f4,f5,f6,h⟩
 rcases mL1 with _ | mL1
 ·exact absurd h (by simp [cQ])
 simp only [cQ] at h
 refine msq (msq (mrn ?_))
 refine man ?_
 rcases aA5 (decide (v5<(List.length r99:Int))) with b7 | b7
 ·replace h:=bH b7 h
  refine mcf (mxt (rT (rR (aAP (man (msq (mrn ?_)))))))
  refine man (mrt ?_)
  cases h
  refine ⟨?_,?_⟩<;>(try simp +decide only [MF,F,ME,reduceIte,Nat.reduceAdd,EN, *])
 replace h:=bI b7 h
 refine mct (msk (man (msq (mbk (msq ?_)))))
 obtain ⟨x8,h9,h⟩:=bind_some h
 obtain ⟨x10,h11,h⟩:=bind_some h
 obtain ⟨q12,q13,q14⟩:=aR h11
 refine aBc (aDO _ _ h9) ?_
 obtain ⟨y15,e16,h⟩:=bind_some h
 replace e16:=(Option.some.inj e16).symm
 refine man ?_
 refine mcu (fun s=>s.t 0 = .unk∧s.m 0=some (.top 0)∧s.t 1 = .v false [.dat (.int .i64 v1)]∧s.t 5 = .v false [.dat (.int .i64 v5)]∧s.ds=[.sl (List.map enS y15)]∧True) ?_
 rintro s17 ⟨f18,f19,f20,f21,f22,_⟩
 clear e16
 refine mrn ?_
 refine mab (man (mrn ?_))
 refine aAe ⟨mL1,by omega,(i64.wrap (v1+1)),(i64.wrap (v5+1)),y15,?_,?_,?_,?_,?_,h⟩
 all_goals simp +decide only [MF,F,reduceIte,Nat.reduceAdd,Bool.not_true,Bool.not_false,EN, *,-h]
set_option maxHeartbeats 4000000 in
theorem aFs (p0:List M.Site) (p1:Int) (r:(List M.Site×Int)) (h:sZ p0 p1=some r):nF Tryz.prog 80 false ([.sl (List.map M.Site.en p0)]) ([.sl (List.map M.Site.en r.1)]) p1 r.2:=by
 unfold sZ at h
 refine gE (N:=44) (r:=4) Tryz.func80 rfl rfl rfl (by decide +kernel) (by decide) fun cx => ?_
 refine msq (mrn ?_)
 refine man (msq (msq (mrn ?_)))
 refine man (mbk ?_)
 refine rV (fun m s=>∃v1:Int,∃v5:Int,∃r99:List M.Site,s.t 0 = .unk∧s.m 0=some (.top 0)∧s.t 1 = .v false [.dat (.int .i64 v1)]∧s.t 5 = .v false [.dat (.int .i64 v5)]∧s.ds=[.sl (List.map M.Site.en r99)]∧dY m v1 v5 r99=some r) fuel ?_ ?_
 ·refine ⟨p1,0,p0,?_,?_,?_,?_,?_,h⟩
  all_goals simp +decide only [MF,F,reduceIte,Nat.reduceAdd,Bool.not_true,Bool.not_false,EN, *,-h]
 rintro mL1 s1 ⟨v1,v5,r99,f2,f3,f4,f5,f6,h⟩
 rcases mL1 with _ | mL1
 ·exact absurd h (by simp [dY])
 simp only [dY] at h
 refine msq (msq (mrn ?_))
 refine man ?_
 rcases aA5 (decide (v5<(List.length r99:Int))) with b7 | b7
 ·replace h:=bH b7 h
  refine mcf (mxt (rT (rR (aAP (man (msq (mrn ?_)))))))
  refine man (mrt ?_)
  cases h
  refine ⟨?_,?_⟩<;>(try simp +decide only [MF,F,ME,reduceIte,Nat.reduceAdd,EN, *])
 replace h:=bI b7 h
 refine mct (msk (man (msq (mbk (msq ?_)))))
 obtain ⟨x8,h9,h⟩:=bind_some h
 obtain ⟨x10,h11,h⟩:=bind_some h
 obtain ⟨q12,q13,q14⟩:=aR h11
 refine aBc (aDO _ _ h9) ?_
 obtain ⟨y15,e16,h⟩:=bind_some h
 replace e16:=(Option.some.inj e16).symm
 refine man (msq ?_)
 refine mcu (fun s=>s.t 0 = .unk∧s.m 0=some (.top 0)∧s.t 1 = .v false [.dat (.int .i64 v1)]∧s.t 5 = .v false [.dat (.int .i64 v5)]∧s.ds=[.sl (List.map M.Site.en y15)]∧True) ?_
 rintro s17 ⟨f18,f19,f20,f21,f22,_⟩
 clear e16
 refine mrn ?_
 refine man (msq ?_)
 obtain ⟨x23,h24,h⟩:=bind_some h
 obtain ⟨q25,q26,q27⟩:=aR h24
 refine mrn ?_
 obtain ⟨y28,e29,h⟩:=bind_some h
 replace e29:=(Option.some.inj e29).symm
 refine man (msq ?_)
 refine mcu (fun s=>s.t 0 = .unk∧s.m 0=some (.top 0)∧s.t 1 = .v false [.dat (.int .i64 (i64.wrap (v1+1)))]∧s.t 5 = .v false [.dat (.int .i64 v5)]∧s.ds=[.sl (List.map M.Site.en y28)]∧True) ?_
 rintro s30 ⟨f31,f32,f33,f34,f35,_⟩
 clear e29
 refine mrn ?_
 refine man (msq ?_)
 obtain ⟨x36,h37,h⟩:=bind_some h
 obtain ⟨q38,q39,q40⟩:=aR h37
 obtain ⟨x41,h42,h⟩:=bind_some h
 refine aBc (aD1 _ _ _ h42) ?_
 obtain ⟨y43,e44,h⟩:=bind_some h
 replace e44:=(Option.some.inj e44).symm
 refine man (msq ?_)
 refine mcu (fun s=>s.t 0 = .unk∧s.m 0=some (.top 0)∧s.t 1 = .v false [.dat (.int .i64 x41.2)]∧s.t 5 = .v false [.dat (.int .i64 v5)]∧s.ds=[.sl (List.map M.Site.en y43)]∧True) ?_
 rintro s45 ⟨f46,f47,f48,f49,f50,_⟩
 clear e44
 obtain ⟨x51,h52,h⟩:=bind_some h
 obtain ⟨q53,q54,q55⟩:=aR h52
 refine mrn ?_
 obtain ⟨y56,e57,h⟩:=bind_some h
 replace e57:=(Option.some.inj e57).symm
 refine man ?_
 refine mcu (fun s=>s.t 0 = .unk∧s.m 0=some (.top 0)∧s.t 1 = .v false [.dat (.int .i64 x41.2)]∧s.t 5 = .v false [.dat (.int .i64 v5)]∧s.ds=[.sl (List.map M.Site.en y56)]∧True) ?_
 rintro s58 ⟨f59,f60,f61,f62,f63,_⟩
 clear e57
 refine mrn ?_
 refine mab (man (mrn ?_))
 refine aAe ⟨mL1,by omega,(i64.wrap (x41.2+1)),(i64.wrap (v5+1)),y56,?_,?_,?_,?_,?_,h⟩
 all_goals simp +decide only [MF,F,reduceIte,Nat.reduceAdd,Bool.not_true,Bool.not_false,EN, *,-h]
set_option maxHeartbeats 4000000 in
theorem aDY (p0:List M.aJ) (p1:Int) (r:(List M.aJ×Int)) (h:mS p0 p1=some r):nF Tryz.prog 193 false ([.sl (List.map M.aJ.en p0)]) ([.sl (List.map M.aJ.en r.1)]) p1 r.2:=by
 unfold mS at h
 refine gE (N:=27) (r:=4) Tryz.func193 rfl rfl rfl (by decide +kernel) (by decide) fun cx => ?_
 refine msq (mrn ?_)
 refine man (msq (msq (mrn ?_)))
 refine man (mbk ?_)
 refine rV (fun m s=>∃v1:Int,∃v5:Int,∃r99:List M.aJ,s.t 0 = .unk∧s.m 0=some (.top 0)∧s.t 1 = .v false [.dat (.int .i64 v1)]∧s.t 5 = .v false [.dat (.int .i64 v5)]∧s.ds=[.sl (List.map M.aJ.en r99)]∧cC m v1 v5 r99=some r) fuel ?_ ?_
 ·refine ⟨p1,0,p0,?_,?_,?_,?_,?_,h⟩
  all_goals simp +decide only [MF,F,reduceIte,Nat.reduceAdd,Bool.not_true,Bool.not_false,EN, *,-h]
 rintro mL1 s1 ⟨v1,v5,r99,f2,f3,f4,f5,f6,h⟩
 rcases mL1 with _ | mL1
 ·exact absurd h (by simp [cC])
 simp only [cC] at h
 refine msq (msq (mrn ?_))
 refine man ?_
 rcases aA5 (decide (v5<(List.length r99:Int))) with b7 | b7
 ·replace h:=bH b7 h
  refine mcf (mxt (rT (rR (aAP (man (msq (mrn ?_)))))))
  refine man (mrt ?_)
  cases h
  refine ⟨?_,?_⟩<;>(try simp +decide only [MF,F,ME,reduceIte,Nat.reduceAdd,EN, *])
 replace h:=bI b7 h
 refine mct (msk (man (msq (mbk (msq ?_)))))
 obtain ⟨x8,h9,h⟩:=bind_some h
 obtain ⟨q10,q11,q12⟩:=aR h9
 refine mrn ?_
 obtain ⟨y13,e14,h⟩:=bind_some h
 replace e14:=(Option.some.inj e14).symm
 refine man (msq ?_)
 refine mcu (fun s=>s.t 0 = .unk∧s.m 0=some (.top 0)∧s.t 1 = .v false [.dat (.int .i64 v1)]∧s.t 5 = .v false [.dat (.int .i64 v5)]∧s.ds=[.sl (List.map M.aJ.en y13)]∧True) ?_
 rintro s15 ⟨f16,f17,f18,f19,f20,_⟩
 clear e14
 refine mrn ?_
 refine man (msq ?_)
 obtain ⟨x21,h22,h⟩:=bind_some h
 obtain ⟨q23,q24,q25⟩:=aR h22
 refine mrn ?_
 obtain ⟨y26,e27,h⟩:=bind_some h
 replace e27:=(Option.some.inj e27).symm
 refine man ?_
 refine mcu (fun s=>s.t 0 = .unk∧s.m 0=some (.top 0)∧s.t 1 = .v false [.dat (.int .i64 (i64.wrap (v1+1)))]∧s.t 5 = .v false [.dat (.int .i64 v5)]∧s.ds=[.sl (List.map M.aJ.en y26)]∧True) ?_
 rintro s28 ⟨f29,f30,f31,f32,f33,_⟩
 clear e27
 refine mrn ?_
 refine mab (man (mrn ?_))
 refine aAe ⟨mL1,by omega,(i64.wrap ((i64.wrap (v1+1))+1)),(i64.wrap (v5+1)),y26,?_,?_,?_,?_,?_,h⟩
 all_goals simp +decide only [MF,F,reduceIte,Nat.reduceAdd,Bool.not_true,Bool.not_false,EN, *,-h]
set_option maxHeartbeats 4000000 in
theorem aER (p0:List M.Server) (p1:Int) (r:(List M.Server×Int)) (h:oK p0 p1=some r):nF Tryz.prog 81 false ([.sl (List.map M.Server.en p0)]) ([.sl (List.map M.Server.en r.1)]) p1 r.2:=by
 unfold oK at h
 refine gE (N:=52) (r:=4) Tryz.func81 rfl rfl rfl (by decide +kernel) (by decide) fun cx => ?_
 refine msq (mrn ?_)
 refine man (msq (msq (mrn ?_)))
 refine man (mbk ?_)
 refine rV (fun m s=>∃v1:Int,∃v5:Int,∃r99:List M.Server,s.t 0 = .unk∧s.m 0=some (.top 0)∧s.t 1 = .v false [.dat (.int .i64 v1)]∧s.t 5 = .v false [.dat (.int .i64 v5)]∧s.ds=[.sl (List.map M.Server.en r99)]∧cK m v1 v5 r99=some r) fuel ?_ ?_
 ·refine ⟨p1,0,p0,?_,?_,?_,?_,?_,h⟩
  all_goals simp +decide only [MF,F,reduceIte,Nat.reduceAdd,Bool.not_true,Bool.not_false,EN, *,-h]
 rintro mL1 s1 ⟨v1,v5,r99,f2,f3,f4,f5,f6,h⟩
 rcases mL1 with _ | mL1
 ·exact absurd h (by simp [cK])
 simp only [cK] at h
 refine msq (msq (mrn ?_))
 refine man ?_
 rcases aA5 (decide (v5<(List.length r99:Int))) with b7 | b7
 ·replace h:=bH b7 h
  refine mcf (mxt (rT (rR (aAP (man (msq (mrn ?_)))))))
  refine man (mrt ?_)
  cases h
  refine ⟨?_,?_⟩<;>(try simp +decide only [MF,F,ME,reduceIte,Nat.reduceAdd,EN, *])
 replace h:=bI b7 h
 refine mct (msk (man (msq (mbk (msq ?_)))))
 obtain ⟨x8,h9,h⟩:=bind_some h
 obtain ⟨x10,h11,h⟩:=bind_some h
 obtain ⟨q12,q13,q14⟩:=aR h11
 refine aBc (aDO _ _ h9) ?_
 obtain ⟨y15,e16,h⟩:=bind_some h
 replace e16:=(Option.some.inj e16).symm
 refine man (msq ?_)
 refine mcu (fun s=>s.t 0 = .unk∧s.m 0=some (.top 0)∧s.t 1 = .v false [.dat (.int .i64 v1)]∧s.t 5 = .v false [.dat (.int .i64 v5)]∧s.ds=[.sl (List.map M.Server.en y15)]∧True) ?_
 rintro s17 ⟨f18,f19,f20,f21,f22,_⟩
 clear e16
 refine mrn ?_
 refine man (msq ?_)
 obtain ⟨x23,h24,h⟩:=bind_some h
 obtain ⟨q25,q26,q27⟩:=aR h24
 obtain ⟨x28,h29,h⟩:=bind_some h
 refine aBc (aBJ _ _ _ h29) ?_
 obtain ⟨y30,e31,h⟩:=bind_some h
 replace e31:=(Option.some.inj e31).symm
 refine man (msq ?_)
 refine mcu (fun s=>s.t 0 = .unk∧s.m 0=some (.top 0)∧s.t 1 = .v false [.dat (.int .i64 x28.2)]∧s.t 5 = .v false [.dat (.int .i64 v5)]∧s.ds=[.sl (List.map M.Server.en y30)]∧True) ?_
 rintro s32 ⟨f33,f34,f35,f36,f37,_⟩
 clear e31
 obtain ⟨x38,h39,h⟩:=bind_some h
 obtain ⟨q40,q41,q42⟩:=aR h39
 refine mrn ?_
 obtain ⟨y43,e44,h⟩:=bind_some h
 replace e44:=(Option.some.inj e44).symm
 refine man (msq ?_)
 refine mcu (fun s=>s.t 0 = .unk∧s.m 0=some (.top 0)∧s.t 1 = .v false [.dat (.int .i64 x28.2)]∧s.t 5 = .v false [.dat (.int .i64 v5)]∧s.ds=[.sl (List.map M.Server.en y43)]∧True) ?_
 rintro s45 ⟨f46,f47,f48,f49,f50,_⟩
 clear e44
 refine mrn ?_
 refine man (msq ?_)
 obtain ⟨x51,h52,h⟩:=bind_some h
 obtain ⟨q53,q54,q55⟩:=aR h52
 obtain ⟨x56,h57,h⟩:=bind_some h
 refine aBc (aDY _ _ _ h57) ?_
 obtain ⟨y58,e59,h⟩:=bind_some h
 replace e59:=(Option.some.inj e59).symm
 refine man ?_
 refine mcu (fun s=>s.t 0 = .unk∧s.m 0=some (.top 0)∧s.t 1 = .v false [.dat (.int .i64 x56.2)]∧s.t 5 = .v false [.dat (.int .i64 v5)]∧s.ds=[.sl (List.map M.Server.en y58)]∧True) ?_
 rintro s60 ⟨f61,f62,f63,f64,f65,_⟩
 clear e59
 obtain ⟨x66,h67,h⟩:=bind_some h
 obtain ⟨q68,q69,q70⟩:=aR h67
 obtain ⟨x71,h72,h⟩:=bind_some h
 refine aBc (aB6 _ _ _ h72) ?_
 obtain ⟨y73,e74,h⟩:=bind_some h
 replace e74:=(Option.some.inj e74).symm
 refine mab (man ?_)
 refine mcu (fun s=>s.t 0 = .unk∧s.m 0=some (.top 0)∧s.t 1 = .v false [.dat (.int .i64 x71.2)]∧s.t 5 = .v false [.dat (.int .i64 v5)]∧s.ds=[.sl (List.map M.Server.en y73)]∧True) ?_
 rintro s75 ⟨f76,f77,f78,f79,f80,_⟩
 clear e74
 refine mrn ?_
 refine aAe ⟨mL1,by omega,x71.2,(i64.wrap (v5+1)),y73,?_,?_,?_,?_,?_,h⟩
 all_goals simp +decide only [MF,F,reduceIte,Nat.reduceAdd,Bool.not_true,Bool.not_false,EN, *,-h]
set_option maxHeartbeats 4000000 in
theorem aCT (p0:M.World) (p1:Int) (r:(List M.aF×List M.bG×List M.bF×List M.bU×List M.Site×List M.Server×Int)) (h:nK p0 p1=some r):nF Tryz.prog 19 true (M.World.en p0) ([.int .i64 p0.Now,.bool p0.Online,.int .i64 p0.Device,.sl (List.map M.aF.en r.1),.sl (List.map M.bG.en r.2.1),.int .i64 p0.NextPage,.sl (List.map M.bF.en r.2.2.1),.sl (List.map M.bU.en r.2.2.2.1),.sl (List.map M.Site.en r.2.2.2.2.1),.sl (List.map M.Server.en r.2.2.2.2.2.1)]) p1 r.2.2.2.2.2.2:=by
 unfold nK at h
 simp only [M.World.en]
 refine gE (N:=30) (r:=4) Tryz.func19 rfl rfl rfl (by decide +kernel) (by decide) fun cx => ?_
 refine msq (mrn ?_)
 refine man (msq ?_)
 obtain ⟨x1,h2,h⟩:=bind_some h
 refine aBc (aEW _ _ _ h2) ?_
 refine man (msq ?_)
 refine mcu (fun s=>s.t 1 = .v false [.dat (.int .i64 x1.2)]∧s.t 2 = .unk∧s.m 2=some (.bx 0)∧s.ds=[.int .i64 p0.Now,.bool p0.Online,.int .i64 p0.Device,.sl (List.map M.aF.en x1.1),.sl (List.map M.bG.en p0.Pages),.int .i64 p0.NextPage,.sl (List.map M.bF.en p0.Locks.Locks),.sl (List.map M.bU.en p0.Channel.Mails),.sl (List.map M.Site.en p0.Sites),.sl (List.map M.Server.en p0.Servers)]∧True) ?_
 rintro s3 ⟨f4,f5,f6,f7,_⟩
 obtain ⟨x8,h9,h⟩:=bind_some h
 refine aBc (aFw _ _ _ h9) ?_
 refine man (msq ?_)
 refine mcu (fun s=>s.t 1 = .v false [.dat (.int .i64 x8.2)]∧s.t 2 = .unk∧s.m 2=some (.bx 0)∧s.ds=[.int .i64 p0.Now,.bool p0.Online,.int .i64 p0.Device,.sl (List.map M.aF.en x1.1),.sl (List.map M.bG.en x8.1),.int .i64 p0.NextPage,.sl (List.map M.bF.en p0.Locks.Locks),.sl (List.map M.bU.en p0.Channel.Mails),.sl (List.map M.Site.en p0.Sites),.sl (List.map M.Server.en p0.Servers)]∧True) ?_
 rintro s10 ⟨f11,f12,f13,f14,_⟩
 obtain ⟨x15,h16,h⟩:=bind_some h
 refine aBc (aDJ _ _ _ h16) ?_
 refine man (msq ?_)
 refine mcu (fun s=>s.t 1 = .v false [.dat (.int .i64 x15.2)]∧s.t 2 = .unk∧s.m 2=some (.bx 0)∧s.ds=[.int .i64 p0.Now,.bool p0.Online,.int .i64 p0.Device,.sl (List.map M.aF.en x1.1),.sl (List.map M.bG.en x8.1),.int .i64 p0.NextPage,.sl (List.map M.bF.en x15.1),.sl (List.map M.bU.en p0.Channel.Mails),.sl (List.map M.Site.en p0.Sites),.sl (List.map M.Server.en p0.Servers)]∧True) ?_
 rintro s17 ⟨f18,f19,f20,f21,_⟩
 obtain ⟨x22,h23,h⟩:=bind_some h
 refine aBc (aEU _ _ _ h23) ?_
 refine man (msq ?_)
 refine mcu (fun s=>s.t 1 = .v false [.dat (.int .i64 x22.2)]∧s.t 2 = .unk∧s.m 2=some (.bx 0)∧s.ds=[.int .i64 p0.Now,.bool p0.Online,.int .i64 p0.Device,.sl (List.map M.aF.en x1.1),.sl (List.map M.bG.en x8.1),.int .i64 p0.NextPage,.sl (List.map M.bF.en x15.1),.sl (List.map M.bU.en x22.1),.sl (List.map M.Site.en p0.Sites),.sl (List.map M.Server.en p0.Servers)]∧True) ?_
 rintro s24 ⟨f25,f26,f27,f28,_⟩
 obtain ⟨x29,h30,h⟩:=bind_some h
 refine aBc (aFs _ _ _ h30) ?_
 refine man (msq ?_)
 refine mcu (fun s=>s.t 1 = .v false [.dat (.int .i64 x29.2)]∧s.t 2 = .unk∧s.m 2=some (.bx 0)∧s.ds=[.int .i64 p0.Now,.bool p0.Online,.int .i64 p0.Device,.sl (List.map M.aF.en x1.1),.sl (List.map M.bG.en x8.1),.int .i64 p0.NextPage,.sl (List.map M.bF.en x15.1),.sl (List.map M.bU.en x22.1),.sl (List.map M.Site.en x29.1),.sl (List.map M.Server.en p0.Servers)]∧True) ?_
 rintro s31 ⟨f32,f33,f34,f35,_⟩
 obtain ⟨x36,h37,h⟩:=bind_some h
 refine aBc (aER _ _ _ h37) ?_
 refine man (msq (mrn ?_))
 refine man (mrt ?_)
 cases h
 refine ⟨?_,?_⟩<;>(try simp +decide only [MF,F,ME,reduceIte,Nat.reduceAdd,EN, *])
end Go.Proofs.YtnhpbpnhmapeeaaGreat.gen
