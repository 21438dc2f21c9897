/-
  Helper text. No conditions.
-/
import Derived.Test.YtimblbmbfdopgaaGreatOpenPageTi
import Derived.Test.YtimblbmbfdopgaaGreatOpenPageWmark0
import Derived.Test.YtimblbmbfdopgaaGreatOpenPageWmark1
set_option linter.unusedVariables false
set_option linter.unusedSimpArgs false
namespace Go.Proofs.YtimblbmbfdopgaaGreat.gen
open Go Go.Sh
open Go.IntKind (i64)
set_option maxRecDepth 20000
set_option maxHeartbeats 4000000
set_option maxHeartbeats 4000000 in
theorem aHq (p0:List M.cJ) (p1:Int) (r:(List M.cJ×Int)) (h:wR p0 p1=some r):oN Tryz.prog 277 false ([.sl (List.map M.cJ.en p0)]) ([.sl (List.map M.cJ.en r.1)]) p1 r.2:=by
 unfold wR at h
 refine gJ (N:=46) (r:=4) Tryz.func277 rfl rfl rfl (by decide +kernel) (by decide) fun cx => ?_
 refine msq (mrn ?_)
 refine man (msq (msq (mrn ?_)))
 refine man (mbk ?_)
 refine vG (fun m s=>∃v1:Int,∃v5:Int,∃r99:List M.cJ,s.t 0 = .unk∧s.m 0=some (.top 0)∧s.t 1 = .v false [.dat (.int .i64 v1)]∧s.t 5 = .v false [.dat (.int .i64 v5)]∧s.ds=[.sl (List.map M.cJ.en r99)]∧dS m v1 v5 r99=some r) fuel ?_ ?_
 ·refine ⟨p1,0,p0,?_,?_,?_,?_,?_,h⟩
  all_goals simp +decide only [MF,F,reduceIte,Nat.reduceAdd,qB,qC,EN, *,-h]
 rintro mL1 s1 ⟨v1,v5,r99,f2,f3,f4,f5,f6,h⟩
 rcases mL1 with _ | mL1
 ·exact absurd h (by simp [dS])
 simp only [dS] at h
 refine msq (msq (mrn ?_))
 refine man ?_
 rcases aEW (decide (v5<(List.length r99:Int))) with b7 | b7
 ·replace h:=bI b7 h
  refine mcf (mxt (uZ (uY (aBi (man (msq (mrn ?_)))))))
  refine man (mrt ?_)
  cases h
  refine ⟨?_,?_⟩<;>(try simp +decide only [MF,F,ME,reduceIte,Nat.reduceAdd,EN, *])
 replace h:=bJ b7 h
 refine mct (msk (man (msq (mbk (msq ?_)))))
 obtain ⟨x8,h9,h⟩:=bind_some h
 obtain ⟨x10,h11,h⟩:=bind_some h
 obtain ⟨q12,q13,q14⟩:=aV h11
 refine aC2 (aFI _ _ h9) ?_
 obtain ⟨y15,e16,h⟩:=bind_some h
 replace e16:=(Option.some.inj e16).symm
 refine man (msq ?_)
 refine mcu (fun s=>s.t 0 = .unk∧s.m 0=some (.top 0)∧s.t 1 = .v false [.dat (.int .i64 v1)]∧s.t 5 = .v false [.dat (.int .i64 v5)]∧s.ds=[.sl (List.map M.cJ.en y15)]∧True) ?_
 rintro s17 ⟨f18,f19,f20,f21,f22,_⟩
 clear e16
 refine mrn ?_
 refine man (msq ?_)
 obtain ⟨x23,h24,h⟩:=bind_some h
 obtain ⟨q25,q26,q27⟩:=aV h24
 refine mrn ?_
 obtain ⟨y28,e29,h⟩:=bind_some h
 replace e29:=(Option.some.inj e29).symm
 refine man (msq ?_)
 refine mcu (fun s=>s.t 0 = .unk∧s.m 0=some (.top 0)∧s.t 1 = .v false [.dat (.int .i64 (i64.wrap (v1+1)))]∧s.t 5 = .v false [.dat (.int .i64 v5)]∧s.ds=[.sl (List.map M.cJ.en y28)]∧True) ?_
 rintro s30 ⟨f31,f32,f33,f34,f35,_⟩
 clear e29
 refine mrn ?_
 refine man (msq ?_)
 obtain ⟨x36,h37,h⟩:=bind_some h
 obtain ⟨q38,q39,q40⟩:=aV h37
 refine mrn ?_
 obtain ⟨y41,e42,h⟩:=bind_some h
 replace e42:=(Option.some.inj e42).symm
 refine man (msq ?_)
 refine mcu (fun s=>s.t 0 = .unk∧s.m 0=some (.top 0)∧s.t 1 = .v false [.dat (.int .i64 (i64.wrap ((i64.wrap (v1+1))+1)))]∧s.t 5 = .v false [.dat (.int .i64 v5)]∧s.ds=[.sl (List.map M.cJ.en y41)]∧True) ?_
 rintro s43 ⟨f44,f45,f46,f47,f48,_⟩
 clear e42
 refine mrn ?_
 refine man (msq ?_)
 obtain ⟨x49,h50,h⟩:=bind_some h
 obtain ⟨q51,q52,q53⟩:=aV h50
 refine mrn ?_
 obtain ⟨y54,e55,h⟩:=bind_some h
 replace e55:=(Option.some.inj e55).symm
 refine man ?_
 refine mcu (fun s=>s.t 0 = .unk∧s.m 0=some (.top 0)∧s.t 1 = .v false [.dat (.int .i64 (i64.wrap ((i64.wrap ((i64.wrap (v1+1))+1))+1)))]∧s.t 5 = .v false [.dat (.int .i64 v5)]∧s.ds=[.sl (List.map M.cJ.en y54)]∧True) ?_
 rintro s56 ⟨f57,f58,f59,f60,f61,_⟩
 clear e55
 refine mrn ?_
 refine mab (man (mrn ?_))
 refine aBy ⟨mL1,by omega,(i64.wrap ((i64.wrap ((i64.wrap ((i64.wrap (v1+1))+1))+1))+1)),(i64.wrap (v5+1)),y54,?_,?_,?_,?_,?_,h⟩
 all_goals simp +decide only [MF,F,reduceIte,Nat.reduceAdd,qB,qC,EN, *,-h]
set_option maxHeartbeats 4000000 in
theorem aFF (p0:M.aQ) (p1:Int) (r:(List M.cJ×Int)) (h:sD p0 p1=some r):oN Tryz.prog 105 true (M.aQ.en p0) ([.sl (List.map M.cJ.en r.1)]) p1 r.2:=by
 unfold sD at h
 simp only [M.aQ.en]
 refine gJ (N:=10) (r:=4) Tryz.func105 rfl rfl rfl (by decide +kernel) (by decide) fun cx => ?_
 refine msq (mrn ?_)
 refine man (msq ?_)
 obtain ⟨x1,h2,h⟩:=bind_some h
 refine aC2 (aHq _ _ _ h2) ?_
 refine man (msq (mrn ?_))
 refine man (mrt ?_)
 cases h
 refine ⟨?_,?_⟩<;>(try simp +decide only [MF,F,ME,reduceIte,Nat.reduceAdd,EN, *])
set_option maxHeartbeats 4000000 in
theorem aHw (p0:List M.eU) (p1:Int) (r:(List M.eU×Int)) (h:wT p0 p1=some r):oN Tryz.prog 278 false ([.sl (List.map M.eU.en p0)]) ([.sl (List.map M.eU.en r.1)]) p1 r.2:=by
 unfold wT at h
 refine gJ (N:=34) (r:=4) Tryz.func278 rfl rfl rfl (by decide +kernel) (by decide) fun cx => ?_
 refine msq (mrn ?_)
 refine man (msq (msq (mrn ?_)))
 refine man (mbk ?_)
 refine vG (fun m s=>∃v1:Int,∃v5:Int,∃r99:List M.eU,s.t 0 = .unk∧s.m 0=some (.top 0)∧s.t 1 = .v false [.dat (.int .i64 v1)]∧s.t 5 = .v false [.dat (.int .i64 v5)]∧s.ds=[.sl (List.map M.eU.en r99)]∧dQ m v1 v5 r99=some r) fuel ?_ ?_
 ·refine ⟨p1,0,p0,?_,?_,?_,?_,?_,h⟩
  all_goals simp +decide only [MF,F,reduceIte,Nat.reduceAdd,qB,qC,EN, *,-h]
 rintro mL1 s1 ⟨v1,v5,r99,f2,f3,f4,f5,f6,h⟩
 rcases mL1 with _ | mL1
 ·exact absurd h (by simp [dQ])
 simp only [dQ] at h
 refine msq (msq (mrn ?_))
 refine man ?_
 rcases aEW (decide (v5<(List.length r99:Int))) with b7 | b7
 ·replace h:=bI b7 h
  refine mcf (mxt (uZ (uY (aBi (man (msq (mrn ?_)))))))
  refine man (mrt ?_)
  cases h
  refine ⟨?_,?_⟩<;>(try simp +decide only [MF,F,ME,reduceIte,Nat.reduceAdd,EN, *])
 replace h:=bJ b7 h
 refine mct (msk (man (msq (mbk (msq ?_)))))
 obtain ⟨x8,h9,h⟩:=bind_some h
 obtain ⟨q10,q11,q12⟩:=aV h9
 refine mrn ?_
 obtain ⟨y13,e14,h⟩:=bind_some h
 replace e14:=(Option.some.inj e14).symm
 refine man (msq ?_)
 refine mcu (fun s=>s.t 0 = .unk∧s.m 0=some (.top 0)∧s.t 1 = .v false [.dat (.int .i64 v1)]∧s.t 5 = .v false [.dat (.int .i64 v5)]∧s.ds=[.sl (List.map M.eU.en y13)]∧True) ?_
 rintro s15 ⟨f16,f17,f18,f19,f20,_⟩
 clear e14
 refine mrn ?_
 refine man (msq ?_)
 obtain ⟨x21,h22,h⟩:=bind_some h
 obtain ⟨q23,q24,q25⟩:=aV h22
 refine mrn ?_
 obtain ⟨y26,e27,h⟩:=bind_some h
 replace e27:=(Option.some.inj e27).symm
 refine man (msq ?_)
 refine mcu (fun s=>s.t 0 = .unk∧s.m 0=some (.top 0)∧s.t 1 = .v false [.dat (.int .i64 (i64.wrap (v1+1)))]∧s.t 5 = .v false [.dat (.int .i64 v5)]∧s.ds=[.sl (List.map M.eU.en y26)]∧True) ?_
 rintro s28 ⟨f29,f30,f31,f32,f33,_⟩
 clear e27
 refine mrn ?_
 refine man (msq ?_)
 obtain ⟨x34,h35,h⟩:=bind_some h
 obtain ⟨q36,q37,q38⟩:=aV h35
 refine mrn ?_
 obtain ⟨y39,e40,h⟩:=bind_some h
 replace e40:=(Option.some.inj e40).symm
 refine man ?_
 refine mcu (fun s=>s.t 0 = .unk∧s.m 0=some (.top 0)∧s.t 1 = .v false [.dat (.int .i64 (i64.wrap ((i64.wrap (v1+1))+1)))]∧s.t 5 = .v false [.dat (.int .i64 v5)]∧s.ds=[.sl (List.map M.eU.en y39)]∧True) ?_
 rintro s41 ⟨f42,f43,f44,f45,f46,_⟩
 clear e40
 refine mrn ?_
 refine mab (man (mrn ?_))
 refine aBy ⟨mL1,by omega,(i64.wrap ((i64.wrap ((i64.wrap (v1+1))+1))+1)),(i64.wrap (v5+1)),y39,?_,?_,?_,?_,?_,h⟩
 all_goals simp +decide only [MF,F,reduceIte,Nat.reduceAdd,qB,qC,EN, *,-h]
set_option maxHeartbeats 4000000 in
theorem aGP (p0:M.Channel) (p1:Int) (r:(List M.eU×Int)) (h:yB p0 p1=some r):oN Tryz.prog 106 true (M.Channel.en p0) ([.sl (List.map M.eU.en r.1)]) p1 r.2:=by
 unfold yB at h
 simp only [M.Channel.en]
 refine gJ (N:=10) (r:=4) Tryz.func106 rfl rfl rfl (by decide +kernel) (by decide) fun cx => ?_
 refine msq (mrn ?_)
 refine man (msq ?_)
 obtain ⟨x1,h2,h⟩:=bind_some h
 refine aC2 (aHw _ _ _ h2) ?_
 refine man (msq (mrn ?_))
 refine man (mrt ?_)
 cases h
 refine ⟨?_,?_⟩<;>(try simp +decide only [MF,F,ME,reduceIte,Nat.reduceAdd,EN, *])
set_option maxHeartbeats 4000000 in
theorem aFw (p0:List ByteArray) (p1:Int) (r:(List ByteArray×Int)) (h:pG p0 p1=some r):oN Tryz.prog 279 false ([.sl (List.map enS p0)]) ([.sl (List.map enS r.1)]) p1 r.2:=by
 unfold pG at h
 refine gJ (N:=20) (r:=4) Tryz.func279 rfl rfl rfl (by decide +kernel) (by decide) fun cx => ?_
 refine msq (mrn ?_)
 refine man (msq (msq (mrn ?_)))
 refine man (mbk ?_)
 refine vG (fun m s=>∃v1:Int,∃v5:Int,∃r99:List ByteArray,s.t 0 = .unk∧s.m 0=some (.top 0)∧s.t 1 = .v false [.dat (.int .i64 v1)]∧s.t 5 = .v false [.dat (.int .i64 v5)]∧s.ds=[.sl (List.map enS r99)]∧cU m v1 v5 r99=some r) fuel ?_ ?_
 ·refine ⟨p1,0,p0,?_,?_,?_,?_,?_,h⟩
  all_goals simp +decide only [MF,F,reduceIte,Nat.reduceAdd,qB,qC,EN, *,-h]
 rintro mL1 s1 ⟨v1,v5,r99,f2,f3,f4,f5,f6,h⟩
 rcases mL1 with _ | mL1
 ·exact absurd h (by simp [cU])
 simp only [cU] at h
 refine msq (msq (mrn ?_))
 refine man ?_
 rcases aEW (decide (v5<(List.length r99:Int))) with b7 | b7
 ·replace h:=bI b7 h
  refine mcf (mxt (uZ (uY (aBi (man (msq (mrn ?_)))))))
  refine man (mrt ?_)
  cases h
  refine ⟨?_,?_⟩<;>(try simp +decide only [MF,F,ME,reduceIte,Nat.reduceAdd,EN, *])
 replace h:=bJ b7 h
 refine mct (msk (man (msq (mbk (msq ?_)))))
 obtain ⟨x8,h9,h⟩:=bind_some h
 obtain ⟨x10,h11,h⟩:=bind_some h
 obtain ⟨q12,q13,q14⟩:=aV h11
 refine aC2 (aFI _ _ h9) ?_
 obtain ⟨y15,e16,h⟩:=bind_some h
 replace e16:=(Option.some.inj e16).symm
 refine man ?_
 refine mcu (fun s=>s.t 0 = .unk∧s.m 0=some (.top 0)∧s.t 1 = .v false [.dat (.int .i64 v1)]∧s.t 5 = .v false [.dat (.int .i64 v5)]∧s.ds=[.sl (List.map enS y15)]∧True) ?_
 rintro s17 ⟨f18,f19,f20,f21,f22,_⟩
 clear e16
 refine mrn ?_
 refine mab (man (mrn ?_))
 refine aBy ⟨mL1,by omega,(i64.wrap (v1+1)),(i64.wrap (v5+1)),y15,?_,?_,?_,?_,?_,h⟩
 all_goals simp +decide only [MF,F,reduceIte,Nat.reduceAdd,qB,qC,EN, *,-h]
set_option maxHeartbeats 4000000 in
theorem aHj (p0:List M.Site) (p1:Int) (r:(List M.Site×Int)) (h:wL p0 p1=some r):oN Tryz.prog 107 false ([.sl (List.map M.Site.en p0)]) ([.sl (List.map M.Site.en r.1)]) p1 r.2:=by
 unfold wL at h
 refine gJ (N:=44) (r:=4) Tryz.func107 rfl rfl rfl (by decide +kernel) (by decide) fun cx => ?_
 refine msq (mrn ?_)
 refine man (msq (msq (mrn ?_)))
 refine man (mbk ?_)
 refine vG (fun m s=>∃v1:Int,∃v5:Int,∃r99:List M.Site,s.t 0 = .unk∧s.m 0=some (.top 0)∧s.t 1 = .v false [.dat (.int .i64 v1)]∧s.t 5 = .v false [.dat (.int .i64 v5)]∧s.ds=[.sl (List.map M.Site.en r99)]∧dX m v1 v5 r99=some r) fuel ?_ ?_
 ·refine ⟨p1,0,p0,?_,?_,?_,?_,?_,h⟩
  all_goals simp +decide only [MF,F,reduceIte,Nat.reduceAdd,qB,qC,EN, *,-h]
 rintro mL1 s1 ⟨v1,v5,r99,f2,f3,f4,f5,f6,h⟩
 rcases mL1 with _ | mL1
 ·exact absurd h (by simp [dX])
 simp only [dX] at h
 refine msq (msq (mrn ?_))
 refine man ?_
 rcases aEW (decide (v5<(List.length r99:Int))) with b7 | b7
 ·replace h:=bI b7 h
  refine mcf (mxt (uZ (uY (aBi (man (msq (mrn ?_)))))))
  refine man (mrt ?_)
  cases h
  refine ⟨?_,?_⟩<;>(try simp +decide only [MF,F,ME,reduceIte,Nat.reduceAdd,EN, *])
 replace h:=bJ b7 h
 refine mct (msk (man (msq (mbk (msq ?_)))))
 obtain ⟨x8,h9,h⟩:=bind_some h
 obtain ⟨x10,h11,h⟩:=bind_some h
 obtain ⟨q12,q13,q14⟩:=aV h11
 refine aC2 (aFI _ _ h9) ?_
 obtain ⟨y15,e16,h⟩:=bind_some h
 replace e16:=(Option.some.inj e16).symm
 refine man (msq ?_)
 refine mcu (fun s=>s.t 0 = .unk∧s.m 0=some (.top 0)∧s.t 1 = .v false [.dat (.int .i64 v1)]∧s.t 5 = .v false [.dat (.int .i64 v5)]∧s.ds=[.sl (List.map M.Site.en y15)]∧True) ?_
 rintro s17 ⟨f18,f19,f20,f21,f22,_⟩
 clear e16
 refine mrn ?_
 refine man (msq ?_)
 obtain ⟨x23,h24,h⟩:=bind_some h
 obtain ⟨q25,q26,q27⟩:=aV h24
 refine mrn ?_
 obtain ⟨y28,e29,h⟩:=bind_some h
 replace e29:=(Option.some.inj e29).symm
 refine man (msq ?_)
 refine mcu (fun s=>s.t 0 = .unk∧s.m 0=some (.top 0)∧s.t 1 = .v false [.dat (.int .i64 (i64.wrap (v1+1)))]∧s.t 5 = .v false [.dat (.int .i64 v5)]∧s.ds=[.sl (List.map M.Site.en y28)]∧True) ?_
 rintro s30 ⟨f31,f32,f33,f34,f35,_⟩
 clear e29
 refine mrn ?_
 refine man (msq ?_)
 obtain ⟨x36,h37,h⟩:=bind_some h
 obtain ⟨q38,q39,q40⟩:=aV h37
 obtain ⟨x41,h42,h⟩:=bind_some h
 refine aC2 (aFw _ _ _ h42) ?_
 obtain ⟨y43,e44,h⟩:=bind_some h
 replace e44:=(Option.some.inj e44).symm
 refine man (msq ?_)
 refine mcu (fun s=>s.t 0 = .unk∧s.m 0=some (.top 0)∧s.t 1 = .v false [.dat (.int .i64 x41.2)]∧s.t 5 = .v false [.dat (.int .i64 v5)]∧s.ds=[.sl (List.map M.Site.en y43)]∧True) ?_
 rintro s45 ⟨f46,f47,f48,f49,f50,_⟩
 clear e44
 obtain ⟨x51,h52,h⟩:=bind_some h
 obtain ⟨q53,q54,q55⟩:=aV h52
 refine mrn ?_
 obtain ⟨y56,e57,h⟩:=bind_some h
 replace e57:=(Option.some.inj e57).symm
 refine man ?_
 refine mcu (fun s=>s.t 0 = .unk∧s.m 0=some (.top 0)∧s.t 1 = .v false [.dat (.int .i64 x41.2)]∧s.t 5 = .v false [.dat (.int .i64 v5)]∧s.ds=[.sl (List.map M.Site.en y56)]∧True) ?_
 rintro s58 ⟨f59,f60,f61,f62,f63,_⟩
 clear e57
 refine mrn ?_
 refine mab (man (mrn ?_))
 refine aBy ⟨mL1,by omega,(i64.wrap (x41.2+1)),(i64.wrap (v5+1)),y56,?_,?_,?_,?_,?_,h⟩
 all_goals simp +decide only [MF,F,reduceIte,Nat.reduceAdd,qB,qC,EN, *,-h]
set_option maxHeartbeats 4000000 in
theorem aFV (p0:List M.aM) (p1:Int) (r:(List M.aM×Int)) (h:oA p0 p1=some r):oN Tryz.prog 281 false ([.sl (List.map M.aM.en p0)]) ([.sl (List.map M.aM.en r.1)]) p1 r.2:=by
 unfold oA at h
 refine gJ (N:=27) (r:=4) Tryz.func281 rfl rfl rfl (by decide +kernel) (by decide) fun cx => ?_
 refine msq (mrn ?_)
 refine man (msq (msq (mrn ?_)))
 refine man (mbk ?_)
 refine vG (fun m s=>∃v1:Int,∃v5:Int,∃r99:List M.aM,s.t 0 = .unk∧s.m 0=some (.top 0)∧s.t 1 = .v false [.dat (.int .i64 v1)]∧s.t 5 = .v false [.dat (.int .i64 v5)]∧s.ds=[.sl (List.map M.aM.en r99)]∧cH m v1 v5 r99=some r) fuel ?_ ?_
 ·refine ⟨p1,0,p0,?_,?_,?_,?_,?_,h⟩
  all_goals simp +decide only [MF,F,reduceIte,Nat.reduceAdd,qB,qC,EN, *,-h]
 rintro mL1 s1 ⟨v1,v5,r99,f2,f3,f4,f5,f6,h⟩
 rcases mL1 with _ | mL1
 ·exact absurd h (by simp [cH])
 simp only [cH] at h
 refine msq (msq (mrn ?_))
 refine man ?_
 rcases aEW (decide (v5<(List.length r99:Int))) with b7 | b7
 ·replace h:=bI b7 h
  refine mcf (mxt (uZ (uY (aBi (man (msq (mrn ?_)))))))
  refine man (mrt ?_)
  cases h
  refine ⟨?_,?_⟩<;>(try simp +decide only [MF,F,ME,reduceIte,Nat.reduceAdd,EN, *])
 replace h:=bJ b7 h
 refine mct (msk (man (msq (mbk (msq ?_)))))
 obtain ⟨x8,h9,h⟩:=bind_some h
 obtain ⟨q10,q11,q12⟩:=aV h9
 refine mrn ?_
 obtain ⟨y13,e14,h⟩:=bind_some h
 replace e14:=(Option.some.inj e14).symm
 refine man (msq ?_)
 refine mcu (fun s=>s.t 0 = .unk∧s.m 0=some (.top 0)∧s.t 1 = .v false [.dat (.int .i64 v1)]∧s.t 5 = .v false [.dat (.int .i64 v5)]∧s.ds=[.sl (List.map M.aM.en y13)]∧True) ?_
 rintro s15 ⟨f16,f17,f18,f19,f20,_⟩
 clear e14
 refine mrn ?_
 refine man (msq ?_)
 obtain ⟨x21,h22,h⟩:=bind_some h
 obtain ⟨q23,q24,q25⟩:=aV h22
 refine mrn ?_
 obtain ⟨y26,e27,h⟩:=bind_some h
 replace e27:=(Option.some.inj e27).symm
 refine man ?_
 refine mcu (fun s=>s.t 0 = .unk∧s.m 0=some (.top 0)∧s.t 1 = .v false [.dat (.int .i64 (i64.wrap (v1+1)))]∧s.t 5 = .v false [.dat (.int .i64 v5)]∧s.ds=[.sl (List.map M.aM.en y26)]∧True) ?_
 rintro s28 ⟨f29,f30,f31,f32,f33,_⟩
 clear e27
 refine mrn ?_
 refine mab (man (mrn ?_))
 refine aBy ⟨mL1,by omega,(i64.wrap ((i64.wrap (v1+1))+1)),(i64.wrap (v5+1)),y26,?_,?_,?_,?_,?_,h⟩
 all_goals simp +decide only [MF,F,reduceIte,Nat.reduceAdd,qB,qC,EN, *,-h]
set_option maxHeartbeats 4000000 in
theorem aGM (p0:List M.Server) (p1:Int) (r:(List M.Server×Int)) (h:pW p0 p1=some r):oN Tryz.prog 108 false ([.sl (List.map M.Server.en p0)]) ([.sl (List.map M.Server.en r.1)]) p1 r.2:=by
 unfold pW at h
 refine gJ (N:=52) (r:=4) Tryz.func108 rfl rfl rfl (by decide +kernel) (by decide) fun cx => ?_
 refine msq (mrn ?_)
 refine man (msq (msq (mrn ?_)))
 refine man (mbk ?_)
 refine vG (fun m s=>∃v1:Int,∃v5:Int,∃r99:List M.Server,s.t 0 = .unk∧s.m 0=some (.top 0)∧s.t 1 = .v false [.dat (.int .i64 v1)]∧s.t 5 = .v false [.dat (.int .i64 v5)]∧s.ds=[.sl (List.map M.Server.en r99)]∧cN m v1 v5 r99=some r) fuel ?_ ?_
 ·refine ⟨p1,0,p0,?_,?_,?_,?_,?_,h⟩
  all_goals simp +decide only [MF,F,reduceIte,Nat.reduceAdd,qB,qC,EN, *,-h]
 rintro mL1 s1 ⟨v1,v5,r99,f2,f3,f4,f5,f6,h⟩
 rcases mL1 with _ | mL1
 ·exact absurd h (by simp [cN])
 simp only [cN] at h
 refine msq (msq (mrn ?_))
 refine man ?_
 rcases aEW (decide (v5<(List.length r99:Int))) with b7 | b7
 ·replace h:=bI b7 h
  refine mcf (mxt (uZ (uY (aBi (man (msq (mrn ?_)))))))
  refine man (mrt ?_)
  cases h
  refine ⟨?_,?_⟩<;>(try simp +decide only [MF,F,ME,reduceIte,Nat.reduceAdd,EN, *])
 replace h:=bJ b7 h
 refine mct (msk (man (msq (mbk (msq ?_)))))
 obtain ⟨x8,h9,h⟩:=bind_some h
 obtain ⟨x10,h11,h⟩:=bind_some h
 obtain ⟨q12,q13,q14⟩:=aV h11
 refine aC2 (aFI _ _ h9) ?_
 obtain ⟨y15,e16,h⟩:=bind_some h
 replace e16:=(Option.some.inj e16).symm
 refine man (msq ?_)
 refine mcu (fun s=>s.t 0 = .unk∧s.m 0=some (.top 0)∧s.t 1 = .v false [.dat (.int .i64 v1)]∧s.t 5 = .v false [.dat (.int .i64 v5)]∧s.ds=[.sl (List.map M.Server.en y15)]∧True) ?_
 rintro s17 ⟨f18,f19,f20,f21,f22,_⟩
 clear e16
 refine mrn ?_
 refine man (msq ?_)
 obtain ⟨x23,h24,h⟩:=bind_some h
 obtain ⟨q25,q26,q27⟩:=aV h24
 obtain ⟨x28,h29,h⟩:=bind_some h
 refine aC2 (aCi _ _ _ h29) ?_
 obtain ⟨y30,e31,h⟩:=bind_some h
 replace e31:=(Option.some.inj e31).symm
 refine man (msq ?_)
 refine mcu (fun s=>s.t 0 = .unk∧s.m 0=some (.top 0)∧s.t 1 = .v false [.dat (.int .i64 x28.2)]∧s.t 5 = .v false [.dat (.int .i64 v5)]∧s.ds=[.sl (List.map M.Server.en y30)]∧True) ?_
 rintro s32 ⟨f33,f34,f35,f36,f37,_⟩
 clear e31
 obtain ⟨x38,h39,h⟩:=bind_some h
 obtain ⟨q40,q41,q42⟩:=aV h39
 refine mrn ?_
 obtain ⟨y43,e44,h⟩:=bind_some h
 replace e44:=(Option.some.inj e44).symm
 refine man (msq ?_)
 refine mcu (fun s=>s.t 0 = .unk∧s.m 0=some (.top 0)∧s.t 1 = .v false [.dat (.int .i64 x28.2)]∧s.t 5 = .v false [.dat (.int .i64 v5)]∧s.ds=[.sl (List.map M.Server.en y43)]∧True) ?_
 rintro s45 ⟨f46,f47,f48,f49,f50,_⟩
 clear e44
 refine mrn ?_
 refine man (msq ?_)
 obtain ⟨x51,h52,h⟩:=bind_some h
 obtain ⟨q53,q54,q55⟩:=aV h52
 obtain ⟨x56,h57,h⟩:=bind_some h
 refine aC2 (aFV _ _ _ h57) ?_
 obtain ⟨y58,e59,h⟩:=bind_some h
 replace e59:=(Option.some.inj e59).symm
 refine man ?_
 refine mcu (fun s=>s.t 0 = .unk∧s.m 0=some (.top 0)∧s.t 1 = .v false [.dat (.int .i64 x56.2)]∧s.t 5 = .v false [.dat (.int .i64 v5)]∧s.ds=[.sl (List.map M.Server.en y58)]∧True) ?_
 rintro s60 ⟨f61,f62,f63,f64,f65,_⟩
 clear e59
 obtain ⟨x66,h67,h⟩:=bind_some h
 obtain ⟨q68,q69,q70⟩:=aV h67
 obtain ⟨x71,h72,h⟩:=bind_some h
 refine aC2 (aDj _ _ _ h72) ?_
 obtain ⟨y73,e74,h⟩:=bind_some h
 replace e74:=(Option.some.inj e74).symm
 refine mab (man ?_)
 refine mcu (fun s=>s.t 0 = .unk∧s.m 0=some (.top 0)∧s.t 1 = .v false [.dat (.int .i64 x71.2)]∧s.t 5 = .v false [.dat (.int .i64 v5)]∧s.ds=[.sl (List.map M.Server.en y73)]∧True) ?_
 rintro s75 ⟨f76,f77,f78,f79,f80,_⟩
 clear e74
 refine mrn ?_
 refine aBy ⟨mL1,by omega,x71.2,(i64.wrap (v5+1)),y73,?_,?_,?_,?_,?_,h⟩
 all_goals simp +decide only [MF,F,reduceIte,Nat.reduceAdd,qB,qC,EN, *,-h]
set_option maxHeartbeats 4000000 in
theorem aEI (p0:M.World) (p1:Int) (r:(List M.aC×List M.bH×List M.cJ×List M.eU×List M.Site×List M.Server×Int)) (h:oU p0 p1=some r):oN Tryz.prog 18 true (M.World.en p0) ([.int .i64 p0.Now,.bool p0.Online,.int .i64 p0.Device,.sl (List.map M.aC.en r.1),.sl (List.map M.bH.en r.2.1),.int .i64 p0.NextPage,.sl (List.map M.cJ.en r.2.2.1),.sl (List.map M.eU.en r.2.2.2.1),.sl (List.map M.Site.en r.2.2.2.2.1),.sl (List.map M.Server.en r.2.2.2.2.2.1)]) p1 r.2.2.2.2.2.2:=by
 unfold oU at h
 simp only [M.World.en]
 refine gJ (N:=30) (r:=4) Tryz.func18 rfl rfl rfl (by decide +kernel) (by decide) fun cx => ?_
 refine msq (mrn ?_)
 refine man (msq ?_)
 obtain ⟨x1,h2,h⟩:=bind_some h
 refine aC2 (aGR _ _ _ h2) ?_
 refine man (msq ?_)
 refine mcu (fun s=>s.t 1 = .v false [.dat (.int .i64 x1.2)]∧s.t 2 = .unk∧s.m 2=some (.bx 0)∧s.ds=[.int .i64 p0.Now,.bool p0.Online,.int .i64 p0.Device,.sl (List.map M.aC.en x1.1),.sl (List.map M.bH.en p0.Pages),.int .i64 p0.NextPage,.sl (List.map M.cJ.en p0.Locks.Locks),.sl (List.map M.eU.en p0.Channel.Mails),.sl (List.map M.Site.en p0.Sites),.sl (List.map M.Server.en p0.Servers)]∧True) ?_
 rintro s3 ⟨f4,f5,f6,f7,_⟩
 obtain ⟨x8,h9,h⟩:=bind_some h
 refine aC2 (aHn _ _ _ h9) ?_
 refine man (msq ?_)
 refine mcu (fun s=>s.t 1 = .v false [.dat (.int .i64 x8.2)]∧s.t 2 = .unk∧s.m 2=some (.bx 0)∧s.ds=[.int .i64 p0.Now,.bool p0.Online,.int .i64 p0.Device,.sl (List.map M.aC.en x1.1),.sl (List.map M.bH.en x8.1),.int .i64 p0.NextPage,.sl (List.map M.cJ.en p0.Locks.Locks),.sl (List.map M.eU.en p0.Channel.Mails),.sl (List.map M.Site.en p0.Sites),.sl (List.map M.Server.en p0.Servers)]∧True) ?_
 rintro s10 ⟨f11,f12,f13,f14,_⟩
 obtain ⟨x15,h16,h⟩:=bind_some h
 refine aC2 (aFF _ _ _ h16) ?_
 refine man (msq ?_)
 refine mcu (fun s=>s.t 1 = .v false [.dat (.int .i64 x15.2)]∧s.t 2 = .unk∧s.m 2=some (.bx 0)∧s.ds=[.int .i64 p0.Now,.bool p0.Online,.int .i64 p0.Device,.sl (List.map M.aC.en x1.1),.sl (List.map M.bH.en x8.1),.int .i64 p0.NextPage,.sl (List.map M.cJ.en x15.1),.sl (List.map M.eU.en p0.Channel.Mails),.sl (List.map M.Site.en p0.Sites),.sl (List.map M.Server.en p0.Servers)]∧True) ?_
 rintro s17 ⟨f18,f19,f20,f21,_⟩
 obtain ⟨x22,h23,h⟩:=bind_some h
 refine aC2 (aGP _ _ _ h23) ?_
 refine man (msq ?_)
 refine mcu (fun s=>s.t 1 = .v false [.dat (.int .i64 x22.2)]∧s.t 2 = .unk∧s.m 2=some (.bx 0)∧s.ds=[.int .i64 p0.Now,.bool p0.Online,.int .i64 p0.Device,.sl (List.map M.aC.en x1.1),.sl (List.map M.bH.en x8.1),.int .i64 p0.NextPage,.sl (List.map M.cJ.en x15.1),.sl (List.map M.eU.en x22.1),.sl (List.map M.Site.en p0.Sites),.sl (List.map M.Server.en p0.Servers)]∧True) ?_
 rintro s24 ⟨f25,f26,f27,f28,_⟩
 obtain ⟨x29,h30,h⟩:=bind_some h
 refine aC2 (aHj _ _ _ h30) ?_
 refine man (msq ?_)
 refine mcu (fun s=>s.t 1 = .v false [.dat (.int .i64 x29.2)]∧s.t 2 = .unk∧s.m 2=some (.bx 0)∧s.ds=[.int .i64 p0.Now,.bool p0.Online,.int .i64 p0.Device,.sl (List.map M.aC.en x1.1),.sl (List.map M.bH.en x8.1),.int .i64 p0.NextPage,.sl (List.map M.cJ.en x15.1),.sl (List.map M.eU.en x22.1),.sl (List.map M.Site.en x29.1),.sl (List.map M.Server.en p0.Servers)]∧True) ?_
 rintro s31 ⟨f32,f33,f34,f35,_⟩
 obtain ⟨x36,h37,h⟩:=bind_some h
 refine aC2 (aGM _ _ _ h37) ?_
 refine man (msq (mrn ?_))
 refine man (mrt ?_)
 cases h
 refine ⟨?_,?_⟩<;>(try simp +decide only [MF,F,ME,reduceIte,Nat.reduceAdd,EN, *])
end Go.Proofs.YtimblbmbfdopgaaGreat.gen
