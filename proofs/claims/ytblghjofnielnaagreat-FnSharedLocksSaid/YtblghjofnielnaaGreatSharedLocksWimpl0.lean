/-
  Helper text. No conditions.
-/
import Derived.Test.YtblghjofnielnaaGreatSharedLocksTi
namespace Go.Proofs.YtblghjofnielnaaGreat.gen
open Go Go.Sh
open Go.IntKind (i64)
set_option linter.unusedVariables false
set_option linter.unusedSimpArgs false
set_option maxRecDepth 20000
set_option maxHeartbeats 4000000
theorem aEI (p0 r) (h:hZ p0=some r):Sc 394 [aL enB p0] [rW 5 1 enB r]:=by
 unfold hZ at h
 exact sgo 6 [.tmp 2] Tryz.func394
instance:aZ 394 (type_of% @aEI):=⟨@aEI⟩
theorem aFR (p0 r) (h:lG p0=some r):Sc 392 [aX (M.Response.en p0)] [(true,M.Response.rs r)]:=by
 unfold lG at h
 exact sgo 8 [.cell 2 146] Tryz.func392
instance:aZ 392 (type_of% @aFR):=⟨@aFR⟩
theorem aEe (p0 r) (h:lE p0=some r):Sc 261 [aX (M.aM.en p0)] [(true,M.aM.rs r)]:=by
 have i1:=zN [.b 3 0 7050100 277 2] fun m s=>∃v13:Int,∃r50100:List M.Cache,∃u50100:Nat,(s.t 2=vP 2 1 0∧s.t 3=vP 3 1 0∧s.t 11=vL M.Cache.en p0.Caches∧s.t 12=vI (List.length p0.Caches:Int)∧s.t 13=vI v13∧s.h 2=(1,oB 52 [.nil])∧s.h 3=(1,oB 52 [.row 7050100 u50100])∧s.h 7050100=(u50100,oW 277 2 M.Cache.en r50100))∧eU p0 m v13 r50100=some r
 have e1:=@eU.eq_2
 have i2:=fun (v13:Int) (r50100:List M.Cache) (x11:M.Cache) (k17:Int→List M.Cached→Option M.aM) (s1:St) (u50100:Nat)=>zN [.b 6 1 7050000 284 7] fun m s=>∃v23_L2:Int,∃r50000_L2:List M.Cached,∃u50000_L2:Nat,(s.t 2=vP 2 1 0∧s.t 3=vP 3 1 0∧s.t 6=vP 6 ((s1.h 6).1+1) 0∧s.t 11=vL M.Cache.en p0.Caches∧s.t 12=vI (List.length p0.Caches:Int)∧s.t 13=vI v13∧s.t 21=vL M.Cached.en x11.Entries∧s.t 22=vI (List.length x11.Entries:Int)∧s.t 23=vI v23_L2∧s.h 2=(1,oB 52 [.nil])∧s.h 3=(1,oB 52 [.row 7050100 u50100])∧s.h 6=(((s1.h 6).1+1),oB 277 [cI x11.Version,.row 7050000 u50000_L2])∧s.h 7050000=(u50000_L2,oW 284 7 M.Cached.en r50000_L2)∧s.h 7050100=(u50100,oW 277 2 M.Cache.en r50100))∧eO x11 k17 m v23_L2 r50000_L2=some r
 have e2:=@eO.eq_2
 unfold lE at h
 exact sgo 46 [.cell 2 52] Tryz.func261
instance:aZ 261 (type_of% @aEe):=⟨@aEe⟩
theorem aEa (p0 r) (h:nC p0=some r):Sc 524 [aX (M.bB.en p0)] [(true,M.bB.rs r)]:=by
 unfold nC at h
 exact sgo 8 [.cell 2 291] Tryz.func524
instance:aZ 524 (type_of% @aEa):=⟨@aEa⟩
theorem aDN (p0 r) (h:mF p0=some r):Sc 452 [aX (M.Item.en p0)] [(true,M.Item.rs r)]:=by
 unfold mF at h
 exact sgo 9 [.cell 2 293] Tryz.func452
instance:aZ 452 (type_of% @aDN):=⟨@aDN⟩
theorem aER (p0 r) (h:iC p0=some r):Sc 343 [aX (M.aP.en p0)] [(true,M.aP.rs r)]:=by
 have i1:=zN [.b 3 1 7050000 293 4] fun m s=>∃v14:Int,∃r50000:List M.Item,∃u50000:Nat,(s.t 2=vP 2 1 0∧s.t 3=vP 3 1 0∧s.t 12=vL M.Item.en p0.Items∧s.t 13=vI (List.length p0.Items:Int)∧s.t 14=vI v14∧s.h 2=(1,oB 61 [cS (⟨#[]⟩:ByteArray),.nil,cI 0])∧s.h 3=(1,oB 61 [cS p0.Name,.row 7050000 u50000,cI p0.Auto])∧s.h 7050000=(u50000,oW 293 4 M.Item.en r50000))∧gX p0 m v14 r50000=some r
 have e1:=@gX.eq_2
 unfold iC at h
 exact sgo 27 [.cell 2 61] Tryz.func343
instance:aZ 343 (type_of% @aER):=⟨@aER⟩
theorem aFh (p0 r) (h:lK p0=some r):Sc 393 [aX (M.Database.en p0)] [(true,M.Database.rs r)]:=by
 have i1:=zN [.b 3 2 7050000 61 3] fun m s=>∃v18:Int,∃r50000:List M.aP,∃u50000:Nat,(s.t 2=vP 2 1 0∧s.t 3=vP 3 1 0∧s.t 16=vL M.aP.en p0.Stores∧s.t 17=vI (List.length p0.Stores:Int)∧s.t 18=vI v18∧s.h 2=(1,oB 56 [cS (⟨#[]⟩:ByteArray),cI 0,.nil,.nil])∧s.h 3=(1,oB 56 [cS p0.Name,cI p0.Version,.row 7050000 u50000,.row 100010 2])∧s.h 100010=(2,oW 305 2 M.aU.en p0.Unique)∧s.h 7050000=(u50000,oW 61 3 M.aP.en r50000))∧eR p0 m v18 r50000=some r
 have e1:=@eR.eq_2
 unfold lK at h
 exact sgo 31 [.cell 2 56] Tryz.func393
instance:aZ 393 (type_of% @aFh):=⟨@aFh⟩
theorem aEY (p0 r) (h:pD p0=some r):Sc 262 [aX (M.pC.en p0)] [(true,M.pC.rs r)]:=by
 unfold pD at h
 exact sgo 12 [.cell 2 58] Tryz.func262
instance:aZ 262 (type_of% @aEY):=⟨@aEY⟩
theorem aF9 (p0 r) (h:nI p0=some r):Sc 485 [aX (M.bE.en p0)] [(true,M.bE.rs r)]:=by
 unfold nI at h
 exact sgo 9 [.cell 2 64] Tryz.func485
instance:aZ 485 (type_of% @aF9):=⟨@aF9⟩
theorem aFE (p0 r) (h:pM p0=some r):Sc 395 [aX (M.Sync.en p0)] [(true,M.Sync.rs r)]:=by
 unfold pM at h
 exact sgo 8 [.cell 2 66] Tryz.func395
instance:aZ 395 (type_of% @aFE):=⟨@aFE⟩
theorem aF0 (p0 r) (h:mG p0=some r):Sc 263 [aX (M.aV.en p0)] [(true,M.aV.rs r)]:=by
 unfold mG at h
 exact sgo 12 [.cell 2 68] Tryz.func263
instance:aZ 263 (type_of% @aF0):=⟨@aF0⟩
theorem aEw (p0 r) (h:mZ p0=some r):Sc 107 [aX (M.aJ.en p0)] [(true,M.aJ.rs r)]:=by
 unfold mZ at h
 exact sgo 16 [.cell 2 70] Tryz.func107
instance:aZ 107 (type_of% @aEw):=⟨@aEw⟩
theorem aFQ (p0 r) (h:lO p0=some r):Sc 106 [aX (M.aF.en p0)] [(true,M.aF.rs r)]:=by
 have i1:=zN [.b 3 0 7050000 70 24] fun m s=>∃v10:Int,∃r50000:List M.aJ,∃u50000:Nat,(s.t 2=vP 2 1 0∧s.t 3=vP 3 1 0∧s.t 8=vL M.aJ.en p0.Buckets∧s.t 9=vI (List.length p0.Buckets:Int)∧s.t 10=vI v10∧s.h 2=(1,oB 26 [.nil])∧s.h 3=(1,oB 26 [.row 7050000 u50000])∧s.h 7050000=(u50000,oW 70 24 M.aJ.en r50000))∧fD p0 m v10 r50000=some r
 have e1:=@fD.eq_2
 unfold lO at h
 exact sgo 23 [.cell 2 26] Tryz.func106
instance:aZ 106 (type_of% @aFQ):=⟨@aFQ⟩
theorem aES (p0 r) (h:lZ p0=some r):Sc 448 [aX (M.Machine.en p0)] [(true,M.Machine.rs r)]:=by
 unfold lZ at h
 exact sgo 16 [.cell 2 138] Tryz.func448
instance:aZ 448 (type_of% @aES):=⟨@aES⟩
theorem aEX (p0 r) (h:pQ p0=some r):Sc 334 [aX (M.dG.en p0)] [(true,M.dG.rs r)]:=by
 unfold pQ at h
 exact sgo 13 [.cell 2 140] Tryz.func334
instance:aZ 334 (type_of% @aEX):=⟨@aEX⟩
theorem aEz (p0 r) (h:nY p0=some r):Sc 211 [aL M.dG.en p0] [rW 140 11 M.dG.en r]:=by
 have i1:=inv fun m s=>∃v9:Int,∃r6:List M.dG,∃u6:Nat,(s.t 3=vR 100006 u6∧s.t 7=vL M.dG.en p0∧s.t 8=vI (List.length p0:Int)∧s.t 9=vI v9∧s.h 100006=(u6,oW 140 11 M.dG.en r6))∧hM p0 m v9 r6=some r
 have e1:=@hM.eq_2
 unfold nY at h
 exact sgo 20 [.tmp 2] Tryz.func211
instance:aZ 211 (type_of% @aEz):=⟨@aEz⟩
theorem aCk (p0 r) (h:cV p0=some r):Sc 212 [aX (M.aD.en p0)] [(true,M.aD.rs r)]:=by
 unfold cV at h
 exact sgo 8 [.cell 2 30] Tryz.func212
instance:aZ 212 (type_of% @aCk):=⟨@aCk⟩
theorem aDt (p0 r) (h:iS p0=some r):Sc 213 [aX (M.Channel.en p0)] [(true,M.Channel.rs r)]:=by
 unfold iS at h
 exact sgo 8 [.cell 2 33] Tryz.func213
instance:aZ 213 (type_of% @aDt):=⟨@aDt⟩
theorem aFv (p0 r) (h:pK p0=some r):Sc 214 [aX (M.Site.en p0)] [(true,M.Site.rs r)]:=by
 unfold pK at h
 exact sgo 9 [.cell 2 102] Tryz.func214
instance:aZ 214 (type_of% @aFv):=⟨@aFv⟩
theorem aEb (p0 r) (h:nA p0=some r):Sc 215 [aX (M.Server.en p0)] [(true,M.Server.rs r)]:=by
 unfold nA at h
 exact sgo 15 [.cell 2 131] Tryz.func215
instance:aZ 215 (type_of% @aEb):=⟨@aEb⟩
theorem c71 (p0 r) (h:kU p0=some r):Sc 71 [aX (M.World.en p0)] [(true,M.World.rs r)]:=by
 have i1:=fun (x1:M.aF) (x3:(List M.dG)) (x5:M.aD) (x7:M.Channel)=>zN [.b 3 8 7050000 102 4] fun m s=>∃v29:Int,∃r50000:List M.Site,∃u50000:Nat,(s.t 1=vP 1 1 0∧s.t 2=vP 2 1 0∧s.t 3=vP 3 1 0∧s.t 27=vL M.Site.en p0.Sites∧s.t 28=vI (List.length p0.Sites:Int)∧s.t 29=vI v29∧s.h 1=(1,oX 37 (M.World.en p0))∧s.h 2=(1,oB 37 [cI 0,cB false,cI 0,.nil,.nil,cI 0,.nil,.nil,.nil,.nil])∧s.h 3=(1,oB 37 [cI p0.Now,cB p0.Online,cI p0.Device,.row 100011 1,.row 100015 1,cI p0.NextPage,.row 100019 1,.row 100023 1,.row 7050000 u50000,cL M.Server.en p0.Servers])∧s.h 100011=(1,oW 70 24 M.aJ.en x1.Buckets)∧s.h 100015=(1,oW 140 11 M.dG.en x3)∧s.h 100019=(1,oW 153 4 M.cA.en x5.Locks)∧s.h 100023=(1,oW 202 3 M.iR.en x7.Mails)∧s.h 7050000=(u50000,oW 102 4 M.Site.en r50000))∧hO p0 x1 x3 x5 x7 m v29 r50000=some r
 have e1:=@hO.eq_2
 have i2:=fun (x1:M.aF) (x3:(List M.dG)) (x5:M.aD) (x7:M.Channel) (r50000:List M.Site) (u50000:Nat)=>zN [.b 3 9 7050100 131 5] fun m s=>∃v45:Int,∃r50100:List M.Server,∃u50100:Nat,(s.t 2=vP 2 1 0∧s.t 3=vP 3 1 0∧s.t 43=vL M.Server.en p0.Servers∧s.t 44=vI (List.length p0.Servers:Int)∧s.t 45=vI v45∧s.h 2=(1,oB 37 [cI 0,cB false,cI 0,.nil,.nil,cI 0,.nil,.nil,.nil,.nil])∧s.h 3=(1,oB 37 [cI p0.Now,cB p0.Online,cI p0.Device,.row 100011 1,.row 100015 1,cI p0.NextPage,.row 100019 1,.row 100023 1,.row 7050000 u50000,.row 7050100 u50100])∧s.h 100011=(1,oW 70 24 M.aJ.en x1.Buckets)∧s.h 100015=(1,oW 140 11 M.dG.en x3)∧s.h 100019=(1,oW 153 4 M.cA.en x5.Locks)∧s.h 100023=(1,oW 202 3 M.iR.en x7.Mails)∧s.h 7050000=(u50000,oW 102 4 M.Site.en r50000)∧s.h 7050100=(u50100,oW 131 5 M.Server.en r50100))∧hD p0 x1 x3 x5 x7 r50000 m v45 r50100=some r
 have e2:=@hD.eq_2
 unfold kU at h
 exact sgo 58 [.cell 2 37] Tryz.func71
instance:aZ 71 (type_of% @c71):=⟨@c71⟩
theorem aDX (p0 c0 r) (h:iU p0 c0=some r):Sc 132 [aX (M.dG.en p0),(false,[.ptr [.int .i64 c0]])] [rB r]:=by
 unfold iU at h
 exact sgo 8 [.tmp 3] Tryz.func132
instance:aZ 132 (type_of% @aDX):=⟨@aDX⟩
theorem aDe (p0:List M.dG) (p1:M.dG→Option Bool) (f1_:FuncId) (k1_:List D) (hp1 : ∀z0 r,p1 z0=some r→dS Tryz.prog f1_ ((true,M.dG.en z0) ::  k1_.map fun c=>(false,[c])) [(false,[.ro (.bool r)])]) (r:Int) (h:hJ p0 p1=some r):Sc 131 [(false,[.sl (List.map M.dG.en p0)]),(false,[.fn f1_ k1_])] [rI r]:=by
 unfold hJ at h
 simp only [EN]
 refine sgn 19 [.tmp 4] Tryz.func131 fun base wd => ?_
 refine sq (rn ?_)
 refine an (sq (sq (rn ?_)))
 refine an (bk ?_)
 refine dH (fun m s=>∃v8:Int,s.t 0=vL M.dG.en p0∧s.t 1 = .v false [.dat (.fn f1_ k1_)]∧s.t 7=vI (List.length p0:Int)∧s.t 8=vI v8∧bY p0 p1 m v8=some r) fuel ?_ ?_
 ·refine ⟨0,?_,?_,?_,?_,h⟩
  all_goals simp +decide only [F,reduceIte,Nat.reduceAdd,Bool.not_true,Bool.not_false,EN, *,-h]
 rintro mL1 s1 ⟨v8,f2,f3,f4,f5,h⟩
 rcases mL1 with _ | mL1
 ·exact absurd h (by simp [bY])
 simp only [bY] at h
 refine sq (rn ?_)
 refine an (sq ?_)
 rcases nX (decide (v8<(List.length p0:Int))) with b6 | b6
 ·replace h:=aR b6 h
  refine cf (xt (eA (eX (kB (an (sq (rn ?_)))))))
  refine an (rt ?_)
  cases h
  simp [Ret,TB,EN, *]
 replace h:=aT b6 h
 refine ct (sk (an (sq (bk (sq (rn ?_))))))
 refine an (sq ?_)
 obtain ⟨x7,h8,h⟩:=bind_some h
 obtain ⟨q9,q10,q11⟩:=bK h8
 obtain ⟨x12,h13,h⟩:=bind_some h
 refine rn1 (hp1 x7 x12 h13) ?_
 refine an ?_
 rcases cF x12 with b14 | b14
 ·replace h:=aT b14 h
  refine ct (sq (rn ?_))
  refine an (rt ?_)
  cases h
  simp [Ret,TB,EN, *]
 replace h:=aR b14 h
 refine cf (sk (ab (an (rn ?_))))
 refine cN ⟨mL1,by omega,(i64.wrap (v8+1)),?_,?_,?_,?_,h⟩
 all_goals simp +decide only [F,reduceIte,Nat.reduceAdd,Bool.not_true,Bool.not_false,EN, *,-h]
instance:aZ 131 (type_of% @aDe):=⟨@aDe⟩
theorem c41 (p0 p1 r) (h:kZ p0 p1=some r):Sc 41 [aX (M.World.en p0),aI p1] [rI r]:=by
 unfold kZ at h
 simp only [EN]
 refine sgn 9 [.tmp 4] Tryz.func41 fun base wd => ?_
 refine sq (rn ?_)
 refine an (sq ?_)
 obtain ⟨x1,h2,h⟩:=bind_some h
 refine rn1 (aDe p0.Pages (fun z0=>iU z0 p1) 132 [.ptr [.int .i64 p1]] (fun z0 r hr=>aDX z0 p1 r hr) x1 h2) ?_
 refine an (rt ?_)
 cases h
 simp [Ret,TB,EN, *]
instance:aZ 41 (type_of% @c41):=⟨@c41⟩
theorem c98 (p0 p1 p2 r) (h:aH p0 p1 p2=some r):Sc 98 [aI p0,aI p1,aI p2] [rB r]:=by
 unfold aH at h
 exact sgo 15 [.tmp 6] Tryz.func98
instance:aZ 98 (type_of% @c98):=⟨@c98⟩
theorem aEp (p0 p1 p2 r) (h:oU p0 p1 p2=some r):Sc 246 [aS p0,aI p1,aB p2] [rB r]:=by
 have i1:=inv fun m s=>∃v7:Int,(s.t 0=vS p0∧s.t 1=vI p1∧s.t 2=vB p2∧s.t 7=vI v7)∧fB p0 p1 p2 m v7=some r
 have e1:=@fB.eq_2
 unfold oU at h
 exact sgo 38 [.tmp 6] Tryz.func246
instance:aZ 246 (type_of% @aEp):=⟨@aEp⟩
theorem c93 (p0 r) (h:aW p0=some r):Sc 93 [aS p0] [rB r]:=by
 unfold aW at h
 exact sgo 5 [.tmp 2] Tryz.func93
instance:aZ 93 (type_of% @c93):=⟨@c93⟩
theorem c94 (p0 r) (h:jH p0=some r):Sc 94 [aX (M.Registration.en p0)] [rB r]:=by
 unfold jH at h
 simp only [EN]
 refine sgn 37 [.tmp 2] Tryz.func94 fun base wd => ?_
 refine sq (rn ?_)
 refine an (sq (rn ?_))
 refine an (sq (sq (rn ?_)))
 refine an (bk ?_)
 refine cu (fun s=>s.t 1=vP 1 1 0∧s.t 3=vI 0∧s.t 12=vR 100012 1∧s.t 13=vI ((3:Nat):Int)∧s.t 14=vI 0∧s.h 1=(1,oX 49 (M.Registration.en p0))∧s.h 100012=(1,oW 3 1 enI ([p0.Active,p0.Waiting,p0.Installing]))∧True) ?_
 rintro s1 ⟨f2,f3,f4,f5,f6,f7,f8,_⟩
 refine dH (fun m s=>∃v3:Int,∃v14:Int,s.t 1=vP 1 1 0∧s.t 3=vI v3∧s.t 12=vR 100012 1∧s.t 13=vI ((3:Nat):Int)∧s.t 14=vI v14∧s.h 1=(1,oX 49 (M.Registration.en p0))∧s.h 100012=(1,oW 3 1 enI ([p0.Active,p0.Waiting,p0.Installing]))∧bQ p0 m v3 v14=some r) fuel ?_ ?_
 ·refine ⟨0,0,?_,?_,?_,?_,?_,?_,?_,h⟩
  all_goals simp +decide only [F,reduceIte,Nat.reduceAdd,Bool.not_true,Bool.not_false,EN, *,-h]
 rintro mL1 s9 ⟨v3,v14,f10,f11,f12,f13,f14,f15,f16,h⟩
 rcases mL1 with _ | mL1
 ·exact absurd h (by simp [bQ])
 simp only [bQ] at h
 refine sq (rn ?_)
 refine an (sq ?_)
 rcases nX (decide (v14<((3:Nat):Int))) with b17 | b17
 ·replace h:=aR b17 h
  refine cf (xt (eA (eX (kB (an (sq ?_))))))
  obtain ⟨x28,h29,h⟩:=bind_some h
  refine rn1 (c93 _ _ h29) ?_
  refine an (rt ?_)
  cases h
  simp [Ret,TB,EN, *]
 replace h:=aT b17 h
 refine ct (sk (an (sq (bk (sq ?_)))))
 obtain ⟨x18,h19,h⟩:=bind_some h
 obtain ⟨q20,q21,q22⟩:=bK h19
 have q20m:=congrArg (Option.map enI) (show ([p0.Active,p0.Waiting,p0.Installing])[v14.toNat]? = some x18 by assumption)
 simp only [←List.getElem?_map,List.map_cons,List.map_nil,Option.map_some,EN] at q20m
 simp only [List.length_cons,List.length_nil,Nat.reduceAdd] at q22
 refine rn ?_
 refine an (sq (sq ?_))
 obtain ⟨x23,h24,h⟩:=bind_some h
 rcases cF (!x23) with b25 | b25
 ·replace h:=aT b25 h
  refine rn1 (c98 _ _ _ _ h24) ?_
  refine an (ct (sq (rn ?_)))
  refine an (rt ?_)
  cases h
  simp [Ret,TB,EN, *]
 replace h:=aR b25 h
 rcases nX (x18 != 0) with b26 | b26
 ·replace h:=aR b26 h
  refine rn1 (c98 _ _ _ _ h24) ?_
  refine an (cf (sk (an (rn ?_))))
  refine ab (an (rn ?_))
  refine cN ⟨mL1,by omega,(if x18>v3 then x18 else v3),(i64.wrap (v14+1)),?_,?_,?_,?_,?_,?_,?_,h⟩
  all_goals simp +decide only [F,reduceIte,Nat.reduceAdd,Bool.not_true,Bool.not_false,EN, *,-h]
 replace h:=aT b26 h
 refine rn1 (c98 _ _ _ _ h24) ?_
 refine an ?_
 rcases cF (decide (x18≤v3)) with b27 | b27
 ·replace h:=aT b27 h
  refine ct (sq (rn ?_))
  refine an (rt ?_)
  cases h
  simp [Ret,TB,EN, *]
 replace h:=aR b27 h
 refine cf (sk (an (rn ?_)))
 refine ab (an (rn ?_))
 refine cN ⟨mL1,by omega,(if x18>v3 then x18 else v3),(i64.wrap (v14+1)),?_,?_,?_,?_,?_,?_,?_,h⟩
 all_goals simp +decide only [F,reduceIte,Nat.reduceAdd,Bool.not_true,Bool.not_false,EN, *,-h]
instance:aZ 94 (type_of% @c94):=⟨@c94⟩
theorem aDg (p0 c0 c1 r) (h:kN p0 c0 c1=some r):Sc 375 [aX (M.Cached.en p0),(false,[.ptr [.str c0]]),(false,[.ptr [.str c1]])] [rB r]:=by
 unfold kN at h
 exact sgo 15 [.tmp 4] Tryz.func375
instance:aZ 375 (type_of% @aDg):=⟨@aDg⟩
theorem aDc (p0:List M.Cached) (p1:M.Cached→Option Bool) (f1_:FuncId) (k1_:List D) (hp1 : ∀z0 r,p1 z0=some r→dS Tryz.prog f1_ ((true,M.Cached.en z0) ::  k1_.map fun c=>(false,[c])) [(false,[.ro (.bool r)])]) (r:Int) (h:fS p0 p1=some r):Sc 374 [(false,[.sl (List.map M.Cached.en p0)]),(false,[.fn f1_ k1_])] [rI r]:=by
 unfold fS at h
 simp only [EN]
 refine sgn 19 [.tmp 4] Tryz.func374 fun base wd => ?_
 refine sq (rn ?_)
 refine an (sq (sq (rn ?_)))
 refine an (bk ?_)
 refine dH (fun m s=>∃v8:Int,s.t 0=vL M.Cached.en p0∧s.t 1 = .v false [.dat (.fn f1_ k1_)]∧s.t 7=vI (List.length p0:Int)∧s.t 8=vI v8∧bO p0 p1 m v8=some r) fuel ?_ ?_
 ·refine ⟨0,?_,?_,?_,?_,h⟩
  all_goals simp +decide only [F,reduceIte,Nat.reduceAdd,Bool.not_true,Bool.not_false,EN, *,-h]
 rintro mL1 s1 ⟨v8,f2,f3,f4,f5,h⟩
 rcases mL1 with _ | mL1
 ·exact absurd h (by simp [bO])
 simp only [bO] at h
 refine sq (rn ?_)
 refine an (sq ?_)
 rcases nX (decide (v8<(List.length p0:Int))) with b6 | b6
 ·replace h:=aR b6 h
  refine cf (xt (eA (eX (kB (an (sq (rn ?_)))))))
  refine an (rt ?_)
  cases h
  simp [Ret,TB,EN, *]
 replace h:=aT b6 h
 refine ct (sk (an (sq (bk (sq (rn ?_))))))
 refine an (sq ?_)
 obtain ⟨x7,h8,h⟩:=bind_some h
 obtain ⟨q9,q10,q11⟩:=bK h8
 obtain ⟨x12,h13,h⟩:=bind_some h
 refine rn1 (hp1 x7 x12 h13) ?_
 refine an ?_
 rcases cF x12 with b14 | b14
 ·replace h:=aT b14 h
  refine ct (sq (rn ?_))
  refine an (rt ?_)
  cases h
  simp [Ret,TB,EN, *]
 replace h:=aR b14 h
 refine cf (sk (ab (an (rn ?_))))
 refine cN ⟨mL1,by omega,(i64.wrap (v8+1)),?_,?_,?_,?_,h⟩
 all_goals simp +decide only [F,reduceIte,Nat.reduceAdd,Bool.not_true,Bool.not_false,EN, *,-h]
instance:aZ 374 (type_of% @aDc):=⟨@aDc⟩
theorem aEs (p0 p1 p2 r) (h:nO p0 p1 p2=some r):Sc 247 [aX (M.Cache.en p0),aS p1,aS p2] [rI r]:=by
 unfold nO at h
 simp only [EN]
 refine sgn 11 [.tmp 6] Tryz.func247 fun base wd => ?_
 refine sq (rn ?_)
 refine an (sq ?_)
 obtain ⟨x1,h2,h⟩:=bind_some h
 refine rn1 (aDc p0.Entries (fun z0=>kN z0 p1 p2) 375 [.ptr [.str p1],.ptr [.str p2]] (fun z0 r hr=>aDg z0 p1 p2 r hr) x1 h2) ?_
 refine an (rt ?_)
 cases h
 simp [Ret,TB,EN, *]
instance:aZ 247 (type_of% @aEs):=⟨@aEs⟩
theorem aFX (p0 r) (h:jK p0=some r):Sc 248 [aX (M.Response.en p0)] [rB r]:=by
 unfold jK at h
 exact sgo 22 [.tmp 2] Tryz.func248
instance:aZ 248 (type_of% @aFX):=⟨@aFX⟩
theorem c95 (p0 r) (h:mP p0=some r):Sc 95 [aX (M.aM.en p0)] [rB r]:=by
 have i1:=inv fun m s=>∃v10:Int,(s.t 1=vP 1 1 0∧s.t 8=vL M.Cache.en p0.Caches∧s.t 9=vI (List.length p0.Caches:Int)∧s.t 10=vI v10∧s.h 1=(1,oX 52 (M.aM.en p0)))∧dU p0 m v10=some r
 have e1:=@dU.eq_2
 have i2:=fun (v10:Int) (x8:M.Cache) (k25:Int→Option Bool) (s1:St)=>inv fun m s=>∃v44_L2:Int,(s.t 1=vP 1 1 0∧s.t 4=vP 4 ((s1.h 4).1+1) 0∧s.t 8=vL M.Cache.en p0.Caches∧s.t 9=vI (List.length p0.Caches:Int)∧s.t 10=vI v10∧s.t 42=vL M.Cached.en x8.Entries∧s.t 43=vI (List.length x8.Entries:Int)∧s.t 44=vI v44_L2∧s.h 1=(1,oX 52 (M.aM.en p0))∧s.h 4=(((s1.h 4).1+1),oX 277 (M.Cache.en x8)))∧gG x8 k25 m v44_L2=some r
 have e2:=@gG.eq_2
 have i3:=fun (v10:Int) (x8:M.Cache) (k57:Int→Option Bool) (s1:St)=>inv fun m s=>∃v44_L3:Int,(s.t 1=vP 1 1 0∧s.t 4=vP 4 ((s1.h 4).1+1) 0∧s.t 8=vL M.Cache.en p0.Caches∧s.t 9=vI (List.length p0.Caches:Int)∧s.t 10=vI v10∧s.t 42=vL M.Cached.en x8.Entries∧s.t 43=vI (List.length x8.Entries:Int)∧s.t 44=vI v44_L3∧s.h 1=(1,oX 52 (M.aM.en p0))∧s.h 4=(((s1.h 4).1+1),oX 277 (M.Cache.en x8)))∧fW x8 k57 m v44_L3=some r
 have e3:=@fW.eq_2
 unfold mP at h
 exact sgo 81 [.tmp 2] Tryz.func95
instance:aZ 95 (type_of% @c95):=⟨@c95⟩
theorem aFC (p0 r) (h:oA p0=some r):Sc 476 [aS p0] [rB r]:=by
 have i1:=inv fun m s=>∃v3:Int,(s.t 0=vS p0∧s.t 3=vI v3)∧cZ p0 m v3=some r
 have e1:=@cZ.eq_2
 unfold oA at h
 exact sgo 36 [.tmp 2] Tryz.func476
instance:aZ 476 (type_of% @aFC):=⟨@aFC⟩
theorem aDf (p0 r) (h:iZ p0=some r):Sc 367 [aX (M.Key.en p0)] [rB r]:=by
 unfold iZ at h
 exact sgo 39 [.tmp 2] Tryz.func367
instance:aZ 367 (type_of% @aDf):=⟨@aDf⟩
theorem aGB (p0 r) (h:lT p0=some r):Sc 368 [aX (M.bB.en p0)] [rB r]:=by
 have i1:=inv fun m s=>∃v8:Int,(s.t 1=vP 1 1 0∧s.t 6=vL M.Field.en p0.Fields∧s.t 7=vI (List.length p0.Fields:Int)∧s.t 8=vI v8∧s.h 1=(1,oX 291 (M.bB.en p0)))∧fO p0 m v8=some r
 have e1:=@fO.eq_2
 unfold lT at h
 exact sgo 44 [.tmp 2] Tryz.func368
instance:aZ 368 (type_of% @aGB):=⟨@aGB⟩
theorem aFx (p0 p1 r) (h:iJ p0 p1=some r):Sc 477 [aI p0,aI p1] [rI r]:=by
 unfold iJ at h
 exact sgo 13 [.tmp 4] Tryz.func477
instance:aZ 477 (type_of% @aFx):=⟨@aFx⟩
set_option maxRecDepth 100000 in
set_option maxHeartbeats 4000000 in
theorem aF2 (p0:ByteArray) (p1:ByteArray) (r:Int) (h:fU p0 p1=some r):dS Tryz.prog 543 [(false,[.str p0]),(false,[.str p1])] [(false,[.ro (.int .i64 r)])]:=by
 refine zY Tryz.func543 rfl (by decide +kernel) fun w => ?_
 cases h
 go_enter Tryz.func543,Tryz.ntmps543
 go_wp2
 rw [run_callFunc_extern Tryz.func574 (by kernel_rfl) (by kernel_rfl) (by kernel_rfl) (e:=Extern.BytealgCompare.compare) (by kernel_rfl),Lib.run_compareString]
 simp only [Result.andThen]
 rw [Oper.upon_value]
 go_wp2
 go_ret
 exact ⟨rfl,rfl⟩
instance:aZ 543 (type_of% @aF2):=⟨@aF2⟩
theorem aE4 (p0 p1 r) (h:mT p0 p1=some r):Sc 478 [aS p0,aS p1] [rI r]:=by
 unfold mT at h
 exact sgo 8 [.tmp 4] Tryz.func478
instance:aZ 478 (type_of% @aE4):=⟨@aE4⟩
theorem aFu (p0 p1 r) (h:iL p0 p1=some r):Sc 376 [aX (M.Key.en p0),aX (M.Key.en p1)] [rI r]:=by
 unfold iL at h
 exact sgo 36 [.tmp 4] Tryz.func376
instance:aZ 376 (type_of% @aFu):=⟨@aFu⟩
theorem aDA (p0 r) (h:kC p0=some r):Sc 249 [aX (M.aP.en p0)] [rB r]:=by
 have i1:=inv fun m s=>∃v8:Int,(s.t 1=vP 1 1 0∧s.t 6=vL M.Item.en p0.Items∧s.t 7=vI (List.length p0.Items:Int)∧s.t 8=vI v8∧s.h 1=(1,oX 61 (M.aP.en p0)))∧gR p0 m v8=some r
 have e1:=@gR.eq_2
 unfold kC at h
 exact sgo 55 [.tmp 2] Tryz.func249
instance:aZ 249 (type_of% @aDA):=⟨@aDA⟩
theorem aDm (p0 c0 r) (h:iK p0 c0=some r):Sc 378 [aX (M.aP.en p0),(false,[.ptr [.str c0]])] [rB r]:=by
 unfold iK at h
 exact sgo 8 [.tmp 3] Tryz.func378
instance:aZ 378 (type_of% @aDm):=⟨@aDm⟩
theorem aDo (p0:List M.aP) (p1:M.aP→Option Bool) (f1_:FuncId) (k1_:List D) (hp1 : ∀z0 r,p1 z0=some r→dS Tryz.prog f1_ ((true,M.aP.en z0) ::  k1_.map fun c=>(false,[c])) [(false,[.ro (.bool r)])]) (r:Int) (h:gK p0 p1=some r):Sc 377 [(false,[.sl (List.map M.aP.en p0)]),(false,[.fn f1_ k1_])] [rI r]:=by
 unfold gK at h
 simp only [EN]
 refine sgn 19 [.tmp 4] Tryz.func377 fun base wd => ?_
 refine sq (rn ?_)
 refine an (sq (sq (rn ?_)))
 refine an (bk ?_)
 refine dH (fun m s=>∃v8:Int,s.t 0=vL M.aP.en p0∧s.t 1 = .v false [.dat (.fn f1_ k1_)]∧s.t 7=vI (List.length p0:Int)∧s.t 8=vI v8∧bS p0 p1 m v8=some r) fuel ?_ ?_
 ·refine ⟨0,?_,?_,?_,?_,h⟩
  all_goals simp +decide only [F,reduceIte,Nat.reduceAdd,Bool.not_true,Bool.not_false,EN, *,-h]
 rintro mL1 s1 ⟨v8,f2,f3,f4,f5,h⟩
 rcases mL1 with _ | mL1
 ·exact absurd h (by simp [bS])
 simp only [bS] at h
 refine sq (rn ?_)
 refine an (sq ?_)
 rcases nX (decide (v8<(List.length p0:Int))) with b6 | b6
 ·replace h:=aR b6 h
  refine cf (xt (eA (eX (kB (an (sq (rn ?_)))))))
  refine an (rt ?_)
  cases h
  simp [Ret,TB,EN, *]
 replace h:=aT b6 h
 refine ct (sk (an (sq (bk (sq (rn ?_))))))
 refine an (sq ?_)
 obtain ⟨x7,h8,h⟩:=bind_some h
 obtain ⟨q9,q10,q11⟩:=bK h8
 obtain ⟨x12,h13,h⟩:=bind_some h
 refine rn1 (hp1 x7 x12 h13) ?_
 refine an ?_
 rcases cF x12 with b14 | b14
 ·replace h:=aT b14 h
  refine ct (sq (rn ?_))
  refine an (rt ?_)
  cases h
  simp [Ret,TB,EN, *]
 replace h:=aR b14 h
 refine cf (sk (ab (an (rn ?_))))
 refine cN ⟨mL1,by omega,(i64.wrap (v8+1)),?_,?_,?_,?_,h⟩
 all_goals simp +decide only [F,reduceIte,Nat.reduceAdd,Bool.not_true,Bool.not_false,EN, *,-h]
instance:aZ 377 (type_of% @aDo):=⟨@aDo⟩
theorem aDj (p0 p1 r) (h:oE p0 p1=some r):Sc 250 [aX (M.Database.en p0),aS p1] [rI r]:=by
 unfold oE at h
 simp only [EN]
 refine sgn 9 [.tmp 4] Tryz.func250 fun base wd => ?_
 refine sq (rn ?_)
 refine an (sq ?_)
 obtain ⟨x1,h2,h⟩:=bind_some h
 refine rn1 (aDo p0.Stores (fun z0=>iK z0 p1) 378 [.ptr [.str p1]] (fun z0 r hr=>aDm z0 p1 r hr) x1 h2) ?_
 refine an (rt ?_)
 cases h
 simp [Ret,TB,EN, *]
instance:aZ 250 (type_of% @aDj):=⟨@aDj⟩
theorem aFL (p0 p1 r) (h:gV p0 p1=some r):Sc 379 [aL M.aU.en p0,aX (M.aU.en p1)] [rI r]:=by
 have i1:=inv fun m s=>∃v8:Int,(s.t 0=vL M.aU.en p0∧s.t 3=vP 3 1 0∧s.t 7=vI (List.length p0:Int)∧s.t 8=vI v8∧s.h 3=(1,oX 305 (M.aU.en p1)))∧cX p0 p1 m v8=some r
 have e1:=@cX.eq_2
 unfold gV at h
 exact sgo 19 [.tmp 4] Tryz.func379
instance:aZ 379 (type_of% @aFL):=⟨@aFL⟩
theorem aDn (p0 p1 r) (h:eZ p0 p1=some r):Sc 251 [aL M.aU.en p0,aX (M.aU.en p1)] [rB r]:=by
 unfold eZ at h
 exact sgo 9 [.tmp 4] Tryz.func251
instance:aZ 251 (type_of% @aDn):=⟨@aDn⟩
theorem aDW (p0 c0 r) (h:kK p0 c0=some r):Sc 547 [aX (M.Field.en p0),(false,[.ptr [.str c0]])] [rB r]:=by
 unfold kK at h
 exact sgo 8 [.tmp 3] Tryz.func547
instance:aZ 547 (type_of% @aDW):=⟨@aDW⟩
theorem aDw (p0:List M.Field) (p1:M.Field→Option Bool) (f1_:FuncId) (k1_:List D) (hp1 : ∀z0 r,p1 z0=some r→dS Tryz.prog f1_ ((true,M.Field.en z0) ::  k1_.map fun c=>(false,[c])) [(false,[.ro (.bool r)])]) (r:Int) (h:gM p0 p1=some r):Sc 546 [(false,[.sl (List.map M.Field.en p0)]),(false,[.fn f1_ k1_])] [rI r]:=by
 unfold gM at h
 simp only [EN]
 refine sgn 19 [.tmp 4] Tryz.func546 fun base wd => ?_
 refine sq (rn ?_)
 refine an (sq (sq (rn ?_)))
 refine an (bk ?_)
 refine dH (fun m s=>∃v8:Int,s.t 0=vL M.Field.en p0∧s.t 1 = .v false [.dat (.fn f1_ k1_)]∧s.t 7=vI (List.length p0:Int)∧s.t 8=vI v8∧bR p0 p1 m v8=some r) fuel ?_ ?_
 ·refine ⟨0,?_,?_,?_,?_,h⟩
  all_goals simp +decide only [F,reduceIte,Nat.reduceAdd,Bool.not_true,Bool.not_false,EN, *,-h]
 rintro mL1 s1 ⟨v8,f2,f3,f4,f5,h⟩
 rcases mL1 with _ | mL1
 ·exact absurd h (by simp [bR])
 simp only [bR] at h
 refine sq (rn ?_)
 refine an (sq ?_)
 rcases nX (decide (v8<(List.length p0:Int))) with b6 | b6
 ·replace h:=aR b6 h
  refine cf (xt (eA (eX (kB (an (sq (rn ?_)))))))
  refine an (rt ?_)
  cases h
  simp [Ret,TB,EN, *]
 replace h:=aT b6 h
 refine ct (sk (an (sq (bk (sq (rn ?_))))))
 refine an (sq ?_)
 obtain ⟨x7,h8,h⟩:=bind_some h
 obtain ⟨q9,q10,q11⟩:=bK h8
 obtain ⟨x12,h13,h⟩:=bind_some h
 refine rn1 (hp1 x7 x12 h13) ?_
 refine an ?_
 rcases cF x12 with b14 | b14
 ·replace h:=aT b14 h
  refine ct (sq (rn ?_))
  refine an (rt ?_)
  cases h
  simp [Ret,TB,EN, *]
 replace h:=aR b14 h
 refine cf (sk (ab (an (rn ?_))))
 refine cN ⟨mL1,by omega,(i64.wrap (v8+1)),?_,?_,?_,?_,h⟩
 all_goals simp +decide only [F,reduceIte,Nat.reduceAdd,Bool.not_true,Bool.not_false,EN, *,-h]
instance:aZ 546 (type_of% @aDw):=⟨@aDw⟩
theorem aE1 (p0 p1 r) (h:qN p0 p1=some r):Sc 481 [aX (M.bB.en p0),aS p1] [rI r]:=by
 unfold qN at h
 simp only [EN]
 refine sgn 9 [.tmp 4] Tryz.func481 fun base wd => ?_
 refine sq (rn ?_)
 refine an (sq ?_)
 obtain ⟨x1,h2,h⟩:=bind_some h
 refine rn1 (aDw p0.Fields (fun z0=>kK z0 p1) 547 [.ptr [.str p1]] (fun z0 r hr=>aDW z0 p1 r hr) x1 h2) ?_
 refine an (rt ?_)
 cases h
 simp [Ret,TB,EN, *]
instance:aZ 481 (type_of% @aE1):=⟨@aE1⟩
theorem aDk (p0 p1 r) (h:eH p0 p1=some r):Sc 381 [aX (M.bB.en p0),aS p1] [rI r.1,rB r.2]:=by
 unfold eH at h
 exact sgo 18 [.tmp 4,.tmp 5] Tryz.func381
instance:aZ 381 (type_of% @aDk):=⟨@aDk⟩
theorem aDh (p0 p1 p2 r) (h:lY p0 p1 p2=some r):Sc 479 [aX (M.Item.en p0),aX (M.Item.en p1),aS p2] [rB r]:=by
 unfold lY at h
 exact sgo 41 [.tmp 6] Tryz.func479
instance:aZ 479 (type_of% @aDh):=⟨@aDh⟩
end Go.Proofs.YtblghjofnielnaaGreat.gen
