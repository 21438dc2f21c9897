/-
  Helper text. No conditions.
-/
import Derived.Test.YtnhpbpnhmapeeaaGreatClosePageTi
namespace Go.Proofs.YtnhpbpnhmapeeaaGreat.gen
open Go Go.Sh
open Go.IntKind (i64)
set_option linter.unusedVariables false
set_option linter.unusedSimpArgs false
set_option maxRecDepth 20000
set_option maxHeartbeats 4000000
theorem aSB (p0 r) (h:jB p0=some r):Sc 378 [aL enB p0] [rW 5 1 enB r]:=by
 unfold jB at h
 exact sgo 6 [.tmp 2] Tryz.func378
instance:bD 378 (type_of% @aSB):=⟨@aSB⟩
theorem aUY (p0 r) (h:mT p0=some r):Sc 316 [aX (M.Response.en p0)] [(true,M.Response.rs r)]:=by
 unfold mT at h
 exact sgo 8 [.cell 2 137] Tryz.func316
instance:bD 316 (type_of% @aUY):=⟨@aUY⟩
theorem aUj (p0 r) (h:mQ p0=some r):Sc 229 [aX (M.aT.en p0)] [(true,M.aT.rs r)]:=by
 have i1:=aJj [.b 3 0 7050100 286 2] fun m s=>∃v13:Int,∃r50100:List M.Cache,∃u50100:Nat,(s.t 2=vP 2 1 0∧s.t 3=vP 3 1 0∧s.t 11=vL M.Cache.en p0.Caches∧s.t 12=vI (List.length p0.Caches:Int)∧s.t 13=vI v13∧s.h 2=(1,oB 110 [.nil])∧s.h 3=(1,oB 110 [.row 7050100 u50100])∧s.h 7050100=(u50100,oW 286 2 M.Cache.en r50100))∧eB p0 m v13 r50100=some r
 have e1:=@eB.eq_2
 have i2:=fun (v13:Int) (r50100:List M.Cache) (x11:M.Cache) (k17:Int→List M.Cached→Option M.aT) (s1:St) (u50100:Nat)=>aJj [.b 6 1 7050000 368 7] fun m s=>∃v23_L2:Int,∃r50000_L2:List M.Cached,∃u50000_L2:Nat,(s.t 2=vP 2 1 0∧s.t 3=vP 3 1 0∧s.t 6=vP 6 ((s1.h 6).1+1) 0∧s.t 11=vL M.Cache.en p0.Caches∧s.t 12=vI (List.length p0.Caches:Int)∧s.t 13=vI v13∧s.t 21=vL M.Cached.en x11.Entries∧s.t 22=vI (List.length x11.Entries:Int)∧s.t 23=vI v23_L2∧s.h 2=(1,oB 110 [.nil])∧s.h 3=(1,oB 110 [.row 7050100 u50100])∧s.h 6=(((s1.h 6).1+1),oB 286 [cI x11.Version,.row 7050000 u50000_L2])∧s.h 7050000=(u50000_L2,oW 368 7 M.Cached.en r50000_L2)∧s.h 7050100=(u50100,oW 286 2 M.Cache.en r50100))∧fN x11 k17 m v23_L2 r50000_L2=some r
 have e2:=@fN.eq_2
 unfold mQ at h
 exact sgo 46 [.cell 2 110] Tryz.func229
instance:bD 229 (type_of% @aUj):=⟨@aUj⟩
theorem aTE (p0 r) (h:qI p0=some r):Sc 373 [aX (M.aU.en p0)] [(true,M.aU.rs r)]:=by
 unfold qI at h
 exact sgo 8 [.cell 2 355] Tryz.func373
instance:bD 373 (type_of% @aTE):=⟨@aTE⟩
theorem aPa (p0 r) (h:qT p0=some r):Sc 343 [aX (M.Item.en p0)] [(true,M.Item.rs r)]:=by
 unfold qT at h
 exact sgo 9 [.cell 2 357] Tryz.func343
instance:bD 343 (type_of% @aPa):=⟨@aPa⟩
theorem aRe (p0 r) (h:lB p0=some r):Sc 258 [aX (M.aH.en p0)] [(true,M.aH.rs r)]:=by
 have i1:=aJj [.b 3 1 7050000 357 4] fun m s=>∃v14:Int,∃r50000:List M.Item,∃u50000:Nat,(s.t 2=vP 2 1 0∧s.t 3=vP 3 1 0∧s.t 12=vL M.Item.en p0.Items∧s.t 13=vI (List.length p0.Items:Int)∧s.t 14=vI v14∧s.h 2=(1,oB 98 [cS (⟨#[]⟩:ByteArray),.nil,cI 0])∧s.h 3=(1,oB 98 [cS p0.Name,.row 7050000 u50000,cI p0.Auto])∧s.h 7050000=(u50000,oW 357 4 M.Item.en r50000))∧hY p0 m v14 r50000=some r
 have e1:=@hY.eq_2
 unfold lB at h
 exact sgo 27 [.cell 2 98] Tryz.func258
instance:bD 258 (type_of% @aRe):=⟨@aRe⟩
theorem aSL (p0 r) (h:mZ p0=some r):Sc 377 [aX (M.Database.en p0)] [(true,M.Database.rs r)]:=by
 have i1:=aJj [.b 3 2 7050000 98 3] fun m s=>∃v18:Int,∃r50000:List M.aH,∃u50000:Nat,(s.t 2=vP 2 1 0∧s.t 3=vP 3 1 0∧s.t 16=vL M.aH.en p0.Stores∧s.t 17=vI (List.length p0.Stores:Int)∧s.t 18=vI v18∧s.h 2=(1,oB 114 [cS (⟨#[]⟩:ByteArray),cI 0,.nil,.nil])∧s.h 3=(1,oB 114 [cS p0.Name,cI p0.Version,.row 7050000 u50000,.row 100010 2])∧s.h 100010=(2,oW 383 2 M.aA.en p0.Unique)∧s.h 7050000=(u50000,oW 98 3 M.aH.en r50000))∧fP p0 m v18 r50000=some r
 have e1:=@fP.eq_2
 unfold mZ at h
 exact sgo 31 [.cell 2 114] Tryz.func377
instance:bD 377 (type_of% @aSL):=⟨@aSL⟩
theorem aUT (p0 r) (h:vW p0=some r):Sc 310 [aX (M.bE.en p0)] [(true,M.bE.rs r)]:=by
 unfold vW at h
 exact sgo 12 [.cell 2 116] Tryz.func310
instance:bD 310 (type_of% @aUT):=⟨@aUT⟩
theorem aQ0 (p0 r) (h:qV p0=some r):Sc 304 [aX (M.aV.en p0)] [(true,M.aV.rs r)]:=by
 unfold qV at h
 exact sgo 9 [.cell 2 118] Tryz.func304
instance:bD 304 (type_of% @aQ0):=⟨@aQ0⟩
theorem aSW (p0 r) (h:wT p0=some r):Sc 303 [aX (M.Sync.en p0)] [(true,M.Sync.rs r)]:=by
 unfold wT at h
 exact sgo 8 [.cell 2 120] Tryz.func303
instance:bD 303 (type_of% @aSW):=⟨@aSW⟩
theorem aUM (p0 r) (h:oS p0=some r):Sc 214 [aX (M.aD.en p0)] [(true,M.aD.rs r)]:=by
 unfold oS at h
 exact sgo 12 [.cell 2 122] Tryz.func214
instance:bD 214 (type_of% @aUM):=⟨@aUM⟩
theorem aSm (p0 r) (h:qD p0=some r):Sc 220 [aX (M.aF.en p0)] [(true,M.aF.rs r)]:=by
 unfold qD at h
 exact sgo 16 [.cell 2 124] Tryz.func220
instance:bD 220 (type_of% @aSm):=⟨@aSm⟩
theorem aTU (p0 r) (h:nU p0=some r):Sc 147 [aX (M.aM.en p0)] [(true,M.aM.rs r)]:=by
 have i1:=aJj [.b 3 0 7050000 124 24] fun m s=>∃v10:Int,∃r50000:List M.aF,∃u50000:Nat,(s.t 2=vP 2 1 0∧s.t 3=vP 3 1 0∧s.t 8=vL M.aF.en p0.Buckets∧s.t 9=vI (List.length p0.Buckets:Int)∧s.t 10=vI v10∧s.h 2=(1,oB 26 [.nil])∧s.h 3=(1,oB 26 [.row 7050000 u50000])∧s.h 7050000=(u50000,oW 124 24 M.aF.en r50000))∧gA p0 m v10 r50000=some r
 have e1:=@gA.eq_2
 unfold nU at h
 exact sgo 23 [.cell 2 26] Tryz.func147
instance:bD 147 (type_of% @aTU):=⟨@aTU⟩
theorem aTt (p0 r) (h:oO p0=some r):Sc 315 [aX (M.Machine.en p0)] [(true,M.Machine.rs r)]:=by
 unfold oO at h
 exact sgo 16 [.cell 2 78] Tryz.func315
instance:bD 315 (type_of% @aTt):=⟨@aTt⟩
theorem aUk (p0 r) (h:xC p0=some r):Sc 228 [aX (M.bG.en p0)] [(true,M.bG.rs r)]:=by
 unfold xC at h
 exact sgo 13 [.cell 2 80] Tryz.func228
instance:bD 228 (type_of% @aUk):=⟨@aUk⟩
theorem aQn (p0 r) (h:sG p0=some r):Sc 148 [aL M.bG.en p0] [rW 80 11 M.bG.en r]:=by
 have i1:=inv fun m s=>∃v9:Int,∃r6:List M.bG,∃u6:Nat,(s.t 3=vR 100006 u6∧s.t 7=vL M.bG.en p0∧s.t 8=vI (List.length p0:Int)∧s.t 9=vI v9∧s.h 100006=(u6,oW 80 11 M.bG.en r6))∧iA p0 m v9 r6=some r
 have e1:=@iA.eq_2
 unfold sG at h
 exact sgo 20 [.tmp 2] Tryz.func148
instance:bD 148 (type_of% @aQn):=⟨@aQn⟩
theorem aQD (p0 r) (h:kW p0=some r):Sc 149 [aX (M.aE.en p0)] [(true,M.aE.rs r)]:=by
 unfold kW at h
 exact sgo 8 [.cell 2 30] Tryz.func149
instance:bD 149 (type_of% @aQD):=⟨@aQD⟩
theorem aPq (p0 r) (h:kT p0=some r):Sc 150 [aX (M.Channel.en p0)] [(true,M.Channel.rs r)]:=by
 unfold kT at h
 exact sgo 8 [.cell 2 33] Tryz.func150
instance:bD 150 (type_of% @aPq):=⟨@aPq⟩
theorem aRn (p0 r) (h:wJ p0=some r):Sc 151 [aX (M.Site.en p0)] [(true,M.Site.rs r)]:=by
 unfold wJ at h
 exact sgo 9 [.cell 2 95] Tryz.func151
instance:bD 151 (type_of% @aRn):=⟨@aRn⟩
theorem aUW (p0 r) (h:qF p0=some r):Sc 152 [aX (M.Server.en p0)] [(true,M.Server.rs r)]:=by
 unfold qF at h
 exact sgo 15 [.cell 2 102] Tryz.func152
instance:bD 152 (type_of% @aUW):=⟨@aUW⟩
theorem c48 (p0 r) (h:tH p0=some r):Sc 48 [aX (M.World.en p0)] [(true,M.World.rs r)]:=by
 have i1:=fun (x1:M.aM) (x3:(List M.bG)) (x5:M.aE) (x7:M.Channel)=>aJj [.b 3 8 7050000 95 4] fun m s=>∃v29:Int,∃r50000:List M.Site,∃u50000:Nat,(s.t 1=vP 1 1 0∧s.t 2=vP 2 1 0∧s.t 3=vP 3 1 0∧s.t 27=vL M.Site.en p0.Sites∧s.t 28=vI (List.length p0.Sites:Int)∧s.t 29=vI v29∧s.h 1=(1,oX 37 (M.World.en p0))∧s.h 2=(1,oB 37 [cI 0,cB false,cI 0,.nil,.nil,cI 0,.nil,.nil,.nil,.nil])∧s.h 3=(1,oB 37 [cI p0.Now,cB p0.Online,cI p0.Device,.row 100011 1,.row 100015 1,cI p0.NextPage,.row 100019 1,.row 100023 1,.row 7050000 u50000,cL M.Server.en p0.Servers])∧s.h 100011=(1,oW 124 24 M.aF.en x1.Buckets)∧s.h 100015=(1,oW 80 11 M.bG.en x3)∧s.h 100019=(1,oW 144 4 M.bF.en x5.Locks)∧s.h 100023=(1,oW 232 3 M.bU.en x7.Mails)∧s.h 7050000=(u50000,oW 95 4 M.Site.en r50000))∧gD p0 x1 x3 x5 x7 m v29 r50000=some r
 have e1:=@gD.eq_2
 have i2:=fun (x1:M.aM) (x3:(List M.bG)) (x5:M.aE) (x7:M.Channel) (r50000:List M.Site) (u50000:Nat)=>aJj [.b 3 9 7050100 102 5] fun m s=>∃v45:Int,∃r50100:List M.Server,∃u50100:Nat,(s.t 2=vP 2 1 0∧s.t 3=vP 3 1 0∧s.t 43=vL M.Server.en p0.Servers∧s.t 44=vI (List.length p0.Servers:Int)∧s.t 45=vI v45∧s.h 2=(1,oB 37 [cI 0,cB false,cI 0,.nil,.nil,cI 0,.nil,.nil,.nil,.nil])∧s.h 3=(1,oB 37 [cI p0.Now,cB p0.Online,cI p0.Device,.row 100011 1,.row 100015 1,cI p0.NextPage,.row 100019 1,.row 100023 1,.row 7050000 u50000,.row 7050100 u50100])∧s.h 100011=(1,oW 124 24 M.aF.en x1.Buckets)∧s.h 100015=(1,oW 80 11 M.bG.en x3)∧s.h 100019=(1,oW 144 4 M.bF.en x5.Locks)∧s.h 100023=(1,oW 232 3 M.bU.en x7.Mails)∧s.h 7050000=(u50000,oW 95 4 M.Site.en r50000)∧s.h 7050100=(u50100,oW 102 5 M.Server.en r50100))∧fA p0 x1 x3 x5 x7 r50000 m v45 r50100=some r
 have e2:=@fA.eq_2
 unfold tH at h
 exact sgo 58 [.cell 2 37] Tryz.func48
instance:bD 48 (type_of% @c48):=⟨@c48⟩
theorem aP7 (p0 c0 r) (h:oU p0 c0=some r):Sc 154 [aX (M.bG.en p0),(false,[.ptr [.int .i64 c0]])] [rB r]:=by
 unfold oU at h
 exact sgo 8 [.tmp 3] Tryz.func154
instance:bD 154 (type_of% @aP7):=⟨@aP7⟩
theorem aQH (p0:List M.bG) (p1:M.bG→Option Bool) (f1_:FuncId) (k1_:List D) (hp1 : ∀z0 r,p1 z0=some r→lH Tryz.prog f1_ ((true,M.bG.en z0) ::  k1_.map fun c=>(false,[c])) [(false,[.ro (.bool r)])]) (r:Int) (h:iS p0 p1=some r):Sc 153 [(false,[.sl (List.map M.bG.en p0)]),(false,[.fn f1_ k1_])] [rI r]:=by
 unfold iS at h
 simp only [EN]
 refine sgn 19 [.tmp 4] Tryz.func153 fun base wd => ?_
 refine sq (rn ?_)
 refine an (sq (sq (rn ?_)))
 refine an (bk ?_)
 refine jY (fun m s=>∃v8:Int,s.t 0=vL M.bG.en p0∧s.t 1 = .v false [.dat (.fn f1_ k1_)]∧s.t 7=vI (List.length p0:Int)∧s.t 8=vI v8∧cG p0 p1 m v8=some r) fuel ?_ ?_
 ·refine ⟨0,?_,?_,?_,?_,h⟩
  all_goals simp +decide only [F,reduceIte,Nat.reduceAdd,Bool.not_true,Bool.not_false,EN, *,-h]
 rintro mL1 s1 ⟨v8,f2,f3,f4,f5,h⟩
 rcases mL1 with _ | mL1
 ·exact absurd h (by simp [cG])
 simp only [cG] at h
 refine sq (rn ?_)
 refine an (sq ?_)
 rcases aA5 (decide (v8<(List.length p0:Int))) with b6 | b6
 ·replace h:=bH b6 h
  refine cf (xt (lO (nE (yR (an (sq (rn ?_)))))))
  refine an (rt ?_)
  cases h
  simp [Ret,TB,EN, *]
 replace h:=bI b6 h
 refine ct (sk (an (sq (bk (sq (rn ?_))))))
 refine an (sq ?_)
 obtain ⟨x7,h8,h⟩:=bind_some h
 obtain ⟨q9,q10,q11⟩:=aR h8
 obtain ⟨x12,h13,h⟩:=bind_some h
 refine rn1 (hp1 x7 x12 h13) ?_
 refine an ?_
 rcases cU x12 with b14 | b14
 ·replace h:=bI b14 h
  refine ct (sq (rn ?_))
  refine an (rt ?_)
  cases h
  simp [Ret,TB,EN, *]
 replace h:=bH b14 h
 refine cf (sk (ab (an (rn ?_))))
 refine rQ ⟨mL1,by omega,(i64.wrap (v8+1)),?_,?_,?_,?_,h⟩
 all_goals simp +decide only [F,reduceIte,Nat.reduceAdd,Bool.not_true,Bool.not_false,EN, *,-h]
instance:bD 153 (type_of% @aQH):=⟨@aQH⟩
theorem c49 (p0 p1 r) (h:uG p0 p1=some r):Sc 49 [aX (M.World.en p0),aI p1] [rI r]:=by
 unfold uG at h
 simp only [EN]
 refine sgn 9 [.tmp 4] Tryz.func49 fun base wd => ?_
 refine sq (rn ?_)
 refine an (sq ?_)
 obtain ⟨x1,h2,h⟩:=bind_some h
 refine rn1 (aQH p0.Pages (fun z0=>oU z0 p1) 154 [.ptr [.int .i64 p1]] (fun z0 r hr=>aP7 z0 p1 r hr) x1 h2) ?_
 refine an (rt ?_)
 cases h
 simp [Ret,TB,EN, *]
instance:bD 49 (type_of% @c49):=⟨@c49⟩
theorem aM4 (p0 p1 p2 r) (h:bA p0 p1 p2=some r):Sc 155 [aI p0,aI p1,aI p2] [rB r]:=by
 unfold bA at h
 exact sgo 15 [.tmp 6] Tryz.func155
instance:bD 155 (type_of% @aM4):=⟨@aM4⟩
theorem aT8 (p0 p1 p2 r) (h:xE p0 p1 p2=some r):Sc 344 [aS p0,aI p1,aB p2] [rB r]:=by
 have i1:=inv fun m s=>∃v7:Int,(s.t 0=vS p0∧s.t 1=vI p1∧s.t 2=vB p2∧s.t 7=vI v7)∧gG p0 p1 p2 m v7=some r
 have e1:=@gG.eq_2
 unfold xE at h
 exact sgo 38 [.tmp 6] Tryz.func344
instance:bD 344 (type_of% @aT8):=⟨@aT8⟩
theorem aNY (p0 r) (h:bW p0=some r):Sc 260 [aS p0] [rB r]:=by
 unfold bW at h
 exact sgo 5 [.tmp 2] Tryz.func260
instance:bD 260 (type_of% @aNY):=⟨@aNY⟩
theorem aT3 (p0 r) (h:pA p0=some r):Sc 313 [aX (M.Registration.en p0)] [rB r]:=by
 unfold pA at h
 simp only [EN]
 refine sgn 37 [.tmp 2] Tryz.func313 fun base wd => ?_
 refine sq (rn ?_)
 refine an (sq (rn ?_))
 refine an (sq (sq (rn ?_)))
 refine an (bk ?_)
 refine cu (fun s=>s.t 1=vP 1 1 0∧s.t 3=vI 0∧s.t 12=vR 100012 1∧s.t 13=vI ((3:Nat):Int)∧s.t 14=vI 0∧s.h 1=(1,oX 107 (M.Registration.en p0))∧s.h 100012=(1,oW 3 1 enI ([p0.Active,p0.Waiting,p0.Installing]))∧True) ?_
 rintro s1 ⟨f2,f3,f4,f5,f6,f7,f8,_⟩
 refine jY (fun m s=>∃v3:Int,∃v14:Int,s.t 1=vP 1 1 0∧s.t 3=vI v3∧s.t 12=vR 100012 1∧s.t 13=vI ((3:Nat):Int)∧s.t 14=vI v14∧s.h 1=(1,oX 107 (M.Registration.en p0))∧s.h 100012=(1,oW 3 1 enI ([p0.Active,p0.Waiting,p0.Installing]))∧cW p0 m v3 v14=some r) fuel ?_ ?_
 ·refine ⟨0,0,?_,?_,?_,?_,?_,?_,?_,h⟩
  all_goals simp +decide only [F,reduceIte,Nat.reduceAdd,Bool.not_true,Bool.not_false,EN, *,-h]
 rintro mL1 s9 ⟨v3,v14,f10,f11,f12,f13,f14,f15,f16,h⟩
 rcases mL1 with _ | mL1
 ·exact absurd h (by simp [cW])
 simp only [cW] at h
 refine sq (rn ?_)
 refine an (sq ?_)
 rcases aA5 (decide (v14<((3:Nat):Int))) with b17 | b17
 ·replace h:=bH b17 h
  refine cf (xt (lO (nE (yR (an (sq ?_))))))
  obtain ⟨x28,h29,h⟩:=bind_some h
  refine rn1 (aNY _ _ h29) ?_
  refine an (rt ?_)
  cases h
  simp [Ret,TB,EN, *]
 replace h:=bI b17 h
 refine ct (sk (an (sq (bk (sq ?_)))))
 obtain ⟨x18,h19,h⟩:=bind_some h
 obtain ⟨q20,q21,q22⟩:=aR h19
 have q20m:=congrArg (Option.map enI) (show ([p0.Active,p0.Waiting,p0.Installing])[v14.toNat]? = some x18 by assumption)
 simp only [←List.getElem?_map,List.map_cons,List.map_nil,Option.map_some,EN] at q20m
 simp only [List.length_cons,List.length_nil,Nat.reduceAdd] at q22
 refine rn ?_
 refine an (sq (sq ?_))
 obtain ⟨x23,h24,h⟩:=bind_some h
 rcases cU (!x23) with b25 | b25
 ·replace h:=bI b25 h
  refine rn1 (aM4 _ _ _ _ h24) ?_
  refine an (ct (sq (rn ?_)))
  refine an (rt ?_)
  cases h
  simp [Ret,TB,EN, *]
 replace h:=bH b25 h
 rcases aA5 (x18 != 0) with b26 | b26
 ·replace h:=bH b26 h
  refine rn1 (aM4 _ _ _ _ h24) ?_
  refine an (cf (sk (an (rn ?_))))
  refine ab (an (rn ?_))
  refine rQ ⟨mL1,by omega,(if x18>v3 then x18 else v3),(i64.wrap (v14+1)),?_,?_,?_,?_,?_,?_,?_,h⟩
  all_goals simp +decide only [F,reduceIte,Nat.reduceAdd,Bool.not_true,Bool.not_false,EN, *,-h]
 replace h:=bI b26 h
 refine rn1 (aM4 _ _ _ _ h24) ?_
 refine an ?_
 rcases cU (decide (x18≤v3)) with b27 | b27
 ·replace h:=bI b27 h
  refine ct (sq (rn ?_))
  refine an (rt ?_)
  cases h
  simp [Ret,TB,EN, *]
 replace h:=bH b27 h
 refine cf (sk (an (rn ?_)))
 refine ab (an (rn ?_))
 refine rQ ⟨mL1,by omega,(if x18>v3 then x18 else v3),(i64.wrap (v14+1)),?_,?_,?_,?_,?_,?_,?_,h⟩
 all_goals simp +decide only [F,reduceIte,Nat.reduceAdd,Bool.not_true,Bool.not_false,EN, *,-h]
instance:bD 313 (type_of% @aT3):=⟨@aT3⟩
theorem aQM (p0 c0 c1 r) (h:sU p0 c0 c1=some r):Sc 390 [aX (M.Cached.en p0),(false,[.ptr [.str c0]]),(false,[.ptr [.str c1]])] [rB r]:=by
 unfold sU at h
 exact sgo 15 [.tmp 4] Tryz.func390
instance:bD 390 (type_of% @aQM):=⟨@aQM⟩
theorem aPw (p0:List M.Cached) (p1:M.Cached→Option Bool) (f1_:FuncId) (k1_:List D) (hp1 : ∀z0 r,p1 z0=some r→lH Tryz.prog f1_ ((true,M.Cached.en z0) ::  k1_.map fun c=>(false,[c])) [(false,[.ro (.bool r)])]) (r:Int) (h:hM p0 p1=some r):Sc 389 [(false,[.sl (List.map M.Cached.en p0)]),(false,[.fn f1_ k1_])] [rI r]:=by
 unfold hM at h
 simp only [EN]
 refine sgn 19 [.tmp 4] Tryz.func389 fun base wd => ?_
 refine sq (rn ?_)
 refine an (sq (sq (rn ?_)))
 refine an (bk ?_)
 refine jY (fun m s=>∃v8:Int,s.t 0=vL M.Cached.en p0∧s.t 1 = .v false [.dat (.fn f1_ k1_)]∧s.t 7=vI (List.length p0:Int)∧s.t 8=vI v8∧bT p0 p1 m v8=some r) fuel ?_ ?_
 ·refine ⟨0,?_,?_,?_,?_,h⟩
  all_goals simp +decide only [F,reduceIte,Nat.reduceAdd,Bool.not_true,Bool.not_false,EN, *,-h]
 rintro mL1 s1 ⟨v8,f2,f3,f4,f5,h⟩
 rcases mL1 with _ | mL1
 ·exact absurd h (by simp [bT])
 simp only [bT] at h
 refine sq (rn ?_)
 refine an (sq ?_)
 rcases aA5 (decide (v8<(List.length p0:Int))) with b6 | b6
 ·replace h:=bH b6 h
  refine cf (xt (lO (nE (yR (an (sq (rn ?_)))))))
  refine an (rt ?_)
  cases h
  simp [Ret,TB,EN, *]
 replace h:=bI b6 h
 refine ct (sk (an (sq (bk (sq (rn ?_))))))
 refine an (sq ?_)
 obtain ⟨x7,h8,h⟩:=bind_some h
 obtain ⟨q9,q10,q11⟩:=aR h8
 obtain ⟨x12,h13,h⟩:=bind_some h
 refine rn1 (hp1 x7 x12 h13) ?_
 refine an ?_
 rcases cU x12 with b14 | b14
 ·replace h:=bI b14 h
  refine ct (sq (rn ?_))
  refine an (rt ?_)
  cases h
  simp [Ret,TB,EN, *]
 replace h:=bH b14 h
 refine cf (sk (ab (an (rn ?_))))
 refine rQ ⟨mL1,by omega,(i64.wrap (v8+1)),?_,?_,?_,?_,h⟩
 all_goals simp +decide only [F,reduceIte,Nat.reduceAdd,Bool.not_true,Bool.not_false,EN, *,-h]
instance:bD 389 (type_of% @aPw):=⟨@aPw⟩
theorem aQ8 (p0 p1 p2 r) (h:uL p0 p1 p2=some r):Sc 323 [aX (M.Cache.en p0),aS p1,aS p2] [rI r]:=by
 unfold uL at h
 simp only [EN]
 refine sgn 11 [.tmp 6] Tryz.func323 fun base wd => ?_
 refine sq (rn ?_)
 refine an (sq ?_)
 obtain ⟨x1,h2,h⟩:=bind_some h
 refine rn1 (aPw p0.Entries (fun z0=>sU z0 p1 p2) 390 [.ptr [.str p1],.ptr [.str p2]] (fun z0 r hr=>aQM z0 p1 p2 r hr) x1 h2) ?_
 refine an (rt ?_)
 cases h
 simp [Ret,TB,EN, *]
instance:bD 323 (type_of% @aQ8):=⟨@aQ8⟩
theorem aRw (p0 r) (h:lS p0=some r):Sc 381 [aX (M.Response.en p0)] [rB r]:=by
 unfold lS at h
 exact sgo 22 [.tmp 2] Tryz.func381
instance:bD 381 (type_of% @aRw):=⟨@aRw⟩
theorem aSi (p0 r) (h:pR p0=some r):Sc 319 [aX (M.aT.en p0)] [rB r]:=by
 have i1:=inv fun m s=>∃v10:Int,(s.t 1=vP 1 1 0∧s.t 8=vL M.Cache.en p0.Caches∧s.t 9=vI (List.length p0.Caches:Int)∧s.t 10=vI v10∧s.h 1=(1,oX 110 (M.aT.en p0)))∧eQ p0 m v10=some r
 have e1:=@eQ.eq_2
 have i2:=fun (v10:Int) (x8:M.Cache) (k25:Int→Option Bool) (s1:St)=>inv fun m s=>∃v44_L2:Int,(s.t 1=vP 1 1 0∧s.t 4=vP 4 ((s1.h 4).1+1) 0∧s.t 8=vL M.Cache.en p0.Caches∧s.t 9=vI (List.length p0.Caches:Int)∧s.t 10=vI v10∧s.t 42=vL M.Cached.en x8.Entries∧s.t 43=vI (List.length x8.Entries:Int)∧s.t 44=vI v44_L2∧s.h 1=(1,oX 110 (M.aT.en p0))∧s.h 4=(((s1.h 4).1+1),oX 286 (M.Cache.en x8)))∧eR x8 k25 m v44_L2=some r
 have e2:=@eR.eq_2
 have i3:=fun (v10:Int) (x8:M.Cache) (k57:Int→Option Bool) (s1:St)=>inv fun m s=>∃v44_L3:Int,(s.t 1=vP 1 1 0∧s.t 4=vP 4 ((s1.h 4).1+1) 0∧s.t 8=vL M.Cache.en p0.Caches∧s.t 9=vI (List.length p0.Caches:Int)∧s.t 10=vI v10∧s.t 42=vL M.Cached.en x8.Entries∧s.t 43=vI (List.length x8.Entries:Int)∧s.t 44=vI v44_L3∧s.h 1=(1,oX 110 (M.aT.en p0))∧s.h 4=(((s1.h 4).1+1),oX 286 (M.Cache.en x8)))∧eD x8 k57 m v44_L3=some r
 have e3:=@eD.eq_2
 unfold pR at h
 exact sgo 81 [.tmp 2] Tryz.func319
instance:bD 319 (type_of% @aSi):=⟨@aSi⟩
theorem aRQ (p0 r) (h:sH p0=some r):Sc 406 [aS p0] [rB r]:=by
 have i1:=inv fun m s=>∃v3:Int,(s.t 0=vS p0∧s.t 3=vI v3)∧dR p0 m v3=some r
 have e1:=@dR.eq_2
 unfold sH at h
 exact sgo 36 [.tmp 2] Tryz.func406
instance:bD 406 (type_of% @aRQ):=⟨@aRQ⟩
theorem aQV (p0 r) (h:oC p0=some r):Sc 345 [aX (M.Key.en p0)] [rB r]:=by
 unfold oC at h
 exact sgo 39 [.tmp 2] Tryz.func345
instance:bD 345 (type_of% @aQV):=⟨@aQV⟩
theorem aTx (p0 r) (h:pX p0=some r):Sc 346 [aX (M.aU.en p0)] [rB r]:=by
 have i1:=inv fun m s=>∃v8:Int,(s.t 1=vP 1 1 0∧s.t 6=vL M.Field.en p0.Fields∧s.t 7=vI (List.length p0.Fields:Int)∧s.t 8=vI v8∧s.h 1=(1,oX 355 (M.aU.en p0)))∧fY p0 m v8=some r
 have e1:=@fY.eq_2
 unfold pX at h
 exact sgo 44 [.tmp 2] Tryz.func346
instance:bD 346 (type_of% @aTx):=⟨@aTx⟩
theorem aS4 (p0 p1 r) (h:nY p0 p1=some r):Sc 407 [aI p0,aI p1] [rI r]:=by
 unfold nY at h
 exact sgo 13 [.tmp 4] Tryz.func407
instance:bD 407 (type_of% @aS4):=⟨@aS4⟩
set_option maxRecDepth 100000 in
set_option maxHeartbeats 4000000 in
theorem aSS (p0:ByteArray) (p1:ByteArray) (r:Int) (h:jE p0 p1=some r):lH Tryz.prog 450 [(false,[.str p0]),(false,[.str p1])] [(false,[.ro (.int .i64 r)])]:=by
 refine aJ8 Tryz.func450 rfl (by decide +kernel) fun w => ?_
 cases h
 go_enter Tryz.func450,Tryz.ntmps450
 go_wp2
 rw [run_callFunc_extern Tryz.func473 (by kernel_rfl) (by kernel_rfl) (by kernel_rfl) (e:=Extern.BytealgCompare.compare) (by kernel_rfl),Lib.run_compareString]
 simp only [Result.andThen]
 rw [Oper.upon_value]
 go_wp2
 go_ret
 exact ⟨rfl,rfl⟩
instance:bD 450 (type_of% @aSS):=⟨@aSS⟩
theorem aTR (p0 p1 r) (h:xG p0 p1=some r):Sc 408 [aS p0,aS p1] [rI r]:=by
 unfold xG at h
 exact sgo 8 [.tmp 4] Tryz.func408
instance:bD 408 (type_of% @aTR):=⟨@aTR⟩
theorem aRS (p0 p1 r) (h:kK p0 p1=some r):Sc 347 [aX (M.Key.en p0),aX (M.Key.en p1)] [rI r]:=by
 unfold kK at h
 exact sgo 36 [.tmp 4] Tryz.func347
instance:bD 347 (type_of% @aRS):=⟨@aRS⟩
theorem aOk (p0 r) (h:pD p0=some r):Sc 264 [aX (M.aH.en p0)] [rB r]:=by
 have i1:=inv fun m s=>∃v8:Int,(s.t 1=vP 1 1 0∧s.t 6=vL M.Item.en p0.Items∧s.t 7=vI (List.length p0.Items:Int)∧s.t 8=vI v8∧s.h 1=(1,oX 98 (M.aH.en p0)))∧gR p0 m v8=some r
 have e1:=@gR.eq_2
 unfold pD at h
 exact sgo 55 [.tmp 2] Tryz.func264
instance:bD 264 (type_of% @aOk):=⟨@aOk⟩
theorem aQC (p0 c0 r) (h:oF p0 c0=some r):Sc 435 [aX (M.aH.en p0),(false,[.ptr [.str c0]])] [rB r]:=by
 unfold oF at h
 exact sgo 8 [.tmp 3] Tryz.func435
instance:bD 435 (type_of% @aQC):=⟨@aQC⟩
theorem aQI (p0:List M.aH) (p1:M.aH→Option Bool) (f1_:FuncId) (k1_:List D) (hp1 : ∀z0 r,p1 z0=some r→lH Tryz.prog f1_ ((true,M.aH.en z0) ::  k1_.map fun c=>(false,[c])) [(false,[.ro (.bool r)])]) (r:Int) (h:iF p0 p1=some r):Sc 434 [(false,[.sl (List.map M.aH.en p0)]),(false,[.fn f1_ k1_])] [rI r]:=by
 unfold iF at h
 simp only [EN]
 refine sgn 19 [.tmp 4] Tryz.func434 fun base wd => ?_
 refine sq (rn ?_)
 refine an (sq (sq (rn ?_)))
 refine an (bk ?_)
 refine jY (fun m s=>∃v8:Int,s.t 0=vL M.aH.en p0∧s.t 1 = .v false [.dat (.fn f1_ k1_)]∧s.t 7=vI (List.length p0:Int)∧s.t 8=vI v8∧bZ p0 p1 m v8=some r) fuel ?_ ?_
 ·refine ⟨0,?_,?_,?_,?_,h⟩
  all_goals simp +decide only [F,reduceIte,Nat.reduceAdd,Bool.not_true,Bool.not_false,EN, *,-h]
 rintro mL1 s1 ⟨v8,f2,f3,f4,f5,h⟩
 rcases mL1 with _ | mL1
 ·exact absurd h (by simp [bZ])
 simp only [bZ] at h
 refine sq (rn ?_)
 refine an (sq ?_)
 rcases aA5 (decide (v8<(List.length p0:Int))) with b6 | b6
 ·replace h:=bH b6 h
  refine cf (xt (lO (nE (yR (an (sq (rn ?_)))))))
  refine an (rt ?_)
  cases h
  simp [Ret,TB,EN, *]
 replace h:=bI b6 h
 refine ct (sk (an (sq (bk (sq (rn ?_))))))
 refine an (sq ?_)
 obtain ⟨x7,h8,h⟩:=bind_some h
 obtain ⟨q9,q10,q11⟩:=aR h8
 obtain ⟨x12,h13,h⟩:=bind_some h
 refine rn1 (hp1 x7 x12 h13) ?_
 refine an ?_
 rcases cU x12 with b14 | b14
 ·replace h:=bI b14 h
  refine ct (sq (rn ?_))
  refine an (rt ?_)
  cases h
  simp [Ret,TB,EN, *]
 replace h:=bH b14 h
 refine cf (sk (ab (an (rn ?_))))
 refine rQ ⟨mL1,by omega,(i64.wrap (v8+1)),?_,?_,?_,?_,h⟩
 all_goals simp +decide only [F,reduceIte,Nat.reduceAdd,Bool.not_true,Bool.not_false,EN, *,-h]
instance:bD 434 (type_of% @aQI):=⟨@aQI⟩
theorem aPg (p0 p1 r) (h:sO p0 p1=some r):Sc 382 [aX (M.Database.en p0),aS p1] [rI r]:=by
 unfold sO at h
 simp only [EN]
 refine sgn 9 [.tmp 4] Tryz.func382 fun base wd => ?_
 refine sq (rn ?_)
 refine an (sq ?_)
 obtain ⟨x1,h2,h⟩:=bind_some h
 refine rn1 (aQI p0.Stores (fun z0=>oF z0 p1) 435 [.ptr [.str p1]] (fun z0 r hr=>aQC z0 p1 r hr) x1 h2) ?_
 refine an (rt ?_)
 cases h
 simp [Ret,TB,EN, *]
instance:bD 382 (type_of% @aPg):=⟨@aPg⟩
theorem aTn (p0 p1 r) (h:iP p0 p1=some r):Sc 436 [aL M.aA.en p0,aX (M.aA.en p1)] [rI r]:=by
 have i1:=inv fun m s=>∃v8:Int,(s.t 0=vL M.aA.en p0∧s.t 3=vP 3 1 0∧s.t 7=vI (List.length p0:Int)∧s.t 8=vI v8∧s.h 3=(1,oX 383 (M.aA.en p1)))∧dF p0 p1 m v8=some r
 have e1:=@dF.eq_2
 unfold iP at h
 exact sgo 19 [.tmp 4] Tryz.func436
instance:bD 436 (type_of% @aTn):=⟨@aTn⟩
theorem aQE (p0 p1 r) (h:gT p0 p1=some r):Sc 383 [aL M.aA.en p0,aX (M.aA.en p1)] [rB r]:=by
 unfold gT at h
 exact sgo 9 [.tmp 4] Tryz.func383
instance:bD 383 (type_of% @aQE):=⟨@aQE⟩
theorem aPm (p0 c0 r) (h:sA p0 c0=some r):Sc 428 [aX (M.Field.en p0),(false,[.ptr [.str c0]])] [rB r]:=by
 unfold sA at h
 exact sgo 8 [.tmp 3] Tryz.func428
instance:bD 428 (type_of% @aPm):=⟨@aPm⟩
theorem aQK (p0:List M.Field) (p1:M.Field→Option Bool) (f1_:FuncId) (k1_:List D) (hp1 : ∀z0 r,p1 z0=some r→lH Tryz.prog f1_ ((true,M.Field.en z0) ::  k1_.map fun c=>(false,[c])) [(false,[.ro (.bool r)])]) (r:Int) (h:iJ p0 p1=some r):Sc 427 [(false,[.sl (List.map M.Field.en p0)]),(false,[.fn f1_ k1_])] [rI r]:=by
 unfold iJ at h
 simp only [EN]
 refine sgn 19 [.tmp 4] Tryz.func427 fun base wd => ?_
 refine sq (rn ?_)
 refine an (sq (sq (rn ?_)))
 refine an (bk ?_)
 refine jY (fun m s=>∃v8:Int,s.t 0=vL M.Field.en p0∧s.t 1 = .v false [.dat (.fn f1_ k1_)]∧s.t 7=vI (List.length p0:Int)∧s.t 8=vI v8∧bY p0 p1 m v8=some r) fuel ?_ ?_
 ·refine ⟨0,?_,?_,?_,?_,h⟩
  all_goals simp +decide only [F,reduceIte,Nat.reduceAdd,Bool.not_true,Bool.not_false,EN, *,-h]
 rintro mL1 s1 ⟨v8,f2,f3,f4,f5,h⟩
 rcases mL1 with _ | mL1
 ·exact absurd h (by simp [bY])
 simp only [bY] at h
 refine sq (rn ?_)
 refine an (sq ?_)
 rcases aA5 (decide (v8<(List.length p0:Int))) with b6 | b6
 ·replace h:=bH b6 h
  refine cf (xt (lO (nE (yR (an (sq (rn ?_)))))))
  refine an (rt ?_)
  cases h
  simp [Ret,TB,EN, *]
 replace h:=bI b6 h
 refine ct (sk (an (sq (bk (sq (rn ?_))))))
 refine an (sq ?_)
 obtain ⟨x7,h8,h⟩:=bind_some h
 obtain ⟨q9,q10,q11⟩:=aR h8
 obtain ⟨x12,h13,h⟩:=bind_some h
 refine rn1 (hp1 x7 x12 h13) ?_
 refine an ?_
 rcases cU x12 with b14 | b14
 ·replace h:=bI b14 h
  refine ct (sq (rn ?_))
  refine an (rt ?_)
  cases h
  simp [Ret,TB,EN, *]
 replace h:=bH b14 h
 refine cf (sk (ab (an (rn ?_))))
 refine rQ ⟨mL1,by omega,(i64.wrap (v8+1)),?_,?_,?_,?_,h⟩
 all_goals simp +decide only [F,reduceIte,Nat.reduceAdd,Bool.not_true,Bool.not_false,EN, *,-h]
instance:bD 427 (type_of% @aQK):=⟨@aQK⟩
theorem aQ1 (p0 p1 r) (h:aBA p0 p1=some r):Sc 374 [aX (M.aU.en p0),aS p1] [rI r]:=by
 unfold aBA at h
 simp only [EN]
 refine sgn 9 [.tmp 4] Tryz.func374 fun base wd => ?_
 refine sq (rn ?_)
 refine an (sq ?_)
 obtain ⟨x1,h2,h⟩:=bind_some h
 refine rn1 (aQK p0.Fields (fun z0=>sA z0 p1) 428 [.ptr [.str p1]] (fun z0 r hr=>aPm z0 p1 r hr) x1 h2) ?_
 refine an (rt ?_)
 cases h
 simp [Ret,TB,EN, *]
instance:bD 374 (type_of% @aQ1):=⟨@aQ1⟩
theorem aQG (p0 p1 r) (h:iQ p0 p1=some r):Sc 438 [aX (M.aU.en p0),aS p1] [rI r.1,rB r.2]:=by
 unfold iQ at h
 exact sgo 18 [.tmp 4,.tmp 5] Tryz.func438
instance:bD 438 (type_of% @aQG):=⟨@aQG⟩
theorem aQJ (p0 p1 p2 r) (h:oN p0 p1 p2=some r):Sc 468 [aX (M.Item.en p0),aX (M.Item.en p1),aS p2] [rB r]:=by
 unfold oN at h
 exact sgo 41 [.tmp 6] Tryz.func468
instance:bD 468 (type_of% @aQJ):=⟨@aQJ⟩
end Go.Proofs.YtnhpbpnhmapeeaaGreat.gen
