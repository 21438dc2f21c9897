/-
  Helper text. No conditions.
-/
import Derived.Test.YtnhpbpnhmapeeaaGreatSendNoteTi
namespace Go.Proofs.YtnhpbpnhmapeeaaGreat.gen
open Go Go.Sh
set_option linter.unusedVariables false
set_option linter.unusedSimpArgs false
set_option maxRecDepth 20000
set_option maxHeartbeats 4000000
theorem aSk (p0 r) (h:iW p0=some r):Sc 378 [aL enB p0] [rW 5 1 enB r]:=by
 unfold iW at h
 exact sgo 6 [.tmp 2] Tryz.func378
instance:bG 378 (type_of% @aSk):=⟨@aSk⟩
theorem aUv (p0 r) (h:nE p0=some r):Sc 316 [aX (M.Response.en p0)] [(true,M.Response.rs r)]:=by
 unfold nE at h
 exact sgo 8 [.cell 2 137] Tryz.func316
instance:bG 316 (type_of% @aUv):=⟨@aUv⟩
theorem aU6 (p0 r) (h:mY p0=some r):Sc 229 [aX (M.aU.en p0)] [(true,M.aU.rs r)]:=by
 have i1:=aJ0 [.b 3 0 7050100 286 2] fun m s=>∃v13:Int,∃r50100:List M.Cache,∃u50100:Nat,(s.t 2=vP 2 1 0∧s.t 3=vP 3 1 0∧s.t 11=vL M.Cache.en p0.Caches∧s.t 12=vI (List.length p0.Caches:Int)∧s.t 13=vI v13∧s.h 2=(1,oB 110 [.nil])∧s.h 3=(1,oB 110 [.row 7050100 u50100])∧s.h 7050100=(u50100,oW 286 2 M.Cache.en r50100))∧dV p0 m v13 r50100=some r
 have e1:=@dV.eq_2
 have i2:=fun (v13:Int) (r50100:List M.Cache) (x11:M.Cache) (k17:Int→List M.Cached→Option M.aU) (s1:St) (u50100:Nat)=>aJ0 [.b 6 1 7050000 368 7] fun m s=>∃v23_L2:Int,∃r50000_L2:List M.Cached,∃u50000_L2:Nat,(s.t 2=vP 2 1 0∧s.t 3=vP 3 1 0∧s.t 6=vP 6 ((s1.h 6).1+1) 0∧s.t 11=vL M.Cache.en p0.Caches∧s.t 12=vI (List.length p0.Caches:Int)∧s.t 13=vI v13∧s.t 21=vL M.Cached.en x11.Entries∧s.t 22=vI (List.length x11.Entries:Int)∧s.t 23=vI v23_L2∧s.h 2=(1,oB 110 [.nil])∧s.h 3=(1,oB 110 [.row 7050100 u50100])∧s.h 6=(((s1.h 6).1+1),oB 286 [cI x11.Version,.row 7050000 u50000_L2])∧s.h 7050000=(u50000_L2,oW 368 7 M.Cached.en r50000_L2)∧s.h 7050100=(u50100,oW 286 2 M.Cache.en r50100))∧fL x11 k17 m v23_L2 r50000_L2=some r
 have e2:=@fL.eq_2
 unfold mY at h
 exact sgo 46 [.cell 2 110] Tryz.func229
instance:bG 229 (type_of% @aU6):=⟨@aU6⟩
theorem aLn (p0 r) (h:bI p0=some r):Sc 373 [aX (M.aH.en p0)] [(true,M.aH.rs r)]:=by
 unfold bI at h
 exact sgo 8 [.cell 2 355] Tryz.func373
instance:bG 373 (type_of% @aLn):=⟨@aLn⟩
theorem aQE (p0 r) (h:rC p0=some r):Sc 343 [aX (M.Item.en p0)] [(true,M.Item.rs r)]:=by
 unfold rC at h
 exact sgo 9 [.cell 2 357] Tryz.func343
instance:bG 343 (type_of% @aQE):=⟨@aQE⟩
theorem aKp (p0 r) (h:bC p0=some r):Sc 258 [aX (M.aE.en p0)] [(true,M.aE.rs r)]:=by
 have i1:=aJ0 [.b 3 1 7050000 357 4] fun m s=>∃v14:Int,∃r50000:List M.Item,∃u50000:Nat,(s.t 2=vP 2 1 0∧s.t 3=vP 3 1 0∧s.t 12=vL M.Item.en p0.Items∧s.t 13=vI (List.length p0.Items:Int)∧s.t 14=vI v14∧s.h 2=(1,oB 98 [cS (⟨#[]⟩:ByteArray),.nil,cI 0])∧s.h 3=(1,oB 98 [cS p0.Name,.row 7050000 u50000,cI p0.Auto])∧s.h 7050000=(u50000,oW 357 4 M.Item.en r50000))∧hO p0 m v14 r50000=some r
 have e1:=@hO.eq_2
 unfold bC at h
 exact sgo 27 [.cell 2 98] Tryz.func258
instance:bG 258 (type_of% @aKp):=⟨@aKp⟩
theorem aSv (p0 r) (h:nL p0=some r):Sc 377 [aX (M.Database.en p0)] [(true,M.Database.rs r)]:=by
 have i1:=aJ0 [.b 3 2 7050000 98 3] fun m s=>∃v18:Int,∃r50000:List M.aE,∃u50000:Nat,(s.t 2=vP 2 1 0∧s.t 3=vP 3 1 0∧s.t 16=vL M.aE.en p0.Stores∧s.t 17=vI (List.length p0.Stores:Int)∧s.t 18=vI v18∧s.h 2=(1,oB 114 [cS (⟨#[]⟩:ByteArray),cI 0,.nil,.nil])∧s.h 3=(1,oB 114 [cS p0.Name,cI p0.Version,.row 7050000 u50000,.row 100010 2])∧s.h 100010=(2,oW 383 2 M.aD.en p0.Unique)∧s.h 7050000=(u50000,oW 98 3 M.aE.en r50000))∧fN p0 m v18 r50000=some r
 have e1:=@fN.eq_2
 unfold nL at h
 exact sgo 31 [.cell 2 114] Tryz.func377
instance:bG 377 (type_of% @aSv):=⟨@aSv⟩
theorem aUq (p0 r) (h:wE p0=some r):Sc 310 [aX (M.bD.en p0)] [(true,M.bD.rs r)]:=by
 unfold wE at h
 exact sgo 12 [.cell 2 116] Tryz.func310
instance:bG 310 (type_of% @aUq):=⟨@aUq⟩
theorem aRd (p0 r) (h:iI p0=some r):Sc 304 [aX (M.aN.en p0)] [(true,M.aN.rs r)]:=by
 unfold iI at h
 exact sgo 9 [.cell 2 118] Tryz.func304
instance:bG 304 (type_of% @aRd):=⟨@aRd⟩
theorem aS6 (p0 r) (h:wX p0=some r):Sc 303 [aX (M.Sync.en p0)] [(true,M.Sync.rs r)]:=by
 unfold wX at h
 exact sgo 8 [.cell 2 120] Tryz.func303
instance:bG 303 (type_of% @aS6):=⟨@aS6⟩
theorem aUl (p0 r) (h:kT p0=some r):Sc 214 [aX (M.aC.en p0)] [(true,M.aC.rs r)]:=by
 unfold kT at h
 exact sgo 12 [.cell 2 122] Tryz.func214
instance:bG 214 (type_of% @aUl):=⟨@aUl⟩
theorem aPW (p0 r) (h:dE p0=some r):Sc 220 [aX (M.aA.en p0)] [(true,M.aA.rs r)]:=by
 unfold dE at h
 exact sgo 16 [.cell 2 124] Tryz.func220
instance:bG 220 (type_of% @aPW):=⟨@aPW⟩
theorem aNk (p0 r) (h:bR p0=some r):Sc 147 [aX (M.aF.en p0)] [(true,M.aF.rs r)]:=by
 have i1:=aJ0 [.b 3 0 7050000 124 24] fun m s=>∃v10:Int,∃r50000:List M.aA,∃u50000:Nat,(s.t 2=vP 2 1 0∧s.t 3=vP 3 1 0∧s.t 8=vL M.aA.en p0.Buckets∧s.t 9=vI (List.length p0.Buckets:Int)∧s.t 10=vI v10∧s.h 2=(1,oB 26 [.nil])∧s.h 3=(1,oB 26 [.row 7050000 u50000])∧s.h 7050000=(u50000,oW 124 24 M.aA.en r50000))∧fZ p0 m v10 r50000=some r
 have e1:=@fZ.eq_2
 unfold bR at h
 exact sgo 23 [.cell 2 26] Tryz.func147
instance:bG 147 (type_of% @aNk):=⟨@aNk⟩
theorem aUO (p0 r) (h:pC p0=some r):Sc 315 [aX (M.Machine.en p0)] [(true,M.Machine.rs r)]:=by
 unfold pC at h
 exact sgo 16 [.cell 2 78] Tryz.func315
instance:bG 315 (type_of% @aUO):=⟨@aUO⟩
theorem aU8 (p0 r) (h:xG p0=some r):Sc 228 [aX (M.bJ.en p0)] [(true,M.bJ.rs r)]:=by
 unfold xG at h
 exact sgo 13 [.cell 2 80] Tryz.func228
instance:bG 228 (type_of% @aU8):=⟨@aU8⟩
theorem aRT (p0 r) (h:sP p0=some r):Sc 148 [aL M.bJ.en p0] [rW 80 11 M.bJ.en r]:=by
 have i1:=inv fun m s=>∃v9:Int,∃r6:List M.bJ,∃u6:Nat,(s.t 3=vR 100006 u6∧s.t 7=vL M.bJ.en p0∧s.t 8=vI (List.length p0:Int)∧s.t 9=vI v9∧s.h 100006=(u6,oW 80 11 M.bJ.en r6))∧hU p0 m v9 r6=some r
 have e1:=@hU.eq_2
 unfold sP at h
 exact sgo 20 [.tmp 2] Tryz.func148
instance:bG 148 (type_of% @aRT):=⟨@aRT⟩
theorem aTz (p0 r) (h:sS p0=some r):Sc 149 [aX (M.aW.en p0)] [(true,M.aW.rs r)]:=by
 unfold sS at h
 exact sgo 8 [.cell 2 30] Tryz.func149
instance:bG 149 (type_of% @aTz):=⟨@aTz⟩
theorem aR3 (p0 r) (h:pF p0=some r):Sc 150 [aX (M.Channel.en p0)] [(true,M.Channel.rs r)]:=by
 unfold pF at h
 exact sgo 8 [.cell 2 33] Tryz.func150
instance:bG 150 (type_of% @aR3):=⟨@aR3⟩
theorem aSO (p0 r) (h:wO p0=some r):Sc 151 [aX (M.Site.en p0)] [(true,M.Site.rs r)]:=by
 unfold wO at h
 exact sgo 9 [.cell 2 95] Tryz.func151
instance:bG 151 (type_of% @aSO):=⟨@aSO⟩
theorem aUt (p0 r) (h:qM p0=some r):Sc 152 [aX (M.Server.en p0)] [(true,M.Server.rs r)]:=by
 unfold qM at h
 exact sgo 15 [.cell 2 102] Tryz.func152
instance:bG 152 (type_of% @aUt):=⟨@aUt⟩
theorem c48 (p0 r) (h:tQ p0=some r):Sc 48 [aX (M.World.en p0)] [(true,M.World.rs r)]:=by
 have i1:=fun (x1:M.aF) (x3:(List M.bJ)) (x5:M.aW) (x7:M.Channel)=>aJ0 [.b 3 8 7050000 95 4] fun m s=>∃v29:Int,∃r50000:List M.Site,∃u50000:Nat,(s.t 1=vP 1 1 0∧s.t 2=vP 2 1 0∧s.t 3=vP 3 1 0∧s.t 27=vL M.Site.en p0.Sites∧s.t 28=vI (List.length p0.Sites:Int)∧s.t 29=vI v29∧s.h 1=(1,oX 37 (M.World.en p0))∧s.h 2=(1,oB 37 [cI 0,cB false,cI 0,.nil,.nil,cI 0,.nil,.nil,.nil,.nil])∧s.h 3=(1,oB 37 [cI p0.Now,cB p0.Online,cI p0.Device,.row 100011 1,.row 100015 1,cI p0.NextPage,.row 100019 1,.row 100023 1,.row 7050000 u50000,cL M.Server.en p0.Servers])∧s.h 100011=(1,oW 124 24 M.aA.en x1.Buckets)∧s.h 100015=(1,oW 80 11 M.bJ.en x3)∧s.h 100019=(1,oW 144 4 M.cT.en x5.Locks)∧s.h 100023=(1,oW 232 3 M.eO.en x7.Mails)∧s.h 7050000=(u50000,oW 95 4 M.Site.en r50000))∧gD p0 x1 x3 x5 x7 m v29 r50000=some r
 have e1:=@gD.eq_2
 have i2:=fun (x1:M.aF) (x3:(List M.bJ)) (x5:M.aW) (x7:M.Channel) (r50000:List M.Site) (u50000:Nat)=>aJ0 [.b 3 9 7050100 102 5] fun m s=>∃v45:Int,∃r50100:List M.Server,∃u50100:Nat,(s.t 2=vP 2 1 0∧s.t 3=vP 3 1 0∧s.t 43=vL M.Server.en p0.Servers∧s.t 44=vI (List.length p0.Servers:Int)∧s.t 45=vI v45∧s.h 2=(1,oB 37 [cI 0,cB false,cI 0,.nil,.nil,cI 0,.nil,.nil,.nil,.nil])∧s.h 3=(1,oB 37 [cI p0.Now,cB p0.Online,cI p0.Device,.row 100011 1,.row 100015 1,cI p0.NextPage,.row 100019 1,.row 100023 1,.row 7050000 u50000,.row 7050100 u50100])∧s.h 100011=(1,oW 124 24 M.aA.en x1.Buckets)∧s.h 100015=(1,oW 80 11 M.bJ.en x3)∧s.h 100019=(1,oW 144 4 M.cT.en x5.Locks)∧s.h 100023=(1,oW 232 3 M.eO.en x7.Mails)∧s.h 7050000=(u50000,oW 95 4 M.Site.en r50000)∧s.h 7050100=(u50100,oW 102 5 M.Server.en r50100))∧eU p0 x1 x3 x5 x7 r50000 m v45 r50100=some r
 have e2:=@eU.eq_2
 unfold tQ at h
 exact sgo 58 [.cell 2 37] Tryz.func48
instance:bG 48 (type_of% @c48):=⟨@c48⟩
theorem aQZ (p0 c0 c1 r) (h:mR p0 c0 c1=some r):Sc 262 [aX (M.aA.en p0),(false,[.ptr [.str c0]]),(false,[.ptr [.str c1]])] [rB r]:=by
 unfold mR at h
 exact sgo 15 [.tmp 4] Tryz.func262
instance:bG 262 (type_of% @aQZ):=⟨@aQZ⟩
theorem aQd (p0:List M.aA) (p1:M.aA→Option Bool) (f1_:FuncId) (k1_:List D) (hp1 : ∀z0 r,p1 z0=some r→nM Tryz.prog f1_ ((true,M.aA.en z0) ::  k1_.map fun c=>(false,[c])) [(false,[.ro (.bool r)])]) (r:Int) (h:gZ p0 p1=some r):Sc 261 [(false,[.sl (List.map M.aA.en p0)]),(false,[.fn f1_ k1_])] [rI r]:=by
 unfold gZ at h
 simp only [EN]
 refine sgn 19 [.tmp 4] Tryz.func261 fun base wd => ?_
 refine sq (rn ?_)
 refine an (sq (sq (rn ?_)))
 refine an (bk ?_)
 refine kX (fun m s=>∃v8:Int,s.t 0=vL M.aA.en p0∧s.t 1 = .v false [.dat (.fn f1_ k1_)]∧s.t 7=vI (List.length p0:Int)∧s.t 8=vI v8∧bS p0 p1 m v8=some r) fuel ?_ ?_
 ·refine ⟨0,?_,?_,?_,?_,h⟩
  all_goals simp +decide only [F,reduceIte,Nat.reduceAdd,Bool.not_true,Bool.not_false,EN, *,-h]
 rintro mL1 s1 ⟨v8,f2,f3,f4,f5,h⟩
 rcases mL1 with _ | mL1
 ·exact absurd h (by simp [bS])
 simp only [bS] at h
 refine sq (rn ?_)
 refine an (sq ?_)
 rcases rQ (decide (v8<(List.length p0:Int))) with b6 | b6
 ·replace h:=bA b6 h
  refine cf (xt (jD (jY (uX (an (sq (rn ?_)))))))
  refine an (rt ?_)
  cases h
  simp [Ret,TB,EN, *]
 replace h:=bB b6 h
 refine ct (sk (an (sq (bk (sq (rn ?_))))))
 refine an (sq ?_)
 obtain ⟨x7,h8,h⟩:=bind_some h
 obtain ⟨q9,q10,q11⟩:=aR h8
 obtain ⟨x12,h13,h⟩:=bind_some h
 refine rn1 (hp1 x7 x12 h13) ?_
 refine an ?_
 rcases bO x12 with b14 | b14
 ·replace h:=bB b14 h
  refine ct (sq (rn ?_))
  refine an (rt ?_)
  cases h
  simp [Ret,TB,EN, *]
 replace h:=bA b14 h
 refine cf (sk (ab (an (rn ?_))))
 refine xY ⟨mL1,by omega,(IntKind.i64.wrap (v8+1)),?_,?_,?_,?_,h⟩
 all_goals simp +decide only [F,reduceIte,Nat.reduceAdd,Bool.not_true,Bool.not_false,EN, *,-h]
instance:bG 261 (type_of% @aQd):=⟨@aQd⟩
theorem aQ5 (p0 p1 p2 r) (h:lX p0 p1 p2=some r):Sc 159 [aX (M.aF.en p0),aS p1,aS p2] [rI r]:=by
 unfold lX at h
 simp only [EN]
 refine sgn 11 [.tmp 6] Tryz.func159 fun base wd => ?_
 refine sq (rn ?_)
 refine an (sq ?_)
 obtain ⟨x1,h2,h⟩:=bind_some h
 refine rn1 (aQd p0.Buckets (fun z0=>mR z0 p1 p2) 262 [.ptr [.str p1],.ptr [.str p2]] (fun z0 r hr=>aQZ z0 p1 p2 r hr) x1 h2) ?_
 refine an (rt ?_)
 cases h
 simp [Ret,TB,EN, *]
instance:bG 159 (type_of% @aQ5):=⟨@aQ5⟩
theorem c96 (p0 p1 p2 r) (h:aAe p0 p1 p2=some r):Sc 96 [aX (M.World.en p0),aS p1,aS p2] [(true,M.aA.ra r.1),rB r.2]:=by
 unfold aAe at h
 exact sgo 23 [.cell 6 124,.tmp 7] Tryz.func96
instance:bG 96 (type_of% @c96):=⟨@c96⟩
theorem c98 (p0 r) (h:zV p0=some r):Sc 98 [aI p0] [(true,M.Key.rs r)]:=by
 unfold zV at h
 exact sgo 5 [.cell 2 174] Tryz.func98
instance:bG 98 (type_of% @c98):=⟨@c98⟩
theorem aN3 (p0 p1 p2 r) (h:bK p0 p1 p2=some r):Sc 155 [aI p0,aI p1,aI p2] [rB r]:=by
 unfold bK at h
 exact sgo 15 [.tmp 6] Tryz.func155
instance:bG 155 (type_of% @aN3):=⟨@aN3⟩
theorem aR1 (p0 r) (h:sR p0=some r):Sc 406 [aS p0] [rB r]:=by
 have i1:=inv fun m s=>∃v3:Int,(s.t 0=vS p0∧s.t 3=vI v3)∧dL p0 m v3=some r
 have e1:=@dL.eq_2
 unfold sR at h
 exact sgo 36 [.tmp 2] Tryz.func406
instance:bG 406 (type_of% @aR1):=⟨@aR1⟩
theorem aQK (p0 r) (h:lQ p0=some r):Sc 345 [aX (M.Key.en p0)] [rB r]:=by
 unfold lQ at h
 exact sgo 39 [.tmp 2] Tryz.func345
instance:bG 345 (type_of% @aQK):=⟨@aQK⟩
theorem aUb (p0 p1 p2 r) (h:aAY p0 p1 p2=some r):Sc 344 [aS p0,aI p1,aB p2] [rB r]:=by
 have i1:=inv fun m s=>∃v7:Int,(s.t 0=vS p0∧s.t 1=vI p1∧s.t 2=vB p2∧s.t 7=vI v7)∧gG p0 p1 p2 m v7=some r
 have e1:=@gG.eq_2
 unfold aAY at h
 exact sgo 38 [.tmp 6] Tryz.func344
instance:bG 344 (type_of% @aUb):=⟨@aUb⟩
theorem aNy (p0 r) (h:eK p0=some r):Sc 260 [aS p0] [rB r]:=by
 unfold eK at h
 exact sgo 5 [.tmp 2] Tryz.func260
instance:bG 260 (type_of% @aNy):=⟨@aNy⟩
theorem aUx (p0 r) (h:lF p0=some r):Sc 263 [aX (M.aV.en p0)] [rB r]:=by
 unfold lF at h
 exact sgo 26 [.tmp 2] Tryz.func263
instance:bG 263 (type_of% @aUx):=⟨@aUx⟩
theorem aRo (p0 r) (h:mW p0=some r):Sc 305 [aX (M.aN.en p0)] [rB r]:=by
 have i1:=inv fun m s=>∃v12:Int,(s.t 1=vP 1 1 0∧s.t 3=vI (List.length p0.Writes:Int)∧s.t 10=vL M.aV.en p0.Writes∧s.t 11=vI (List.length p0.Writes:Int)∧s.t 12=vI v12∧s.h 1=(1,oX 118 (M.aN.en p0)))∧iL p0 m v12=some r
 have e1:=@iL.eq_2
 unfold mW at h
 exact sgo 51 [.tmp 2] Tryz.func305
instance:bG 305 (type_of% @aRo):=⟨@aRo⟩
theorem aSP (p0 p1 p2 p3 r) (h:nN p0 p1 p2 p3=some r):Sc 215 [aX (M.aN.en p0),aX (M.Key.en p1),aS p2,aI p3] [(true,M.aN.rs r.1),rB r.2]:=by
 unfold nN at h
 exact sgo 41 [.cell 8 118,.tmp 9] Tryz.func215
instance:bG 215 (type_of% @aSP):=⟨@aSP⟩
theorem aQs (p0 c0 r) (h:rL p0 c0=some r):Sc 372 [aX (M.Item.en p0),(false,[.ptr [.int .i64 c0.Kind,.int .i64 c0.N,.str c0.Text]])] [rB r]:=by
 unfold rL at h
 exact sgo 8 [.tmp 3] Tryz.func372
instance:bG 372 (type_of% @aQs):=⟨@aQs⟩
theorem aQl (p0:List M.Item) (p1:M.Item→Option Bool) (f1_:FuncId) (k1_:List D) (hp1 : ∀z0 r,p1 z0=some r→nM Tryz.prog f1_ ((true,M.Item.en z0) ::  k1_.map fun c=>(false,[c])) [(false,[.ro (.bool r)])]) (r:Int) (h:iR p0 p1=some r):Sc 371 [(false,[.sl (List.map M.Item.en p0)]),(false,[.fn f1_ k1_])] [rI r]:=by
 unfold iR at h
 simp only [EN]
 refine sgn 19 [.tmp 4] Tryz.func371 fun base wd => ?_
 refine sq (rn ?_)
 refine an (sq (sq (rn ?_)))
 refine an (bk ?_)
 refine kX (fun m s=>∃v8:Int,s.t 0=vL M.Item.en p0∧s.t 1 = .v false [.dat (.fn f1_ k1_)]∧s.t 7=vI (List.length p0:Int)∧s.t 8=vI v8∧cE p0 p1 m v8=some r) fuel ?_ ?_
 ·refine ⟨0,?_,?_,?_,?_,h⟩
  all_goals simp +decide only [F,reduceIte,Nat.reduceAdd,Bool.not_true,Bool.not_false,EN, *,-h]
 rintro mL1 s1 ⟨v8,f2,f3,f4,f5,h⟩
 rcases mL1 with _ | mL1
 ·exact absurd h (by simp [cE])
 simp only [cE] at h
 refine sq (rn ?_)
 refine an (sq ?_)
 rcases rQ (decide (v8<(List.length p0:Int))) with b6 | b6
 ·replace h:=bA b6 h
  refine cf (xt (jD (jY (uX (an (sq (rn ?_)))))))
  refine an (rt ?_)
  cases h
  simp [Ret,TB,EN, *]
 replace h:=bB b6 h
 refine ct (sk (an (sq (bk (sq (rn ?_))))))
 refine an (sq ?_)
 obtain ⟨x7,h8,h⟩:=bind_some h
 obtain ⟨q9,q10,q11⟩:=aR h8
 obtain ⟨x12,h13,h⟩:=bind_some h
 refine rn1 (hp1 x7 x12 h13) ?_
 refine an ?_
 rcases bO x12 with b14 | b14
 ·replace h:=bB b14 h
  refine ct (sq (rn ?_))
  refine an (rt ?_)
  cases h
  simp [Ret,TB,EN, *]
 replace h:=bA b14 h
 refine cf (sk (ab (an (rn ?_))))
 refine xY ⟨mL1,by omega,(IntKind.i64.wrap (v8+1)),?_,?_,?_,?_,h⟩
 all_goals simp +decide only [F,reduceIte,Nat.reduceAdd,Bool.not_true,Bool.not_false,EN, *,-h]
instance:bG 371 (type_of% @aQl):=⟨@aQl⟩
theorem aQ8 (p0 p1 r) (h:qF p0 p1=some r):Sc 306 [aX (M.aE.en p0),aX (M.Key.en p1)] [rI r]:=by
 unfold qF at h
 simp only [EN]
 refine sgn 9 [.tmp 4] Tryz.func306 fun base wd => ?_
 refine sq (rn ?_)
 refine an (sq ?_)
 obtain ⟨x1,h2,h⟩:=bind_some h
 refine rn1 (aQl p0.Items (fun z0=>rL z0 p1) 372 [.ptr [.int .i64 p1.Kind,.int .i64 p1.N,.str p1.Text]] (fun z0 r hr=>aQs z0 p1 r hr) x1 h2) ?_
 refine an (rt ?_)
 cases h
 simp [Ret,TB,EN, *]
instance:bG 306 (type_of% @aQ8):=⟨@aQ8⟩
theorem aQR (p0 c0 r) (h:nS p0 c0=some r):Sc 428 [aX (M.Field.en p0),(false,[.ptr [.str c0]])] [rB r]:=by
 unfold nS at h
 exact sgo 8 [.tmp 3] Tryz.func428
instance:bG 428 (type_of% @aQR):=⟨@aQR⟩
theorem aQy (p0:List M.Field) (p1:M.Field→Option Bool) (f1_:FuncId) (k1_:List D) (hp1 : ∀z0 r,p1 z0=some r→nM Tryz.prog f1_ ((true,M.Field.en z0) ::  k1_.map fun c=>(false,[c])) [(false,[.ro (.bool r)])]) (r:Int) (h:iF p0 p1=some r):Sc 427 [(false,[.sl (List.map M.Field.en p0)]),(false,[.fn f1_ k1_])] [rI r]:=by
 unfold iF at h
 simp only [EN]
 refine sgn 19 [.tmp 4] Tryz.func427 fun base wd => ?_
 refine sq (rn ?_)
 refine an (sq (sq (rn ?_)))
 refine an (bk ?_)
 refine kX (fun m s=>∃v8:Int,s.t 0=vL M.Field.en p0∧s.t 1 = .v false [.dat (.fn f1_ k1_)]∧s.t 7=vI (List.length p0:Int)∧s.t 8=vI v8∧bV p0 p1 m v8=some r) fuel ?_ ?_
 ·refine ⟨0,?_,?_,?_,?_,h⟩
  all_goals simp +decide only [F,reduceIte,Nat.reduceAdd,Bool.not_true,Bool.not_false,EN, *,-h]
 rintro mL1 s1 ⟨v8,f2,f3,f4,f5,h⟩
 rcases mL1 with _ | mL1
 ·exact absurd h (by simp [bV])
 simp only [bV] at h
 refine sq (rn ?_)
 refine an (sq ?_)
 rcases rQ (decide (v8<(List.length p0:Int))) with b6 | b6
 ·replace h:=bA b6 h
  refine cf (xt (jD (jY (uX (an (sq (rn ?_)))))))
  refine an (rt ?_)
  cases h
  simp [Ret,TB,EN, *]
 replace h:=bB b6 h
 refine ct (sk (an (sq (bk (sq (rn ?_))))))
 refine an (sq ?_)
 obtain ⟨x7,h8,h⟩:=bind_some h
 obtain ⟨q9,q10,q11⟩:=aR h8
 obtain ⟨x12,h13,h⟩:=bind_some h
 refine rn1 (hp1 x7 x12 h13) ?_
 refine an ?_
 rcases bO x12 with b14 | b14
 ·replace h:=bB b14 h
  refine ct (sq (rn ?_))
  refine an (rt ?_)
  cases h
  simp [Ret,TB,EN, *]
 replace h:=bA b14 h
 refine cf (sk (ab (an (rn ?_))))
 refine xY ⟨mL1,by omega,(IntKind.i64.wrap (v8+1)),?_,?_,?_,?_,h⟩
 all_goals simp +decide only [F,reduceIte,Nat.reduceAdd,Bool.not_true,Bool.not_false,EN, *,-h]
instance:bG 427 (type_of% @aQy):=⟨@aQy⟩
theorem aQP (p0 p1 r) (h:uV p0 p1=some r):Sc 374 [aX (M.aH.en p0),aS p1] [rI r]:=by
 unfold uV at h
 simp only [EN]
 refine sgn 9 [.tmp 4] Tryz.func374 fun base wd => ?_
 refine sq (rn ?_)
 refine an (sq ?_)
 obtain ⟨x1,h2,h⟩:=bind_some h
 refine rn1 (aQy p0.Fields (fun z0=>nS z0 p1) 428 [.ptr [.str p1]] (fun z0 r hr=>aQR z0 p1 r hr) x1 h2) ?_
 refine an (rt ?_)
 cases h
 simp [Ret,TB,EN, *]
instance:bG 374 (type_of% @aQP):=⟨@aQP⟩
theorem aMq (p0 r) (h:cF p0=some r):Sc 346 [aX (M.aH.en p0)] [rB r]:=by
 have i1:=inv fun m s=>∃v8:Int,(s.t 1=vP 1 1 0∧s.t 6=vL M.Field.en p0.Fields∧s.t 7=vI (List.length p0.Fields:Int)∧s.t 8=vI v8∧s.h 1=(1,oX 355 (M.aH.en p0)))∧fW p0 m v8=some r
 have e1:=@fW.eq_2
 unfold cF at h
 exact sgo 44 [.tmp 2] Tryz.func346
instance:bG 346 (type_of% @aMq):=⟨@aMq⟩
end Go.Proofs.YtnhpbpnhmapeeaaGreat.gen
