/-
  Helper text. No conditions.
-/
import Derived.Test.YtnhpbpnhmapeeaaGreatActivateWorkerTi
namespace Go.Proofs.YtnhpbpnhmapeeaaGreat.gen
open Go Go.Sh
set_option linter.unusedVariables false
set_option linter.unusedSimpArgs false
set_option maxRecDepth 20000
set_option maxHeartbeats 4000000
theorem aS5 (p0 r) (h:jF p0=some r):Sc 378 [aL enB p0] [rW 5 1 enB r]:=by
 unfold jF at h
 exact sgo 6 [.tmp 2] Tryz.func378
instance:bC 378 (type_of% @aS5):=⟨@aS5⟩
theorem aVU (p0 r) (h:nA p0=some r):Sc 316 [aX (M.Response.en p0)] [(true,M.Response.rs r)]:=by
 unfold nA at h
 exact sgo 8 [.cell 2 137] Tryz.func316
instance:bC 316 (type_of% @aVU):=⟨@aVU⟩
theorem aRK (p0 r) (h:jR p0=some r):Sc 229 [aX (M.aM.en p0)] [(true,M.aM.rs r)]:=by
 have i1:=aK4 [.b 3 0 7050100 286 2] fun m s=>∃v13:Int,∃r50100:List M.Cache,∃u50100:Nat,(s.t 2=vP 2 1 0∧s.t 3=vP 3 1 0∧s.t 11=vL M.Cache.en p0.Caches∧s.t 12=vI (List.length p0.Caches:Int)∧s.t 13=vI v13∧s.h 2=(1,oB 110 [.nil])∧s.h 3=(1,oB 110 [.row 7050100 u50100])∧s.h 7050100=(u50100,oW 286 2 M.Cache.en r50100))∧eC p0 m v13 r50100=some r
 have e1:=@eC.eq_2
 have i2:=fun (v13:Int) (r50100:List M.Cache) (x11:M.Cache) (k17:Int→List M.Cached→Option M.aM) (s1:St) (u50100:Nat)=>aK4 [.b 6 1 7050000 368 7] fun m s=>∃v23_L2:Int,∃r50000_L2:List M.Cached,∃u50000_L2:Nat,(s.t 2=vP 2 1 0∧s.t 3=vP 3 1 0∧s.t 6=vP 6 ((s1.h 6).1+1) 0∧s.t 11=vL M.Cache.en p0.Caches∧s.t 12=vI (List.length p0.Caches:Int)∧s.t 13=vI v13∧s.t 21=vL M.Cached.en x11.Entries∧s.t 22=vI (List.length x11.Entries:Int)∧s.t 23=vI v23_L2∧s.h 2=(1,oB 110 [.nil])∧s.h 3=(1,oB 110 [.row 7050100 u50100])∧s.h 6=(((s1.h 6).1+1),oB 286 [cI x11.Version,.row 7050000 u50000_L2])∧s.h 7050000=(u50000_L2,oW 368 7 M.Cached.en r50000_L2)∧s.h 7050100=(u50100,oW 286 2 M.Cache.en r50100))∧fP x11 k17 m v23_L2 r50000_L2=some r
 have e2:=@fP.eq_2
 unfold jR at h
 exact sgo 46 [.cell 2 110] Tryz.func229
instance:bC 229 (type_of% @aRK):=⟨@aRK⟩
theorem aUC (p0 r) (h:qS p0=some r):Sc 373 [aX (M.aU.en p0)] [(true,M.aU.rs r)]:=by
 unfold qS at h
 exact sgo 8 [.cell 2 355] Tryz.func373
instance:bC 373 (type_of% @aUC):=⟨@aUC⟩
theorem aQM (p0 r) (h:rF p0=some r):Sc 343 [aX (M.Item.en p0)] [(true,M.Item.rs r)]:=by
 unfold rF at h
 exact sgo 9 [.cell 2 357] Tryz.func343
instance:bC 343 (type_of% @aQM):=⟨@aQM⟩
theorem aSV (p0 r) (h:lK p0=some r):Sc 258 [aX (M.aH.en p0)] [(true,M.aH.rs r)]:=by
 have i1:=aK4 [.b 3 1 7050000 357 4] fun m s=>∃v14:Int,∃r50000:List M.Item,∃u50000:Nat,(s.t 2=vP 2 1 0∧s.t 3=vP 3 1 0∧s.t 12=vL M.Item.en p0.Items∧s.t 13=vI (List.length p0.Items:Int)∧s.t 14=vI v14∧s.h 2=(1,oB 98 [cS (⟨#[]⟩:ByteArray),.nil,cI 0])∧s.h 3=(1,oB 98 [cS p0.Name,.row 7050000 u50000,cI p0.Auto])∧s.h 7050000=(u50000,oW 357 4 M.Item.en r50000))∧iF p0 m v14 r50000=some r
 have e1:=@iF.eq_2
 unfold lK at h
 exact sgo 27 [.cell 2 98] Tryz.func258
instance:bC 258 (type_of% @aSV):=⟨@aSV⟩
theorem aTG (p0 r) (h:nG p0=some r):Sc 377 [aX (M.Database.en p0)] [(true,M.Database.rs r)]:=by
 have i1:=aK4 [.b 3 2 7050000 98 3] fun m s=>∃v18:Int,∃r50000:List M.aH,∃u50000:Nat,(s.t 2=vP 2 1 0∧s.t 3=vP 3 1 0∧s.t 16=vL M.aH.en p0.Stores∧s.t 17=vI (List.length p0.Stores:Int)∧s.t 18=vI v18∧s.h 2=(1,oB 114 [cS (⟨#[]⟩:ByteArray),cI 0,.nil,.nil])∧s.h 3=(1,oB 114 [cS p0.Name,cI p0.Version,.row 7050000 u50000,.row 100010 2])∧s.h 100010=(2,oW 383 2 M.aD.en p0.Unique)∧s.h 7050000=(u50000,oW 98 3 M.aH.en r50000))∧fR p0 m v18 r50000=some r
 have e1:=@fR.eq_2
 unfold nG at h
 exact sgo 31 [.cell 2 114] Tryz.func377
instance:bC 377 (type_of% @aTG):=⟨@aTG⟩
theorem aVP (p0 r) (h:wM p0=some r):Sc 310 [aX (M.bB.en p0)] [(true,M.bB.rs r)]:=by
 unfold wM at h
 exact sgo 12 [.cell 2 116] Tryz.func310
instance:bC 310 (type_of% @aVP):=⟨@aVP⟩
theorem aRo (p0 r) (h:rH p0=some r):Sc 304 [aX (M.aV.en p0)] [(true,M.aV.rs r)]:=by
 unfold rH at h
 exact sgo 9 [.cell 2 118] Tryz.func304
instance:bC 304 (type_of% @aRo):=⟨@aRo⟩
theorem aTS (p0 r) (h:xL p0=some r):Sc 303 [aX (M.Sync.en p0)] [(true,M.Sync.rs r)]:=by
 unfold xL at h
 exact sgo 8 [.cell 2 120] Tryz.func303
instance:bC 303 (type_of% @aTS):=⟨@aTS⟩
theorem aVJ (p0 r) (h:pG p0=some r):Sc 214 [aX (M.aE.en p0)] [(true,M.aE.rs r)]:=by
 unfold pG at h
 exact sgo 12 [.cell 2 122] Tryz.func214
instance:bC 214 (type_of% @aVJ):=⟨@aVJ⟩
theorem aPi (p0 r) (h:dI p0=some r):Sc 220 [aX (M.aA.en p0)] [(true,M.aA.rs r)]:=by
 unfold dI at h
 exact sgo 16 [.cell 2 124] Tryz.func220
instance:bC 220 (type_of% @aPi):=⟨@aPi⟩
theorem aNz (p0 r) (h:bP p0=some r):Sc 147 [aX (M.aC.en p0)] [(true,M.aC.rs r)]:=by
 have i1:=aK4 [.b 3 0 7050000 124 24] fun m s=>∃v10:Int,∃r50000:List M.aA,∃u50000:Nat,(s.t 2=vP 2 1 0∧s.t 3=vP 3 1 0∧s.t 8=vL M.aA.en p0.Buckets∧s.t 9=vI (List.length p0.Buckets:Int)∧s.t 10=vI v10∧s.h 2=(1,oB 26 [.nil])∧s.h 3=(1,oB 26 [.row 7050000 u50000])∧s.h 7050000=(u50000,oW 124 24 M.aA.en r50000))∧gC p0 m v10 r50000=some r
 have e1:=@gC.eq_2
 unfold bP at h
 exact sgo 23 [.cell 2 26] Tryz.func147
instance:bC 147 (type_of% @aNz):=⟨@aNz⟩
theorem aUu (p0 r) (h:pB p0=some r):Sc 315 [aX (M.Machine.en p0)] [(true,M.Machine.rs r)]:=by
 unfold pB at h
 exact sgo 16 [.cell 2 78] Tryz.func315
instance:bC 315 (type_of% @aUu):=⟨@aUu⟩
theorem aVf (p0 r) (h:rV p0=some r):Sc 228 [aX (M.bI.en p0)] [(true,M.bI.rs r)]:=by
 unfold rV at h
 exact sgo 13 [.cell 2 80] Tryz.func228
instance:bC 228 (type_of% @aVf):=⟨@aVf⟩
theorem aRe (p0 r) (h:sV p0=some r):Sc 148 [aL M.bI.en p0] [rW 80 11 M.bI.en r]:=by
 have i1:=inv fun m s=>∃v9:Int,∃r6:List M.bI,∃u6:Nat,(s.t 3=vR 100006 u6∧s.t 7=vL M.bI.en p0∧s.t 8=vI (List.length p0:Int)∧s.t 9=vI v9∧s.h 100006=(u6,oW 80 11 M.bI.en r6))∧iH p0 m v9 r6=some r
 have e1:=@iH.eq_2
 unfold sV at h
 exact sgo 20 [.tmp 2] Tryz.func148
instance:bC 148 (type_of% @aRe):=⟨@aRe⟩
theorem aUS (p0 r) (h:sY p0=some r):Sc 149 [aX (M.aR.en p0)] [(true,M.aR.rs r)]:=by
 unfold sY at h
 exact sgo 8 [.cell 2 30] Tryz.func149
instance:bC 149 (type_of% @aUS):=⟨@aUS⟩
theorem aSI (p0 r) (h:pF p0=some r):Sc 150 [aX (M.Channel.en p0)] [(true,M.Channel.rs r)]:=by
 unfold pF at h
 exact sgo 8 [.cell 2 33] Tryz.func150
instance:bC 150 (type_of% @aSI):=⟨@aSI⟩
theorem aSf (p0 r) (h:wY p0=some r):Sc 151 [aX (M.Site.en p0)] [(true,M.Site.rs r)]:=by
 unfold wY at h
 exact sgo 9 [.cell 2 95] Tryz.func151
instance:bC 151 (type_of% @aSf):=⟨@aSf⟩
theorem aVS (p0 r) (h:qP p0=some r):Sc 152 [aX (M.Server.en p0)] [(true,M.Server.rs r)]:=by
 unfold qP at h
 exact sgo 15 [.cell 2 102] Tryz.func152
instance:bC 152 (type_of% @aVS):=⟨@aVS⟩
theorem c48 (p0 r) (h:nS p0=some r):Sc 48 [aX (M.World.en p0)] [(true,M.World.rs r)]:=by
 have i1:=fun (x1:M.aC) (x3:(List M.bI)) (x5:M.aR) (x7:M.Channel)=>aK4 [.b 3 8 7050000 95 4] fun m s=>∃v29:Int,∃r50000:List M.Site,∃u50000:Nat,(s.t 1=vP 1 1 0∧s.t 2=vP 2 1 0∧s.t 3=vP 3 1 0∧s.t 27=vL M.Site.en p0.Sites∧s.t 28=vI (List.length p0.Sites:Int)∧s.t 29=vI v29∧s.h 1=(1,oX 37 (M.World.en p0))∧s.h 2=(1,oB 37 [cI 0,cB false,cI 0,.nil,.nil,cI 0,.nil,.nil,.nil,.nil])∧s.h 3=(1,oB 37 [cI p0.Now,cB p0.Online,cI p0.Device,.row 100011 1,.row 100015 1,cI p0.NextPage,.row 100019 1,.row 100023 1,.row 7050000 u50000,cL M.Server.en p0.Servers])∧s.h 100011=(1,oW 124 24 M.aA.en x1.Buckets)∧s.h 100015=(1,oW 80 11 M.bI.en x3)∧s.h 100019=(1,oW 144 4 M.cG.en x5.Locks)∧s.h 100023=(1,oW 232 3 M.fK.en x7.Mails)∧s.h 7050000=(u50000,oW 95 4 M.Site.en r50000))∧gI p0 x1 x3 x5 x7 m v29 r50000=some r
 have e1:=@gI.eq_2
 have i2:=fun (x1:M.aC) (x3:(List M.bI)) (x5:M.aR) (x7:M.Channel) (r50000:List M.Site) (u50000:Nat)=>aK4 [.b 3 9 7050100 102 5] fun m s=>∃v45:Int,∃r50100:List M.Server,∃u50100:Nat,(s.t 2=vP 2 1 0∧s.t 3=vP 3 1 0∧s.t 43=vL M.Server.en p0.Servers∧s.t 44=vI (List.length p0.Servers:Int)∧s.t 45=vI v45∧s.h 2=(1,oB 37 [cI 0,cB false,cI 0,.nil,.nil,cI 0,.nil,.nil,.nil,.nil])∧s.h 3=(1,oB 37 [cI p0.Now,cB p0.Online,cI p0.Device,.row 100011 1,.row 100015 1,cI p0.NextPage,.row 100019 1,.row 100023 1,.row 7050000 u50000,.row 7050100 u50100])∧s.h 100011=(1,oW 124 24 M.aA.en x1.Buckets)∧s.h 100015=(1,oW 80 11 M.bI.en x3)∧s.h 100019=(1,oW 144 4 M.cG.en x5.Locks)∧s.h 100023=(1,oW 232 3 M.fK.en x7.Mails)∧s.h 7050000=(u50000,oW 95 4 M.Site.en r50000)∧s.h 7050100=(u50100,oW 102 5 M.Server.en r50100))∧fC p0 x1 x3 x5 x7 r50000 m v45 r50100=some r
 have e2:=@fC.eq_2
 unfold nS at h
 exact sgo 58 [.cell 2 37] Tryz.func48
instance:bC 48 (type_of% @c48):=⟨@c48⟩
theorem aQe (p0 c0 c1 r) (h:mS p0 c0 c1=some r):Sc 262 [aX (M.aA.en p0),(false,[.ptr [.str c0]]),(false,[.ptr [.str c1]])] [rB r]:=by
 unfold mS at h
 exact sgo 15 [.tmp 4] Tryz.func262
instance:bC 262 (type_of% @aQe):=⟨@aQe⟩
theorem aQj (p0:List M.aA) (p1:M.aA→Option Bool) (f1_:FuncId) (k1_:List D) (hp1 : ∀z0 r,p1 z0=some r→nH Tryz.prog f1_ ((true,M.aA.en z0) ::  k1_.map fun c=>(false,[c])) [(false,[.ro (.bool r)])]) (r:Int) (h:hY p0 p1=some r):Sc 261 [(false,[.sl (List.map M.aA.en p0)]),(false,[.fn f1_ k1_])] [rI r]:=by
 unfold hY at h
 simp only [EN]
 refine sgn 19 [.tmp 4] Tryz.func261 fun base wd => ?_
 refine sq (rn ?_)
 refine an (sq (sq (rn ?_)))
 refine an (bk ?_)
 refine mR (fun m s=>∃v8:Int,s.t 0=vL M.aA.en p0∧s.t 1 = .v false [.dat (.fn f1_ k1_)]∧s.t 7=vI (List.length p0:Int)∧s.t 8=vI v8∧bQ p0 p1 m v8=some r) fuel ?_ ?_
 ·refine ⟨0,?_,?_,?_,?_,h⟩
  all_goals simp +decide only [F,reduceIte,Nat.reduceAdd,Bool.not_true,Bool.not_false,EN, *,-h]
 rintro mL1 s1 ⟨v8,f2,f3,f4,f5,h⟩
 rcases mL1 with _ | mL1
 ·exact absurd h (by simp [bQ])
 simp only [bQ] at h
 refine sq (rn ?_)
 refine an (sq ?_)
 rcases aBM (decide (v8<(List.length p0:Int))) with b6 | b6
 ·replace h:=bG b6 h
  refine cf (xt (nI (oS (aAK (an (sq (rn ?_)))))))
  refine an (rt ?_)
  cases h
  simp [Ret,TB,EN, *]
 replace h:=bH b6 h
 refine ct (sk (an (sq (bk (sq (rn ?_))))))
 refine an (sq ?_)
 obtain ⟨x7,h8,h⟩:=bind_some h
 obtain ⟨q9,q10,q11⟩:=aT h8
 obtain ⟨x12,h13,h⟩:=bind_some h
 refine rn1 (hp1 x7 x12 h13) ?_
 refine an ?_
 rcases cF x12 with b14 | b14
 ·replace h:=bH b14 h
  refine ct (sq (rn ?_))
  refine an (rt ?_)
  cases h
  simp [Ret,TB,EN, *]
 replace h:=bG b14 h
 refine cf (sk (ab (an (rn ?_))))
 refine yH ⟨mL1,by omega,(IntKind.i64.wrap (v8+1)),?_,?_,?_,?_,h⟩
 all_goals simp +decide only [F,reduceIte,Nat.reduceAdd,Bool.not_true,Bool.not_false,EN, *,-h]
instance:bC 261 (type_of% @aQj):=⟨@aQj⟩
theorem aRB (p0 p1 p2 r) (h:iK p0 p1 p2=some r):Sc 159 [aX (M.aC.en p0),aS p1,aS p2] [rI r]:=by
 unfold iK at h
 simp only [EN]
 refine sgn 11 [.tmp 6] Tryz.func159 fun base wd => ?_
 refine sq (rn ?_)
 refine an (sq ?_)
 obtain ⟨x1,h2,h⟩:=bind_some h
 refine rn1 (aQj p0.Buckets (fun z0=>mS z0 p1 p2) 262 [.ptr [.str p1],.ptr [.str p2]] (fun z0 r hr=>aQe z0 p1 p2 r hr) x1 h2) ?_
 refine an (rt ?_)
 cases h
 simp [Ret,TB,EN, *]
instance:bC 159 (type_of% @aRB):=⟨@aRB⟩
theorem c96 (p0 p1 p2 r) (h:aAk p0 p1 p2=some r):Sc 96 [aX (M.World.en p0),aS p1,aS p2] [(true,M.aA.ra r.1),rB r.2]:=by
 unfold aAk at h
 exact sgo 23 [.cell 6 124,.tmp 7] Tryz.func96
instance:bC 96 (type_of% @c96):=⟨@c96⟩
theorem aNi (p0 p1 p2 r) (h:bA p0 p1 p2=some r):Sc 155 [aI p0,aI p1,aI p2] [rB r]:=by
 unfold bA at h
 exact sgo 15 [.tmp 6] Tryz.func155
instance:bC 155 (type_of% @aNi):=⟨@aNi⟩
theorem aU7 (p0 p1 p2 r) (h:xV p0 p1 p2=some r):Sc 344 [aS p0,aI p1,aB p2] [rB r]:=by
 have i1:=inv fun m s=>∃v7:Int,(s.t 0=vS p0∧s.t 1=vI p1∧s.t 2=vB p2∧s.t 7=vI v7)∧gM p0 p1 p2 m v7=some r
 have e1:=@gM.eq_2
 unfold xV at h
 exact sgo 38 [.tmp 6] Tryz.func344
instance:bC 344 (type_of% @aU7):=⟨@aU7⟩
theorem aOG (p0 r) (h:bV p0=some r):Sc 260 [aS p0] [rB r]:=by
 unfold bV at h
 exact sgo 5 [.tmp 2] Tryz.func260
instance:bC 260 (type_of% @aOG):=⟨@aOG⟩
theorem aU2 (p0 r) (h:kL p0=some r):Sc 313 [aX (M.Registration.en p0)] [rB r]:=by
 unfold kL at h
 simp only [EN]
 refine sgn 37 [.tmp 2] Tryz.func313 fun base wd => ?_
 refine sq (rn ?_)
 refine an (sq (rn ?_))
 refine an (sq (sq (rn ?_)))
 refine an (bk ?_)
 refine cu (fun s=>s.t 1=vP 1 1 0∧s.t 3=vI 0∧s.t 12=vR 100012 1∧s.t 13=vI ((3:Nat):Int)∧s.t 14=vI 0∧s.h 1=(1,oX 107 (M.Registration.en p0))∧s.h 100012=(1,oW 3 1 enI ([p0.Active,p0.Waiting,p0.Installing]))∧True) ?_
 rintro s1 ⟨f2,f3,f4,f5,f6,f7,f8,_⟩
 refine mR (fun m s=>∃v3:Int,∃v14:Int,s.t 1=vP 1 1 0∧s.t 3=vI v3∧s.t 12=vR 100012 1∧s.t 13=vI ((3:Nat):Int)∧s.t 14=vI v14∧s.h 1=(1,oX 107 (M.Registration.en p0))∧s.h 100012=(1,oW 3 1 enI ([p0.Active,p0.Waiting,p0.Installing]))∧cW p0 m v3 v14=some r) fuel ?_ ?_
 ·refine ⟨0,0,?_,?_,?_,?_,?_,?_,?_,h⟩
  all_goals simp +decide only [F,reduceIte,Nat.reduceAdd,Bool.not_true,Bool.not_false,EN, *,-h]
 rintro mL1 s9 ⟨v3,v14,f10,f11,f12,f13,f14,f15,f16,h⟩
 rcases mL1 with _ | mL1
 ·exact absurd h (by simp [cW])
 simp only [cW] at h
 refine sq (rn ?_)
 refine an (sq ?_)
 rcases aBM (decide (v14<((3:Nat):Int))) with b17 | b17
 ·replace h:=bG b17 h
  refine cf (xt (nI (oS (aAK (an (sq ?_))))))
  obtain ⟨x28,h29,h⟩:=bind_some h
  refine rn1 (aOG _ _ h29) ?_
  refine an (rt ?_)
  cases h
  simp [Ret,TB,EN, *]
 replace h:=bH b17 h
 refine ct (sk (an (sq (bk (sq ?_)))))
 obtain ⟨x18,h19,h⟩:=bind_some h
 obtain ⟨q20,q21,q22⟩:=aT h19
 have q20m:=congrArg (Option.map enI) (show ([p0.Active,p0.Waiting,p0.Installing])[v14.toNat]? = some x18 by assumption)
 simp only [←List.getElem?_map,List.map_cons,List.map_nil,Option.map_some,EN] at q20m
 simp only [List.length_cons,List.length_nil,Nat.reduceAdd] at q22
 refine rn ?_
 refine an (sq (sq ?_))
 obtain ⟨x23,h24,h⟩:=bind_some h
 rcases cF (!x23) with b25 | b25
 ·replace h:=bH b25 h
  refine rn1 (aNi _ _ _ _ h24) ?_
  refine an (ct (sq (rn ?_)))
  refine an (rt ?_)
  cases h
  simp [Ret,TB,EN, *]
 replace h:=bG b25 h
 rcases aBM (x18 != 0) with b26 | b26
 ·replace h:=bG b26 h
  refine rn1 (aNi _ _ _ _ h24) ?_
  refine an (cf (sk (an (rn ?_))))
  refine ab (an (rn ?_))
  refine yH ⟨mL1,by omega,(if x18>v3 then x18 else v3),(IntKind.i64.wrap (v14+1)),?_,?_,?_,?_,?_,?_,?_,h⟩
  all_goals simp +decide only [F,reduceIte,Nat.reduceAdd,Bool.not_true,Bool.not_false,EN, *,-h]
 replace h:=bH b26 h
 refine rn1 (aNi _ _ _ _ h24) ?_
 refine an ?_
 rcases cF (decide (x18≤v3)) with b27 | b27
 ·replace h:=bH b27 h
  refine ct (sq (rn ?_))
  refine an (rt ?_)
  cases h
  simp [Ret,TB,EN, *]
 replace h:=bG b27 h
 refine cf (sk (an (rn ?_)))
 refine ab (an (rn ?_))
 refine yH ⟨mL1,by omega,(if x18>v3 then x18 else v3),(IntKind.i64.wrap (v14+1)),?_,?_,?_,?_,?_,?_,?_,h⟩
 all_goals simp +decide only [F,reduceIte,Nat.reduceAdd,Bool.not_true,Bool.not_false,EN, *,-h]
instance:bC 313 (type_of% @aU2):=⟨@aU2⟩
theorem aQ5 (p0 c0 c1 r) (h:tL p0 c0 c1=some r):Sc 390 [aX (M.Cached.en p0),(false,[.ptr [.str c0]]),(false,[.ptr [.str c1]])] [rB r]:=by
 unfold tL at h
 exact sgo 15 [.tmp 4] Tryz.func390
instance:bC 390 (type_of% @aQ5):=⟨@aQ5⟩
theorem aQi (p0:List M.Cached) (p1:M.Cached→Option Bool) (f1_:FuncId) (k1_:List D) (hp1 : ∀z0 r,p1 z0=some r→nH Tryz.prog f1_ ((true,M.Cached.en z0) ::  k1_.map fun c=>(false,[c])) [(false,[.ro (.bool r)])]) (r:Int) (h:hZ p0 p1=some r):Sc 389 [(false,[.sl (List.map M.Cached.en p0)]),(false,[.fn f1_ k1_])] [rI r]:=by
 unfold hZ at h
 simp only [EN]
 refine sgn 19 [.tmp 4] Tryz.func389 fun base wd => ?_
 refine sq (rn ?_)
 refine an (sq (sq (rn ?_)))
 refine an (bk ?_)
 refine mR (fun m s=>∃v8:Int,s.t 0=vL M.Cached.en p0∧s.t 1 = .v false [.dat (.fn f1_ k1_)]∧s.t 7=vI (List.length p0:Int)∧s.t 8=vI v8∧bR p0 p1 m v8=some r) fuel ?_ ?_
 ·refine ⟨0,?_,?_,?_,?_,h⟩
  all_goals simp +decide only [F,reduceIte,Nat.reduceAdd,Bool.not_true,Bool.not_false,EN, *,-h]
 rintro mL1 s1 ⟨v8,f2,f3,f4,f5,h⟩
 rcases mL1 with _ | mL1
 ·exact absurd h (by simp [bR])
 simp only [bR] at h
 refine sq (rn ?_)
 refine an (sq ?_)
 rcases aBM (decide (v8<(List.length p0:Int))) with b6 | b6
 ·replace h:=bG b6 h
  refine cf (xt (nI (oS (aAK (an (sq (rn ?_)))))))
  refine an (rt ?_)
  cases h
  simp [Ret,TB,EN, *]
 replace h:=bH b6 h
 refine ct (sk (an (sq (bk (sq (rn ?_))))))
 refine an (sq ?_)
 obtain ⟨x7,h8,h⟩:=bind_some h
 obtain ⟨q9,q10,q11⟩:=aT h8
 obtain ⟨x12,h13,h⟩:=bind_some h
 refine rn1 (hp1 x7 x12 h13) ?_
 refine an ?_
 rcases cF x12 with b14 | b14
 ·replace h:=bH b14 h
  refine ct (sq (rn ?_))
  refine an (rt ?_)
  cases h
  simp [Ret,TB,EN, *]
 replace h:=bG b14 h
 refine cf (sk (ab (an (rn ?_))))
 refine yH ⟨mL1,by omega,(IntKind.i64.wrap (v8+1)),?_,?_,?_,?_,h⟩
 all_goals simp +decide only [F,reduceIte,Nat.reduceAdd,Bool.not_true,Bool.not_false,EN, *,-h]
instance:bC 389 (type_of% @aQi):=⟨@aQi⟩
theorem aRx (p0 p1 p2 r) (h:vC p0 p1 p2=some r):Sc 323 [aX (M.Cache.en p0),aS p1,aS p2] [rI r]:=by
 unfold vC at h
 simp only [EN]
 refine sgn 11 [.tmp 6] Tryz.func323 fun base wd => ?_
 refine sq (rn ?_)
 refine an (sq ?_)
 obtain ⟨x1,h2,h⟩:=bind_some h
 refine rn1 (aQi p0.Entries (fun z0=>tL z0 p1 p2) 390 [.ptr [.str p1],.ptr [.str p2]] (fun z0 r hr=>aQ5 z0 p1 p2 r hr) x1 h2) ?_
 refine an (rt ?_)
 cases h
 simp [Ret,TB,EN, *]
instance:bC 323 (type_of% @aRx):=⟨@aRx⟩
theorem aSq (p0 r) (h:mB p0=some r):Sc 381 [aX (M.Response.en p0)] [rB r]:=by
 unfold mB at h
 exact sgo 22 [.tmp 2] Tryz.func381
instance:bC 381 (type_of% @aSq):=⟨@aSq⟩
theorem aTg (p0 r) (h:qC p0=some r):Sc 319 [aX (M.aM.en p0)] [rB r]:=by
 have i1:=inv fun m s=>∃v10:Int,(s.t 1=vP 1 1 0∧s.t 8=vL M.Cache.en p0.Caches∧s.t 9=vI (List.length p0.Caches:Int)∧s.t 10=vI v10∧s.h 1=(1,oX 110 (M.aM.en p0)))∧eQ p0 m v10=some r
 have e1:=@eQ.eq_2
 have i2:=fun (v10:Int) (x8:M.Cache) (k25:Int→Option Bool) (s1:St)=>inv fun m s=>∃v44_L2:Int,(s.t 1=vP 1 1 0∧s.t 4=vP 4 ((s1.h 4).1+1) 0∧s.t 8=vL M.Cache.en p0.Caches∧s.t 9=vI (List.length p0.Caches:Int)∧s.t 10=vI v10∧s.t 42=vL M.Cached.en x8.Entries∧s.t 43=vI (List.length x8.Entries:Int)∧s.t 44=vI v44_L2∧s.h 1=(1,oX 110 (M.aM.en p0))∧s.h 4=(((s1.h 4).1+1),oX 286 (M.Cache.en x8)))∧eR x8 k25 m v44_L2=some r
 have e2:=@eR.eq_2
 have i3:=fun (v10:Int) (x8:M.Cache) (k57:Int→Option Bool) (s1:St)=>inv fun m s=>∃v44_L3:Int,(s.t 1=vP 1 1 0∧s.t 4=vP 4 ((s1.h 4).1+1) 0∧s.t 8=vL M.Cache.en p0.Caches∧s.t 9=vI (List.length p0.Caches:Int)∧s.t 10=vI v10∧s.t 42=vL M.Cached.en x8.Entries∧s.t 43=vI (List.length x8.Entries:Int)∧s.t 44=vI v44_L3∧s.h 1=(1,oX 110 (M.aM.en p0))∧s.h 4=(((s1.h 4).1+1),oX 286 (M.Cache.en x8)))∧eE x8 k57 m v44_L3=some r
 have e3:=@eE.eq_2
 unfold qC at h
 exact sgo 81 [.tmp 2] Tryz.func319
instance:bC 319 (type_of% @aTg):=⟨@aTg⟩
theorem aSF (p0 r) (h:sX p0=some r):Sc 406 [aS p0] [rB r]:=by
 have i1:=inv fun m s=>∃v3:Int,(s.t 0=vS p0∧s.t 3=vI v3)∧dR p0 m v3=some r
 have e1:=@dR.eq_2
 unfold sX at h
 exact sgo 36 [.tmp 2] Tryz.func406
instance:bC 406 (type_of% @aSF):=⟨@aSF⟩
theorem aRJ (p0 r) (h:oJ p0=some r):Sc 345 [aX (M.Key.en p0)] [rB r]:=by
 unfold oJ at h
 exact sgo 39 [.tmp 2] Tryz.func345
instance:bC 345 (type_of% @aRJ):=⟨@aRJ⟩
theorem aUy (p0 r) (h:qI p0=some r):Sc 346 [aX (M.aU.en p0)] [rB r]:=by
 have i1:=inv fun m s=>∃v8:Int,(s.t 1=vP 1 1 0∧s.t 6=vL M.Field.en p0.Fields∧s.t 7=vI (List.length p0.Fields:Int)∧s.t 8=vI v8∧s.h 1=(1,oX 355 (M.aU.en p0)))∧gA p0 m v8=some r
 have e1:=@gA.eq_2
 unfold qI at h
 exact sgo 44 [.tmp 2] Tryz.func346
instance:bC 346 (type_of% @aUy):=⟨@aUy⟩
theorem aT2 (p0 p1 r) (h:oG p0 p1=some r):Sc 407 [aI p0,aI p1] [rI r]:=by
 unfold oG at h
 exact sgo 13 [.tmp 4] Tryz.func407
instance:bC 407 (type_of% @aT2):=⟨@aT2⟩
set_option maxRecDepth 100000 in
set_option maxHeartbeats 4000000 in
theorem aTO (p0:ByteArray) (p1:ByteArray) (r:Int) (h:jI p0 p1=some r):nH Tryz.prog 450 [(false,[.str p0]),(false,[.str p1])] [(false,[.ro (.int .i64 r)])]:=by
 refine aKi Tryz.func450 rfl (by decide +kernel) fun w => ?_
 cases h
 go_enter Tryz.func450,Tryz.ntmps450
 go_wp2
 rw [run_callFunc_extern Tryz.func473 (by kernel_rfl) (by kernel_rfl) (by kernel_rfl) (e:=Extern.BytealgCompare.compare) (by kernel_rfl),Lib.run_compareString]
 simp only [Result.andThen]
 rw [Oper.upon_value]
 go_wp2
 go_ret
 exact ⟨rfl,rfl⟩
instance:bC 450 (type_of% @aTO):=⟨@aTO⟩
theorem aUR (p0 p1 r) (h:xX p0 p1=some r):Sc 408 [aS p0,aS p1] [rI r]:=by
 unfold xX at h
 exact sgo 8 [.tmp 4] Tryz.func408
instance:bC 408 (type_of% @aUR):=⟨@aUR⟩
theorem aSH (p0 p1 r) (h:kU p0 p1=some r):Sc 347 [aX (M.Key.en p0),aX (M.Key.en p1)] [rI r]:=by
 unfold kU at h
 exact sgo 36 [.tmp 4] Tryz.func347
instance:bC 347 (type_of% @aSH):=⟨@aSH⟩
theorem aPX (p0 r) (h:pN p0=some r):Sc 264 [aX (M.aH.en p0)] [rB r]:=by
 have i1:=inv fun m s=>∃v8:Int,(s.t 1=vP 1 1 0∧s.t 6=vL M.Item.en p0.Items∧s.t 7=vI (List.length p0.Items:Int)∧s.t 8=vI v8∧s.h 1=(1,oX 98 (M.aH.en p0)))∧gY p0 m v8=some r
 have e1:=@gY.eq_2
 unfold pN at h
 exact sgo 55 [.tmp 2] Tryz.func264
instance:bC 264 (type_of% @aPX):=⟨@aPX⟩
theorem aQx (p0 c0 r) (h:oM p0 c0=some r):Sc 435 [aX (M.aH.en p0),(false,[.ptr [.str c0]])] [rB r]:=by
 unfold oM at h
 exact sgo 8 [.tmp 3] Tryz.func435
instance:bC 435 (type_of% @aQx):=⟨@aQx⟩
theorem aQ1 (p0:List M.aH) (p1:M.aH→Option Bool) (f1_:FuncId) (k1_:List D) (hp1 : ∀z0 r,p1 z0=some r→nH Tryz.prog f1_ ((true,M.aH.en z0) ::  k1_.map fun c=>(false,[c])) [(false,[.ro (.bool r)])]) (r:Int) (h:iO p0 p1=some r):Sc 434 [(false,[.sl (List.map M.aH.en p0)]),(false,[.fn f1_ k1_])] [rI r]:=by
 unfold iO at h
 simp only [EN]
 refine sgn 19 [.tmp 4] Tryz.func434 fun base wd => ?_
 refine sq (rn ?_)
 refine an (sq (sq (rn ?_)))
 refine an (bk ?_)
 refine mR (fun m s=>∃v8:Int,s.t 0=vL M.aH.en p0∧s.t 1 = .v false [.dat (.fn f1_ k1_)]∧s.t 7=vI (List.length p0:Int)∧s.t 8=vI v8∧bZ p0 p1 m v8=some r) fuel ?_ ?_
 ·refine ⟨0,?_,?_,?_,?_,h⟩
  all_goals simp +decide only [F,reduceIte,Nat.reduceAdd,Bool.not_true,Bool.not_false,EN, *,-h]
 rintro mL1 s1 ⟨v8,f2,f3,f4,f5,h⟩
 rcases mL1 with _ | mL1
 ·exact absurd h (by simp [bZ])
 simp only [bZ] at h
 refine sq (rn ?_)
 refine an (sq ?_)
 rcases aBM (decide (v8<(List.length p0:Int))) with b6 | b6
 ·replace h:=bG b6 h
  refine cf (xt (nI (oS (aAK (an (sq (rn ?_)))))))
  refine an (rt ?_)
  cases h
  simp [Ret,TB,EN, *]
 replace h:=bH b6 h
 refine ct (sk (an (sq (bk (sq (rn ?_))))))
 refine an (sq ?_)
 obtain ⟨x7,h8,h⟩:=bind_some h
 obtain ⟨q9,q10,q11⟩:=aT h8
 obtain ⟨x12,h13,h⟩:=bind_some h
 refine rn1 (hp1 x7 x12 h13) ?_
 refine an ?_
 rcases cF x12 with b14 | b14
 ·replace h:=bH b14 h
  refine ct (sq (rn ?_))
  refine an (rt ?_)
  cases h
  simp [Ret,TB,EN, *]
 replace h:=bG b14 h
 refine cf (sk (ab (an (rn ?_))))
 refine yH ⟨mL1,by omega,(IntKind.i64.wrap (v8+1)),?_,?_,?_,?_,h⟩
 all_goals simp +decide only [F,reduceIte,Nat.reduceAdd,Bool.not_true,Bool.not_false,EN, *,-h]
instance:bC 434 (type_of% @aQ1):=⟨@aQ1⟩
theorem aQT (p0 p1 r) (h:tF p0 p1=some r):Sc 382 [aX (M.Database.en p0),aS p1] [rI r]:=by
 unfold tF at h
 simp only [EN]
 refine sgn 9 [.tmp 4] Tryz.func382 fun base wd => ?_
 refine sq (rn ?_)
 refine an (sq ?_)
 obtain ⟨x1,h2,h⟩:=bind_some h
 refine rn1 (aQ1 p0.Stores (fun z0=>oM z0 p1) 435 [.ptr [.str p1]] (fun z0 r hr=>aQx z0 p1 r hr) x1 h2) ?_
 refine an (rt ?_)
 cases h
 simp [Ret,TB,EN, *]
instance:bC 382 (type_of% @aQT):=⟨@aQT⟩
theorem aUo (p0 p1 r) (h:iY p0 p1=some r):Sc 436 [aL M.aD.en p0,aX (M.aD.en p1)] [rI r]:=by
 have i1:=inv fun m s=>∃v8:Int,(s.t 0=vL M.aD.en p0∧s.t 3=vP 3 1 0∧s.t 7=vI (List.length p0:Int)∧s.t 8=vI v8∧s.h 3=(1,oX 383 (M.aD.en p1)))∧dF p0 p1 m v8=some r
 have e1:=@dF.eq_2
 unfold iY at h
 exact sgo 19 [.tmp 4] Tryz.func436
instance:bC 436 (type_of% @aUo):=⟨@aUo⟩
theorem aQy (p0 p1 r) (h:gZ p0 p1=some r):Sc 383 [aL M.aD.en p0,aX (M.aD.en p1)] [rB r]:=by
 unfold gZ at h
 exact sgo 9 [.tmp 4] Tryz.func383
instance:bC 383 (type_of% @aQy):=⟨@aQy⟩
theorem aQY (p0 c0 r) (h:sP p0 c0=some r):Sc 428 [aX (M.Field.en p0),(false,[.ptr [.str c0]])] [rB r]:=by
 unfold sP at h
 exact sgo 8 [.tmp 3] Tryz.func428
instance:bC 428 (type_of% @aQY):=⟨@aQY⟩
end Go.Proofs.YtnhpbpnhmapeeaaGreat.gen
