/-
  Helper text. No conditions.
-/
import Derived.Test.YtimblbmbfdopgaaGreatOpenPageTi
import Derived.Test.YtimblbmbfdopgaaGreatOpenPageWlib
set_option linter.unusedVariables false
set_option linter.unusedSimpArgs false
namespace Go.Proofs.YtimblbmbfdopgaaGreat.gen
open Go Go.Sh
set_option maxRecDepth 20000
set_option maxHeartbeats 4000000
theorem aVk (p0 r) (h:iG p0=some r):Sc 409 [aL enB p0] [rW 5 1 enB r]:=by
 unfold iG at h
 exact sgo 6 [.tmp 2] Tryz.func409
instance:bD 409 (type_of% @aVk):=⟨@aVk⟩
theorem aXi (p0 r) (h:iN p0=some r):Sc 463 [aX (M.Response.en p0)] [(true,M.Response.rs r)]:=by
 unfold iN at h
 exact sgo 8 [.cell 2 277] Tryz.func463
instance:bD 463 (type_of% @aXi):=⟨@aXi⟩
theorem aU4 (p0 r) (h:nY p0=some r):Sc 328 [aX (M.aO.en p0)] [(true,M.aO.rs r)]:=by
 have i1:=aLX [.b 3 0 7050100 354 2] fun m s=>∃v13:Int,∃r50100:List M.Cache,∃u50100:Nat,(s.t 2=vP 2 1 0∧s.t 3=vP 3 1 0∧s.t 11=vL M.Cache.en p0.Caches∧s.t 12=vI (List.length p0.Caches:Int)∧s.t 13=vI v13∧s.h 2=(1,oB 80 [.nil])∧s.h 3=(1,oB 80 [.row 7050100 u50100])∧s.h 7050100=(u50100,oW 354 2 M.Cache.en r50100))∧eA p0 m v13 r50100=some r
 have e1:=@eA.eq_2
 have i2:=fun (v13:Int) (r50100:List M.Cache) (x11:M.Cache) (k17:Int→List M.Cached→Option M.aO) (s1:St) (u50100:Nat)=>aLX [.b 6 1 7050000 361 7] fun m s=>∃v23_L2:Int,∃r50000_L2:List M.Cached,∃u50000_L2:Nat,(s.t 2=vP 2 1 0∧s.t 3=vP 3 1 0∧s.t 6=vP 6 ((s1.h 6).1+1) 0∧s.t 11=vL M.Cache.en p0.Caches∧s.t 12=vI (List.length p0.Caches:Int)∧s.t 13=vI v13∧s.t 21=vL M.Cached.en x11.Entries∧s.t 22=vI (List.length x11.Entries:Int)∧s.t 23=vI v23_L2∧s.h 2=(1,oB 80 [.nil])∧s.h 3=(1,oB 80 [.row 7050100 u50100])∧s.h 6=(((s1.h 6).1+1),oB 354 [cI x11.Version,.row 7050000 u50000_L2])∧s.h 7050000=(u50000_L2,oW 361 7 M.Cached.en r50000_L2)∧s.h 7050100=(u50100,oW 354 2 M.Cache.en r50100))∧fS x11 k17 m v23_L2 r50000_L2=some r
 have e2:=@fS.eq_2
 unfold nY at h
 exact sgo 46 [.cell 2 80] Tryz.func328
instance:bD 328 (type_of% @aU4):=⟨@aU4⟩
theorem aU2 (p0 r) (h:tK p0=some r):Sc 261 [aX (M.aW.en p0)] [(true,M.aW.rs r)]:=by
 unfold tK at h
 exact sgo 8 [.cell 2 154] Tryz.func261
instance:bD 261 (type_of% @aU2):=⟨@aU2⟩
theorem aYR (p0 r) (h:uD p0=some r):Sc 505 [aX (M.Item.en p0)] [(true,M.Item.rs r)]:=by
 unfold uD at h
 exact sgo 9 [.cell 2 310] Tryz.func505
instance:bD 505 (type_of% @aYR):=⟨@aYR⟩
theorem aUH (p0 r) (h:mK p0=some r):Sc 394 [aX (M.aH.en p0)] [(true,M.aH.rs r)]:=by
 have i1:=aLX [.b 3 1 7050000 310 4] fun m s=>∃v14:Int,∃r50000:List M.Item,∃u50000:Nat,(s.t 2=vP 2 1 0∧s.t 3=vP 3 1 0∧s.t 12=vL M.Item.en p0.Items∧s.t 13=vI (List.length p0.Items:Int)∧s.t 14=vI v14∧s.h 2=(1,oB 89 [cS (⟨#[]⟩:ByteArray),.nil,cI 0])∧s.h 3=(1,oB 89 [cS p0.Name,.row 7050000 u50000,cI p0.Auto])∧s.h 7050000=(u50000,oW 310 4 M.Item.en r50000))∧iK p0 m v14 r50000=some r
 have e1:=@iK.eq_2
 unfold mK at h
 exact sgo 27 [.cell 2 89] Tryz.func394
instance:bD 394 (type_of% @aUH):=⟨@aUH⟩
theorem aV2 (p0 r) (h:oJ p0=some r):Sc 255 [aX (M.Database.en p0)] [(true,M.Database.rs r)]:=by
 have i1:=aLX [.b 3 2 7050000 89 3] fun m s=>∃v18:Int,∃r50000:List M.aH,∃u50000:Nat,(s.t 2=vP 2 1 0∧s.t 3=vP 3 1 0∧s.t 16=vL M.aH.en p0.Stores∧s.t 17=vI (List.length p0.Stores:Int)∧s.t 18=vI v18∧s.h 2=(1,aSx)∧s.h 3=(1,oB 84 [cS p0.Name,cI p0.Version,.row 7050000 u50000,.row 100010 2])∧s.h 100010=(2,oW 375 2 M.aE.en p0.Unique)∧s.h 7050000=(u50000,oW 89 3 M.aH.en r50000))∧fU p0 m v18 r50000=some r
 have e1:=@fU.eq_2
 unfold oJ at h
 exact sgo 31 [.cell 2 84] Tryz.func255
instance:bD 255 (type_of% @aV2):=⟨@aV2⟩
theorem aTv (p0 r) (h:yV p0=some r):Sc 265 [aX (M.bC.en p0)] [(true,M.bC.rs r)]:=by
 unfold yV at h
 exact sgo 12 [.cell 2 86] Tryz.func265
instance:bD 265 (type_of% @aTv):=⟨@aTv⟩
theorem aW7 (p0 r) (h:uF p0=some r):Sc 546 [aX (M.aR.en p0)] [(true,M.aR.rs r)]:=by
 unfold uF at h
 exact sgo 9 [.cell 2 92] Tryz.func546
instance:bD 546 (type_of% @aW7):=⟨@aW7⟩
theorem aXx (p0 r) (h:zR p0=some r):Sc 464 [aX (M.Sync.en p0)] [(true,M.Sync.rs r)]:=by
 unfold zR at h
 exact sgo 8 [.cell 2 94] Tryz.func464
instance:bD 464 (type_of% @aXx):=⟨@aXx⟩
theorem aUF (p0 r) (h:rE p0=some r):Sc 329 [aX (M.aD.en p0)] [(true,M.aD.rs r)]:=by
 unfold rE at h
 exact sgo 12 [.cell 2 96] Tryz.func329
instance:bD 329 (type_of% @aUF):=⟨@aUF⟩
theorem aUU (p0 r) (h:gP p0=some r):Sc 150 [aX (M.aC.en p0)] [(true,M.aC.rs r)]:=by
 unfold gP at h
 exact sgo 16 [.cell 2 98] Tryz.func150
instance:bD 150 (type_of% @aUU):=⟨@aUU⟩
theorem aWp (p0 r) (h:bT p0=some r):Sc 149 [aX (M.aA.en p0)] [(true,M.aA.rs r)]:=by
 have i1:=aLX [.b 3 0 7050000 98 24] fun m s=>∃v10:Int,∃r50000:List M.aC,∃u50000:Nat,(s.t 2=vP 2 1 0∧s.t 3=vP 3 1 0∧s.t 8=vL M.aC.en p0.Buckets∧s.t 9=vI (List.length p0.Buckets:Int)∧s.t 10=vI v10∧s.h 2=(1,oB 47 [.nil])∧s.h 3=(1,oB 47 [.row 7050000 u50000])∧s.h 7050000=(u50000,oW 98 24 M.aC.en r50000))∧gF p0 m v10 r50000=some r
 have e1:=@gF.eq_2
 unfold bT at h
 exact sgo 23 [.cell 2 47] Tryz.func149
instance:bD 149 (type_of% @aWp):=⟨@aWp⟩
theorem aTx (p0 r) (h:qZ p0=some r):Sc 484 [aX (M.Machine.en p0)] [(true,M.Machine.rs r)]:=by
 unfold qZ at h
 exact sgo 16 [.cell 2 65] Tryz.func484
instance:bD 484 (type_of% @aTx):=⟨@aTx⟩
theorem aUb (p0 r) (h:iD p0=some r):Sc 367 [aX (M.bH.en p0)] [(true,M.bH.rs r)]:=by
 unfold iD at h
 exact sgo 13 [.cell 2 67] Tryz.func367
instance:bD 367 (type_of% @aUb):=⟨@aUb⟩
theorem aU7 (p0 r) (h:vU p0=some r):Sc 250 [aL M.bH.en p0] [rW 67 11 M.bH.en r]:=by
 have i1:=inv fun m s=>∃v9:Int,∃r6:List M.bH,∃u6:Nat,(s.t 3=vR 100006 u6∧s.t 7=vL M.bH.en p0∧s.t 8=vI (List.length p0:Int)∧s.t 9=vI v9∧s.h 100006=(u6,oW 67 11 M.bH.en r6))∧iQ p0 m v9 r6=some r
 have e1:=@iQ.eq_2
 unfold vU at h
 exact sgo 20 [.tmp 2] Tryz.func250
instance:bD 250 (type_of% @aU7):=⟨@aU7⟩
theorem aVS (p0 r) (h:vX p0=some r):Sc 251 [aX (M.aQ.en p0)] [(true,M.aQ.rs r)]:=by
 unfold vX at h
 exact sgo 8 [.cell 2 51] Tryz.func251
instance:bD 251 (type_of% @aVS):=⟨@aVS⟩
theorem aXN (p0 r) (h:rD p0=some r):Sc 252 [aX (M.Channel.en p0)] [(true,M.Channel.rs r)]:=by
 unfold rD at h
 exact sgo 8 [.cell 2 54] Tryz.func252
instance:bD 252 (type_of% @aXN):=⟨@aXN⟩
theorem aWY (p0 r) (h:zL p0=some r):Sc 253 [aX (M.Site.en p0)] [(true,M.Site.rs r)]:=by
 unfold zL at h
 exact sgo 9 [.cell 2 131] Tryz.func253
instance:bD 253 (type_of% @aWY):=⟨@aWY⟩
theorem aX2 (p0 r) (h:tG p0=some r):Sc 254 [aX (M.Server.en p0)] [(true,M.Server.rs r)]:=by
 unfold tG at h
 exact sgo 15 [.cell 2 234] Tryz.func254
instance:bD 254 (type_of% @aX2):=⟨@aX2⟩
theorem c88 (p0 r) (h:iF p0=some r):Sc 88 [aX (M.World.en p0)] [(true,M.World.rs r)]:=by
 have i1:=fun (x1:M.aA) (x3:(List M.bH)) (x5:M.aQ) (x7:M.Channel)=>aLX [.b 3 8 7050000 131 4] fun m s=>∃v29:Int,∃r50000:List M.Site,∃u50000:Nat,(s.t 1=vP 1 1 0∧s.t 2=vP 2 1 0∧s.t 3=vP 3 1 0∧s.t 27=vL M.Site.en p0.Sites∧s.t 28=vI (List.length p0.Sites:Int)∧s.t 29=vI v29∧s.h 1=(1,oX 58 (M.World.en p0))∧s.h 2=(1,aO8)∧s.h 3=(1,oB 58 [cI p0.Now,cB p0.Online,cI p0.Device,.row 100011 1,.row 100015 1,cI p0.NextPage,.row 100019 1,.row 100023 1,.row 7050000 u50000,cL M.Server.en p0.Servers])∧s.h 100011=(1,oW 98 24 M.aC.en x1.Buckets)∧s.h 100015=(1,oW 67 11 M.bH.en x3)∧s.h 100019=(1,oW 249 4 M.cJ.en x5.Locks)∧s.h 100023=(1,oW 252 3 M.eU.en x7.Mails)∧s.h 7050000=(u50000,oW 131 4 M.Site.en r50000))∧gI p0 x1 x3 x5 x7 m v29 r50000=some r
 have e1:=@gI.eq_2
 have i2:=fun (x1:M.aA) (x3:(List M.bH)) (x5:M.aQ) (x7:M.Channel) (r50000:List M.Site) (u50000:Nat)=>aLX [.b 3 9 7050100 234 5] fun m s=>∃v45:Int,∃r50100:List M.Server,∃u50100:Nat,(s.t 2=vP 2 1 0∧s.t 3=vP 3 1 0∧s.t 43=vL M.Server.en p0.Servers∧s.t 44=vI (List.length p0.Servers:Int)∧s.t 45=vI v45∧s.h 2=(1,aO8)∧s.h 3=(1,oB 58 [cI p0.Now,cB p0.Online,cI p0.Device,.row 100011 1,.row 100015 1,cI p0.NextPage,.row 100019 1,.row 100023 1,.row 7050000 u50000,.row 7050100 u50100])∧s.h 100011=(1,oW 98 24 M.aC.en x1.Buckets)∧s.h 100015=(1,oW 67 11 M.bH.en x3)∧s.h 100019=(1,oW 249 4 M.cJ.en x5.Locks)∧s.h 100023=(1,oW 252 3 M.eU.en x7.Mails)∧s.h 7050000=(u50000,oW 131 4 M.Site.en r50000)∧s.h 7050100=(u50100,oW 234 5 M.Server.en r50100))∧fE p0 x1 x3 x5 x7 r50000 m v45 r50100=some r
 have e2:=@fE.eq_2
 unfold iF at h
 exact sgo 58 [.cell 2 58] Tryz.func88
instance:bD 88 (type_of% @c88):=⟨@c88⟩
theorem aKR (p0 p1 p2 r) (h:aY p0 p1 p2=some r):Sc 140 [aI p0,aI p1,aI p2] [rB r]:=by
 unfold aY at h
 exact sgo 15 [.tmp 6] Tryz.func140
instance:bD 140 (type_of% @aKR):=⟨@aKR⟩
theorem aXM (p0 p1 p2 r) (h:aAD p0 p1 p2=some r):Sc 315 [aS p0,aI p1,aB p2] [rB r]:=by
 have i1:=inv fun m s=>∃v7:Int,(s.t 0=vS p0∧s.t 1=vI p1∧s.t 2=vB p2∧s.t 7=vI v7)∧gL p0 p1 p2 m v7=some r
 have e1:=@gL.eq_2
 unfold aAD at h
 exact sgo 38 [.tmp 6] Tryz.func315
instance:bD 315 (type_of% @aXM):=⟨@aXM⟩
theorem aRk (p0 r) (h:bR p0=some r):Sc 135 [aS p0] [rB r]:=by
 unfold bR at h
 exact sgo 5 [.tmp 2] Tryz.func135
instance:bD 135 (type_of% @aRk):=⟨@aRk⟩
theorem aU9 (p0 r) (h:rK p0=some r):Sc 136 [aX (M.Registration.en p0)] [rB r]:=by
 unfold rK at h
 simp only [EN]
 refine sgn 37 [.tmp 2] Tryz.func136 fun base wd => ?_
 refine sq (rn ?_)
 refine an (sq (rn ?_))
 refine an (sq (sq (rn ?_)))
 refine an (bk ?_)
 refine cu (fun s=>s.t 1=vP 1 1 0∧s.t 3=vI 0∧s.t 12=vR 100012 1∧s.t 13=vI ((3:Nat):Int)∧s.t 14=vI 0∧s.h 1=(1,oX 77 (M.Registration.en p0))∧s.h 100012=(1,oW 3 1 enI ([p0.Active,p0.Waiting,p0.Installing]))∧True) ?_
 rintro s1 ⟨f2,f3,f4,f5,f6,f7,f8,_⟩
 refine aC5 (fun m s=>∃v3:Int,∃v14:Int,s.t 1=vP 1 1 0∧s.t 3=vI v3∧s.t 12=vR 100012 1∧s.t 13=vI ((3:Nat):Int)∧s.t 14=vI v14∧s.h 1=(1,oX 77 (M.Registration.en p0))∧s.h 100012=(1,oW 3 1 enI ([p0.Active,p0.Waiting,p0.Installing]))∧dC p0 m v3 v14=some r) fuel ?_ ?_
 ·refine ⟨0,0,?_,?_,?_,?_,?_,?_,?_,h⟩
  all_goals simp +decide only [F,reduceIte,Nat.reduceAdd,qB,qC,EN, *,-h]
 rintro mL1 s9 ⟨v3,v14,f10,f11,f12,f13,f14,f15,f16,h⟩
 rcases mL1 with _ | mL1
 ·exact absurd h (by simp [dC])
 simp only [dC] at h
 refine sq (rn ?_)
 refine an (sq ?_)
 rcases aEW (decide (v14<((3:Nat):Int))) with b17 | b17
 ·replace h:=bI b17 h
  refine cf (xt (aEz (aEh (aIT (an (sq ?_))))))
  obtain ⟨x28,h29,h⟩:=bind_some h
  refine rn1 (aRk _ _ h29) ?_
  refine an (rt ?_)
  cases h
  simp [Ret,TB,EN, *]
 replace h:=bJ b17 h
 refine ct (sk (an (sq (bk (sq ?_)))))
 obtain ⟨x18,h19,h⟩:=bind_some h
 obtain ⟨q20,q21,q22⟩:=aV h19
 have q20m:=congrArg (Option.map enI) (show ([p0.Active,p0.Waiting,p0.Installing])[v14.toNat]? = some x18 by assumption)
 simp only [←List.getElem?_map,List.map_cons,List.map_nil,Option.map_some,EN] at q20m
 simp only [qJ,qK,Nat.reduceAdd] at q22
 refine rn ?_
 refine an (sq (sq ?_))
 obtain ⟨x23,h24,h⟩:=bind_some h
 rcases bS (!x23) with b25 | b25
 ·replace h:=bJ b25 h
  refine rn1 (aKR _ _ _ _ h24) ?_
  refine an (ct (sq (rn ?_)))
  refine an (rt ?_)
  cases h
  simp [Ret,TB,EN, *]
 replace h:=bI b25 h
 rcases aEW (x18 != 0) with b26 | b26
 ·replace h:=bI b26 h
  refine rn1 (aKR _ _ _ _ h24) ?_
  refine an (cf (sk (an (rn ?_))))
  refine ab (an (rn ?_))
  refine mG ⟨mL1,by omega,(if x18>v3 then x18 else v3),(IntKind.i64.wrap (v14+1)),?_,?_,?_,?_,?_,?_,?_,h⟩
  all_goals simp +decide only [F,reduceIte,Nat.reduceAdd,qB,qC,EN, *,-h]
 replace h:=bJ b26 h
 refine rn1 (aKR _ _ _ _ h24) ?_
 refine an ?_
 rcases bS (decide (x18≤v3)) with b27 | b27
 ·replace h:=bJ b27 h
  refine ct (sq (rn ?_))
  refine an (rt ?_)
  cases h
  simp [Ret,TB,EN, *]
 replace h:=bI b27 h
 refine cf (sk (an (rn ?_)))
 refine ab (an (rn ?_))
 refine mG ⟨mL1,by omega,(if x18>v3 then x18 else v3),(IntKind.i64.wrap (v14+1)),?_,?_,?_,?_,?_,?_,?_,h⟩
 all_goals simp +decide only [F,reduceIte,Nat.reduceAdd,qB,qC,EN, *,-h]
instance:bD 136 (type_of% @aU9):=⟨@aU9⟩
theorem aSQ (p0 c0 c1 r) (h:oQ p0 c0 c1=some r):Sc 453 [aX (M.Cached.en p0),(false,[.ptr [.str c0]]),(false,[.ptr [.str c1]])] [rB r]:=by
 unfold oQ at h
 exact sgo 15 [.tmp 4] Tryz.func453
instance:bD 453 (type_of% @aSQ):=⟨@aSQ⟩
theorem aSM (p0:List M.Cached) (p1:M.Cached→Option Bool) (f1_:FuncId) (k1_:List D) (hp1 : ∀z0 r,p1 z0=some r→mY Tryz.prog f1_ ((true,M.Cached.en z0) ::  k1_.map fun c=>(false,[c])) [(false,[.ro (.bool r)])]) (r:Int) (h:iC p0 p1=some r):Sc 452 [(false,[.sl (List.map M.Cached.en p0)]),(false,[.fn f1_ k1_])] [rI r]:=by
 unfold iC at h
 simp only [EN]
 refine sgn 19 [.tmp 4] Tryz.func452 fun base wd => ?_
 refine sq (rn ?_)
 refine an (sq (sq (rn ?_)))
 refine an (bk ?_)
 refine aC5 (fun m s=>∃v8:Int,s.t 0=vL M.Cached.en p0∧s.t 1 = .v false [.dat (.fn f1_ k1_)]∧s.t 7=vI (List.length p0:Int)∧s.t 8=vI v8∧bV p0 p1 m v8=some r) fuel ?_ ?_
 ·refine ⟨0,?_,?_,?_,?_,h⟩
  all_goals simp +decide only [F,reduceIte,Nat.reduceAdd,qB,qC,EN, *,-h]
 rintro mL1 s1 ⟨v8,f2,f3,f4,f5,h⟩
 rcases mL1 with _ | mL1
 ·exact absurd h (by simp [bV])
 simp only [bV] at h
 refine sq (rn ?_)
 refine an (sq ?_)
 rcases aEW (decide (v8<(List.length p0:Int))) with b6 | b6
 ·replace h:=bI b6 h
  refine cf (xt (aEz (aEh (aIT (an (sq (rn ?_)))))))
  refine an (rt ?_)
  cases h
  simp [Ret,TB,EN, *]
 replace h:=bJ b6 h
 refine ct (sk (an (sq (bk (sq (rn ?_))))))
 refine an (sq ?_)
 obtain ⟨x7,h8,h⟩:=bind_some h
 obtain ⟨q9,q10,q11⟩:=aV h8
 obtain ⟨x12,h13,h⟩:=bind_some h
 refine rn1 (hp1 x7 x12 h13) ?_
 refine an ?_
 rcases bS x12 with b14 | b14
 ·replace h:=bJ b14 h
  refine ct (sq (rn ?_))
  refine an (rt ?_)
  cases h
  simp [Ret,TB,EN, *]
 replace h:=bI b14 h
 refine cf (sk (ab (an (rn ?_))))
 refine mG ⟨mL1,by omega,(IntKind.i64.wrap (v8+1)),?_,?_,?_,?_,h⟩
 all_goals simp +decide only [F,reduceIte,Nat.reduceAdd,qB,qC,EN, *,-h]
instance:bD 452 (type_of% @aSM):=⟨@aSM⟩
theorem aX6 (p0 p1 p2 r) (h:kZ p0 p1 p2=some r):Sc 316 [aX (M.Cache.en p0),aS p1,aS p2] [rI r]:=by
 unfold kZ at h
 simp only [EN]
 refine sgn 11 [.tmp 6] Tryz.func316 fun base wd => ?_
 refine sq (rn ?_)
 refine an (sq ?_)
 obtain ⟨x1,h2,h⟩:=bind_some h
 refine rn1 (aSM p0.Entries (fun z0=>oQ z0 p1 p2) 453 [.ptr [.str p1],.ptr [.str p2]] (fun z0 r hr=>aSQ z0 p1 p2 r hr) x1 h2) ?_
 refine an (rt ?_)
 cases h
 simp [Ret,TB,EN, *]
instance:bD 316 (type_of% @aX6):=⟨@aX6⟩
theorem aYS (p0 r) (h:nB p0=some r):Sc 317 [aX (M.Response.en p0)] [rB r]:=by
 unfold nB at h
 exact sgo 22 [.tmp 2] Tryz.func317
instance:bD 317 (type_of% @aYS):=⟨@aYS⟩
theorem aW1 (p0 r) (h:sK p0=some r):Sc 137 [aX (M.aO.en p0)] [rB r]:=by
 have i1:=inv fun m s=>∃v10:Int,(s.t 1=vP 1 1 0∧s.t 8=vL M.Cache.en p0.Caches∧s.t 9=vI (List.length p0.Caches:Int)∧s.t 10=vI v10∧s.h 1=(1,oX 80 (M.aO.en p0)))∧eQ p0 m v10=some r
 have e1:=@eQ.eq_2
 have i2:=fun (v10:Int) (x8:M.Cache) (k25:Int→Option Bool) (s1:St)=>inv fun m s=>∃v44_L2:Int,(s.t 1=vP 1 1 0∧s.t 4=vP 4 ((s1.h 4).1+1) 0∧s.t 8=vL M.Cache.en p0.Caches∧s.t 9=vI (List.length p0.Caches:Int)∧s.t 10=vI v10∧s.t 42=vL M.Cached.en x8.Entries∧s.t 43=vI (List.length x8.Entries:Int)∧s.t 44=vI v44_L2∧s.h 1=(1,oX 80 (M.aO.en p0))∧s.h 4=(((s1.h 4).1+1),oX 354 (M.Cache.en x8)))∧eR x8 k25 m v44_L2=some r
 have e2:=@eR.eq_2
 have i3:=fun (v10:Int) (x8:M.Cache) (k57:Int→Option Bool) (s1:St)=>inv fun m s=>∃v44_L3:Int,(s.t 1=vP 1 1 0∧s.t 4=vP 4 ((s1.h 4).1+1) 0∧s.t 8=vL M.Cache.en p0.Caches∧s.t 9=vI (List.length p0.Caches:Int)∧s.t 10=vI v10∧s.t 42=vL M.Cached.en x8.Entries∧s.t 43=vI (List.length x8.Entries:Int)∧s.t 44=vI v44_L3∧s.h 1=(1,oX 80 (M.aO.en p0))∧s.h 4=(((s1.h 4).1+1),oX 354 (M.Cache.en x8)))∧eC x8 k57 m v44_L3=some r
 have e3:=@eC.eq_2
 unfold sK at h
 exact sgo 81 [.tmp 2] Tryz.func137
instance:bD 137 (type_of% @aW1):=⟨@aW1⟩
theorem aYT (p0 r) (h:vW p0=some r):Sc 538 [aS p0] [rB r]:=by
 have i1:=inv fun m s=>∃v3:Int,(s.t 0=vS p0∧s.t 3=vI v3)∧dR p0 m v3=some r
 have e1:=@dR.eq_2
 unfold vW at h
 exact sgo 36 [.tmp 2] Tryz.func538
instance:bD 538 (type_of% @aYT):=⟨@aYT⟩
theorem aUc (p0 r) (h:pO p0=some r):Sc 448 [aX (M.Key.en p0)] [rB r]:=by
 unfold pO at h
 exact sgo 39 [.tmp 2] Tryz.func448
instance:bD 448 (type_of% @aUc):=⟨@aUc⟩
theorem aVJ (p0 r) (h:sU p0=some r):Sc 264 [aX (M.aW.en p0)] [rB r]:=by
 have i1:=inv fun m s=>∃v8:Int,(s.t 1=vP 1 1 0∧s.t 6=vL M.Field.en p0.Fields∧s.t 7=vI (List.length p0.Fields:Int)∧s.t 8=vI v8∧s.h 1=(1,oX 154 (M.aW.en p0)))∧gE p0 m v8=some r
 have e1:=@gE.eq_2
 unfold sU at h
 exact sgo 44 [.tmp 2] Tryz.func264
instance:bD 264 (type_of% @aVJ):=⟨@aVJ⟩
theorem aWJ (p0 p1 r) (h:pL p0 p1=some r):Sc 539 [aI p0,aI p1] [rI r]:=by
 unfold pL at h
 exact sgo 13 [.tmp 4] Tryz.func539
instance:bD 539 (type_of% @aWJ):=⟨@aWJ⟩
set_option maxRecDepth 100000 in
set_option maxHeartbeats 4000000 in
theorem aUT (p0:ByteArray) (p1:ByteArray) (r:Int) (h:kC p0 p1=some r):mY Tryz.prog 596 [(false,[.str p0]),(false,[.str p1])] [(false,[.ro (.int .i64 r)])]:=by
 refine aLy Tryz.func596 rfl (by decide +kernel) fun w => ?_
 cases h
 go_enter Tryz.func596,Tryz.ntmps596
 go_wp2
 rw [run_callFunc_extern Tryz.func621 (by kernel_rfl) (by kernel_rfl) (by kernel_rfl) (e:=Extern.BytealgCompare.compare) (by kernel_rfl),Lib.run_compareString]
 simp only [Result.andThen]
 rw [Oper.upon_value]
 go_wp2
 go_ret
 exact ⟨rfl,rfl⟩
instance:bD 596 (type_of% @aUT):=⟨@aUT⟩
theorem aUV (p0 p1 r) (h:aAF p0 p1=some r):Sc 540 [aS p0,aS p1] [rI r]:=by
 unfold aAF at h
 exact sgo 8 [.tmp 4] Tryz.func540
instance:bD 540 (type_of% @aUV):=⟨@aUV⟩
theorem aVN (p0 p1 r) (h:lQ p0 p1=some r):Sc 454 [aX (M.Key.en p0),aX (M.Key.en p1)] [rI r]:=by
 unfold lQ at h
 exact sgo 36 [.tmp 4] Tryz.func454
instance:bD 454 (type_of% @aVN):=⟨@aVN⟩
theorem aXv (p0 r) (h:rV p0=some r):Sc 318 [aX (M.aH.en p0)] [rB r]:=by
 have i1:=inv fun m s=>∃v8:Int,(s.t 1=vP 1 1 0∧s.t 6=vL M.Item.en p0.Items∧s.t 7=vI (List.length p0.Items:Int)∧s.t 8=vI v8∧s.h 1=(1,oX 89 (M.aH.en p0)))∧gV p0 m v8=some r
 have e1:=@gV.eq_2
 unfold rV at h
 exact sgo 55 [.tmp 2] Tryz.func318
instance:bD 318 (type_of% @aXv):=⟨@aXv⟩
theorem aTL (p0 c0 r) (h:pR p0 c0=some r):Sc 402 [aX (M.aH.en p0),(false,[.ptr [.str c0]])] [rB r]:=by
 unfold pR at h
 exact sgo 8 [.tmp 3] Tryz.func402
instance:bD 402 (type_of% @aTL):=⟨@aTL⟩
theorem aSc (p0:List M.aH) (p1:M.aH→Option Bool) (f1_:FuncId) (k1_:List D) (hp1 : ∀z0 r,p1 z0=some r→mY Tryz.prog f1_ ((true,M.aH.en z0) ::  k1_.map fun c=>(false,[c])) [(false,[.ro (.bool r)])]) (r:Int) (h:iZ p0 p1=some r):Sc 401 [(false,[.sl (List.map M.aH.en p0)]),(false,[.fn f1_ k1_])] [rI r]:=by
 unfold iZ at h
 simp only [EN]
 refine sgn 19 [.tmp 4] Tryz.func401 fun base wd => ?_
 refine sq (rn ?_)
 refine an (sq (sq (rn ?_)))
 refine an (bk ?_)
 refine aC5 (fun m s=>∃v8:Int,s.t 0=vL M.aH.en p0∧s.t 1 = .v false [.dat (.fn f1_ k1_)]∧s.t 7=vI (List.length p0:Int)∧s.t 8=vI v8∧cE p0 p1 m v8=some r) fuel ?_ ?_
 ·refine ⟨0,?_,?_,?_,?_,h⟩
  all_goals simp +decide only [F,reduceIte,Nat.reduceAdd,qB,qC,EN, *,-h]
 rintro mL1 s1 ⟨v8,f2,f3,f4,f5,h⟩
 rcases mL1 with _ | mL1
 ·exact absurd h (by simp [cE])
 simp only [cE] at h
 refine sq (rn ?_)
 refine an (sq ?_)
 rcases aEW (decide (v8<(List.length p0:Int))) with b6 | b6
 ·replace h:=bI b6 h
  refine cf (xt (aEz (aEh (aIT (an (sq (rn ?_)))))))
  refine an (rt ?_)
  cases h
  simp [Ret,TB,EN, *]
 replace h:=bJ b6 h
 refine ct (sk (an (sq (bk (sq (rn ?_))))))
 refine an (sq ?_)
 obtain ⟨x7,h8,h⟩:=bind_some h
 obtain ⟨q9,q10,q11⟩:=aV h8
 obtain ⟨x12,h13,h⟩:=bind_some h
 refine rn1 (hp1 x7 x12 h13) ?_
 refine an ?_
 rcases bS x12 with b14 | b14
 ·replace h:=bJ b14 h
  refine ct (sq (rn ?_))
  refine an (rt ?_)
  cases h
  simp [Ret,TB,EN, *]
 replace h:=bI b14 h
 refine cf (sk (ab (an (rn ?_))))
 refine mG ⟨mL1,by omega,(IntKind.i64.wrap (v8+1)),?_,?_,?_,?_,h⟩
 all_goals simp +decide only [F,reduceIte,Nat.reduceAdd,qB,qC,EN, *,-h]
instance:bD 401 (type_of% @aSc):=⟨@aSc⟩
theorem aWf (p0 p1 r) (h:wC p0 p1=some r):Sc 259 [aX (M.Database.en p0),aS p1] [rI r]:=by
 unfold wC at h
 simp only [EN]
 refine sgn 9 [.tmp 4] Tryz.func259 fun base wd => ?_
 refine sq (rn ?_)
 refine an (sq ?_)
 obtain ⟨x1,h2,h⟩:=bind_some h
 refine rn1 (aSc p0.Stores (fun z0=>pR z0 p1) 402 [.ptr [.str p1]] (fun z0 r hr=>aTL z0 p1 r hr) x1 h2) ?_
 refine an (rt ?_)
 cases h
 simp [Ret,TB,EN, *]
instance:bD 259 (type_of% @aWf):=⟨@aWf⟩
theorem aUN (p0 p1 r) (h:jN p0 p1=some r):Sc 455 [aL M.aE.en p0,aX (M.aE.en p1)] [rI r]:=by
 have i1:=inv fun m s=>∃v8:Int,(s.t 0=vL M.aE.en p0∧s.t 3=vP 3 1 0∧s.t 7=vI (List.length p0:Int)∧s.t 8=vI v8∧s.h 3=(1,oX 375 (M.aE.en p1)))∧dJ p0 p1 m v8=some r
 have e1:=@dJ.eq_2
 unfold jN at h
 exact sgo 19 [.tmp 4] Tryz.func455
instance:bD 455 (type_of% @aUN):=⟨@aUN⟩
theorem aV1 (p0 p1 r) (h:gY p0 p1=some r):Sc 319 [aL M.aE.en p0,aX (M.aE.en p1)] [rB r]:=by
 unfold gY at h
 exact sgo 9 [.tmp 4] Tryz.func319
instance:bD 319 (type_of% @aV1):=⟨@aV1⟩
theorem aSV (p0 c0 r) (h:vM p0 c0=some r):Sc 406 [aX (M.Field.en p0),(false,[.ptr [.str c0]])] [rB r]:=by
 unfold vM at h
 exact sgo 8 [.tmp 3] Tryz.func406
instance:bD 406 (type_of% @aSV):=⟨@aSV⟩
theorem aSo (p0:List M.Field) (p1:M.Field→Option Bool) (f1_:FuncId) (k1_:List D) (hp1 : ∀z0 r,p1 z0=some r→mY Tryz.prog f1_ ((true,M.Field.en z0) ::  k1_.map fun c=>(false,[c])) [(false,[.ro (.bool r)])]) (r:Int) (h:jD p0 p1=some r):Sc 405 [(false,[.sl (List.map M.Field.en p0)]),(false,[.fn f1_ k1_])] [rI r]:=by
 unfold jD at h
 simp only [EN]
 refine sgn 19 [.tmp 4] Tryz.func405 fun base wd => ?_
 refine sq (rn ?_)
 refine an (sq (sq (rn ?_)))
 refine an (bk ?_)
 refine aC5 (fun m s=>∃v8:Int,s.t 0=vL M.Field.en p0∧s.t 1 = .v false [.dat (.fn f1_ k1_)]∧s.t 7=vI (List.length p0:Int)∧s.t 8=vI v8∧cA p0 p1 m v8=some r) fuel ?_ ?_
 ·refine ⟨0,?_,?_,?_,?_,h⟩
  all_goals simp +decide only [F,reduceIte,Nat.reduceAdd,qB,qC,EN, *,-h]
 rintro mL1 s1 ⟨v8,f2,f3,f4,f5,h⟩
 rcases mL1 with _ | mL1
 ·exact absurd h (by simp [cA])
 simp only [cA] at h
 refine sq (rn ?_)
 refine an (sq ?_)
 rcases aEW (decide (v8<(List.length p0:Int))) with b6 | b6
 ·replace h:=bI b6 h
  refine cf (xt (aEz (aEh (aIT (an (sq (rn ?_)))))))
  refine an (rt ?_)
  cases h
  simp [Ret,TB,EN, *]
 replace h:=bJ b6 h
 refine ct (sk (an (sq (bk (sq (rn ?_))))))
 refine an (sq ?_)
 obtain ⟨x7,h8,h⟩:=bind_some h
 obtain ⟨q9,q10,q11⟩:=aV h8
 obtain ⟨x12,h13,h⟩:=bind_some h
 refine rn1 (hp1 x7 x12 h13) ?_
 refine an ?_
 rcases bS x12 with b14 | b14
 ·replace h:=bJ b14 h
  refine ct (sq (rn ?_))
  refine an (rt ?_)
  cases h
  simp [Ret,TB,EN, *]
 replace h:=bI b14 h
 refine cf (sk (ab (an (rn ?_))))
 refine mG ⟨mL1,by omega,(IntKind.i64.wrap (v8+1)),?_,?_,?_,?_,h⟩
 all_goals simp +decide only [F,reduceIte,Nat.reduceAdd,qB,qC,EN, *,-h]
instance:bD 405 (type_of% @aSo):=⟨@aSo⟩
theorem aUq (p0 p1 r) (h:aCW p0 p1=some r):Sc 262 [aX (M.aW.en p0),aS p1] [rI r]:=by
 unfold aCW at h
 simp only [EN]
 refine sgn 9 [.tmp 4] Tryz.func262 fun base wd => ?_
 refine sq (rn ?_)
 refine an (sq ?_)
 obtain ⟨x1,h2,h⟩:=bind_some h
 refine rn1 (aSo p0.Fields (fun z0=>vM z0 p1) 406 [.ptr [.str p1]] (fun z0 r hr=>aSV z0 p1 r hr) x1 h2) ?_
 refine an (rt ?_)
 cases h
 simp [Ret,TB,EN, *]
instance:bD 262 (type_of% @aUq):=⟨@aUq⟩
theorem aWC (p0 p1 r) (h:jO p0 p1=some r):Sc 195 [aX (M.aW.en p0),aS p1] [rI r.1,rB r.2]:=by
 unfold jO at h
 exact sgo 18 [.tmp 4,.tmp 5] Tryz.func195
instance:bD 195 (type_of% @aWC):=⟨@aWC⟩
theorem aYM (p0 p1 p2 r) (h:qY p0 p1 p2=some r):Sc 541 [aX (M.Item.en p0),aX (M.Item.en p1),aS p2] [rB r]:=by
 unfold qY at h
 exact sgo 41 [.tmp 6] Tryz.func541
instance:bD 541 (type_of% @aYM):=⟨@aYM⟩
theorem aTq (p0 p1 r) (h:aAj p0 p1=some r):Sc 456 [aX (M.aH.en p0),aS p1] [rW 310 4 M.Item.en r]:=by
 have i1:=inv fun m s=>∃v15:Int,∃r11:List M.Item,∃u11:Nat,(s.t 1=vS p1∧s.t 5=vR 100011 u11∧s.t 13=vL M.Item.en p0.Items∧s.t 14=vI (List.length p0.Items:Int)∧s.t 15=vI v15∧s.h 100011=(u11,oW 310 4 M.Item.en r11))∧iT p0 p1 m v15 r11=some r
 have e1:=@iT.eq_2
 have i2:=fun (v15:Int) (r11:List M.Item) (x15:M.Item) (k24:Int→Option (List M.Item)) (s7:St) (u11:Nat)=>inv fun m s=>∃v10_L2:Int,(s.t 1=vS p1∧s.t 5=vR 100011 u11∧s.t 7=vP 7 ((s7.h 7).1+1) 0∧s.t 10=vI v10_L2∧s.t 13=vL M.Item.en p0.Items∧s.t 14=vI (List.length p0.Items:Int)∧s.t 15=vI v15∧s.h 7=(((s7.h 7).1+1),oX 310 (M.Item.en x15))∧s.h 100011=(u11,oW 310 4 M.Item.en r11))∧kQ p1 r11 x15 k24 m v10_L2=some r
 have e2:=@kQ.eq_2
 unfold aAj at h
 exact sgo 52 [.tmp 4] Tryz.func456
instance:bD 456 (type_of% @aTq):=⟨@aTq⟩
theorem aVs (p0 p1 r) (h:hY p0 p1=some r):Sc 320 [aX (M.aH.en p0),aS p1] [(true,M.Key.rs r.1),(true,M.Key.rs r.2.1),rB r.2.2]:=by
 have i1:=fun (x1:(List M.Item))=>inv fun m s=>∃v8:Int,(s.t 1=vS p1∧s.t 4=vP 4 1 0∧s.t 5=vP 5 1 0∧s.t 7=vR 100015 1∧s.t 8=vI v8∧s.h 4=(1,oB 161 [cI 0,cI 0,cS (⟨#[]⟩:ByteArray)])∧s.h 5=(1,oB 161 [cI 0,cI 0,cS (⟨#[]⟩:ByteArray)])∧s.h 100015=(1,oW 310 4 M.Item.en x1))∧eY p1 x1 m v8=some r
 have e1:=@eY.eq_2
 unfold hY at h
 exact sgo 59 [.cell 4 161,.cell 5 161,.tmp 6] Tryz.func320
instance:bD 320 (type_of% @aVs):=⟨@aVs⟩
theorem aVf (p0 r) (h:sJ p0=some r):Sc 138 [aX (M.Database.en p0)] [rB r]:=by
 have i1:=inv fun m s=>∃v36:Int,(s.t 1=vP 1 1 0∧s.t 34=vL M.aH.en p0.Stores∧s.t 35=vI (List.length p0.Stores:Int)∧s.t 36=vI v36∧s.h 1=(1,oX 84 (M.Database.en p0)))∧eL p0 m v36=some r
 have e1:=@eL.eq_2
 have i2:=inv fun m s=>∃v64:Int,(s.t 1=vP 1 1 0∧s.t 62=vL M.aE.en p0.Unique∧s.t 63=vI (List.length p0.Unique:Int)∧s.t 64=vI v64∧s.h 1=(1,oX 84 (M.Database.en p0)))∧eP p0 m v64=some r
 have e2:=@eP.eq_2
 unfold sJ at h
 exact sgo 103 [.tmp 2] Tryz.func138
instance:bD 138 (type_of% @aVf):=⟨@aVf⟩
theorem aXH (p0 r) (h:jU p0=some r):Sc 340 [aX (M.aZ.en p0)] [rB r]:=by
 unfold jU at h
 exact sgo 26 [.tmp 2] Tryz.func340
instance:bD 340 (type_of% @aXH):=⟨@aXH⟩
theorem aUX (p0 r) (h:sZ p0=some r):Sc 314 [aX (M.aR.en p0)] [rB r]:=by
 have i1:=inv fun m s=>∃v12:Int,(s.t 1=vP 1 1 0∧s.t 3=vI (List.length p0.Writes:Int)∧s.t 10=vL M.aZ.en p0.Writes∧s.t 11=vI (List.length p0.Writes:Int)∧s.t 12=vI v12∧s.h 1=(1,oX 92 (M.aR.en p0)))∧jM p0 m v12=some r
 have e1:=@jM.eq_2
 unfold sZ at h
 exact sgo 51 [.tmp 2] Tryz.func314
instance:bD 314 (type_of% @aUX):=⟨@aUX⟩
theorem aXq (p0 r) (h:xK p0=some r):Sc 139 [aX (M.aD.en p0)] [rB r]:=by
 unfold xK at h
 exact sgo 23 [.tmp 2] Tryz.func139
instance:bD 139 (type_of% @aXq):=⟨@aXq⟩
theorem aUG (p0 p1 r) (h:uJ p0 p1=some r):Sc 305 [aX (M.Response.en p0),aB p1] [rI r]:=by
 unfold uJ at h
 exact sgo 10 [.tmp 4] Tryz.func305
instance:bD 305 (type_of% @aUG):=⟨@aUG⟩
theorem aXn (p0 r) (h:tU p0=some r):Sc 127 [aX (M.aO.en p0)] [rI r]:=by
 have i1:=inv fun m s=>∃v3:Int,∃v11:Int,(s.t 3=vI v3∧s.t 9=vL M.Cache.en p0.Caches∧s.t 10=vI (List.length p0.Caches:Int)∧s.t 11=vI v11)∧eO p0 m v3 v11=some r
 have e1:=@eO.eq_2
 have i2:=fun (v11:Int) (x7:M.Cache) (k13:Int→Int→Option Int)=>inv fun m s=>∃v3_L2:Int,∃v18_L2:Int,(s.t 3=vI v3_L2∧s.t 9=vL M.Cache.en p0.Caches∧s.t 10=vI (List.length p0.Caches:Int)∧s.t 11=vI v11∧s.t 16=vL M.Cached.en x7.Entries∧s.t 17=vI (List.length x7.Entries:Int)∧s.t 18=vI v18_L2)∧hH x7 k13 m v3_L2 v18_L2=some r
 have e2:=@hH.eq_2
 unfold tU at h
 exact sgo 34 [.tmp 2] Tryz.func127
instance:bD 127 (type_of% @aXn):=⟨@aXn⟩
theorem aUW (p0 r) (h:wZ p0=some r):Sc 307 [aX (M.Key.en p0)] [rW 5 1 enB r]:=by
 have i1:=inv fun m s=>∃v4:Int,∃r12:List Int,∃u12:Nat,(s.t 1=vP 1 1 0∧s.t 3=vR 100012 u12∧s.t 4=vI v4∧s.h 1=(1,oX 161 (M.Key.en p0))∧s.h 100012=(u12,oW 5 1 enB r12))∧fF p0 m v4 r12=some r
 have e1:=@fF.eq_2
 unfold wZ at h
 exact sgo 34 [.tmp 2] Tryz.func307
instance:bD 307 (type_of% @aUW):=⟨@aUW⟩
theorem aUJ (p0 p1 r) (h:hD p0 p1=some r):Sc 411 [aL enB p0,aI p1] [rW 5 1 enB r]:=by
 have i1:=inv fun m s=>∃v1:Int,∃r7:List Int,∃u7:Nat,(s.t 1=vI v1∧s.t 5=vR 100007 u7∧s.h 100007=(u7,oW 5 1 enB r7))∧fG m v1 r7=some r
 have e1:=@fG.eq_2
 unfold hD at h
 exact sgo 28 [.tmp 4] Tryz.func411
instance:bD 411 (type_of% @aUJ):=⟨@aUJ⟩
theorem aV5 (p0 p1 r) (h:rC p0 p1=some r):Sc 412 [aL enB p0,aL enB p1] [rW 5 1 enB r]:=by
 unfold rC at h
 exact sgo 11 [.tmp 4] Tryz.func412
instance:bD 412 (type_of% @aV5):=⟨@aV5⟩
theorem aXS (p0 r) (h:nW p0=some r):Sc 308 [aX (M.aW.en p0)] [rW 5 1 enB r]:=by
 have i1:=aLX [.t 3 7050000 5 1] fun m s=>∃v17:Int,∃r50000:List Int,∃u50000:Nat,(s.t 3=vR 7050000 u50000∧s.t 15=vL M.Field.en p0.Fields∧s.t 16=vI (List.length p0.Fields:Int)∧s.t 17=vI v17∧s.h 7050000=(u50000,oW 5 1 enB r50000))∧fY p0 m v17 r50000=some r
 have e1:=@fY.eq_2
 unfold nW at h
 exact sgo 31 [.tmp 2] Tryz.func308
instance:bD 308 (type_of% @aXS):=⟨@aXS⟩
end Go.Proofs.YtimblbmbfdopgaaGreat.gen
