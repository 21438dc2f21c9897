/-
  Helper text. No conditions.
-/
import Derived.Test.YtidhkhdnjonjfaaGreatUpdateWorkerTi
set_option linter.unusedVariables false
set_option linter.unusedSimpArgs false
namespace Go.Proofs.YtidhkhdnjonjfaaGreat.gen
open Go Go.Sh
set_option maxRecDepth 20000
set_option maxHeartbeats 4000000
theorem aYb (p0 r) (h:kC p0=some r):Sc 403 [aL enB p0] [rW 5 1 enB r]:=by
 unfold kC at h
 exact sgo 6 [.tmp 2] Tryz.func403
instance:bA 403 (type_of% @aYb):=⟨@aYb⟩
theorem aSY (p0 r) (h:iU p0=some r):Sc 364 [aX (M.Response.en p0)] [(true,M.Response.rs r)]:=by
 unfold iU at h
 exact sgo 8 [.cell 2 219] Tryz.func364
instance:bA 364 (type_of% @aSY):=⟨@aSY⟩
theorem aRo (p0 r) (h:bD p0=some r):Sc 233 [aX (M.aA.en p0)] [(true,M.aA.rs r)]:=by
 have i1:=aLA [.b 3 0 7050100 212 2] fun m s=>∃v13:Int,∃r50100:List M.Cache,∃u50100:Nat,(s.t 2=vP 2 1 0∧s.t 3=vP 3 1 0∧s.t 11=vL M.Cache.en p0.Caches∧s.t 12=vI (List.length p0.Caches:Int)∧s.t 13=vI v13∧s.h 2=(1,oB 28 [.nil])∧s.h 3=(1,oB 28 [.row 7050100 u50100])∧s.h 7050100=(u50100,oW 212 2 M.Cache.en r50100))∧eG p0 m v13 r50100=some r
 have e1:=@eG.eq_2
 have i2:=fun (v13:Int) (r50100:List M.Cache) (x11:M.Cache) (k17:Int→List M.Cached→Option M.aA) (s1:St) (u50100:Nat)=>aLA [.b 6 1 7050000 221 7] fun m s=>∃v23_L2:Int,∃r50000_L2:List M.Cached,∃u50000_L2:Nat,(s.t 2=vP 2 1 0∧s.t 3=vP 3 1 0∧s.t 6=vP 6 ((s1.h 6).1+1) 0∧s.t 11=vL M.Cache.en p0.Caches∧s.t 12=vI (List.length p0.Caches:Int)∧s.t 13=vI v13∧s.t 21=vL M.Cached.en x11.Entries∧s.t 22=vI (List.length x11.Entries:Int)∧s.t 23=vI v23_L2∧s.h 2=(1,oB 28 [.nil])∧s.h 3=(1,oB 28 [.row 7050100 u50100])∧s.h 6=(((s1.h 6).1+1),oB 212 [cI x11.Version,.row 7050000 u50000_L2])∧s.h 7050000=(u50000_L2,oW 221 7 M.Cached.en r50000_L2)∧s.h 7050100=(u50100,oW 212 2 M.Cache.en r50100))∧gA x11 k17 m v23_L2 r50000_L2=some r
 have e2:=@gA.eq_2
 unfold bD at h
 exact sgo 46 [.cell 2 28] Tryz.func233
instance:bA 233 (type_of% @aRo):=⟨@aRo⟩
theorem aVT (p0 r) (h:tU p0=some r):Sc 479 [aX (M.aU.en p0)] [(true,M.aU.rs r)]:=by
 unfold tU at h
 exact sgo 8 [.cell 2 148] Tryz.func479
instance:bA 479 (type_of% @aVT):=⟨@aVT⟩
theorem aVw (p0 r) (h:uF p0=some r):Sc 415 [aX (M.Item.en p0)] [(true,M.Item.rs r)]:=by
 unfold uF at h
 exact sgo 9 [.cell 2 227] Tryz.func415
instance:bA 415 (type_of% @aVw):=⟨@aVw⟩
theorem aUK (p0 r) (h:mN p0=some r):Sc 333 [aX (M.aJ.en p0)] [(true,M.aJ.rs r)]:=by
 have i1:=aLA [.b 3 1 7050000 227 4] fun m s=>∃v14:Int,∃r50000:List M.Item,∃u50000:Nat,(s.t 2=vP 2 1 0∧s.t 3=vP 3 1 0∧s.t 12=vL M.Item.en p0.Items∧s.t 13=vI (List.length p0.Items:Int)∧s.t 14=vI v14∧s.h 2=(1,oB 37 [cS (⟨#[]⟩:ByteArray),.nil,cI 0])∧s.h 3=(1,oB 37 [cS p0.Name,.row 7050000 u50000,cI p0.Auto])∧s.h 7050000=(u50000,oW 227 4 M.Item.en r50000))∧iP p0 m v14 r50000=some r
 have e1:=@iP.eq_2
 unfold mN at h
 exact sgo 27 [.cell 2 37] Tryz.func333
instance:bA 333 (type_of% @aUK):=⟨@aUK⟩
theorem aYU (p0 r) (h:oO p0=some r):Sc 187 [aX (M.Database.en p0)] [(true,M.Database.rs r)]:=by
 have i1:=aLA [.b 3 2 7050000 37 3] fun m s=>∃v18:Int,∃r50000:List M.aJ,∃u50000:Nat,(s.t 2=vP 2 1 0∧s.t 3=vP 3 1 0∧s.t 16=vL M.aJ.en p0.Stores∧s.t 17=vI (List.length p0.Stores:Int)∧s.t 18=vI v18∧s.h 2=(1,aTX)∧s.h 3=(1,oB 32 [cS p0.Name,cI p0.Version,.row 7050000 u50000,.row 100010 2])∧s.h 100010=(2,oW 239 2 M.aD.en p0.Unique)∧s.h 7050000=(u50000,oW 37 3 M.aJ.en r50000))∧gC p0 m v18 r50000=some r
 have e1:=@gC.eq_2
 unfold oO at h
 exact sgo 31 [.cell 2 32] Tryz.func187
instance:bA 187 (type_of% @aYU):=⟨@aYU⟩
theorem aXd (p0 r) (h:zG p0=some r):Sc 276 [aX (M.bB.en p0)] [(true,M.bB.rs r)]:=by
 unfold zG at h
 exact sgo 12 [.cell 2 34] Tryz.func276
instance:bA 276 (type_of% @aXd):=⟨@aXd⟩
theorem aVE (p0 r) (h:uH p0=some r):Sc 474 [aX (M.aV.en p0)] [(true,M.aV.rs r)]:=by
 unfold uH at h
 exact sgo 9 [.cell 2 40] Tryz.func474
instance:bA 474 (type_of% @aVE):=⟨@aVE⟩
theorem aWo (p0 r) (h:aAC p0=some r):Sc 404 [aX (M.Sync.en p0)] [(true,M.Sync.rs r)]:=by
 unfold aAC at h
 exact sgo 8 [.cell 2 42] Tryz.func404
instance:bA 404 (type_of% @aWo):=⟨@aWo⟩
theorem aYK (p0 r) (h:rR p0=some r):Sc 277 [aX (M.aE.en p0)] [(true,M.aE.rs r)]:=by
 unfold rR at h
 exact sgo 12 [.cell 2 44] Tryz.func277
instance:bA 277 (type_of% @aYK):=⟨@aYK⟩
theorem aUP (p0 r) (h:dP p0=some r):Sc 132 [aX (M.Bucket.en p0)] [(true,M.Bucket.rs r)]:=by
 unfold dP at h
 exact sgo 16 [.cell 2 46] Tryz.func132
instance:bA 132 (type_of% @aUP):=⟨@aUP⟩
theorem aWa (p0 r) (h:bU p0=some r):Sc 220 [aX (M.aC.en p0)] [(true,M.aC.rs r)]:=by
 have i1:=aLA [.b 3 0 7050000 46 24] fun m s=>∃v10:Int,∃r50000:List M.Bucket,∃u50000:Nat,(s.t 2=vP 2 1 0∧s.t 3=vP 3 1 0∧s.t 8=vL M.Bucket.en p0.Buckets∧s.t 9=vI (List.length p0.Buckets:Int)∧s.t 10=vI v10∧s.h 2=(1,oB 85 [.nil])∧s.h 3=(1,oB 85 [.row 7050000 u50000])∧s.h 7050000=(u50000,oW 46 24 M.Bucket.en r50000))∧gP p0 m v10 r50000=some r
 have e1:=@gP.eq_2
 unfold bU at h
 exact sgo 23 [.cell 2 85] Tryz.func220
instance:bA 220 (type_of% @aWa):=⟨@aWa⟩
theorem aUb (p0 r) (h:rN p0=some r):Sc 452 [aX (M.Machine.en p0)] [(true,M.Machine.rs r)]:=by
 unfold rN at h
 exact sgo 16 [.cell 2 101] Tryz.func452
instance:bA 452 (type_of% @aUb):=⟨@aUb⟩
theorem aUd (p0 r) (h:aAL p0=some r):Sc 360 [aX (M.bJ.en p0)] [(true,M.bJ.rs r)]:=by
 unfold aAL at h
 exact sgo 13 [.cell 2 103] Tryz.func360
instance:bA 360 (type_of% @aUd):=⟨@aUd⟩
theorem aXo (p0 r) (h:vW p0=some r):Sc 221 [aL M.bJ.en p0] [rW 103 11 M.bJ.en r]:=by
 have i1:=inv fun m s=>∃v9:Int,∃r6:List M.bJ,∃u6:Nat,(s.t 3=vR 100006 u6∧s.t 7=vL M.bJ.en p0∧s.t 8=vI (List.length p0:Int)∧s.t 9=vI v9∧s.h 100006=(u6,oW 103 11 M.bJ.en r6))∧iX p0 m v9 r6=some r
 have e1:=@iX.eq_2
 unfold vW at h
 exact sgo 20 [.tmp 2] Tryz.func221
instance:bA 221 (type_of% @aXo):=⟨@aXo⟩
theorem aVK (p0 r) (h:vZ p0=some r):Sc 222 [aX (M.aP.en p0)] [(true,M.aP.rs r)]:=by
 unfold vZ at h
 exact sgo 8 [.cell 2 89] Tryz.func222
instance:bA 222 (type_of% @aVK):=⟨@aVK⟩
theorem aUW (p0 r) (h:rQ p0=some r):Sc 223 [aX (M.Channel.en p0)] [(true,M.Channel.rs r)]:=by
 unfold rQ at h
 exact sgo 8 [.cell 2 92] Tryz.func223
instance:bA 223 (type_of% @aUW):=⟨@aUW⟩
theorem aV6 (p0 r) (h:zT p0=some r):Sc 224 [aX (M.Site.en p0)] [(true,M.Site.rs r)]:=by
 unfold zT at h
 exact sgo 9 [.cell 2 180] Tryz.func224
instance:bA 224 (type_of% @aV6):=⟨@aV6⟩
theorem aVl (p0 r) (h:tQ p0=some r):Sc 225 [aX (M.Server.en p0)] [(true,M.Server.rs r)]:=by
 unfold tQ at h
 exact sgo 15 [.cell 2 274] Tryz.func225
instance:bA 225 (type_of% @aVl):=⟨@aVl⟩
theorem aXw (p0 r) (h:pH p0=some r):Sc 103 [aX (M.World.en p0)] [(true,M.World.rs r)]:=by
 have i1:=fun (x1:M.aC) (x3:(List M.bJ)) (x5:M.aP) (x7:M.Channel)=>aLA [.b 3 8 7050000 180 4] fun m s=>∃v29:Int,∃r50000:List M.Site,∃u50000:Nat,(s.t 1=vP 1 1 0∧s.t 2=vP 2 1 0∧s.t 3=vP 3 1 0∧s.t 27=vL M.Site.en p0.Sites∧s.t 28=vI (List.length p0.Sites:Int)∧s.t 29=vI v29∧s.h 1=(1,oX 96 (M.World.en p0))∧s.h 2=(1,aR1)∧s.h 3=(1,oB 96 [cI p0.Now,cB p0.Online,cI p0.Device,.row 100011 1,.row 100015 1,cI p0.NextPage,.row 100019 1,.row 100023 1,.row 7050000 u50000,cL M.Server.en p0.Servers])∧s.h 100011=(1,oW 46 24 M.Bucket.en x1.Buckets)∧s.h 100015=(1,oW 103 11 M.bJ.en x3)∧s.h 100019=(1,oW 396 4 M.dA.en x5.Locks)∧s.h 100023=(1,oW 399 3 M.fW.en x7.Mails)∧s.h 7050000=(u50000,oW 180 4 M.Site.en r50000))∧gS p0 x1 x3 x5 x7 m v29 r50000=some r
 have e1:=@gS.eq_2
 have i2:=fun (x1:M.aC) (x3:(List M.bJ)) (x5:M.aP) (x7:M.Channel) (r50000:List M.Site) (u50000:Nat)=>aLA [.b 3 9 7050100 274 5] fun m s=>∃v45:Int,∃r50100:List M.Server,∃u50100:Nat,(s.t 2=vP 2 1 0∧s.t 3=vP 3 1 0∧s.t 43=vL M.Server.en p0.Servers∧s.t 44=vI (List.length p0.Servers:Int)∧s.t 45=vI v45∧s.h 2=(1,aR1)∧s.h 3=(1,oB 96 [cI p0.Now,cB p0.Online,cI p0.Device,.row 100011 1,.row 100015 1,cI p0.NextPage,.row 100019 1,.row 100023 1,.row 7050000 u50000,.row 7050100 u50100])∧s.h 100011=(1,oW 46 24 M.Bucket.en x1.Buckets)∧s.h 100015=(1,oW 103 11 M.bJ.en x3)∧s.h 100019=(1,oW 396 4 M.dA.en x5.Locks)∧s.h 100023=(1,oW 399 3 M.fW.en x7.Mails)∧s.h 7050000=(u50000,oW 180 4 M.Site.en r50000)∧s.h 7050100=(u50100,oW 274 5 M.Server.en r50100))∧fL p0 x1 x3 x5 x7 r50000 m v45 r50100=some r
 have e2:=@fL.eq_2
 unfold pH at h
 exact sgo 58 [.cell 2 96] Tryz.func103
instance:bA 103 (type_of% @aXw):=⟨@aXw⟩
theorem aTY (p0 c0 c1 r) (h:nZ p0 c0 c1=some r):Sc 332 [aX (M.Bucket.en p0),(false,[.ptr [.str c0]]),(false,[.ptr [.str c1]])] [rB r]:=by
 unfold nZ at h
 exact sgo 15 [.tmp 4] Tryz.func332
instance:bA 332 (type_of% @aTY):=⟨@aTY⟩
theorem aT3 (p0:List M.Bucket) (p1:M.Bucket→Option Bool) (f1_:FuncId) (k1_:List D) (hp1 : ∀z0 r,p1 z0=some r→lD Tryz.prog f1_ ((true,M.Bucket.en z0) ::  k1_.map fun c=>(false,[c])) [(false,[.ro (.bool r)])]) (r:Int) (h:iJ p0 p1=some r):Sc 331 [(false,[.sl (List.map M.Bucket.en p0)]),(false,[.fn f1_ k1_])] [rI r]:=by
 unfold iJ at h
 simp only [EN]
 refine sgn 19 [.tmp 4] Tryz.func331 fun base wd => ?_
 refine sq (rn ?_)
 refine an (sq (sq (rn ?_)))
 refine an (bk ?_)
 refine aC9 (fun m s=>∃v8:Int,s.t 0=vL M.Bucket.en p0∧s.t 1 = .v false [.dat (.fn f1_ k1_)]∧s.t 7=vI (List.length p0:Int)∧s.t 8=vI v8∧bV p0 p1 m v8=some r) fuel ?_ ?_
 ·refine ⟨0,?_,?_,?_,?_,h⟩
  all_goals simp +decide only [F,reduceIte,Nat.reduceAdd,qB,qC,EN, *,-h]
 rintro mL1 s1 ⟨v8,f2,f3,f4,f5,h⟩
 rcases mL1 with _ | mL1
 ·exact absurd h (by simp [bV])
 simp only [bV] at h
 refine sq (rn ?_)
 refine an (sq ?_)
 rcases aEL (decide (v8<(List.length p0:Int))) with b6 | b6
 ·replace h:=bR b6 h
  refine cf (xt (aE2 (aEo (aIs (an (sq (rn ?_)))))))
  refine an (rt ?_)
  cases h
  simp [Ret,TB,EN, *]
 replace h:=bT b6 h
 refine ct (sk (an (sq (bk (sq (rn ?_))))))
 refine an (sq ?_)
 obtain ⟨x7,h8,h⟩:=bind_some h
 obtain ⟨q9,q10,q11⟩:=aT h8
 obtain ⟨x12,h13,h⟩:=bind_some h
 refine rn1 (hp1 x7 x12 h13) ?_
 refine an ?_
 rcases gO x12 with b14 | b14
 ·replace h:=bT b14 h
  refine ct (sq (rn ?_))
  refine an (rt ?_)
  cases h
  simp [Ret,TB,EN, *]
 replace h:=bR b14 h
 refine cf (sk (ab (an (rn ?_))))
 refine aHA ⟨mL1,by omega,(IntKind.i64.wrap (v8+1)),?_,?_,?_,?_,h⟩
 all_goals simp +decide only [F,reduceIte,Nat.reduceAdd,qB,qC,EN, *,-h]
instance:bA 331 (type_of% @aT3):=⟨@aT3⟩
theorem aXa (p0 p1 p2 r) (h:jD p0 p1 p2=some r):Sc 186 [aX (M.aC.en p0),aS p1,aS p2] [rI r]:=by
 unfold jD at h
 simp only [EN]
 refine sgn 11 [.tmp 6] Tryz.func186 fun base wd => ?_
 refine sq (rn ?_)
 refine an (sq ?_)
 obtain ⟨x1,h2,h⟩:=bind_some h
 refine rn1 (aT3 p0.Buckets (fun z0=>nZ z0 p1 p2) 332 [.ptr [.str p1],.ptr [.str p2]] (fun z0 r hr=>aTY z0 p1 p2 r hr) x1 h2) ?_
 refine an (rt ?_)
 cases h
 simp [Ret,TB,EN, *]
instance:bA 186 (type_of% @aXa):=⟨@aXa⟩
theorem c82 (p0 p1 p2 r) (h:aBq p0 p1 p2=some r):Sc 82 [aX (M.World.en p0),aS p1,aS p2] [(true,M.Bucket.ra r.1),rB r.2]:=by
 unfold aBq at h
 exact sgo 23 [.cell 6 46,.tmp 7] Tryz.func82
instance:bA 82 (type_of% @c82):=⟨@c82⟩
theorem aVf (p0 p1 r) (h:jK p0 p1=some r):Sc 361 [aL enS p0,aS p1] [rI r]:=by
 have i1:=inv fun m s=>∃v8:Int,(s.t 0=vL enS p0∧s.t 1=vS p1∧s.t 7=vI (List.length p0:Int)∧s.t 8=vI v8)∧bQ p0 p1 m v8=some r
 have e1:=@bQ.eq_2
 unfold jK at h
 exact sgo 19 [.tmp 4] Tryz.func361
instance:bA 361 (type_of% @aVf):=⟨@aVf⟩
theorem aVV (p0 r) (h:nO p0=some r):Sc 226 [aS p0] [rI r]:=by
 unfold nO at h
 exact sgo 6 [.tmp 2] Tryz.func226
instance:bA 226 (type_of% @aVV):=⟨@aVV⟩
theorem aWN (p0 p1 r) (h:aB4 p0 p1=some r):Sc 104 [aX (M.World.en p0),aS p1] [(true,M.Site.ra r)]:=by
 unfold aB4 at h
 exact sgo 23 [.cell 4 180] Tryz.func104
instance:bA 104 (type_of% @aWN):=⟨@aWN⟩
theorem c54 (p0 p1 p2 r) (h:aZ p0 p1 p2=some r):Sc 54 [aI p0,aI p1,aI p2] [rB r]:=by
 unfold aZ at h
 exact sgo 15 [.tmp 6] Tryz.func54
instance:bA 54 (type_of% @c54):=⟨@c54⟩
theorem aVZ (p0 p1 p2 r) (h:aAN p0 p1 p2=some r):Sc 151 [aS p0,aI p1,aB p2] [rB r]:=by
 have i1:=inv fun m s=>∃v7:Int,(s.t 0=vS p0∧s.t 1=vI p1∧s.t 2=vB p2∧s.t 7=vI v7)∧gX p0 p1 p2 m v7=some r
 have e1:=@gX.eq_2
 unfold aAN at h
 exact sgo 38 [.tmp 6] Tryz.func151
instance:bA 151 (type_of% @aVZ):=⟨@aVZ⟩
theorem c49 (p0 r) (h:cE p0=some r):Sc 49 [aS p0] [rB r]:=by
 unfold cE at h
 exact sgo 5 [.tmp 2] Tryz.func49
instance:bA 49 (type_of% @c49):=⟨@c49⟩
theorem c50 (p0 r) (h:gT p0=some r):Sc 50 [aX (M.Registration.en p0)] [rB r]:=by
 unfold gT at h
 simp only [EN]
 refine sgn 37 [.tmp 2] Tryz.func50 fun base wd => ?_
 refine sq (rn ?_)
 refine an (sq (rn ?_))
 refine an (sq (sq (rn ?_)))
 refine an (bk ?_)
 refine cu (fun s=>s.t 1=vP 1 1 0∧s.t 3=vI 0∧s.t 12=vR 100012 1∧s.t 13=vI ((3:Nat):Int)∧s.t 14=vI 0∧s.h 1=(1,oX 25 (M.Registration.en p0))∧s.h 100012=(1,oW 3 1 enI ([p0.Active,p0.Waiting,p0.Installing]))∧True) ?_
 rintro s1 ⟨f2,f3,f4,f5,f6,f7,f8,_⟩
 refine aC9 (fun m s=>∃v3:Int,∃v14:Int,s.t 1=vP 1 1 0∧s.t 3=vI v3∧s.t 12=vR 100012 1∧s.t 13=vI ((3:Nat):Int)∧s.t 14=vI v14∧s.h 1=(1,oX 25 (M.Registration.en p0))∧s.h 100012=(1,oW 3 1 enI ([p0.Active,p0.Waiting,p0.Installing]))∧dG p0 m v3 v14=some r) fuel ?_ ?_
 ·refine ⟨0,0,?_,?_,?_,?_,?_,?_,?_,h⟩
  all_goals simp +decide only [F,reduceIte,Nat.reduceAdd,qB,qC,EN, *,-h]
 rintro mL1 s9 ⟨v3,v14,f10,f11,f12,f13,f14,f15,f16,h⟩
 rcases mL1 with _ | mL1
 ·exact absurd h (by simp [dG])
 simp only [dG] at h
 refine sq (rn ?_)
 refine an (sq ?_)
 rcases aEL (decide (v14<((3:Nat):Int))) with b17 | b17
 ·replace h:=bR b17 h
  refine cf (xt (aE2 (aEo (aIs (an (sq ?_))))))
  obtain ⟨x28,h29,h⟩:=bind_some h
  refine rn1 (c49 _ _ h29) ?_
  refine an (rt ?_)
  cases h
  simp [Ret,TB,EN, *]
 replace h:=bT b17 h
 refine ct (sk (an (sq (bk (sq ?_)))))
 obtain ⟨x18,h19,h⟩:=bind_some h
 obtain ⟨q20,q21,q22⟩:=aT h19
 have q20m:=congrArg (Option.map enI) (show ([p0.Active,p0.Waiting,p0.Installing])[v14.toNat]? = some x18 by assumption)
 simp only [←List.getElem?_map,List.map_cons,List.map_nil,Option.map_some,EN] at q20m
 simp only [qJ,qK,Nat.reduceAdd] at q22
 refine rn ?_
 refine an (sq (sq ?_))
 obtain ⟨x23,h24,h⟩:=bind_some h
 rcases gO (!x23) with b25 | b25
 ·replace h:=bT b25 h
  refine rn1 (c54 _ _ _ _ h24) ?_
  refine an (ct (sq (rn ?_)))
  refine an (rt ?_)
  cases h
  simp [Ret,TB,EN, *]
 replace h:=bR b25 h
 rcases aEL (x18 != 0) with b26 | b26
 ·replace h:=bR b26 h
  refine rn1 (c54 _ _ _ _ h24) ?_
  refine an (cf (sk (an (rn ?_))))
  refine ab (an (rn ?_))
  refine aHA ⟨mL1,by omega,(if x18>v3 then x18 else v3),(IntKind.i64.wrap (v14+1)),?_,?_,?_,?_,?_,?_,?_,h⟩
  all_goals simp +decide only [F,reduceIte,Nat.reduceAdd,qB,qC,EN, *,-h]
 replace h:=bT b26 h
 refine rn1 (c54 _ _ _ _ h24) ?_
 refine an ?_
 rcases gO (decide (x18≤v3)) with b27 | b27
 ·replace h:=bT b27 h
  refine ct (sq (rn ?_))
  refine an (rt ?_)
  cases h
  simp [Ret,TB,EN, *]
 replace h:=bR b27 h
 refine cf (sk (an (rn ?_)))
 refine ab (an (rn ?_))
 refine aHA ⟨mL1,by omega,(if x18>v3 then x18 else v3),(IntKind.i64.wrap (v14+1)),?_,?_,?_,?_,?_,?_,?_,h⟩
 all_goals simp +decide only [F,reduceIte,Nat.reduceAdd,qB,qC,EN, *,-h]
instance:bA 50 (type_of% @c50):=⟨@c50⟩
theorem aTf (p0 c0 c1 r) (h:pA p0 c0 c1=some r):Sc 297 [aX (M.Cached.en p0),(false,[.ptr [.str c0]]),(false,[.ptr [.str c1]])] [rB r]:=by
 unfold pA at h
 exact sgo 15 [.tmp 4] Tryz.func297
instance:bA 297 (type_of% @aTf):=⟨@aTf⟩
theorem aS0 (p0:List M.Cached) (p1:M.Cached→Option Bool) (f1_:FuncId) (k1_:List D) (hp1 : ∀z0 r,p1 z0=some r→lD Tryz.prog f1_ ((true,M.Cached.en z0) ::  k1_.map fun c=>(false,[c])) [(false,[.ro (.bool r)])]) (r:Int) (h:iK p0 p1=some r):Sc 296 [(false,[.sl (List.map M.Cached.en p0)]),(false,[.fn f1_ k1_])] [rI r]:=by
 unfold iK at h
 simp only [EN]
 refine sgn 19 [.tmp 4] Tryz.func296 fun base wd => ?_
 refine sq (rn ?_)
 refine an (sq (sq (rn ?_)))
 refine an (bk ?_)
 refine aC9 (fun m s=>∃v8:Int,s.t 0=vL M.Cached.en p0∧s.t 1 = .v false [.dat (.fn f1_ k1_)]∧s.t 7=vI (List.length p0:Int)∧s.t 8=vI v8∧bW p0 p1 m v8=some r) fuel ?_ ?_
 ·refine ⟨0,?_,?_,?_,?_,h⟩
  all_goals simp +decide only [F,reduceIte,Nat.reduceAdd,qB,qC,EN, *,-h]
 rintro mL1 s1 ⟨v8,f2,f3,f4,f5,h⟩
 rcases mL1 with _ | mL1
 ·exact absurd h (by simp [bW])
 simp only [bW] at h
 refine sq (rn ?_)
 refine an (sq ?_)
 rcases aEL (decide (v8<(List.length p0:Int))) with b6 | b6
 ·replace h:=bR b6 h
  refine cf (xt (aE2 (aEo (aIs (an (sq (rn ?_)))))))
  refine an (rt ?_)
  cases h
  simp [Ret,TB,EN, *]
 replace h:=bT b6 h
 refine ct (sk (an (sq (bk (sq (rn ?_))))))
 refine an (sq ?_)
 obtain ⟨x7,h8,h⟩:=bind_some h
 obtain ⟨q9,q10,q11⟩:=aT h8
 obtain ⟨x12,h13,h⟩:=bind_some h
 refine rn1 (hp1 x7 x12 h13) ?_
 refine an ?_
 rcases gO x12 with b14 | b14
 ·replace h:=bT b14 h
  refine ct (sq (rn ?_))
  refine an (rt ?_)
  cases h
  simp [Ret,TB,EN, *]
 replace h:=bR b14 h
 refine cf (sk (ab (an (rn ?_))))
 refine aHA ⟨mL1,by omega,(IntKind.i64.wrap (v8+1)),?_,?_,?_,?_,h⟩
 all_goals simp +decide only [F,reduceIte,Nat.reduceAdd,qB,qC,EN, *,-h]
instance:bA 296 (type_of% @aS0):=⟨@aS0⟩
theorem aTz (p0 p1 p2 r) (h:lE p0 p1 p2=some r):Sc 152 [aX (M.Cache.en p0),aS p1,aS p2] [rI r]:=by
 unfold lE at h
 simp only [EN]
 refine sgn 11 [.tmp 6] Tryz.func152 fun base wd => ?_
 refine sq (rn ?_)
 refine an (sq ?_)
 obtain ⟨x1,h2,h⟩:=bind_some h
 refine rn1 (aS0 p0.Entries (fun z0=>pA z0 p1 p2) 297 [.ptr [.str p1],.ptr [.str p2]] (fun z0 r hr=>aTf z0 p1 p2 r hr) x1 h2) ?_
 refine an (rt ?_)
 cases h
 simp [Ret,TB,EN, *]
instance:bA 152 (type_of% @aTz):=⟨@aTz⟩
theorem aXQ (p0 r) (h:nI p0=some r):Sc 153 [aX (M.Response.en p0)] [rB r]:=by
 unfold nI at h
 exact sgo 22 [.tmp 2] Tryz.func153
instance:bA 153 (type_of% @aXQ):=⟨@aXQ⟩
theorem c51 (p0 r) (h:bX p0=some r):Sc 51 [aX (M.aA.en p0)] [rB r]:=by
 have i1:=inv fun m s=>∃v10:Int,(s.t 1=vP 1 1 0∧s.t 8=vL M.Cache.en p0.Caches∧s.t 9=vI (List.length p0.Caches:Int)∧s.t 10=vI v10∧s.h 1=(1,oX 28 (M.aA.en p0)))∧eX p0 m v10=some r
 have e1:=@eX.eq_2
 have i2:=fun (v10:Int) (x8:M.Cache) (k25:Int→Option Bool) (s1:St)=>inv fun m s=>∃v44_L2:Int,(s.t 1=vP 1 1 0∧s.t 4=vP 4 ((s1.h 4).1+1) 0∧s.t 8=vL M.Cache.en p0.Caches∧s.t 9=vI (List.length p0.Caches:Int)∧s.t 10=vI v10∧s.t 42=vL M.Cached.en x8.Entries∧s.t 43=vI (List.length x8.Entries:Int)∧s.t 44=vI v44_L2∧s.h 1=(1,oX 28 (M.aA.en p0))∧s.h 4=(((s1.h 4).1+1),oX 212 (M.Cache.en x8)))∧eY x8 k25 m v44_L2=some r
 have e2:=@eY.eq_2
 have i3:=fun (v10:Int) (x8:M.Cache) (k57:Int→Option Bool) (s1:St)=>inv fun m s=>∃v44_L3:Int,(s.t 1=vP 1 1 0∧s.t 4=vP 4 ((s1.h 4).1+1) 0∧s.t 8=vL M.Cache.en p0.Caches∧s.t 9=vI (List.length p0.Caches:Int)∧s.t 10=vI v10∧s.t 42=vL M.Cached.en x8.Entries∧s.t 43=vI (List.length x8.Entries:Int)∧s.t 44=vI v44_L3∧s.h 1=(1,oX 28 (M.aA.en p0))∧s.h 4=(((s1.h 4).1+1),oX 212 (M.Cache.en x8)))∧eI x8 k57 m v44_L3=some r
 have e3:=@eI.eq_2
 unfold bX at h
 exact sgo 81 [.tmp 2] Tryz.func51
instance:bA 51 (type_of% @c51):=⟨@c51⟩
theorem aUV (p0 r) (h:vY p0=some r):Sc 410 [aS p0] [rB r]:=by
 have i1:=inv fun m s=>∃v3:Int,(s.t 0=vS p0∧s.t 3=vI v3)∧dY p0 m v3=some r
 have e1:=@dY.eq_2
 unfold vY at h
 exact sgo 36 [.tmp 2] Tryz.func410
instance:bA 410 (type_of% @aUV):=⟨@aUV⟩
theorem aWQ (p0 r) (h:pY p0=some r):Sc 288 [aX (M.Key.en p0)] [rB r]:=by
 unfold pY at h
 exact sgo 39 [.tmp 2] Tryz.func288
instance:bA 288 (type_of% @aWQ):=⟨@aWQ⟩
theorem aYJ (p0 r) (h:tH p0=some r):Sc 289 [aX (M.aU.en p0)] [rB r]:=by
 have i1:=inv fun m s=>∃v8:Int,(s.t 1=vP 1 1 0∧s.t 6=vL M.Field.en p0.Fields∧s.t 7=vI (List.length p0.Fields:Int)∧s.t 8=vI v8∧s.h 1=(1,oX 148 (M.aU.en p0)))∧gL p0 m v8=some r
 have e1:=@gL.eq_2
 unfold tH at h
 exact sgo 44 [.tmp 2] Tryz.func289
instance:bA 289 (type_of% @aYJ):=⟨@aYJ⟩
theorem aUr (p0 p1 r) (h:pV p0 p1=some r):Sc 411 [aI p0,aI p1] [rI r]:=by
 unfold pV at h
 exact sgo 13 [.tmp 4] Tryz.func411
instance:bA 411 (type_of% @aUr):=⟨@aUr⟩
set_option maxRecDepth 100000 in
set_option maxHeartbeats 4000000 in
theorem aWm (p0:ByteArray) (p1:ByteArray) (r:Int) (h:kF p0 p1=some r):lD Tryz.prog 476 [(false,[.str p0]),(false,[.str p1])] [(false,[.ro (.int .i64 r)])]:=by
 refine aMW Tryz.func476 rfl (by decide +kernel) fun w => ?_
 cases h
 go_enter Tryz.func476,Tryz.ntmps476
 go_wp2
 rw [run_callFunc_extern Tryz.func509 (by kernel_rfl) (by kernel_rfl) (by kernel_rfl) (e:=Extern.BytealgCompare.compare) (by kernel_rfl),Lib.run_compareString]
 simp only [Result.andThen]
 rw [Oper.upon_value]
 go_wp2
 go_ret
 exact ⟨rfl,rfl⟩
instance:bA 476 (type_of% @aWm):=⟨@aWm⟩
theorem aWc (p0 p1 r) (h:aAP p0 p1=some r):Sc 412 [aS p0,aS p1] [rI r]:=by
 unfold aAP at h
 exact sgo 8 [.tmp 4] Tryz.func412
instance:bA 412 (type_of% @aWc):=⟨@aWc⟩
theorem aVM (p0 p1 r) (h:lX p0 p1=some r):Sc 298 [aX (M.Key.en p0),aX (M.Key.en p1)] [rI r]:=by
 unfold lX at h
 exact sgo 36 [.tmp 4] Tryz.func298
instance:bA 298 (type_of% @aVM):=⟨@aVM⟩
theorem aWT (p0 r) (h:sI p0=some r):Sc 154 [aX (M.aJ.en p0)] [rB r]:=by
 have i1:=inv fun m s=>∃v8:Int,(s.t 1=vP 1 1 0∧s.t 6=vL M.Item.en p0.Items∧s.t 7=vI (List.length p0.Items:Int)∧s.t 8=vI v8∧s.h 1=(1,oX 37 (M.aJ.en p0)))∧hO p0 m v8=some r
 have e1:=@hO.eq_2
 unfold sI at h
 exact sgo 55 [.tmp 2] Tryz.func154
instance:bA 154 (type_of% @aWT):=⟨@aWT⟩
theorem aTo (p0 c0 r) (h:rC p0 c0=some r):Sc 300 [aX (M.aJ.en p0),(false,[.ptr [.str c0]])] [rB r]:=by
 unfold rC at h
 exact sgo 8 [.tmp 3] Tryz.func300
instance:bA 300 (type_of% @aTo):=⟨@aTo⟩
theorem aTw (p0:List M.aJ) (p1:M.aJ→Option Bool) (f1_:FuncId) (k1_:List D) (hp1 : ∀z0 r,p1 z0=some r→lD Tryz.prog f1_ ((true,M.aJ.en z0) ::  k1_.map fun c=>(false,[c])) [(false,[.ro (.bool r)])]) (r:Int) (h:jI p0 p1=some r):Sc 299 [(false,[.sl (List.map M.aJ.en p0)]),(false,[.fn f1_ k1_])] [rI r]:=by
 unfold jI at h
 simp only [EN]
 refine sgn 19 [.tmp 4] Tryz.func299 fun base wd => ?_
 refine sq (rn ?_)
 refine an (sq (sq (rn ?_)))
 refine an (bk ?_)
 refine aC9 (fun m s=>∃v8:Int,s.t 0=vL M.aJ.en p0∧s.t 1 = .v false [.dat (.fn f1_ k1_)]∧s.t 7=vI (List.length p0:Int)∧s.t 8=vI v8∧cK p0 p1 m v8=some r) fuel ?_ ?_
 ·refine ⟨0,?_,?_,?_,?_,h⟩
  all_goals simp +decide only [F,reduceIte,Nat.reduceAdd,qB,qC,EN, *,-h]
 rintro mL1 s1 ⟨v8,f2,f3,f4,f5,h⟩
 rcases mL1 with _ | mL1
 ·exact absurd h (by simp [cK])
 simp only [cK] at h
 refine sq (rn ?_)
 refine an (sq ?_)
 rcases aEL (decide (v8<(List.length p0:Int))) with b6 | b6
 ·replace h:=bR b6 h
  refine cf (xt (aE2 (aEo (aIs (an (sq (rn ?_)))))))
  refine an (rt ?_)
  cases h
  simp [Ret,TB,EN, *]
 replace h:=bT b6 h
 refine ct (sk (an (sq (bk (sq (rn ?_))))))
 refine an (sq ?_)
 obtain ⟨x7,h8,h⟩:=bind_some h
 obtain ⟨q9,q10,q11⟩:=aT h8
 obtain ⟨x12,h13,h⟩:=bind_some h
 refine rn1 (hp1 x7 x12 h13) ?_
 refine an ?_
 rcases gO x12 with b14 | b14
 ·replace h:=bT b14 h
  refine ct (sq (rn ?_))
  refine an (rt ?_)
  cases h
  simp [Ret,TB,EN, *]
 replace h:=bR b14 h
 refine cf (sk (ab (an (rn ?_))))
 refine aHA ⟨mL1,by omega,(IntKind.i64.wrap (v8+1)),?_,?_,?_,?_,h⟩
 all_goals simp +decide only [F,reduceIte,Nat.reduceAdd,qB,qC,EN, *,-h]
instance:bA 299 (type_of% @aTw):=⟨@aTw⟩
theorem aVC (p0 p1 r) (h:wF p0 p1=some r):Sc 155 [aX (M.Database.en p0),aS p1] [rI r]:=by
 unfold wF at h
 simp only [EN]
 refine sgn 9 [.tmp 4] Tryz.func155 fun base wd => ?_
 refine sq (rn ?_)
 refine an (sq ?_)
 obtain ⟨x1,h2,h⟩:=bind_some h
 refine rn1 (aTw p0.Stores (fun z0=>rC z0 p1) 300 [.ptr [.str p1]] (fun z0 r hr=>aTo z0 p1 r hr) x1 h2) ?_
 refine an (rt ?_)
 cases h
 simp [Ret,TB,EN, *]
instance:bA 155 (type_of% @aVC):=⟨@aVC⟩
end Go.Proofs.YtidhkhdnjonjfaaGreat.gen
