/-
  Helper text. No conditions.
-/
import Derived.Test.YtimblbmbfdopgaaGreatOpenPageTi
set_option linter.unusedVariables false
set_option linter.unusedSimpArgs false
namespace Go.Proofs.YtimblbmbfdopgaaGreat.gen
open Go Go.Sh
set_option maxRecDepth 20000
set_option maxHeartbeats 4000000
theorem aVM (p0 r) (h:rU p0=some r):Sc 451 [aX (M.Response.en p0)] [(true,M.Response.rs r)]:=by
 unfold rU at h
 exact sgo 11 [.cell 2 277] Tryz.func451
instance:bD 451 (type_of% @aVM):=⟨@aVM⟩
theorem aXW (p0 r) (h:zG p0=some r):Sc 313 [aX (M.Cache.en p0)] [(true,M.Cache.rs r)]:=by
 have i1:=aLX [.b 3 1 7050000 361 7] fun m s=>∃v4:Int,∃r50000:List M.Cached,∃u50000:Nat,(s.t 1=vP 1 1 0∧s.t 2=vP 2 1 0∧s.t 3=vP 3 1 0∧s.t 4=vI v4∧s.h 1=(1,oX 354 (M.Cache.en p0))∧s.h 2=(1,oB 354 [cI 0,.nil])∧s.h 3=(1,oB 354 [cI p0.Version,.row 7050000 u50000])∧s.h 7050000=(u50000,oW 361 7 M.Cached.en r50000))∧jK p0 m v4 r50000=some r
 have e1:=@jK.eq_2
 unfold zG at h
 exact sgo 36 [.cell 2 354] Tryz.func313
instance:bD 313 (type_of% @aXW):=⟨@aXW⟩
theorem aXl (p0 r) (h:aBC p0=some r):Sc 133 [aX (M.aO.en p0)] [(true,M.aO.rs r)]:=by
 have i1:=aLX [.b 3 0 7050000 354 2] fun m s=>∃v4:Int,∃r50000:List M.Cache,∃u50000:Nat,(s.t 1=vP 1 1 0∧s.t 2=vP 2 1 0∧s.t 3=vP 3 1 0∧s.t 4=vI v4∧s.h 1=(1,oX 80 (M.aO.en p0))∧s.h 2=(1,oB 80 [.nil])∧s.h 3=(1,oB 80 [.row 7050000 u50000])∧s.h 7050000=(u50000,oW 354 2 M.Cache.en r50000))∧kX p0 m v4 r50000=some r
 have e1:=@kX.eq_2
 unfold aBC at h
 exact sgo 25 [.cell 2 80] Tryz.func133
instance:bD 133 (type_of% @aXl):=⟨@aXl⟩
theorem aWo (p0 r) (h:aBt p0=some r):Sc 238 [aX (M.aW.en p0)] [(true,M.aW.rs r)]:=by
 unfold aBt at h
 exact sgo 8 [.cell 2 154] Tryz.func238
instance:bD 238 (type_of% @aWo):=⟨@aWo⟩
theorem aWT (p0 r) (h:aAG p0=some r):Sc 491 [aX (M.Item.en p0)] [(true,M.Item.rs r)]:=by
 unfold aAG at h
 exact sgo 9 [.cell 2 310] Tryz.func491
instance:bD 491 (type_of% @aWT):=⟨@aWT⟩
theorem aVZ (p0 r) (h:uW p0=some r):Sc 377 [aX (M.aH.en p0)] [(true,M.aH.rs r)]:=by
 have i1:=aLX [.b 3 1 7050000 310 4] fun m s=>∃v4:Int,∃r50000:List M.Item,∃u50000:Nat,(s.t 1=vP 1 1 0∧s.t 2=vP 2 1 0∧s.t 3=vP 3 1 0∧s.t 4=vI v4∧s.h 1=(1,oX 89 (M.aH.en p0))∧s.h 2=(1,oB 89 [cS (⟨#[]⟩:ByteArray),.nil,cI 0])∧s.h 3=(1,oB 89 [cS p0.Name,.row 7050000 u50000,cI p0.Auto])∧s.h 7050000=(u50000,oW 310 4 M.Item.en r50000))∧mJ p0 m v4 r50000=some r
 have e1:=@mJ.eq_2
 unfold uW at h
 exact sgo 29 [.cell 2 89] Tryz.func377
instance:bD 377 (type_of% @aVZ):=⟨@aVZ⟩
theorem aUg (p0 r) (h:aBn p0=some r):Sc 298 [aX (M.Database.en p0)] [(true,M.Database.rs r)]:=by
 have i1:=aLX [.b 3 2 7050000 89 3] fun m s=>∃v4:Int,∃r50000:List M.aH,∃u50000:Nat,(s.t 1=vP 1 1 0∧s.t 2=vP 2 1 0∧s.t 3=vP 3 1 0∧s.t 4=vI v4∧s.h 1=(1,oX 84 (M.Database.en p0))∧s.h 2=(1,aSx)∧s.h 3=(1,oB 84 [cS p0.Name,cI p0.Version,.row 7050000 u50000,.row 100009 2])∧s.h 100009=(2,oW 375 2 M.aE.en p0.Unique)∧s.h 7050000=(u50000,oW 89 3 M.aH.en r50000))∧mL p0 m v4 r50000=some r
 have e1:=@mL.eq_2
 unfold aBn at h
 exact sgo 33 [.cell 2 84] Tryz.func298
instance:bD 298 (type_of% @aUg):=⟨@aUg⟩
theorem aWO (p0 r) (h:aAc p0=some r):Sc 122 [aX (M.bC.en p0)] [(true,M.bC.rs r)]:=by
 unfold aAc at h
 exact sgo 13 [.cell 2 86] Tryz.func122
instance:bD 122 (type_of% @aWO):=⟨@aWO⟩
theorem aUS (p0 r) (h:aA4 p0=some r):Sc 535 [aX (M.aR.en p0)] [(true,M.aR.rs r)]:=by
 unfold aA4 at h
 exact sgo 11 [.cell 2 92] Tryz.func535
instance:bD 535 (type_of% @aUS):=⟨@aUS⟩
theorem aVl (p0 r) (h:aAk p0=some r):Sc 439 [aX (M.Sync.en p0)] [(true,M.Sync.rs r)]:=by
 unfold aAk at h
 exact sgo 10 [.cell 2 94] Tryz.func439
instance:bD 439 (type_of% @aVl):=⟨@aVl⟩
theorem aXK (p0 r) (h:aBA p0=some r):Sc 297 [aX (M.aD.en p0)] [(true,M.aD.rs r)]:=by
 unfold aBA at h
 exact sgo 12 [.cell 2 96] Tryz.func297
instance:bD 297 (type_of% @aXK):=⟨@aXK⟩
theorem aVu (p0 r) (h:jH p0=some r):Sc 121 [aX (M.aC.en p0)] [(true,M.aC.rs r)]:=by
 unfold jH at h
 exact sgo 18 [.cell 2 98] Tryz.func121
instance:bD 121 (type_of% @aVu):=⟨@aVu⟩
theorem aVw (p0 r) (h:eW p0=some r):Sc 154 [aX (M.aA.en p0)] [(true,M.aA.rs r)]:=by
 have i1:=aLX [.b 3 0 7050000 98 24] fun m s=>∃v4:Int,∃r50000:List M.aC,∃u50000:Nat,(s.t 1=vP 1 1 0∧s.t 2=vP 2 1 0∧s.t 3=vP 3 1 0∧s.t 4=vI v4∧s.h 1=(1,oX 47 (M.aA.en p0))∧s.h 2=(1,oB 47 [.nil])∧s.h 3=(1,oB 47 [.row 7050000 u50000])∧s.h 7050000=(u50000,oW 98 24 M.aC.en r50000))∧kH p0 m v4 r50000=some r
 have e1:=@kH.eq_2
 unfold eW at h
 exact sgo 25 [.cell 2 47] Tryz.func154
instance:bD 154 (type_of% @aVw):=⟨@aVw⟩
theorem aVd (p0 r) (h:oY p0=some r):Sc 469 [aL M.Instr.en p0] [rW 279 4 M.Instr.en r]:=by
 unfold oY at h
 exact sgo 6 [.tmp 2] Tryz.func469
instance:bD 469 (type_of% @aVd):=⟨@aVd⟩
theorem aXp (p0 r) (h:aAv p0=some r):Sc 376 [aX (M.Machine.en p0)] [(true,M.Machine.rs r)]:=by
 unfold aAv at h
 exact sgo 15 [.cell 2 65] Tryz.func376
instance:bD 376 (type_of% @aXp):=⟨@aXp⟩
theorem aXJ (p0 r) (h:jJ p0=some r):Sc 230 [aX (M.bH.en p0)] [(true,M.bH.rs r)]:=by
 unfold jJ at h
 exact sgo 15 [.cell 2 67] Tryz.func230
instance:bD 230 (type_of% @aXJ):=⟨@aXJ⟩
theorem aTe (p0 r) (h:xW p0=some r):Sc 231 [aX (M.aQ.en p0)] [(true,M.aQ.rs r)]:=by
 unfold xW at h
 exact sgo 8 [.cell 2 51] Tryz.func231
instance:bD 231 (type_of% @aTe):=⟨@aTe⟩
theorem aU3 (p0 r) (h:xV p0=some r):Sc 232 [aX (M.Channel.en p0)] [(true,M.Channel.rs r)]:=by
 unfold xV at h
 exact sgo 8 [.cell 2 54] Tryz.func232
instance:bD 232 (type_of% @aU3):=⟨@aU3⟩
theorem aXY (p0 r) (h:aAx p0=some r):Sc 233 [aX (M.Site.en p0)] [(true,M.Site.rs r)]:=by
 unfold aAx at h
 exact sgo 11 [.cell 2 131] Tryz.func233
instance:bD 233 (type_of% @aXY):=⟨@aXY⟩
theorem aW6 (p0 r) (h:aAp p0=some r):Sc 234 [aX (M.Server.en p0)] [(true,M.Server.rs r)]:=by
 unfold aAp at h
 exact sgo 15 [.cell 2 234] Tryz.func234
instance:bD 234 (type_of% @aW6):=⟨@aW6⟩
theorem c74 (p0 r) (h:fO p0=some r):Sc 74 [aX (M.World.en p0)] [(true,M.World.rs r)]:=by
 have i1:=fun (x1:M.aA)=>inv fun m s=>∃v4:Int,∃r12:List M.bH,∃u12:Nat,(s.t 1=vP 1 1 0∧s.t 2=vP 2 1 0∧s.t 3=vP 3 1 0∧s.t 4=vI v4∧s.h 1=(1,oX 58 (M.World.en p0))∧s.h 2=(1,aO8)∧s.h 3=(1,oB 58 [cI p0.Now,cB p0.Online,cI p0.Device,.row 100010 1,.row 100012 u12,cI p0.NextPage,cL M.cJ.en p0.Locks.Locks,cL M.eU.en p0.Channel.Mails,cL M.Site.en p0.Sites,cL M.Server.en p0.Servers])∧s.h 100010=(1,oW 98 24 M.aC.en x1.Buckets)∧s.h 100012=(u12,oW 67 11 M.bH.en r12))∧jA p0 x1 m v4 r12=some r
 have e1:=@jA.eq_2
 have i2:=fun (x1:M.aA) (r12:List M.bH) (x42:M.aQ) (x44:M.Channel) (s12:St) (u12:Nat)=>inv fun m s=>∃v5:Int,∃r40:List M.Site,∃u40:Nat,(s.t 1=vP 1 1 0∧s.t 2=vP 2 1 0∧s.t 3=vP 3 1 0∧s.t 5=vI v5∧s.h 1=(1,oX 58 (M.World.en p0))∧s.h 2=(1,aO8)∧s.h 3=(1,oB 58 [cI p0.Now,cB p0.Online,cI p0.Device,.row 100010 1,.row 100012 u12,cI p0.NextPage,.row 100034 ((s12.h 100034).1+1),.row 100038 ((s12.h 100038).1+1),.row 100040 u40,cL M.Server.en p0.Servers])∧s.h 100010=(1,oW 98 24 M.aC.en x1.Buckets)∧s.h 100012=(u12,oW 67 11 M.bH.en r12)∧s.h 100034=(((s12.h 100034).1+1),oW 249 4 M.cJ.en x42.Locks)∧s.h 100038=(((s12.h 100038).1+1),oW 252 3 M.eU.en x44.Mails)∧s.h 100040=(u40,oW 131 4 M.Site.en r40))∧gT p0 x1 r12 x42 x44 m v5 r40=some r
 have e2:=@gT.eq_2
 have i3:=fun (x1:M.aA) (r12:List M.bH) (x42:M.aQ) (x44:M.Channel) (r40:List M.Site) (s12:St) (u12:Nat) (u40:Nat)=>inv fun m s=>∃v6:Int,∃r60:List M.Server,∃u60:Nat,(s.t 1=vP 1 1 0∧s.t 2=vP 2 1 0∧s.t 3=vP 3 1 0∧s.t 6=vI v6∧s.h 1=(1,oX 58 (M.World.en p0))∧s.h 2=(1,aO8)∧s.h 3=(1,oB 58 [cI p0.Now,cB p0.Online,cI p0.Device,.row 100010 1,.row 100012 u12,cI p0.NextPage,.row 100034 ((s12.h 100034).1+1),.row 100038 ((s12.h 100038).1+1),.row 100040 u40,.row 100060 u60])∧s.h 100010=(1,oW 98 24 M.aC.en x1.Buckets)∧s.h 100012=(u12,oW 67 11 M.bH.en r12)∧s.h 100034=(((s12.h 100034).1+1),oW 249 4 M.cJ.en x42.Locks)∧s.h 100038=(((s12.h 100038).1+1),oW 252 3 M.eU.en x44.Mails)∧s.h 100040=(u40,oW 131 4 M.Site.en r40)∧s.h 100060=(u60,oW 234 5 M.Server.en r60))∧gR p0 x1 r12 x42 x44 r40 m v6 r60=some r
 have e3:=@gR.eq_2
 unfold fO at h
 exact sgo 81 [.cell 2 58] Tryz.func74
instance:bD 74 (type_of% @c74):=⟨@c74⟩
theorem aTk (r) (h:sW=some r):Sc 180 [] [rW 9 1 enS r]:=by
 unfold sW at h
 exact sgo 2 [.tmp 0] Tryz.func180
instance:bD 180 (type_of% @aTk):=⟨@aTk⟩
theorem aWc (p0 r) (h:kV p0=some r):Sc 196 [aS p0] [rI r]:=by
 have i1:=fun (x1:(List ByteArray))=>inv fun m s=>∃v4:Int,(s.t 0=vS p0∧s.t 3=vR 100005 1∧s.t 4=vI v4∧s.h 100005=(1,oW 9 1 enS x1))∧hM p0 x1 m v4=some r
 have e1:=@hM.eq_2
 unfold kV at h
 exact sgo 19 [.tmp 2] Tryz.func196
instance:bD 196 (type_of% @aWc):=⟨@aWc⟩
theorem aNY (p0 p1 p2 r) (h:bG p0 p1 p2=some r):Sc 146 [aI p0,aI p1,aI p2] [rB r]:=by
 unfold bG at h
 exact sgo 15 [.tmp 6] Tryz.func146
instance:bD 146 (type_of% @aNY):=⟨@aNY⟩
theorem aRn (p0 r) (h:cG p0=some r):Sc 141 [aS p0] [rB r]:=by
 have i1:=inv fun m s=>∃v3:Int,(s.t 0=vS p0∧s.t 3=vI v3)∧kA p0 m v3=some r
 have e1:=@kA.eq_2
 unfold cG at h
 exact sgo 23 [.tmp 2] Tryz.func141
instance:bD 141 (type_of% @aRn):=⟨@aRn⟩
theorem aUm (p0 r) (h:vC p0=some r):Sc 179 [aX (M.Site.en p0)] [rB r]:=by
 have i1:=inv fun m s=>∃v3:Int,(s.t 1=vP 1 1 0∧s.t 3=vI v3∧s.h 1=(1,oX 131 (M.Site.en p0)))∧iH p0 m v3=some r
 have e1:=@iH.eq_2
 unfold vC at h
 exact sgo 50 [.tmp 2] Tryz.func179
instance:bD 179 (type_of% @aUm):=⟨@aUm⟩
theorem aYF (p0 r) (h:aAC p0=some r):Sc 543 [aS p0] [rB r]:=by
 have i1:=inv fun m s=>∃v3:Int,(s.t 0=vS p0∧s.t 3=vI v3)∧gK p0 m v3=some r
 have e1:=@gK.eq_2
 unfold aAC at h
 exact sgo 35 [.tmp 2] Tryz.func543
instance:bD 543 (type_of% @aYF):=⟨@aYF⟩
theorem aTl (p0 r) (h:pE p0=some r):Sc 458 [aX (M.Key.en p0)] [rB r]:=by
 unfold pE at h
 exact sgo 36 [.tmp 2] Tryz.func458
instance:bD 458 (type_of% @aTl):=⟨@aTl⟩
theorem aYD (p0 r) (h:jX p0=some r):Sc 345 [aX (M.aZ.en p0)] [rB r]:=by
 unfold jX at h
 exact sgo 26 [.tmp 2] Tryz.func345
instance:bD 345 (type_of% @aYD):=⟨@aYD⟩
theorem aV9 (p0 r) (h:uM p0=some r):Sc 239 [aX (M.aW.en p0)] [rB r]:=by
 have i1:=inv fun m s=>∃v3:Int,(s.t 1=vP 1 1 0∧s.t 3=vI v3∧s.h 1=(1,oX 154 (M.aW.en p0)))∧fZ p0 m v3=some r
 have e1:=@fZ.eq_2
 unfold uM at h
 exact sgo 53 [.tmp 2] Tryz.func239
instance:bD 239 (type_of% @aV9):=⟨@aV9⟩
theorem aWD (p0 p1 r) (h:aAE p0 p1=some r):Sc 544 [aB p0,aB p1] [rI r]:=by
 unfold aAE at h
 exact sgo 7 [.tmp 4] Tryz.func544
instance:bD 544 (type_of% @aWD):=⟨@aWD⟩
theorem aXL (p0 p1 r) (h:lV p0 p1=some r):Sc 459 [aX (M.Key.en p0),aX (M.Key.en p1)] [rI r]:=by
 unfold lV at h
 exact sgo 46 [.tmp 4] Tryz.func459
instance:bD 459 (type_of% @aXL):=⟨@aXL⟩
theorem aV8 (p0 r) (h:rX p0=some r):Sc 322 [aX (M.aH.en p0)] [rB r]:=by
 have i1:=inv fun m s=>∃v3:Int,(s.t 1=vP 1 1 0∧s.t 3=vI v3∧s.h 1=(1,oX 89 (M.aH.en p0)))∧gU p0 m v3=some r
 have e1:=@gU.eq_2
 unfold rX at h
 exact sgo 64 [.tmp 2] Tryz.func322
instance:bD 322 (type_of% @aV8):=⟨@aV8⟩
theorem aUh (p0 r) (h:zS p0=some r):Sc 181 [aX (M.Server.en p0)] [rB r]:=by
 have i1:=inv fun m s=>∃v3:Int,(s.t 1=vP 1 1 0∧s.t 3=vI v3∧s.h 1=(1,oX 234 (M.Server.en p0)))∧gB p0 m v3=some r
 have e1:=@gB.eq_2
 have i2:=inv fun m s=>∃v4:Int,(s.t 1=vP 1 1 0∧s.t 4=vI v4∧s.h 1=(1,oX 234 (M.Server.en p0)))∧hT p0 m v4=some r
 have e2:=@hT.eq_2
 unfold zS at h
 exact sgo 79 [.tmp 2] Tryz.func181
instance:bD 181 (type_of% @aUh):=⟨@aUh⟩
theorem aYJ (p0 r) (h:mV p0=some r):Sc 182 [aX (M.bH.en p0)] [rB r]:=by
 have i1:=inv fun m s=>∃v3:Int,(s.t 1=vP 1 1 0∧s.t 3=vI v3∧s.h 1=(1,oX 67 (M.bH.en p0)))∧mE p0 m v3=some r
 have e1:=@mE.eq_2
 unfold mV at h
 exact sgo 54 [.tmp 2] Tryz.func182
instance:bD 182 (type_of% @aYJ):=⟨@aYJ⟩
theorem c73 (p0 p1 p2 r) (h:gS p0 p1 p2=some r):Sc 73 [aX (M.aA.en p0),aS p1,aS p2] [rI r]:=by
 have i1:=inv fun m s=>∃v7:Int,(s.t 1=vS p1∧s.t 2=vS p2∧s.t 3=vP 3 1 0∧s.t 7=vI v7∧s.h 3=(1,oX 47 (M.aA.en p0)))∧fR p0 p1 p2 m v7=some r
 have e1:=@fR.eq_2
 unfold gS at h
 exact sgo 34 [.tmp 6] Tryz.func73
instance:bD 73 (type_of% @c73):=⟨@c73⟩
theorem aVL (p0 r) (h:jE p0=some r):Sc 142 [aX (M.Registration.en p0)] [rB r]:=by
 unfold jE at h
 simp only [EN]
 refine sgn 52 [.tmp 2] Tryz.func142 fun base wd => ?_
 refine sq (rn ?_)
 refine an (sq (rn ?_))
 refine an (sq (rn ?_))
 refine an (sq (sq ?_))
 refine cu (fun s=>s.t 1=vP 1 1 0∧s.t 3=vI 0∧s.t 4=vR 100012 1∧s.h 1=(1,oX 77 (M.Registration.en p0))∧s.h 100012=(1,oW 3 1 enI ([p0.Active,p0.Waiting,p0.Installing]))∧True) ?_
 rintro s1 ⟨f2,f3,f4,f5,f6,_⟩
 refine rn ?_
 refine an (bk ?_)
 refine aC5 (fun m s=>∃v3:Int,∃v5:Int,s.t 1=vP 1 1 0∧s.t 3=vI v3∧s.t 4=vR 100012 1∧s.t 5=vI v5∧s.h 1=(1,oX 77 (M.Registration.en p0))∧s.h 100012=(1,oW 3 1 enI ([p0.Active,p0.Waiting,p0.Installing]))∧bQ p0 m v3 v5=some r) fuel ?_ ?_
 ·refine ⟨0,0,?_,?_,?_,?_,?_,?_,h⟩
  all_goals simp +decide only [F,reduceIte,Nat.reduceAdd,qB,qC,EN, *,-h]
 rintro mL1 s7 ⟨v3,v5,f8,f9,f10,f11,f12,f13,h⟩
 rcases mL1 with _ | mL1
 ·exact absurd h (by simp [bQ])
 simp only [bQ] at h
 refine sq (sq (rn ?_))
 refine an ?_
 rcases aEW (decide (v5<((3:Nat):Int))) with b14 | b14
 ·replace h:=bI b14 h
  refine cf (xt (aEz (aEh (aIT (an (sq ?_))))))
  obtain ⟨x25,h26,h⟩:=bind_some h
  refine rn1 (aRn _ _ h26) ?_
  refine an (rt ?_)
  cases h
  simp [Ret,TB,EN, *]
 replace h:=bJ b14 h
 refine ct (sk (an (sq (bk (sq (sq ?_))))))
 obtain ⟨x15,h16,h⟩:=bind_some h
 obtain ⟨q17,q18,q19⟩:=aV h16
 have q17m:=congrArg (Option.map enI) (show ([p0.Active,p0.Waiting,p0.Installing])[v5.toNat]? = some x15 by assumption)
 simp only [←List.getElem?_map,List.map_cons,List.map_nil,Option.map_some,EN] at q17m
 simp only [qJ,qK,Nat.reduceAdd] at q19
 obtain ⟨x20,h21,h⟩:=bind_some h
 rcases bS (!x20) with b22 | b22
 ·replace h:=bJ b22 h
  refine rn1 (aNY _ _ _ _ h21) ?_
  refine an (ct (sq (rn ?_)))
  refine an (rt ?_)
  cases h
  simp [Ret,TB,EN, *]
 replace h:=bI b22 h
 rcases aEW (x15 != 0) with b23 | b23
 ·replace h:=bI b23 h
  refine rn1 (aNY _ _ _ _ h21) ?_
  refine an (cf (sk (an (sq (rn ?_)))))
  refine an (cf (sk (ab (an (rn ?_)))))
  refine mG ⟨mL1,by omega,v3,(IntKind.i64.wrap (v5+1)),?_,?_,?_,?_,?_,?_,h⟩
  all_goals simp +decide only [F,reduceIte,Nat.reduceAdd,qB,qC,EN, *,-h]
 replace h:=bJ b23 h
 refine rn1 (aNY _ _ _ _ h21) ?_
 refine an ?_
 rcases bS (decide (x15≤v3)) with b24 | b24
 ·replace h:=bJ b24 h
  refine ct (sq (rn ?_))
  refine an (rt ?_)
  cases h
  simp [Ret,TB,EN, *]
 replace h:=bI b24 h
 refine cf (sk (an (sq (rn ?_))))
 refine an (ct (rn ?_))
 refine ab (an (rn ?_))
 refine mG ⟨mL1,by omega,x15,(IntKind.i64.wrap (v5+1)),?_,?_,?_,?_,?_,?_,h⟩
 all_goals simp +decide only [F,reduceIte,Nat.reduceAdd,qB,qC,EN, *,-h]
instance:bD 142 (type_of% @aVL):=⟨@aVL⟩
theorem aWI (p0 r) (h:tT p0=some r):Sc 457 [aX (M.Response.en p0)] [rB r]:=by
 unfold tT at h
 exact sgo 22 [.tmp 2] Tryz.func457
instance:bD 457 (type_of% @aWI):=⟨@aWI⟩
theorem aUy (p0 r) (h:nE p0=some r):Sc 321 [aL M.Cached.en p0] [rB r]:=by
 have i1:=inv fun m s=>∃v3:Int,(s.t 0=vL M.Cached.en p0∧s.t 3=vI v3)∧eJ p0 m v3=some r
 have e1:=@eJ.eq_2
 have i2:=fun (v3:Int) (x5:M.Cached) (k20:Int→Option Bool)=>inv fun m s=>∃v4_L2:Int,(s.t 0=vL M.Cached.en p0∧s.t 3=vI v3∧s.t 4=vI v4_L2)∧fQ p0 v3 x5 k20 m v4_L2=some r
 have e2:=@fQ.eq_2
 unfold nE at h
 exact sgo 68 [.tmp 2] Tryz.func321
instance:bD 321 (type_of% @aUy):=⟨@aUy⟩
theorem aXm (p0 r) (h:tY p0=some r):Sc 143 [aX (M.aO.en p0)] [rB r]:=by
 have i1:=inv fun m s=>∃v3:Int,(s.t 1=vP 1 1 0∧s.t 3=vI v3∧s.h 1=(1,oX 80 (M.aO.en p0)))∧eF p0 m v3=some r
 have e1:=@eF.eq_2
 unfold tY at h
 exact sgo 53 [.tmp 2] Tryz.func143
instance:bD 143 (type_of% @aXm):=⟨@aXm⟩
theorem aWe (p0 p1 r) (h:vZ p0 p1=some r):Sc 236 [aX (M.Database.en p0),aS p1] [rI r]:=by
 have i1:=inv fun m s=>∃v5:Int,(s.t 1=vS p1∧s.t 2=vP 2 1 0∧s.t 5=vI v5∧s.h 2=(1,oX 84 (M.Database.en p0)))∧iR p0 p1 m v5=some r
 have e1:=@iR.eq_2
 unfold vZ at h
 exact sgo 22 [.tmp 4] Tryz.func236
instance:bD 236 (type_of% @aWe):=⟨@aWe⟩
theorem aUY (p0 p1 r) (h:lF p0 p1=some r):Sc 193 [aX (M.aW.en p0),aS p1] [rI r.1,rB r.2]:=by
 have i1:=inv fun m s=>∃v6:Int,(s.t 1=vS p1∧s.t 2=vP 2 1 0∧s.t 6=vI v6∧s.h 2=(1,oX 154 (M.aW.en p0)))∧lS p0 p1 m v6=some r
 have e1:=@lS.eq_2
 unfold lF at h
 exact sgo 28 [.tmp 4,.tmp 5] Tryz.func193
instance:bD 193 (type_of% @aUY):=⟨@aUY⟩
theorem aXC (p0 p1 p2 r) (h:aCH p0 p1 p2=some r):Sc 545 [aX (M.Item.en p0),aX (M.Item.en p1),aS p2] [rB r]:=by
 unfold aCH at h
 exact sgo 41 [.tmp 6] Tryz.func545
instance:bD 545 (type_of% @aXC):=⟨@aXC⟩
theorem aWW (p0 p1 r) (h:aAw p0 p1=some r):Sc 460 [aX (M.aH.en p0),aS p1] [rW 310 4 M.Item.en r]:=by
 have i1:=aLX [.t 5 7050000 310 4] fun m s=>∃v6:Int,∃r50000:List M.Item,∃u50000:Nat,(s.t 1=vS p1∧s.t 2=vP 2 1 0∧s.t 5=vR 7050000 u50000∧s.t 6=vI v6∧s.h 2=(1,oX 89 (M.aH.en p0))∧s.h 7050000=(u50000,oW 310 4 M.Item.en r50000))∧iV p0 p1 m v6 r50000=some r
 have e1:=@iV.eq_2
 have i2:=fun (v6:Int) (r50000:List M.Item) (x15:M.Item) (k24:Int→Option (List M.Item)) (u50000:Nat)=>inv fun m s=>∃v9_L2:Int,(s.t 1=vS p1∧s.t 2=vP 2 1 0∧s.t 5=vR 7050000 u50000∧s.t 6=vI v6∧s.t 9=vI v9_L2∧s.h 2=(1,oX 89 (M.aH.en p0))∧s.h 7050000=(u50000,oW 310 4 M.Item.en r50000))∧kF p1 r50000 x15 k24 m v9_L2=some r
 have e2:=@kF.eq_2
 unfold aAw at h
 exact sgo 72 [.tmp 4] Tryz.func460
instance:bD 460 (type_of% @aWW):=⟨@aWW⟩
theorem aUC (p0 p1 r) (h:pJ p0 p1=some r):Sc 323 [aX (M.aH.en p0),aS p1] [(true,M.Key.rs r.1),(true,M.Key.rs r.2.1),rB r.2.2]:=by
 have i1:=fun (x1:(List M.Item))=>inv fun m s=>∃v8:Int,(s.t 1=vS p1∧s.t 4=vP 4 1 0∧s.t 5=vP 5 1 0∧s.t 7=vR 100015 1∧s.t 8=vI v8∧s.h 4=(1,oB 161 [cI 0,cI 0,cS (⟨#[]⟩:ByteArray)])∧s.h 5=(1,oB 161 [cI 0,cI 0,cS (⟨#[]⟩:ByteArray)])∧s.h 100015=(1,oW 310 4 M.Item.en x1))∧jC p1 x1 m v8=some r
 have e1:=@jC.eq_2
 unfold pJ at h
 exact sgo 59 [.cell 4 161,.cell 5 161,.tmp 6] Tryz.func323
instance:bD 323 (type_of% @aUC):=⟨@aUC⟩
theorem aWP (p0 r) (h:sQ p0=some r):Sc 144 [aX (M.Database.en p0)] [rB r]:=by
 have i1:=inv fun m s=>∃v3:Int,(s.t 1=vP 1 1 0∧s.t 3=vI v3∧s.h 1=(1,oX 84 (M.Database.en p0)))∧eM p0 m v3=some r
 have e1:=@eM.eq_2
 have i2:=inv fun m s=>∃v4:Int,(s.t 1=vP 1 1 0∧s.t 4=vI v4∧s.h 1=(1,oX 84 (M.Database.en p0)))∧eN p0 m v4=some r
 have e2:=@eN.eq_2
 have i3:=fun (v4:Int) (x26:M.aE) (k46:Int→Option Bool)=>inv fun m s=>∃v9_L3:Int,(s.t 1=vP 1 1 0∧s.t 4=vI v4∧s.t 9=vI v9_L3∧s.h 1=(1,oX 84 (M.Database.en p0)))∧fP p0 v4 x26 k46 m v9_L3=some r
 have e3:=@fP.eq_2
 unfold sQ at h
 exact sgo 124 [.tmp 2] Tryz.func144
instance:bD 144 (type_of% @aWP):=⟨@aWP⟩
theorem aXR (p0 r) (h:uC p0=some r):Sc 324 [aX (M.aR.en p0)] [rB r]:=by
 have i1:=inv fun m s=>∃v4:Int,(s.t 1=vP 1 1 0∧s.t 3=vI (List.length p0.Writes:Int)∧s.t 4=vI v4∧s.h 1=(1,oX 92 (M.aR.en p0)))∧jL p0 m v4=some r
 have e1:=@jL.eq_2
 unfold uC at h
 exact sgo 60 [.tmp 2] Tryz.func324
instance:bD 324 (type_of% @aXR):=⟨@aXR⟩
theorem aW9 (p0 r) (h:wG p0=some r):Sc 145 [aX (M.aD.en p0)] [rB r]:=by
 unfold wG at h
 exact sgo 23 [.tmp 2] Tryz.func145
instance:bD 145 (type_of% @aW9):=⟨@aW9⟩
theorem aYI (p0 p1 r) (h:tC p0 p1=some r):Sc 461 [aX (M.Response.en p0),aB p1] [rI r]:=by
 unfold tC at h
 exact sgo 10 [.tmp 4] Tryz.func461
instance:bD 461 (type_of% @aYI):=⟨@aYI⟩
theorem aTw (p0 r) (h:sP p0=some r):Sc 325 [aX (M.aO.en p0)] [rI r]:=by
 have i1:=inv fun m s=>∃v3:Int,∃v4:Int,(s.t 1=vP 1 1 0∧s.t 3=vI v3∧s.t 4=vI v4∧s.h 1=(1,oX 80 (M.aO.en p0)))∧eB p0 m v3 v4=some r
 have e1:=@eB.eq_2
 have i2:=fun (v4:Int) (k8:Int→Int→Option Int)=>inv fun m s=>∃v3_L2:Int,∃v5_L2:Int,(s.t 1=vP 1 1 0∧s.t 3=vI v3_L2∧s.t 4=vI v4∧s.t 5=vI v5_L2∧s.h 1=(1,oX 80 (M.aO.en p0)))∧hJ p0 v4 k8 m v3_L2 v5_L2=some r
 have e2:=@hJ.eq_2
 unfold sP at h
 exact sgo 43 [.tmp 2] Tryz.func325
instance:bD 325 (type_of% @aTw):=⟨@aTw⟩
theorem aWy (p0 r) (h:wD p0=some r):Sc 384 [aX (M.Key.en p0)] [rW 5 1 enB r]:=by
 have i1:=inv fun m s=>∃v4:Int,∃r12:List Int,∃u12:Nat,(s.t 1=vP 1 1 0∧s.t 3=vR 100012 u12∧s.t 4=vI v4∧s.h 1=(1,oX 161 (M.Key.en p0))∧s.h 100012=(u12,oW 5 1 enB r12))∧cY p0 m v4 r12=some r
 have e1:=@cY.eq_2
 unfold wD at h
 exact sgo 38 [.tmp 2] Tryz.func384
instance:bD 384 (type_of% @aWy):=⟨@aWy⟩
theorem aU8 (p0 p1 r) (h:hO p0 p1=some r):Sc 381 [aL enB p0,aI p1] [rW 5 1 enB r]:=by
 have i1:=inv fun m s=>∃v1:Int,∃r6:List Int,∃u6:Nat,(s.t 1=vI v1∧s.t 5=vR 100006 u6∧s.h 100006=(u6,oW 5 1 enB r6))∧fM m v1 r6=some r
 have e1:=@fM.eq_2
 unfold hO at h
 exact sgo 29 [.tmp 4] Tryz.func381
instance:bD 381 (type_of% @aU8):=⟨@aU8⟩
theorem aWq (p0 p1 r) (h:pI p0 p1=some r):Sc 383 [aL enB p0,aL enB p1] [rW 5 1 enB r]:=by
 unfold pI at h
 exact sgo 11 [.tmp 4] Tryz.func383
instance:bD 383 (type_of% @aWq):=⟨@aWq⟩
theorem aXa (p0 r) (h:oH p0=some r):Sc 385 [aX (M.aW.en p0)] [rW 5 1 enB r]:=by
 have i1:=aLX [.t 3 7050000 5 1] fun m s=>∃v4:Int,∃r50000:List Int,∃u50000:Nat,(s.t 1=vP 1 1 0∧s.t 3=vR 7050000 u50000∧s.t 4=vI v4∧s.h 1=(1,oX 154 (M.aW.en p0))∧s.h 7050000=(u50000,oW 5 1 enB r50000))∧fW p0 m v4 r50000=some r
 have e1:=@fW.eq_2
 unfold oH at h
 exact sgo 38 [.tmp 2] Tryz.func385
instance:bD 385 (type_of% @aXa):=⟨@aXa⟩
theorem aTj (p0 r) (h:pA p0=some r):Sc 327 [aX (M.aH.en p0)] [rI r]:=by
 have i1:=inv fun m s=>∃v3:Int,∃v4:Int,(s.t 1=vP 1 1 0∧s.t 3=vI v3∧s.t 4=vI v4∧s.h 1=(1,oX 89 (M.aH.en p0)))∧iL p0 m v3 v4=some r
 have e1:=@iL.eq_2
 unfold pA at h
 exact sgo 32 [.tmp 2] Tryz.func327
instance:bD 327 (type_of% @aTj):=⟨@aTj⟩
theorem aTf (p0 r) (h:oD p0=some r):Sc 462 [aX (M.Database.en p0)] [rI r]:=by
 have i1:=inv fun m s=>∃v3:Int,∃v4:Int,(s.t 1=vP 1 1 0∧s.t 3=vI v3∧s.t 4=vI v4∧s.h 1=(1,oX 84 (M.Database.en p0)))∧fV p0 m v3 v4=some r
 have e1:=@fV.eq_2
 unfold oD at h
 exact sgo 21 [.tmp 2] Tryz.func462
instance:bD 462 (type_of% @aTf):=⟨@aTf⟩
theorem aT9 (p0 r) (h:aB9 p0=some r):Sc 326 [aX (M.bC.en p0)] [rI r]:=by
 unfold aB9 at h
 exact sgo 10 [.tmp 2] Tryz.func326
instance:bD 326 (type_of% @aT9):=⟨@aT9⟩
theorem aWv (p0 r) (h:aA8 p0=some r):Sc 147 [aX (M.aC.en p0)] [rI r]:=by
 unfold aA8 at h
 exact sgo 23 [.tmp 2] Tryz.func147
instance:bD 147 (type_of% @aWv):=⟨@aWv⟩
theorem c33 (p0 r) (h:tN p0=some r):Sc 33 [aX (M.aC.en p0)] [rB r]:=by
 unfold tN at h
 exact sgo 50 [.tmp 2] Tryz.func33
instance:bD 33 (type_of% @c33):=⟨@c33⟩
theorem aUZ (p0 p1 p2 r) (h:xS p0 p1 p2=some r):Sc 155 [aX (M.aC.en p0),aS p1,aS p2] [rB r]:=by
 unfold xS at h
 exact sgo 23 [.tmp 6] Tryz.func155
instance:bD 155 (type_of% @aUZ):=⟨@aUZ⟩
theorem aXu (p0 r) (h:bW p0=some r):Sc 156 [aX (M.aA.en p0)] [rB r]:=by
 have i1:=inv fun m s=>∃v3:Int,(s.t 1=vP 1 1 0∧s.t 3=vI v3∧s.h 1=(1,oX 47 (M.aA.en p0)))∧fL p0 m v3=some r
 have e1:=@fL.eq_2
 unfold bW at h
 exact sgo 48 [.tmp 2] Tryz.func156
instance:bD 156 (type_of% @aXu):=⟨@aXu⟩
theorem aXT (p0 r) (h:sG p0=some r):Sc 346 [aS p0] [rB r]:=by
 have i1:=inv fun m s=>∃v3:Int,(s.t 0=vS p0∧s.t 3=vI v3)∧dF p0 m v3=some r
 have e1:=@dF.eq_2
 unfold sG at h
 exact sgo 29 [.tmp 2] Tryz.func346
instance:bD 346 (type_of% @aXT):=⟨@aXT⟩
theorem aVA (p0 r) (h:rL p0=some r):Sc 183 [aX (M.aQ.en p0)] [rB r]:=by
 have i1:=inv fun m s=>∃v3:Int,(s.t 1=vP 1 1 0∧s.t 3=vI v3∧s.h 1=(1,oX 51 (M.aQ.en p0)))∧eZ p0 m v3=some r
 have e1:=@eZ.eq_2
 have i2:=fun (v3:Int) (x6:M.cJ) (k18:Int→Option Bool) (s1:St)=>inv fun m s=>∃v5_L2:Int,(s.t 1=vP 1 1 0∧s.t 3=vI v3∧s.t 4=vP 4 ((s1.h 4).1+1) 0∧s.t 5=vI v5_L2∧s.h 1=(1,oX 51 (M.aQ.en p0))∧s.h 4=(((s1.h 4).1+1),oX 249 (M.cJ.en x6)))∧bZ p0 v3 x6 k18 m v5_L2=some r
 have e2:=@bZ.eq_2
 unfold rL at h
 exact sgo 67 [.tmp 2] Tryz.func183
instance:bD 183 (type_of% @aVA):=⟨@aVA⟩
theorem c51 (p0 r) (h:lA p0=some r):Sc 51 [aX (M.World.en p0)] [rB r]:=by
 have i1:=inv fun m s=>∃v3:Int,(s.t 1=vP 1 1 0∧s.t 3=vI v3∧s.h 1=(1,oX 58 (M.World.en p0)))∧iY p0 m v3=some r
 have e1:=@iY.eq_2
 have i2:=inv fun m s=>∃v4:Int,(s.t 1=vP 1 1 0∧s.t 4=vI v4∧s.h 1=(1,oX 58 (M.World.en p0)))∧dL p0 m v4=some r
 have e2:=@dL.eq_2
 unfold lA at h
 exact sgo 126 [.tmp 2] Tryz.func51
instance:bD 51 (type_of% @c51):=⟨@c51⟩
theorem aVh (p0 r) (h:uX p0=some r):Sc 211 [aX (M.World.en p0)] [rI r]:=by
 unfold uX at h
 exact sgo 9 [.tmp 2] Tryz.func211
instance:bD 211 (type_of% @aVh):=⟨@aVh⟩
theorem aVr (p0 r) (h:aBF p0=some r):Sc 363 [aI p0] [(true,M.aR.rs r.1),rB r.2]:=by
 unfold aBF at h
 exact sgo 12 [.cell 2 92,.tmp 3] Tryz.func363
instance:bD 363 (type_of% @aVr):=⟨@aVr⟩
theorem aVC (p0 p1 p2 r) (h:vV p0 p1 p2=some r):Sc 210 [aS p0,aS p1,aI p2] [(true,M.aC.rs r.1),rB r.2]:=by
 unfold vV at h
 exact sgo 42 [.cell 6 98,.tmp 7] Tryz.func210
instance:bD 210 (type_of% @aVC):=⟨@aVC⟩
theorem c36 (p0 p1 r) (h:mB p0 p1=some r):Sc 36 [aX (M.aA.en p0),aX (M.aC.en p1)] [(true,M.aA.rs r.1),rB r.2]:=by
 have i1:=fun (x1:M.aA)=>inv fun m s=>∃v8:Int,(s.t 2=vP 2 1 0∧s.t 3=vP 3 1 0∧s.t 4=vP 4 1 0∧s.t 6=vP 6 1 0∧s.t 8=vI v8∧s.h 2=(1,oX 47 (M.aA.en p0))∧s.h 3=(1,oX 98 (M.aC.en p1))∧s.h 4=(1,oB 47 [.nil])∧s.h 6=(1,oB 47 [.row 100011 1])∧s.h 100011=(1,oW 98 24 M.aC.en x1.Buckets))∧iP p0 p1 x1 m v8=some r
 have e1:=@iP.eq_2
 unfold mB at h
 exact sgo 74 [.cell 4 47,.tmp 5] Tryz.func36
instance:bD 36 (type_of% @c36):=⟨@c36⟩
theorem aUd (p0 p1 p2 r) (h:kN p0 p1 p2=some r):Sc 212 [aX (M.Registration.en p0),aX (M.Site.en p1),aB p2] [rI r]:=by
 unfold kN at h
 exact sgo 15 [.tmp 6] Tryz.func212
instance:bD 212 (type_of% @aUd):=⟨@aUd⟩
end Go.Proofs.YtimblbmbfdopgaaGreat.gen
