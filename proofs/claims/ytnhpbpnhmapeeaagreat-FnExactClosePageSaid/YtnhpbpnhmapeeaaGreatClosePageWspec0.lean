/-
  Helper text. No conditions.
-/
import Derived.Test.YtnhpbpnhmapeeaaGreatClosePageTi
namespace Go.Proofs.YtnhpbpnhmapeeaaGreat.gen
open Go Go.Sh
open Go.IntKind (i64)
set_option linter.unusedVariables false
set_option linter.unusedSimpArgs false
set_option maxRecDepth 20000
set_option maxHeartbeats 4000000
theorem aTc (p0 r) (h:yX p0=some r):Sc 337 [aX (M.Response.en p0)] [(true,M.Response.rs r)]:=by
 unfold yX at h
 exact sgo 11 [.cell 2 137] Tryz.func337
instance:bD 337 (type_of% @aTc):=⟨@aTc⟩
theorem aSG (p0 r) (h:wE p0=some r):Sc 251 [aX (M.Cache.en p0)] [(true,M.Cache.rs r)]:=by
 have i1:=aJj [.b 3 1 7050000 368 7] fun m s=>∃v4:Int,∃r50000:List M.Cached,∃u50000:Nat,(s.t 1=vP 1 1 0∧s.t 2=vP 2 1 0∧s.t 3=vP 3 1 0∧s.t 4=vI v4∧s.h 1=(1,oX 286 (M.Cache.en p0))∧s.h 2=(1,oB 286 [cI 0,.nil])∧s.h 3=(1,oB 286 [cI p0.Version,.row 7050000 u50000])∧s.h 7050000=(u50000,oW 368 7 M.Cached.en r50000))∧iM p0 m v4 r50000=some r
 have e1:=@iM.eq_2
 unfold wE at h
 exact sgo 36 [.cell 2 286] Tryz.func251
instance:bD 251 (type_of% @aSG):=⟨@aSG⟩
theorem aQx (p0 r) (h:zQ p0=some r):Sc 140 [aX (M.aT.en p0)] [(true,M.aT.rs r)]:=by
 have i1:=aJj [.b 3 0 7050000 286 2] fun m s=>∃v4:Int,∃r50000:List M.Cache,∃u50000:Nat,(s.t 1=vP 1 1 0∧s.t 2=vP 2 1 0∧s.t 3=vP 3 1 0∧s.t 4=vI v4∧s.h 1=(1,oX 110 (M.aT.en p0))∧s.h 2=(1,oB 110 [.nil])∧s.h 3=(1,oB 110 [.row 7050000 u50000])∧s.h 7050000=(u50000,oW 286 2 M.Cache.en r50000))∧jU p0 m v4 r50000=some r
 have e1:=@jU.eq_2
 unfold zQ at h
 exact sgo 25 [.cell 2 110] Tryz.func140
instance:bD 140 (type_of% @aQx):=⟨@aQx⟩
theorem aUr (p0 r) (h:aAb p0=some r):Sc 370 [aX (M.aU.en p0)] [(true,M.aU.rs r)]:=by
 unfold aAb at h
 exact sgo 8 [.cell 2 355] Tryz.func370
instance:bD 370 (type_of% @aUr):=⟨@aUr⟩
theorem aPY (p0 r) (h:xI p0=some r):Sc 327 [aX (M.Item.en p0)] [(true,M.Item.rs r)]:=by
 unfold xI at h
 exact sgo 9 [.cell 2 357] Tryz.func327
instance:bD 327 (type_of% @aPY):=⟨@aPY⟩
theorem aUK (p0 r) (h:rP p0=some r):Sc 241 [aX (M.aH.en p0)] [(true,M.aH.rs r)]:=by
 have i1:=aJj [.b 3 1 7050000 357 4] fun m s=>∃v4:Int,∃r50000:List M.Item,∃u50000:Nat,(s.t 1=vP 1 1 0∧s.t 2=vP 2 1 0∧s.t 3=vP 3 1 0∧s.t 4=vI v4∧s.h 1=(1,oX 98 (M.aH.en p0))∧s.h 2=(1,oB 98 [cS (⟨#[]⟩:ByteArray),.nil,cI 0])∧s.h 3=(1,oB 98 [cS p0.Name,.row 7050000 u50000,cI p0.Auto])∧s.h 7050000=(u50000,oW 357 4 M.Item.en r50000))∧lA p0 m v4 r50000=some r
 have e1:=@lA.eq_2
 unfold rP at h
 exact sgo 29 [.cell 2 98] Tryz.func241
instance:bD 241 (type_of% @aUK):=⟨@aUK⟩
theorem aTu (p0 r) (h:aAS p0=some r):Sc 252 [aX (M.Database.en p0)] [(true,M.Database.rs r)]:=by
 have i1:=aJj [.b 3 2 7050000 98 3] fun m s=>∃v4:Int,∃r50000:List M.aH,∃u50000:Nat,(s.t 1=vP 1 1 0∧s.t 2=vP 2 1 0∧s.t 3=vP 3 1 0∧s.t 4=vI v4∧s.h 1=(1,oX 114 (M.Database.en p0))∧s.h 2=(1,oB 114 [cS (⟨#[]⟩:ByteArray),cI 0,.nil,.nil])∧s.h 3=(1,oB 114 [cS p0.Name,cI p0.Version,.row 7050000 u50000,.row 100009 2])∧s.h 100009=(2,oW 383 2 M.aA.en p0.Unique)∧s.h 7050000=(u50000,oW 98 3 M.aH.en r50000))∧lC p0 m v4 r50000=some r
 have e1:=@lC.eq_2
 unfold aAS at h
 exact sgo 33 [.cell 2 114] Tryz.func252
instance:bD 252 (type_of% @aTu):=⟨@aTu⟩
theorem aTS (p0 r) (h:yA p0=some r):Sc 141 [aX (M.bE.en p0)] [(true,M.bE.rs r)]:=by
 unfold yA at h
 exact sgo 13 [.cell 2 116] Tryz.func141
instance:bD 141 (type_of% @aTS):=⟨@aTS⟩
theorem aRb (p0 r) (h:zG p0=some r):Sc 298 [aX (M.aV.en p0)] [(true,M.aV.rs r)]:=by
 unfold zG at h
 exact sgo 11 [.cell 2 118] Tryz.func298
instance:bD 298 (type_of% @aRb):=⟨@aRb⟩
theorem aTD (p0 r) (h:yJ p0=some r):Sc 253 [aX (M.Sync.en p0)] [(true,M.Sync.rs r)]:=by
 unfold yJ at h
 exact sgo 10 [.cell 2 120] Tryz.func253
instance:bD 253 (type_of% @aTD):=⟨@aTD⟩
theorem aR7 (p0 r) (h:zO p0=some r):Sc 142 [aX (M.aD.en p0)] [(true,M.aD.rs r)]:=by
 unfold zO at h
 exact sgo 12 [.cell 2 122] Tryz.func142
instance:bD 142 (type_of% @aR7):=⟨@aR7⟩
theorem c42 (p0 r) (h:xW p0=some r):Sc 42 [aX (M.aF.en p0)] [(true,M.aF.rs r)]:=by
 unfold xW at h
 exact sgo 18 [.cell 2 124] Tryz.func42
instance:bD 42 (type_of% @c42):=⟨@c42⟩
theorem aUG (p0 r) (h:yI p0=some r):Sc 127 [aX (M.aM.en p0)] [(true,M.aM.rs r)]:=by
 have i1:=aJj [.b 3 0 7050000 124 24] fun m s=>∃v4:Int,∃r50000:List M.aF,∃u50000:Nat,(s.t 1=vP 1 1 0∧s.t 2=vP 2 1 0∧s.t 3=vP 3 1 0∧s.t 4=vI v4∧s.h 1=(1,oX 26 (M.aM.en p0))∧s.h 2=(1,oB 26 [.nil])∧s.h 3=(1,oB 26 [.row 7050000 u50000])∧s.h 7050000=(u50000,oW 124 24 M.aF.en r50000))∧jJ p0 m v4 r50000=some r
 have e1:=@jJ.eq_2
 unfold yI at h
 exact sgo 25 [.cell 2 26] Tryz.func127
instance:bD 127 (type_of% @aUG):=⟨@aUG⟩
theorem aSj (p0 r) (h:tC p0=some r):Sc 255 [aL M.Instr.en p0] [rW 196 4 M.Instr.en r]:=by
 unfold tC at h
 exact sgo 6 [.tmp 2] Tryz.func255
instance:bD 255 (type_of% @aSj):=⟨@aSj⟩
theorem aRa (p0 r) (h:yV p0=some r):Sc 240 [aX (M.Machine.en p0)] [(true,M.Machine.rs r)]:=by
 unfold yV at h
 exact sgo 15 [.cell 2 78] Tryz.func240
instance:bD 240 (type_of% @aRa):=⟨@aRa⟩
theorem aSN (p0 r) (h:yK p0=some r):Sc 128 [aX (M.bG.en p0)] [(true,M.bG.rs r)]:=by
 unfold yK at h
 exact sgo 15 [.cell 2 80] Tryz.func128
instance:bD 128 (type_of% @aSN):=⟨@aSN⟩
theorem aRL (p0 r) (h:pG p0=some r):Sc 129 [aX (M.aE.en p0)] [(true,M.aE.rs r)]:=by
 unfold pG at h
 exact sgo 8 [.cell 2 30] Tryz.func129
instance:bD 129 (type_of% @aRL):=⟨@aRL⟩
theorem aTf (p0 r) (h:uP p0=some r):Sc 130 [aX (M.Channel.en p0)] [(true,M.Channel.rs r)]:=by
 unfold uP at h
 exact sgo 8 [.cell 2 33] Tryz.func130
instance:bD 130 (type_of% @aTf):=⟨@aTf⟩
theorem aRJ (p0 r) (h:yY p0=some r):Sc 131 [aX (M.Site.en p0)] [(true,M.Site.rs r)]:=by
 unfold yY at h
 exact sgo 11 [.cell 2 95] Tryz.func131
instance:bD 131 (type_of% @aRJ):=⟨@aRJ⟩
theorem aQr (p0 r) (h:yO p0=some r):Sc 132 [aX (M.Server.en p0)] [(true,M.Server.rs r)]:=by
 unfold yO at h
 exact sgo 15 [.cell 2 102] Tryz.func132
instance:bD 132 (type_of% @aQr):=⟨@aQr⟩
theorem c36 (p0 r) (h:zR p0=some r):Sc 36 [aX (M.World.en p0)] [(true,M.World.rs r)]:=by
 have i1:=fun (x1:M.aM)=>inv fun m s=>∃v4:Int,∃r12:List M.bG,∃u12:Nat,(s.t 1=vP 1 1 0∧s.t 2=vP 2 1 0∧s.t 3=vP 3 1 0∧s.t 4=vI v4∧s.h 1=(1,oX 37 (M.World.en p0))∧s.h 2=(1,oB 37 [cI 0,cB false,cI 0,.nil,.nil,cI 0,.nil,.nil,.nil,.nil])∧s.h 3=(1,oB 37 [cI p0.Now,cB p0.Online,cI p0.Device,.row 100010 1,.row 100012 u12,cI p0.NextPage,cL M.bF.en p0.Locks.Locks,cL M.bU.en p0.Channel.Mails,cL M.Site.en p0.Sites,cL M.Server.en p0.Servers])∧s.h 100010=(1,oW 124 24 M.aF.en x1.Buckets)∧s.h 100012=(u12,oW 80 11 M.bG.en r12))∧iG p0 x1 m v4 r12=some r
 have e1:=@iG.eq_2
 have i2:=fun (x1:M.aM) (r12:List M.bG) (x42:M.aE) (x44:M.Channel) (s12:St) (u12:Nat)=>inv fun m s=>∃v5:Int,∃r40:List M.Site,∃u40:Nat,(s.t 1=vP 1 1 0∧s.t 2=vP 2 1 0∧s.t 3=vP 3 1 0∧s.t 5=vI v5∧s.h 1=(1,oX 37 (M.World.en p0))∧s.h 2=(1,oB 37 [cI 0,cB false,cI 0,.nil,.nil,cI 0,.nil,.nil,.nil,.nil])∧s.h 3=(1,oB 37 [cI p0.Now,cB p0.Online,cI p0.Device,.row 100010 1,.row 100012 u12,cI p0.NextPage,.row 100034 ((s12.h 100034).1+1),.row 100038 ((s12.h 100038).1+1),.row 100040 u40,cL M.Server.en p0.Servers])∧s.h 100010=(1,oW 124 24 M.aF.en x1.Buckets)∧s.h 100012=(u12,oW 80 11 M.bG.en r12)∧s.h 100034=(((s12.h 100034).1+1),oW 144 4 M.bF.en x42.Locks)∧s.h 100038=(((s12.h 100038).1+1),oW 232 3 M.bU.en x44.Mails)∧s.h 100040=(u40,oW 95 4 M.Site.en r40))∧gP p0 x1 r12 x42 x44 m v5 r40=some r
 have e2:=@gP.eq_2
 have i3:=fun (x1:M.aM) (r12:List M.bG) (x42:M.aE) (x44:M.Channel) (r40:List M.Site) (s12:St) (u12:Nat) (u40:Nat)=>inv fun m s=>∃v6:Int,∃r60:List M.Server,∃u60:Nat,(s.t 1=vP 1 1 0∧s.t 2=vP 2 1 0∧s.t 3=vP 3 1 0∧s.t 6=vI v6∧s.h 1=(1,oX 37 (M.World.en p0))∧s.h 2=(1,oB 37 [cI 0,cB false,cI 0,.nil,.nil,cI 0,.nil,.nil,.nil,.nil])∧s.h 3=(1,oB 37 [cI p0.Now,cB p0.Online,cI p0.Device,.row 100010 1,.row 100012 u12,cI p0.NextPage,.row 100034 ((s12.h 100034).1+1),.row 100038 ((s12.h 100038).1+1),.row 100040 u40,.row 100060 u60])∧s.h 100010=(1,oW 124 24 M.aF.en x1.Buckets)∧s.h 100012=(u12,oW 80 11 M.bG.en r12)∧s.h 100034=(((s12.h 100034).1+1),oW 144 4 M.bF.en x42.Locks)∧s.h 100038=(((s12.h 100038).1+1),oW 232 3 M.bU.en x44.Mails)∧s.h 100040=(u40,oW 95 4 M.Site.en r40)∧s.h 100060=(u60,oW 102 5 M.Server.en r60))∧gM p0 x1 r12 x42 x44 r40 m v6 r60=some r
 have e3:=@gM.eq_2
 unfold zR at h
 exact sgo 81 [.cell 2 37] Tryz.func36
instance:bD 36 (type_of% @c36):=⟨@c36⟩
theorem aQp (p0 p1 r) (h:zI p0 p1=some r):Sc 175 [aL M.bG.en p0,aI p1] [rI r]:=by
 have i1:=inv fun m s=>∃v5:Int,(s.t 0=vL M.bG.en p0∧s.t 1=vI p1∧s.t 5=vI v5)∧jM p0 p1 m v5=some r
 have e1:=@jM.eq_2
 unfold zI at h
 exact sgo 20 [.tmp 4] Tryz.func175
instance:bD 175 (type_of% @aQp):=⟨@aQp⟩
theorem c61 (p0 p1 r) (h:tO p0 p1=some r):Sc 61 [aX (M.World.en p0),aI p1] [rI r]:=by
 unfold tO at h
 exact sgo 9 [.tmp 4] Tryz.func61
instance:bD 61 (type_of% @c61):=⟨@c61⟩
theorem c34 (p0 p1 p2 r) (h:bK p0 p1 p2=some r):Sc 34 [aI p0,aI p1,aI p2] [rB r]:=by
 unfold bK at h
 exact sgo 15 [.tmp 6] Tryz.func34
instance:bD 34 (type_of% @c34):=⟨@c34⟩
theorem aPk (p0 r) (h:cJ p0=some r):Sc 242 [aS p0] [rB r]:=by
 have i1:=inv fun m s=>∃v3:Int,(s.t 0=vS p0∧s.t 3=vI v3)∧jC p0 m v3=some r
 have e1:=@jC.eq_2
 unfold cJ at h
 exact sgo 23 [.tmp 2] Tryz.func242
instance:bD 242 (type_of% @aPk):=⟨@aPk⟩
theorem aUD (p0 r) (h:aAp p0=some r):Sc 133 [aX (M.Site.en p0)] [rB r]:=by
 have i1:=inv fun m s=>∃v3:Int,(s.t 1=vP 1 1 0∧s.t 3=vI v3∧s.h 1=(1,oX 95 (M.Site.en p0)))∧hT p0 m v3=some r
 have e1:=@hT.eq_2
 unfold aAp at h
 exact sgo 50 [.tmp 2] Tryz.func133
instance:bD 133 (type_of% @aUD):=⟨@aUD⟩
theorem c35 (r) (h:aAV=some r):Sc 35 [] [rW 9 1 enS r]:=by
 unfold aAV at h
 exact sgo 2 [.tmp 0] Tryz.func35
instance:bD 35 (type_of% @c35):=⟨@c35⟩
theorem aRD (p0 r) (h:xD p0=some r):Sc 394 [aS p0] [rB r]:=by
 have i1:=inv fun m s=>∃v3:Int,(s.t 0=vS p0∧s.t 3=vI v3)∧gF p0 m v3=some r
 have e1:=@gF.eq_2
 unfold xD at h
 exact sgo 35 [.tmp 2] Tryz.func394
instance:bD 394 (type_of% @aRD):=⟨@aRD⟩
theorem aPy (p0 r) (h:nP p0=some r):Sc 328 [aX (M.Key.en p0)] [rB r]:=by
 unfold nP at h
 exact sgo 36 [.tmp 2] Tryz.func328
instance:bD 328 (type_of% @aPy):=⟨@aPy⟩
theorem aUZ (p0 r) (h:iY p0=some r):Sc 243 [aX (M.aY.en p0)] [rB r]:=by
 unfold iY at h
 exact sgo 26 [.tmp 2] Tryz.func243
instance:bD 243 (type_of% @aUZ):=⟨@aUZ⟩
theorem aRB (p0 r) (h:rD p0=some r):Sc 329 [aX (M.aU.en p0)] [rB r]:=by
 have i1:=inv fun m s=>∃v3:Int,(s.t 1=vP 1 1 0∧s.t 3=vI v3∧s.h 1=(1,oX 355 (M.aU.en p0)))∧fU p0 m v3=some r
 have e1:=@fU.eq_2
 unfold rD at h
 exact sgo 53 [.tmp 2] Tryz.func329
instance:bD 329 (type_of% @aRB):=⟨@aRB⟩
theorem aTA (p0 p1 r) (h:xF p0 p1=some r):Sc 395 [aB p0,aB p1] [rI r]:=by
 unfold xF at h
 exact sgo 7 [.tmp 4] Tryz.func395
instance:bD 395 (type_of% @aTA):=⟨@aTA⟩
theorem aUA (p0 p1 r) (h:kP p0 p1=some r):Sc 330 [aX (M.Key.en p0),aX (M.Key.en p1)] [rI r]:=by
 unfold kP at h
 exact sgo 46 [.tmp 4] Tryz.func330
instance:bD 330 (type_of% @aUA):=⟨@aUA⟩
theorem aUP (p0 r) (h:pE p0=some r):Sc 244 [aX (M.aH.en p0)] [rB r]:=by
 have i1:=inv fun m s=>∃v3:Int,(s.t 1=vP 1 1 0∧s.t 3=vI v3∧s.h 1=(1,oX 98 (M.aH.en p0)))∧gQ p0 m v3=some r
 have e1:=@gQ.eq_2
 unfold pE at h
 exact sgo 64 [.tmp 2] Tryz.func244
instance:bD 244 (type_of% @aUP):=⟨@aUP⟩
theorem aTV (p0 r) (h:wU p0=some r):Sc 134 [aX (M.Server.en p0)] [rB r]:=by
 have i1:=inv fun m s=>∃v3:Int,(s.t 1=vP 1 1 0∧s.t 3=vI v3∧s.h 1=(1,oX 102 (M.Server.en p0)))∧fW p0 m v3=some r
 have e1:=@fW.eq_2
 have i2:=inv fun m s=>∃v4:Int,(s.t 1=vP 1 1 0∧s.t 4=vI v4∧s.h 1=(1,oX 102 (M.Server.en p0)))∧gZ p0 m v4=some r
 have e2:=@gZ.eq_2
 unfold wU at h
 exact sgo 79 [.tmp 2] Tryz.func134
instance:bD 134 (type_of% @aTV):=⟨@aTV⟩
theorem aS1 (p0 r) (h:aA3 p0=some r):Sc 135 [aX (M.bG.en p0)] [rB r]:=by
 have i1:=inv fun m s=>∃v3:Int,(s.t 1=vP 1 1 0∧s.t 3=vI v3∧s.h 1=(1,oX 80 (M.bG.en p0)))∧kX p0 m v3=some r
 have e1:=@kX.eq_2
 unfold aA3 at h
 exact sgo 54 [.tmp 2] Tryz.func135
instance:bD 135 (type_of% @aS1):=⟨@aS1⟩
theorem c41 (p0 p1 p2 r) (h:mG p0 p1 p2=some r):Sc 41 [aX (M.aM.en p0),aS p1,aS p2] [rI r]:=by
 have i1:=inv fun m s=>∃v7:Int,(s.t 1=vS p1∧s.t 2=vS p2∧s.t 3=vP 3 1 0∧s.t 7=vI v7∧s.h 3=(1,oX 26 (M.aM.en p0)))∧fL p0 p1 p2 m v7=some r
 have e1:=@fL.eq_2
 unfold mG at h
 exact sgo 34 [.tmp 6] Tryz.func41
instance:bD 41 (type_of% @c41):=⟨@c41⟩
theorem aSJ (p0 r) (h:iK p0=some r):Sc 247 [aX (M.Registration.en p0)] [rB r]:=by
 unfold iK at h
 simp only [EN]
 refine sgn 52 [.tmp 2] Tryz.func247 fun base wd => ?_
 refine sq (rn ?_)
 refine an (sq (rn ?_))
 refine an (sq (rn ?_))
 refine an (sq (sq ?_))
 refine cu (fun s=>s.t 1=vP 1 1 0∧s.t 3=vI 0∧s.t 4=vR 100012 1∧s.h 1=(1,oX 107 (M.Registration.en p0))∧s.h 100012=(1,oW 3 1 enI ([p0.Active,p0.Waiting,p0.Installing]))∧True) ?_
 rintro s1 ⟨f2,f3,f4,f5,f6,_⟩
 refine rn ?_
 refine an (bk ?_)
 refine jY (fun m s=>∃v3:Int,∃v5:Int,s.t 1=vP 1 1 0∧s.t 3=vI v3∧s.t 4=vR 100012 1∧s.t 5=vI v5∧s.h 1=(1,oX 107 (M.Registration.en p0))∧s.h 100012=(1,oW 3 1 enI ([p0.Active,p0.Waiting,p0.Installing]))∧bR p0 m v3 v5=some r) fuel ?_ ?_
 ·refine ⟨0,0,?_,?_,?_,?_,?_,?_,h⟩
  all_goals simp +decide only [F,reduceIte,Nat.reduceAdd,Bool.not_true,Bool.not_false,EN, *,-h]
 rintro mL1 s7 ⟨v3,v5,f8,f9,f10,f11,f12,f13,h⟩
 rcases mL1 with _ | mL1
 ·exact absurd h (by simp [bR])
 simp only [bR] at h
 refine sq (sq (rn ?_))
 refine an ?_
 rcases aA5 (decide (v5<((3:Nat):Int))) with b14 | b14
 ·replace h:=bH b14 h
  refine cf (xt (lO (nE (yR (an (sq ?_))))))
  obtain ⟨x25,h26,h⟩:=bind_some h
  refine rn1 (aPk _ _ h26) ?_
  refine an (rt ?_)
  cases h
  simp [Ret,TB,EN, *]
 replace h:=bI b14 h
 refine ct (sk (an (sq (bk (sq (sq ?_))))))
 obtain ⟨x15,h16,h⟩:=bind_some h
 obtain ⟨q17,q18,q19⟩:=aR h16
 have q17m:=congrArg (Option.map enI) (show ([p0.Active,p0.Waiting,p0.Installing])[v5.toNat]? = some x15 by assumption)
 simp only [←List.getElem?_map,List.map_cons,List.map_nil,Option.map_some,EN] at q17m
 simp only [List.length_cons,List.length_nil,Nat.reduceAdd] at q19
 obtain ⟨x20,h21,h⟩:=bind_some h
 rcases cU (!x20) with b22 | b22
 ·replace h:=bI b22 h
  refine rn1 (c34 _ _ _ _ h21) ?_
  refine an (ct (sq (rn ?_)))
  refine an (rt ?_)
  cases h
  simp [Ret,TB,EN, *]
 replace h:=bH b22 h
 rcases aA5 (x15 != 0) with b23 | b23
 ·replace h:=bH b23 h
  refine rn1 (c34 _ _ _ _ h21) ?_
  refine an (cf (sk (an (sq (rn ?_)))))
  refine an (cf (sk (ab (an (rn ?_)))))
  refine rQ ⟨mL1,by omega,v3,(i64.wrap (v5+1)),?_,?_,?_,?_,?_,?_,h⟩
  all_goals simp +decide only [F,reduceIte,Nat.reduceAdd,Bool.not_true,Bool.not_false,EN, *,-h]
 replace h:=bI b23 h
 refine rn1 (c34 _ _ _ _ h21) ?_
 refine an ?_
 rcases cU (decide (x15≤v3)) with b24 | b24
 ·replace h:=bI b24 h
  refine ct (sq (rn ?_))
  refine an (rt ?_)
  cases h
  simp [Ret,TB,EN, *]
 replace h:=bH b24 h
 refine cf (sk (an (sq (rn ?_))))
 refine an (ct (rn ?_))
 refine ab (an (rn ?_))
 refine rQ ⟨mL1,by omega,x15,(i64.wrap (v5+1)),?_,?_,?_,?_,?_,?_,h⟩
 all_goals simp +decide only [F,reduceIte,Nat.reduceAdd,Bool.not_true,Bool.not_false,EN, *,-h]
instance:bD 247 (type_of% @aSJ):=⟨@aSJ⟩
theorem aUU (p0 r) (h:qM p0=some r):Sc 396 [aX (M.Response.en p0)] [rB r]:=by
 unfold qM at h
 exact sgo 22 [.tmp 2] Tryz.func396
instance:bD 396 (type_of% @aUU):=⟨@aUU⟩
theorem aUi (p0 r) (h:lV p0=some r):Sc 331 [aL M.Cached.en p0] [rB r]:=by
 have i1:=inv fun m s=>∃v3:Int,(s.t 0=vL M.Cached.en p0∧s.t 3=vI v3)∧eJ p0 m v3=some r
 have e1:=@eJ.eq_2
 have i2:=fun (v3:Int) (x5:M.Cached) (k20:Int→Option Bool)=>inv fun m s=>∃v4_L2:Int,(s.t 0=vL M.Cached.en p0∧s.t 3=vI v3∧s.t 4=vI v4_L2)∧fK p0 v3 x5 k20 m v4_L2=some r
 have e2:=@fK.eq_2
 unfold lV at h
 exact sgo 68 [.tmp 2] Tryz.func331
instance:bD 331 (type_of% @aUi):=⟨@aUi⟩
theorem aTj (p0 r) (h:qQ p0=some r):Sc 248 [aX (M.aT.en p0)] [rB r]:=by
 have i1:=inv fun m s=>∃v3:Int,(s.t 1=vP 1 1 0∧s.t 3=vI v3∧s.h 1=(1,oX 110 (M.aT.en p0)))∧eG p0 m v3=some r
 have e1:=@eG.eq_2
 unfold qQ at h
 exact sgo 53 [.tmp 2] Tryz.func248
instance:bD 248 (type_of% @aTj):=⟨@aTj⟩
theorem aTg (p0 p1 r) (h:sJ p0 p1=some r):Sc 332 [aX (M.Database.en p0),aS p1] [rI r]:=by
 have i1:=inv fun m s=>∃v5:Int,(s.t 1=vS p1∧s.t 2=vP 2 1 0∧s.t 5=vI v5∧s.h 2=(1,oX 114 (M.Database.en p0)))∧iB p0 p1 m v5=some r
 have e1:=@iB.eq_2
 unfold sJ at h
 exact sgo 22 [.tmp 4] Tryz.func332
instance:bD 332 (type_of% @aTg):=⟨@aTg⟩
theorem aPo (p0 p1 r) (h:kA p0 p1=some r):Sc 398 [aX (M.aU.en p0),aS p1] [rI r.1,rB r.2]:=by
 have i1:=inv fun m s=>∃v6:Int,(s.t 1=vS p1∧s.t 2=vP 2 1 0∧s.t 6=vI v6∧s.h 2=(1,oX 355 (M.aU.en p0)))∧kM p0 p1 m v6=some r
 have e1:=@kM.eq_2
 unfold kA at h
 exact sgo 28 [.tmp 4,.tmp 5] Tryz.func398
instance:bD 398 (type_of% @aPo):=⟨@aPo⟩
theorem aPn (p0 p1 p2 r) (h:aA2 p0 p1 p2=some r):Sc 445 [aX (M.Item.en p0),aX (M.Item.en p1),aS p2] [rB r]:=by
 unfold aA2 at h
 exact sgo 41 [.tmp 6] Tryz.func445
instance:bD 445 (type_of% @aPn):=⟨@aPn⟩
theorem aS7 (p0 p1 r) (h:yW p0 p1=some r):Sc 397 [aX (M.aH.en p0),aS p1] [rW 357 4 M.Item.en r]:=by
 unfold yW at h
 simp only [EN]
 refine sgn 72 [.tmp 4] Tryz.func397 fun base wd => ?_
 refine sq (rn ?_)
 refine an (sq (rn ?_))
 refine an (sq (sq ?_))
 refine cu (fun s=>s.t 1=vS p1∧s.t 2=vP 2 1 0∧s.t 5=vR 100011 1∧s.h 2=(1,oX 98 (M.aH.en p0))∧s.h 100011=(1,oW 357 4 M.Item.en ([]:List M.Item))∧True) ?_
 rintro s1 ⟨f2,f3,f4,f5,f6,_⟩
 refine rn ?_
 refine an (bk ?_)
 refine aNe ((Gho.aLx (i:=5) (K:=7050000) (j:=100011) (by simp +decide only [F,reduceIte,Nat.reduceAdd,Bool.not_true,Bool.not_false,EN, *,-h];rfl) (by simp +decide only [F,reduceIte,Nat.reduceAdd,Bool.not_true,Bool.not_false,EN, *,-h];rfl))) ?_
 refine aKi (fun m s=>∃v6:Int,∃r50000:List M.Item,∃u50000:Nat,s.t 1=vS p1∧s.t 2=vP 2 1 0∧s.t 5=vR 7050000 u50000∧s.t 6=vI v6∧s.h 2=(1,oX 98 (M.aH.en p0))∧s.h 7050000=(u50000,oW 357 4 M.Item.en r50000)∧gK p0 p1 m v6 r50000=some r) fuel ?_ ?_
 ·refine ⟨0,([]:List M.Item),((s1.h 7050000).1+1),?_,?_,?_,?_,?_,?_,h⟩
  all_goals simp +decide only [F,reduceIte,Nat.reduceAdd,Bool.not_true,Bool.not_false,EN, *,-h]
 rintro mL1 s7 ⟨v6,r50000,u50000,f8,f9,f10,f11,f12,f13,h⟩
 rcases mL1 with _ | mL1
 ·exact absurd h (by simp [gK])
 simp only [gK] at h
 refine sq (sq (rn ?_))
 refine an ?_
 rcases aA5 (decide (v6<(List.length p0.Items:Int))) with b14 | b14
 ·replace h:=bH b14 h
  refine cf (xt (lO (nE (yR (an (sq (rn ?_)))))))
  refine an (rt ?_)
  cases h
  simp [Ret,TB,EN, *]
 replace h:=bI b14 h
 refine ct (sk (an (sq (bk (sq (sq ?_))))))
 obtain ⟨x15,h16,h⟩:=bind_some h
 obtain ⟨q17,q18,q19⟩:=aR h16
 obtain ⟨x20,h21,h⟩:=bind_some h
 refine rn1 (aPo _ _ _ h21) ?_
 refine an (sq (rn ?_))
 refine an ?_
 rcases cU (!x20.2) with b22 | b22
 ·replace h:=bI b22 h
  refine ct (xt (lO (yR (an (rn ?_)))))
  refine rQ ⟨_,(Gho.aLx (i:=5) (K:=7050000) (j:=7050000) (by simp +decide only [F,reduceIte,Nat.reduceAdd,Bool.not_true,Bool.not_false,EN, *,-h];rfl) (by simp +decide only [F,reduceIte,Nat.reduceAdd,Bool.not_true,Bool.not_false,EN, *,-h];rfl)),mL1,by omega,(i64.wrap (v6+1)),r50000,(u50000+1),?_,?_,?_,?_,?_,?_,h⟩
  all_goals simp +decide only [F,reduceIte,Nat.reduceAdd,Bool.not_true,Bool.not_false,EN, *,-h]
 replace h:=bH b22 h
 refine cf (sk (an (sq (rn ?_))))
 refine an (sq (bk ?_))
 obtain ⟨k24,e25,h⟩:=aPz (f:=fun kk=>gH p1 r50000 x15 kk fuel (List.length r50000:Int)) h
 refine jY (fun m s=>∃v9_L2:Int,s.t 1=vS p1∧s.t 2=vP 2 1 0∧s.t 5=vR 7050000 u50000∧s.t 6=vI v6∧s.t 9=vI v9_L2∧s.h 2=(1,oX 98 (M.aH.en p0))∧s.h 7050000=(u50000,oW 357 4 M.Item.en r50000)∧gH p1 r50000 x15 k24 m v9_L2=some r) fuel ?_ ?_
 ·refine ⟨(List.length r50000:Int),?_,?_,?_,?_,?_,?_,?_,h⟩
  all_goals simp +decide only [F,reduceIte,Nat.reduceAdd,Bool.not_true,Bool.not_false,EN, *,-h]
 rintro mL2 s23 ⟨v9_L2,f26,f27,f28,f29,f30,f31,f32,h⟩
 rcases mL2 with _ | mL2
 ·exact absurd h (by simp [gH])
 simp only [gH] at h
 refine sq (sq ?_)
 rcases aA5 (decide (v9_L2>0)) with b33 | b33
 ·replace h:=bH b33 h
  refine rd mixed ?_
  refine an (cf (xt (lO ?_)))
  subst e25
  refine nE (yR (an (sq ?_)))
  obtain ⟨x79,h80,h⟩:=bind_some h
  obtain ⟨x81,h82,h⟩:=bind_some h
  apply gS
  ·simp +decide only [E,reduceIte,Nat.reduceAdd,Nat.reduceMul,Bool.not_true,Bool.not_false,←List.map_take,←List.map_drop,L,aHD,aBl,M.Item.en,EN,b14,q17,q18,q19,b22,f26,f27,f28,f29,f30,f31,f32,b33]
   refine ⟨by first | exact uR h80 | exact (uR h80).2 | exact (uR h80).2.2,?_⟩
   try simp +decide only [E,reduceIte,Nat.reduceAdd,Nat.reduceMul,Bool.not_true,Bool.not_false,←List.map_take,←List.map_drop,L,aHD,aBl,M.Item.en,EN,b14,q17,q18,q19,b22,f26,f27,f28,f29,f30,f31,f32,b33]
   refine ⟨by (have hb:=oY h82);simp [M.Item.en,List.length_append,bJ,←List.map_take,←List.map_drop,-List.map_take,-List.map_drop] at hb ⊢ <;> omega,?_⟩
   try simp +decide only [E,reduceIte,Nat.reduceAdd,Nat.reduceMul,Bool.not_true,Bool.not_false,←List.map_take,←List.map_drop,L,aHD,aBl,M.Item.en,EN,b14,q17,q18,q19,b22,f26,f27,f28,f29,f30,f31,f32,b33]
   exact Is.mk _
  refine an (sq ?_)
  refine cu (fun s=>s.t 1=vS p1∧s.t 2=vP 2 1 0∧s.t 5=vR 7050000 u50000∧s.t 6=vI v6∧s.t 9=vI v9_L2∧s.t 10=vR 100052 (((s23.h 100052).1+1)+1)∧s.h 2=(1,oX 98 (M.aH.en p0))∧s.h 100052=((((s23.h 100052).1+1)+1),oW 357 4 M.Item.en (List.take v9_L2.toNat r50000))∧s.h 7050000=(u50000,.row 357 4 (aEL 4 0 v9_L2.toNat (List.map M.Item.en r50000)) true)∧True) ?_
  rintro s83 ⟨f84,f85,f86,f87,f88,f89,f90,f91,f92,_⟩
  obtain ⟨x93,h94,h⟩:=bind_some h
  obtain ⟨x95,h96,h⟩:=bind_some h
  refine rn2 (aPY _ _ h94) h96 ?_
  refine an ?_
  refine cu (fun s=>s.t 1=vS p1∧s.t 2=vP 2 1 0∧s.t 5=vR 7050000 u50000∧s.t 6=vI v6∧s.t 9=vI v9_L2∧s.t 10=vR 100052 ((((s23.h 100052).1+1)+1)+1)∧s.h 2=(1,oX 98 (M.aH.en p0))∧s.h 100052=(((((s23.h 100052).1+1)+1)+1),oW 357 4 M.Item.en ((List.take v9_L2.toNat r50000)++[x93]))∧s.h 7050000=(u50000,.row 357 4 (aEL 4 0 v9_L2.toNat (List.map M.Item.en r50000)) true)∧True) ?_
  rintro s97 ⟨f98,f99,f100,f101,f102,f103,f104,f105,f106,_⟩
  obtain ⟨x107,h108,h⟩:=bind_some h
  apply gS
  ·simp +decide only [E,reduceIte,Nat.reduceAdd,Nat.reduceMul,Bool.not_true,Bool.not_false,←List.map_take,←List.map_drop,L,aHD,aBl,M.Item.en,EN,b14,q17,q18,q19,b22,b33,f98,f99,f100,f101,f102,f103,f104,f105,f106]
   refine ⟨by first | exact aHr (uR h80).1 | exact (aHr (uR h80).1).2 | exact (aHr (uR h80).1).2.2,?_⟩
   try simp +decide only [E,reduceIte,Nat.reduceAdd,Nat.reduceMul,Bool.not_true,Bool.not_false,←List.map_take,←List.map_drop,L,aHD,aBl,M.Item.en,EN,b14,q17,q18,q19,b22,b33,f98,f99,f100,f101,f102,f103,f104,f105,f106]
   refine ⟨by (have hb:=oY h108);simp [M.Item.en,List.length_append,bJ,←List.map_take,←List.map_drop,-List.map_take,-List.map_drop] at hb ⊢ <;> omega,?_⟩
   try simp +decide only [E,reduceIte,Nat.reduceAdd,Nat.reduceMul,Bool.not_true,Bool.not_false,←List.map_take,←List.map_drop,L,aHD,aBl,M.Item.en,EN,b14,q17,q18,q19,b22,b33,f98,f99,f100,f101,f102,f103,f104,f105,f106]
   exact Is.mk _
  refine ab (an ?_)
  refine cu (fun s=>s.t 1=vS p1∧s.t 2=vP 2 1 0∧s.t 5=vR 100052 (((((s23.h 100052).1+1)+1)+1)+1)∧s.t 6=vI v6∧s.h 2=(1,oX 98 (M.aH.en p0))∧s.h 100052=((((((s23.h 100052).1+1)+1)+1)+1),oW 357 4 M.Item.en (((List.take v9_L2.toNat r50000)++[x93])++(List.drop v9_L2.toNat r50000)))∧True) ?_
  rintro s109 ⟨f110,f111,f112,f113,f114,f115,_⟩
  refine rn ?_
  refine rQ ⟨_,(Gho.aLx (i:=5) (K:=7050000) (j:=100052) (by simp +decide only [F,reduceIte,Nat.reduceAdd,Bool.not_true,Bool.not_false,EN, *,-h];rfl) (by simp +decide only [F,reduceIte,Nat.reduceAdd,Bool.not_true,Bool.not_false,EN, *,-h];rfl)),mL1,by omega,(i64.wrap (v6+1)),(((List.take v9_L2.toNat r50000)++[x93])++(List.drop v9_L2.toNat r50000)),((s109.h 7050000).1+1),?_,?_,?_,?_,?_,?_,h⟩
  all_goals simp +decide only [F,reduceIte,Nat.reduceAdd,Bool.not_true,Bool.not_false,EN, *,-h]
 replace h:=bI b33 h
 obtain ⟨x34,h35,h⟩:=bind_some h
 obtain ⟨q36,q37,q38⟩:=aR h35
 obtain ⟨x39,h40,h⟩:=bind_some h
 refine rd1 mixed (aPn _ _ _ _ h40) ?_
 refine an ?_
 rcases cU x39 with b41 | b41
 ·replace h:=bI b41 h
  refine ct (sk (an (bk (rn ?_))))
  refine ab ?_
  refine rQ ⟨mL2,by omega,(i64.wrap (v9_L2-1)),?_,?_,?_,?_,?_,?_,?_,h⟩
  all_goals simp +decide only [F,reduceIte,Nat.reduceAdd,Bool.not_true,Bool.not_false,EN, *,-h]
 replace h:=bH b41 h
 refine cf (xt (lO ?_))
 subst e25
 refine nE (yR (an (sq ?_)))
 obtain ⟨x42,h43,h⟩:=bind_some h
 obtain ⟨x44,h45,h⟩:=bind_some h
 apply gS
 ·simp +decide only [E,reduceIte,Nat.reduceAdd,Nat.reduceMul,Bool.not_true,Bool.not_false,←List.map_take,←List.map_drop,L,aHD,aBl,M.Item.en,EN,b14,q17,q18,q19,b22,f26,f27,f28,f29,f30,f31,f32,b33,q36,q37,q38,b41]
  refine ⟨by first | exact uR h43 | exact (uR h43).2 | exact (uR h43).2.2,?_⟩
  try simp +decide only [E,reduceIte,Nat.reduceAdd,Nat.reduceMul,Bool.not_true,Bool.not_false,←List.map_take,←List.map_drop,L,aHD,aBl,M.Item.en,EN,b14,q17,q18,q19,b22,f26,f27,f28,f29,f30,f31,f32,b33,q36,q37,q38,b41]
  refine ⟨by (have hb:=oY h45);simp [M.Item.en,List.length_append,bJ,←List.map_take,←List.map_drop,-List.map_take,-List.map_drop] at hb ⊢ <;> omega,?_⟩
  try simp +decide only [E,reduceIte,Nat.reduceAdd,Nat.reduceMul,Bool.not_true,Bool.not_false,←List.map_take,←List.map_drop,L,aHD,aBl,M.Item.en,EN,b14,q17,q18,q19,b22,f26,f27,f28,f29,f30,f31,f32,b33,q36,q37,q38,b41]
  exact Is.mk _
 refine an (sq ?_)
 refine cu (fun s=>s.t 1=vS p1∧s.t 2=vP 2 1 0∧s.t 5=vR 7050000 u50000∧s.t 6=vI v6∧s.t 9=vI v9_L2∧s.t 10=vR 100052 (((s23.h 100052).1+1)+1)∧s.h 2=(1,oX 98 (M.aH.en p0))∧s.h 100052=((((s23.h 100052).1+1)+1),oW 357 4 M.Item.en (List.take v9_L2.toNat r50000))∧s.h 7050000=(u50000,.row 357 4 (aEL 4 0 v9_L2.toNat (List.map M.Item.en r50000)) true)∧True) ?_
 rintro s46 ⟨f47,f48,f49,f50,f51,f52,f53,f54,f55,_⟩
 obtain ⟨x56,h57,h⟩:=bind_some h
 obtain ⟨x58,h59,h⟩:=bind_some h
 refine rn2 (aPY _ _ h57) h59 ?_
 refine an ?_
 refine cu (fun s=>s.t 1=vS p1∧s.t 2=vP 2 1 0∧s.t 5=vR 7050000 u50000∧s.t 6=vI v6∧s.t 9=vI v9_L2∧s.t 10=vR 100052 ((((s23.h 100052).1+1)+1)+1)∧s.h 2=(1,oX 98 (M.aH.en p0))∧s.h 100052=(((((s23.h 100052).1+1)+1)+1),oW 357 4 M.Item.en ((List.take v9_L2.toNat r50000)++[x56]))∧s.h 7050000=(u50000,.row 357 4 (aEL 4 0 v9_L2.toNat (List.map M.Item.en r50000)) true)∧True) ?_
 rintro s60 ⟨f61,f62,f63,f64,f65,f66,f67,f68,f69,_⟩
 obtain ⟨x70,h71,h⟩:=bind_some h
 apply gS
 ·simp +decide only [E,reduceIte,Nat.reduceAdd,Nat.reduceMul,Bool.not_true,Bool.not_false,←List.map_take,←List.map_drop,L,aHD,aBl,M.Item.en,EN,b14,q17,q18,q19,b22,b33,q36,q37,q38,b41,f61,f62,f63,f64,f65,f66,f67,f68,f69]
  refine ⟨by first | exact aHr (uR h43).1 | exact (aHr (uR h43).1).2 | exact (aHr (uR h43).1).2.2,?_⟩
  try simp +decide only [E,reduceIte,Nat.reduceAdd,Nat.reduceMul,Bool.not_true,Bool.not_false,←List.map_take,←List.map_drop,L,aHD,aBl,M.Item.en,EN,b14,q17,q18,q19,b22,b33,q36,q37,q38,b41,f61,f62,f63,f64,f65,f66,f67,f68,f69]
  refine ⟨by (have hb:=oY h71);simp [M.Item.en,List.length_append,bJ,←List.map_take,←List.map_drop,-List.map_take,-List.map_drop] at hb ⊢ <;> omega,?_⟩
  try simp +decide only [E,reduceIte,Nat.reduceAdd,Nat.reduceMul,Bool.not_true,Bool.not_false,←List.map_take,←List.map_drop,L,aHD,aBl,M.Item.en,EN,b14,q17,q18,q19,b22,b33,q36,q37,q38,b41,f61,f62,f63,f64,f65,f66,f67,f68,f69]
  exact Is.mk _
 refine ab (an ?_)
 refine cu (fun s=>s.t 1=vS p1∧s.t 2=vP 2 1 0∧s.t 5=vR 100052 (((((s23.h 100052).1+1)+1)+1)+1)∧s.t 6=vI v6∧s.h 2=(1,oX 98 (M.aH.en p0))∧s.h 100052=((((((s23.h 100052).1+1)+1)+1)+1),oW 357 4 M.Item.en (((List.take v9_L2.toNat r50000)++[x56])++(List.drop v9_L2.toNat r50000)))∧True) ?_
 rintro s72 ⟨f73,f74,f75,f76,f77,f78,_⟩
 refine rn ?_
 refine rQ ⟨_,(Gho.aLx (i:=5) (K:=7050000) (j:=100052) (by simp +decide only [F,reduceIte,Nat.reduceAdd,Bool.not_true,Bool.not_false,EN, *,-h];rfl) (by simp +decide only [F,reduceIte,Nat.reduceAdd,Bool.not_true,Bool.not_false,EN, *,-h];rfl)),mL1,by omega,(i64.wrap (v6+1)),(((List.take v9_L2.toNat r50000)++[x56])++(List.drop v9_L2.toNat r50000)),((s72.h 7050000).1+1),?_,?_,?_,?_,?_,?_,h⟩
 all_goals simp +decide only [F,reduceIte,Nat.reduceAdd,Bool.not_true,Bool.not_false,EN, *,-h]
instance:bD 397 (type_of% @aS7):=⟨@aS7⟩
theorem aQl (p0 p1 r) (h:nW p0 p1=some r):Sc 333 [aX (M.aH.en p0),aS p1] [(true,M.Key.rs r.1),(true,M.Key.rs r.2.1),rB r.2.2]:=by
 have i1:=fun (x1:(List M.Item))=>inv fun m s=>∃v8:Int,(s.t 1=vS p1∧s.t 4=vP 4 1 0∧s.t 5=vP 5 1 0∧s.t 7=vR 100015 1∧s.t 8=vI v8∧s.h 4=(1,oB 174 [cI 0,cI 0,cS (⟨#[]⟩:ByteArray)])∧s.h 5=(1,oB 174 [cI 0,cI 0,cS (⟨#[]⟩:ByteArray)])∧s.h 100015=(1,oW 357 4 M.Item.en x1))∧iH p1 x1 m v8=some r
 have e1:=@iH.eq_2
 unfold nW at h
 exact sgo 59 [.cell 4 174,.cell 5 174,.tmp 6] Tryz.func333
instance:bD 333 (type_of% @aQl):=⟨@aQl⟩
end Go.Proofs.YtnhpbpnhmapeeaaGreat.gen
