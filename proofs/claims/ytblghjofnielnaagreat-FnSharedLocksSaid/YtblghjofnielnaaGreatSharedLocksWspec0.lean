/-
  Helper text. No conditions.
-/
import Derived.Test.YtblghjofnielnaaGreatSharedLocksTi
namespace Go.Proofs.YtblghjofnielnaaGreat.gen
open Go Go.Sh
open Go.IntKind (i64)
set_option linter.unusedVariables false
set_option linter.unusedSimpArgs false
set_option maxRecDepth 20000
set_option maxHeartbeats 4000000
theorem c59 (p0 p1 p2 r) (h:aK p0 p1 p2=some r):Sc 59 [aI p0,aI p1,aI p2] [rB r]:=by
 unfold aK at h
 exact sgo 15 [.tmp 6] Tryz.func59
instance:aZ 59 (type_of% @c59):=⟨@c59⟩
theorem c60 (r) (h:jA=some r):Sc 60 [] [rW 9 1 enS r]:=by
 unfold jA at h
 exact sgo 2 [.tmp 0] Tryz.func60
instance:aZ 60 (type_of% @c60):=⟨@c60⟩
theorem c10 (p0 r) (h:pF p0=some r):Sc 10 [aI p0] [(true,M.World.rs r)]:=by
 have i1:=fun (x4:(List ByteArray))=>zN [.b 3 8 7050000 102 4,.b 3 9 7050001 131 5] fun m s=>∃v5:Int,∃r50000:List M.Site,∃r50001:List M.Server,∃u50000:Nat,∃u50001:Nat,(s.t 2=vP 2 1 0∧s.t 3=vP 3 1 0∧s.t 4=vR 100012 1∧s.t 5=vI v5∧s.h 2=(1,oB 37 [cI 0,cB false,cI 0,.nil,.nil,cI 0,.nil,.nil,.nil,.nil])∧s.h 3=(1,oB 37 [cI 0,cB true,cI p0,.nil,.nil,cI 1,.nil,.nil,.row 7050000 u50000,.row 7050001 u50001])∧s.h 100012=(1,oW 9 1 enS x4)∧s.h 7050000=(u50000,oW 102 4 M.Site.en r50000)∧s.h 7050001=(u50001,oW 131 5 M.Server.en r50001))∧iE p0 x4 m v5 r50000 r50001=some r
 have e1:=@iE.eq_2
 unfold pF at h
 exact sgo 43 [.cell 2 37] Tryz.func10
instance:aZ 10 (type_of% @c10):=⟨@c10⟩
theorem aFG (p0 r) (h:nR p0=some r):Sc 373 [aX (M.Response.en p0)] [(true,M.Response.rs r)]:=by
 unfold nR at h
 exact sgo 11 [.cell 2 146] Tryz.func373
instance:aZ 373 (type_of% @aFG):=⟨@aFG⟩
theorem aFw (p0 r) (h:pH p0=some r):Sc 244 [aX (M.Cache.en p0)] [(true,M.Cache.rs r)]:=by
 have i1:=zN [.b 3 1 7050000 284 7] fun m s=>∃v4:Int,∃r50000:List M.Cached,∃u50000:Nat,(s.t 1=vP 1 1 0∧s.t 2=vP 2 1 0∧s.t 3=vP 3 1 0∧s.t 4=vI v4∧s.h 1=(1,oX 277 (M.Cache.en p0))∧s.h 2=(1,oB 277 [cI 0,.nil])∧s.h 3=(1,oB 277 [cI p0.Version,.row 7050000 u50000])∧s.h 7050000=(u50000,oW 284 7 M.Cached.en r50000))∧iF p0 m v4 r50000=some r
 have e1:=@iF.eq_2
 unfold pH at h
 exact sgo 36 [.cell 2 277] Tryz.func244
instance:aZ 244 (type_of% @aFw):=⟨@aFw⟩
theorem c91 (p0 r) (h:qQ p0=some r):Sc 91 [aX (M.aM.en p0)] [(true,M.aM.rs r)]:=by
 have i1:=zN [.b 3 0 7050000 277 2] fun m s=>∃v4:Int,∃r50000:List M.Cache,∃u50000:Nat,(s.t 1=vP 1 1 0∧s.t 2=vP 2 1 0∧s.t 3=vP 3 1 0∧s.t 4=vI v4∧s.h 1=(1,oX 52 (M.aM.en p0))∧s.h 2=(1,oB 52 [.nil])∧s.h 3=(1,oB 52 [.row 7050000 u50000])∧s.h 7050000=(u50000,oW 277 2 M.Cache.en r50000))∧jW p0 m v4 r50000=some r
 have e1:=@jW.eq_2
 unfold qQ at h
 exact sgo 25 [.cell 2 52] Tryz.func91
instance:aZ 91 (type_of% @c91):=⟨@c91⟩
theorem aEV (p0 r) (h:rH p0=some r):Sc 523 [aX (M.bB.en p0)] [(true,M.bB.rs r)]:=by
 unfold rH at h
 exact sgo 8 [.cell 2 291] Tryz.func523
instance:aZ 523 (type_of% @aEV):=⟨@aEV⟩
theorem aDP (p0 r) (h:oV p0=some r):Sc 449 [aX (M.Item.en p0)] [(true,M.Item.rs r)]:=by
 unfold oV at h
 exact sgo 9 [.cell 2 293] Tryz.func449
instance:aZ 449 (type_of% @aDP):=⟨@aDP⟩
theorem aFo (p0 r) (h:lX p0=some r):Sc 338 [aX (M.aP.en p0)] [(true,M.aP.rs r)]:=by
 have i1:=zN [.b 3 1 7050000 293 4] fun m s=>∃v4:Int,∃r50000:List M.Item,∃u50000:Nat,(s.t 1=vP 1 1 0∧s.t 2=vP 2 1 0∧s.t 3=vP 3 1 0∧s.t 4=vI v4∧s.h 1=(1,oX 61 (M.aP.en p0))∧s.h 2=(1,oB 61 [cS (⟨#[]⟩:ByteArray),.nil,cI 0])∧s.h 3=(1,oB 61 [cS p0.Name,.row 7050000 u50000,cI p0.Auto])∧s.h 7050000=(u50000,oW 293 4 M.Item.en r50000))∧kW p0 m v4 r50000=some r
 have e1:=@kW.eq_2
 unfold lX at h
 exact sgo 29 [.cell 2 61] Tryz.func338
instance:aZ 338 (type_of% @aFo):=⟨@aFo⟩
theorem aF4 (p0 r) (h:rD p0=some r):Sc 229 [aX (M.Database.en p0)] [(true,M.Database.rs r)]:=by
 have i1:=zN [.b 3 2 7050000 61 3] fun m s=>∃v4:Int,∃r50000:List M.aP,∃u50000:Nat,(s.t 1=vP 1 1 0∧s.t 2=vP 2 1 0∧s.t 3=vP 3 1 0∧s.t 4=vI v4∧s.h 1=(1,oX 56 (M.Database.en p0))∧s.h 2=(1,oB 56 [cS (⟨#[]⟩:ByteArray),cI 0,.nil,.nil])∧s.h 3=(1,oB 56 [cS p0.Name,cI p0.Version,.row 7050000 u50000,.row 100009 2])∧s.h 100009=(2,oW 305 2 M.aU.en p0.Unique)∧s.h 7050000=(u50000,oW 61 3 M.aP.en r50000))∧kY p0 m v4 r50000=some r
 have e1:=@kY.eq_2
 unfold rD at h
 exact sgo 33 [.cell 2 56] Tryz.func229
instance:aZ 229 (type_of% @aF4):=⟨@aF4⟩
theorem c80 (p0 r) (h:qC p0=some r):Sc 80 [aX (M.pC.en p0)] [(true,M.pC.rs r)]:=by
 unfold qC at h
 exact sgo 13 [.cell 2 58] Tryz.func80
instance:aZ 80 (type_of% @c80):=⟨@c80⟩
theorem aEx (p0 r) (h:qM p0=some r):Sc 450 [aX (M.bE.en p0)] [(true,M.bE.rs r)]:=by
 unfold qM at h
 exact sgo 11 [.cell 2 64] Tryz.func450
instance:aZ 450 (type_of% @aEx):=⟨@aEx⟩
theorem aFl (p0 r) (h:qF p0=some r):Sc 339 [aX (M.Sync.en p0)] [(true,M.Sync.rs r)]:=by
 unfold qF at h
 exact sgo 10 [.cell 2 66] Tryz.func339
instance:aZ 339 (type_of% @aFl):=⟨@aFl⟩
theorem aEC (p0 r) (h:qP p0=some r):Sc 207 [aX (M.aV.en p0)] [(true,M.aV.rs r)]:=by
 unfold qP at h
 exact sgo 12 [.cell 2 68] Tryz.func207
instance:aZ 207 (type_of% @aEC):=⟨@aEC⟩
theorem c66 (p0 r) (h:fQ p0=some r):Sc 66 [aX (M.aJ.en p0)] [(true,M.aJ.rs r)]:=by
 unfold fQ at h
 exact sgo 18 [.cell 2 70] Tryz.func66
instance:aZ 66 (type_of% @c66):=⟨@c66⟩
theorem aBq (p0 r) (h:cK p0=some r):Sc 111 [aX (M.aF.en p0)] [(true,M.aF.rs r)]:=by
 have i1:=zN [.b 3 0 7050000 70 24] fun m s=>∃v4:Int,∃r50000:List M.aJ,∃u50000:Nat,(s.t 1=vP 1 1 0∧s.t 2=vP 2 1 0∧s.t 3=vP 3 1 0∧s.t 4=vI v4∧s.h 1=(1,oX 26 (M.aF.en p0))∧s.h 2=(1,oB 26 [.nil])∧s.h 3=(1,oB 26 [.row 7050000 u50000])∧s.h 7050000=(u50000,oW 70 24 M.aJ.en r50000))∧jI p0 m v4 r50000=some r
 have e1:=@jI.eq_2
 unfold cK at h
 exact sgo 25 [.cell 2 26] Tryz.func111
instance:aZ 111 (type_of% @aBq):=⟨@aBq⟩
theorem aEk (p0 r) (h:kT p0=some r):Sc 341 [aL M.Instr.en p0] [rW 245 4 M.Instr.en r]:=by
 unfold kT at h
 exact sgo 6 [.tmp 2] Tryz.func341
instance:aZ 341 (type_of% @aEk):=⟨@aEk⟩
theorem aFT (p0 r) (h:qH p0=some r):Sc 337 [aX (M.Machine.en p0)] [(true,M.Machine.rs r)]:=by
 unfold qH at h
 exact sgo 15 [.cell 2 138] Tryz.func337
instance:aZ 337 (type_of% @aFT):=⟨@aFT⟩
theorem aED (p0 r) (h:dZ p0=some r):Sc 201 [aX (M.dG.en p0)] [(true,M.dG.rs r)]:=by
 unfold dZ at h
 exact sgo 15 [.cell 2 140] Tryz.func201
instance:aZ 201 (type_of% @aED):=⟨@aED⟩
theorem aFZ (p0 r) (h:qL p0=some r):Sc 202 [aX (M.aD.en p0)] [(true,M.aD.rs r)]:=by
 unfold qL at h
 exact sgo 8 [.cell 2 30] Tryz.func202
instance:aZ 202 (type_of% @aFZ):=⟨@aFZ⟩
theorem aEy (p0 r) (h:qK p0=some r):Sc 203 [aX (M.Channel.en p0)] [(true,M.Channel.rs r)]:=by
 unfold qK at h
 exact sgo 8 [.cell 2 33] Tryz.func203
instance:aZ 203 (type_of% @aEy):=⟨@aEy⟩
theorem aEL (p0 r) (h:qJ p0=some r):Sc 204 [aX (M.Site.en p0)] [(true,M.Site.rs r)]:=by
 unfold qJ at h
 exact sgo 11 [.cell 2 102] Tryz.func204
instance:aZ 204 (type_of% @aEL):=⟨@aEL⟩
theorem aEr (p0 r) (h:qG p0=some r):Sc 205 [aX (M.Server.en p0)] [(true,M.Server.rs r)]:=by
 unfold qG at h
 exact sgo 15 [.cell 2 131] Tryz.func205
instance:aZ 205 (type_of% @aEr):=⟨@aEr⟩
theorem c61 (p0 r) (h:cD p0=some r):Sc 61 [aX (M.World.en p0)] [(true,M.World.rs r)]:=by
 have i1:=fun (x1:M.aF)=>inv fun m s=>∃v4:Int,∃r12:List M.dG,∃u12:Nat,(s.t 1=vP 1 1 0∧s.t 2=vP 2 1 0∧s.t 3=vP 3 1 0∧s.t 4=vI v4∧s.h 1=(1,oX 37 (M.World.en p0))∧s.h 2=(1,oB 37 [cI 0,cB false,cI 0,.nil,.nil,cI 0,.nil,.nil,.nil,.nil])∧s.h 3=(1,oB 37 [cI p0.Now,cB p0.Online,cI p0.Device,.row 100010 1,.row 100012 u12,cI p0.NextPage,cL M.cA.en p0.Locks.Locks,cL M.iR.en p0.Channel.Mails,cL M.Site.en p0.Sites,cL M.Server.en p0.Servers])∧s.h 100010=(1,oW 70 24 M.aJ.en x1.Buckets)∧s.h 100012=(u12,oW 140 11 M.dG.en r12))∧jS p0 x1 m v4 r12=some r
 have e1:=@jS.eq_2
 have i2:=fun (x1:M.aF) (r12:List M.dG) (x42:M.aD) (x44:M.Channel) (s12:St) (u12:Nat)=>inv fun m s=>∃v5:Int,∃r40:List M.Site,∃u40:Nat,(s.t 1=vP 1 1 0∧s.t 2=vP 2 1 0∧s.t 3=vP 3 1 0∧s.t 5=vI v5∧s.h 1=(1,oX 37 (M.World.en p0))∧s.h 2=(1,oB 37 [cI 0,cB false,cI 0,.nil,.nil,cI 0,.nil,.nil,.nil,.nil])∧s.h 3=(1,oB 37 [cI p0.Now,cB p0.Online,cI p0.Device,.row 100010 1,.row 100012 u12,cI p0.NextPage,.row 100034 ((s12.h 100034).1+1),.row 100038 ((s12.h 100038).1+1),.row 100040 u40,cL M.Server.en p0.Servers])∧s.h 100010=(1,oW 70 24 M.aJ.en x1.Buckets)∧s.h 100012=(u12,oW 140 11 M.dG.en r12)∧s.h 100034=(((s12.h 100034).1+1),oW 153 4 M.cA.en x42.Locks)∧s.h 100038=(((s12.h 100038).1+1),oW 202 3 M.iR.en x44.Mails)∧s.h 100040=(u40,oW 102 4 M.Site.en r40))∧jU p0 x1 r12 x42 x44 m v5 r40=some r
 have e2:=@jU.eq_2
 have i3:=fun (x1:M.aF) (r12:List M.dG) (x42:M.aD) (x44:M.Channel) (r40:List M.Site) (s12:St) (u12:Nat) (u40:Nat)=>inv fun m s=>∃v6:Int,∃r60:List M.Server,∃u60:Nat,(s.t 1=vP 1 1 0∧s.t 2=vP 2 1 0∧s.t 3=vP 3 1 0∧s.t 6=vI v6∧s.h 1=(1,oX 37 (M.World.en p0))∧s.h 2=(1,oB 37 [cI 0,cB false,cI 0,.nil,.nil,cI 0,.nil,.nil,.nil,.nil])∧s.h 3=(1,oB 37 [cI p0.Now,cB p0.Online,cI p0.Device,.row 100010 1,.row 100012 u12,cI p0.NextPage,.row 100034 ((s12.h 100034).1+1),.row 100038 ((s12.h 100038).1+1),.row 100040 u40,.row 100060 u60])∧s.h 100010=(1,oW 70 24 M.aJ.en x1.Buckets)∧s.h 100012=(u12,oW 140 11 M.dG.en r12)∧s.h 100034=(((s12.h 100034).1+1),oW 153 4 M.cA.en x42.Locks)∧s.h 100038=(((s12.h 100038).1+1),oW 202 3 M.iR.en x44.Mails)∧s.h 100040=(u40,oW 102 4 M.Site.en r40)∧s.h 100060=(u60,oW 131 5 M.Server.en r60))∧jR p0 x1 r12 x42 x44 r40 m v6 r60=some r
 have e3:=@jR.eq_2
 unfold cD at h
 exact sgo 81 [.cell 2 37] Tryz.func61
instance:aZ 61 (type_of% @c61):=⟨@c61⟩
theorem c62 (p0 r) (h:gQ p0=some r):Sc 62 [aS p0] [rI r]:=by
 have i1:=fun (x1:(List ByteArray))=>inv fun m s=>∃v4:Int,(s.t 0=vS p0∧s.t 3=vR 100005 1∧s.t 4=vI v4∧s.h 100005=(1,oW 9 1 enS x1))∧gC p0 x1 m v4=some r
 have e1:=@gC.eq_2
 unfold gQ at h
 exact sgo 19 [.tmp 2] Tryz.func62
instance:aZ 62 (type_of% @c62):=⟨@c62⟩
theorem c99 (p0 r) (h:bA p0=some r):Sc 99 [aS p0] [rB r]:=by
 have i1:=inv fun m s=>∃v3:Int,(s.t 0=vS p0∧s.t 3=vI v3)∧kX p0 m v3=some r
 have e1:=@kX.eq_2
 unfold bA at h
 exact sgo 23 [.tmp 2] Tryz.func99
instance:aZ 99 (type_of% @c99):=⟨@c99⟩
theorem aFD (p0 r) (h:mC p0=some r):Sc 135 [aX (M.Site.en p0)] [rB r]:=by
 have i1:=inv fun m s=>∃v3:Int,(s.t 1=vP 1 1 0∧s.t 3=vI v3∧s.h 1=(1,oX 102 (M.Site.en p0)))∧iA p0 m v3=some r
 have e1:=@iA.eq_2
 unfold mC at h
 exact sgo 50 [.tmp 2] Tryz.func135
instance:aZ 135 (type_of% @aFD):=⟨@aFD⟩
theorem aFe (p0 r) (h:oT p0=some r):Sc 482 [aS p0] [rB r]:=by
 have i1:=inv fun m s=>∃v3:Int,(s.t 0=vS p0∧s.t 3=vI v3)∧fA p0 m v3=some r
 have e1:=@fA.eq_2
 unfold oT at h
 exact sgo 35 [.tmp 2] Tryz.func482
instance:aZ 482 (type_of% @aFe):=⟨@aFe⟩
theorem aDu (p0 r) (h:iV p0=some r):Sc 383 [aX (M.Key.en p0)] [rB r]:=by
 unfold iV at h
 exact sgo 36 [.tmp 2] Tryz.func383
instance:aZ 383 (type_of% @aDu):=⟨@aDu⟩
theorem aEj (p0 r) (h:gF p0=some r):Sc 278 [aX (M.iB.en p0)] [rB r]:=by
 unfold gF at h
 exact sgo 26 [.tmp 2] Tryz.func278
instance:aZ 278 (type_of% @aEj):=⟨@aEj⟩
theorem aFS (p0 r) (h:mH p0=some r):Sc 384 [aX (M.bB.en p0)] [rB r]:=by
 have i1:=inv fun m s=>∃v3:Int,(s.t 1=vP 1 1 0∧s.t 3=vI v3∧s.h 1=(1,oX 291 (M.bB.en p0)))∧fE p0 m v3=some r
 have e1:=@fE.eq_2
 unfold mH at h
 exact sgo 53 [.tmp 2] Tryz.func384
instance:aZ 384 (type_of% @aFS):=⟨@aFS⟩
theorem aFq (p0 p1 r) (h:lR p0 p1=some r):Sc 483 [aB p0,aB p1] [rI r]:=by
 unfold lR at h
 exact sgo 7 [.tmp 4] Tryz.func483
instance:aZ 483 (type_of% @aFq):=⟨@aFq⟩
theorem aFi (p0 p1 r) (h:iO p0 p1=some r):Sc 385 [aX (M.Key.en p0),aX (M.Key.en p1)] [rI r]:=by
 unfold iO at h
 exact sgo 46 [.tmp 4] Tryz.func385
instance:aZ 385 (type_of% @aFi):=⟨@aFi⟩
theorem aFy (p0 r) (h:kE p0=some r):Sc 254 [aX (M.aP.en p0)] [rB r]:=by
 have i1:=inv fun m s=>∃v3:Int,(s.t 1=vP 1 1 0∧s.t 3=vI v3∧s.h 1=(1,oX 61 (M.aP.en p0)))∧gO p0 m v3=some r
 have e1:=@gO.eq_2
 unfold kE at h
 exact sgo 64 [.tmp 2] Tryz.func254
instance:aZ 254 (type_of% @aFy):=⟨@aFy⟩
theorem aEg (p0 r) (h:pN p0=some r):Sc 136 [aX (M.Server.en p0)] [rB r]:=by
 have i1:=inv fun m s=>∃v3:Int,(s.t 1=vP 1 1 0∧s.t 3=vI v3∧s.h 1=(1,oX 131 (M.Server.en p0)))∧fK p0 m v3=some r
 have e1:=@fK.eq_2
 have i2:=inv fun m s=>∃v4:Int,(s.t 1=vP 1 1 0∧s.t 4=vI v4∧s.h 1=(1,oX 131 (M.Server.en p0)))∧iG p0 m v4=some r
 have e2:=@iG.eq_2
 unfold pN at h
 exact sgo 79 [.tmp 2] Tryz.func136
instance:aZ 136 (type_of% @aEg):=⟨@aEg⟩
theorem aFV (p0 r) (h:jX p0=some r):Sc 137 [aX (M.dG.en p0)] [rB r]:=by
 have i1:=inv fun m s=>∃v3:Int,(s.t 1=vP 1 1 0∧s.t 3=vI v3∧s.h 1=(1,oX 140 (M.dG.en p0)))∧kO p0 m v3=some r
 have e1:=@kO.eq_2
 unfold jX at h
 exact sgo 54 [.tmp 2] Tryz.func137
instance:aZ 137 (type_of% @aFV):=⟨@aFV⟩
theorem c65 (p0 p1 p2 r) (h:dC p0 p1 p2=some r):Sc 65 [aX (M.aF.en p0),aS p1,aS p2] [rI r]:=by
 have i1:=inv fun m s=>∃v7:Int,(s.t 1=vS p1∧s.t 2=vS p2∧s.t 3=vP 3 1 0∧s.t 7=vI v7∧s.h 3=(1,oX 26 (M.aF.en p0)))∧dM p0 p1 p2 m v7=some r
 have e1:=@dM.eq_2
 unfold dC at h
 exact sgo 34 [.tmp 6] Tryz.func65
instance:aZ 65 (type_of% @c65):=⟨@c65⟩
theorem aFJ (p0 r) (h:jF p0=some r):Sc 100 [aX (M.Registration.en p0)] [rB r]:=by
 unfold jF at h
 simp only [EN]
 refine sgn 52 [.tmp 2] Tryz.func100 fun base wd => ?_
 refine sq (rn ?_)
 refine an (sq (rn ?_))
 refine an (sq (rn ?_))
 refine an (sq (sq ?_))
 refine cu (fun s=>s.t 1=vP 1 1 0∧s.t 3=vI 0∧s.t 4=vR 100012 1∧s.h 1=(1,oX 49 (M.Registration.en p0))∧s.h 100012=(1,oW 3 1 enI ([p0.Active,p0.Waiting,p0.Installing]))∧True) ?_
 rintro s1 ⟨f2,f3,f4,f5,f6,_⟩
 refine rn ?_
 refine an (bk ?_)
 refine dH (fun m s=>∃v3:Int,∃v5:Int,s.t 1=vP 1 1 0∧s.t 3=vI v3∧s.t 4=vR 100012 1∧s.t 5=vI v5∧s.h 1=(1,oX 49 (M.Registration.en p0))∧s.h 100012=(1,oW 3 1 enI ([p0.Active,p0.Waiting,p0.Installing]))∧bP p0 m v3 v5=some r) fuel ?_ ?_
 ·refine ⟨0,0,?_,?_,?_,?_,?_,?_,h⟩
  all_goals simp +decide only [F,reduceIte,Nat.reduceAdd,Bool.not_true,Bool.not_false,EN, *,-h]
 rintro mL1 s7 ⟨v3,v5,f8,f9,f10,f11,f12,f13,h⟩
 rcases mL1 with _ | mL1
 ·exact absurd h (by simp [bP])
 simp only [bP] at h
 refine sq (sq (rn ?_))
 refine an ?_
 rcases nX (decide (v5<((3:Nat):Int))) with b14 | b14
 ·replace h:=aR b14 h
  refine cf (xt (eA (eX (kB (an (sq ?_))))))
  obtain ⟨x25,h26,h⟩:=bind_some h
  refine rn1 (c99 _ _ h26) ?_
  refine an (rt ?_)
  cases h
  simp [Ret,TB,EN, *]
 replace h:=aT b14 h
 refine ct (sk (an (sq (bk (sq (sq ?_))))))
 obtain ⟨x15,h16,h⟩:=bind_some h
 obtain ⟨q17,q18,q19⟩:=bK h16
 have q17m:=congrArg (Option.map enI) (show ([p0.Active,p0.Waiting,p0.Installing])[v5.toNat]? = some x15 by assumption)
 simp only [←List.getElem?_map,List.map_cons,List.map_nil,Option.map_some,EN] at q17m
 simp only [List.length_cons,List.length_nil,Nat.reduceAdd] at q19
 obtain ⟨x20,h21,h⟩:=bind_some h
 rcases cF (!x20) with b22 | b22
 ·replace h:=aT b22 h
  refine rn1 (c59 _ _ _ _ h21) ?_
  refine an (ct (sq (rn ?_)))
  refine an (rt ?_)
  cases h
  simp [Ret,TB,EN, *]
 replace h:=aR b22 h
 rcases nX (x15 != 0) with b23 | b23
 ·replace h:=aR b23 h
  refine rn1 (c59 _ _ _ _ h21) ?_
  refine an (cf (sk (an (sq (rn ?_)))))
  refine an (cf (sk (ab (an (rn ?_)))))
  refine cN ⟨mL1,by omega,v3,(i64.wrap (v5+1)),?_,?_,?_,?_,?_,?_,h⟩
  all_goals simp +decide only [F,reduceIte,Nat.reduceAdd,Bool.not_true,Bool.not_false,EN, *,-h]
 replace h:=aT b23 h
 refine rn1 (c59 _ _ _ _ h21) ?_
 refine an ?_
 rcases cF (decide (x15≤v3)) with b24 | b24
 ·replace h:=aT b24 h
  refine ct (sq (rn ?_))
  refine an (rt ?_)
  cases h
  simp [Ret,TB,EN, *]
 replace h:=aR b24 h
 refine cf (sk (an (sq (rn ?_))))
 refine an (ct (rn ?_))
 refine ab (an (rn ?_))
 refine cN ⟨mL1,by omega,x15,(i64.wrap (v5+1)),?_,?_,?_,?_,?_,?_,h⟩
 all_goals simp +decide only [F,reduceIte,Nat.reduceAdd,Bool.not_true,Bool.not_false,EN, *,-h]
instance:aZ 100 (type_of% @aFJ):=⟨@aFJ⟩
theorem aEA (p0 r) (h:nD p0=some r):Sc 382 [aX (M.Response.en p0)] [rB r]:=by
 unfold nD at h
 exact sgo 22 [.tmp 2] Tryz.func382
instance:aZ 382 (type_of% @aEA):=⟨@aEA⟩
theorem aFF (p0 r) (h:jL p0=some r):Sc 253 [aL M.Cached.en p0] [rB r]:=by
 have i1:=inv fun m s=>∃v3:Int,(s.t 0=vL M.Cached.en p0∧s.t 3=vI v3)∧gA p0 m v3=some r
 have e1:=@gA.eq_2
 have i2:=fun (v3:Int) (x5:M.Cached) (k20:Int→Option Bool)=>inv fun m s=>∃v4_L2:Int,(s.t 0=vL M.Cached.en p0∧s.t 3=vI v3∧s.t 4=vI v4_L2)∧dL p0 v3 x5 k20 m v4_L2=some r
 have e2:=@dL.eq_2
 unfold jL at h
 exact sgo 68 [.tmp 2] Tryz.func253
instance:aZ 253 (type_of% @aFF):=⟨@aFF⟩
theorem aEK (p0 r) (h:nG p0=some r):Sc 101 [aX (M.aM.en p0)] [rB r]:=by
 have i1:=inv fun m s=>∃v3:Int,(s.t 1=vP 1 1 0∧s.t 3=vI v3∧s.h 1=(1,oX 52 (M.aM.en p0)))∧dI p0 m v3=some r
 have e1:=@dI.eq_2
 unfold nG at h
 exact sgo 53 [.tmp 2] Tryz.func101
instance:aZ 101 (type_of% @aEK):=⟨@aEK⟩
theorem aE7 (p0 p1 r) (h:oC p0 p1=some r):Sc 255 [aX (M.Database.en p0),aS p1] [rI r]:=by
 have i1:=inv fun m s=>∃v5:Int,(s.t 1=vS p1∧s.t 2=vP 2 1 0∧s.t 5=vI v5∧s.h 2=(1,oX 56 (M.Database.en p0)))∧hT p0 p1 m v5=some r
 have e1:=@hT.eq_2
 unfold oC at h
 exact sgo 22 [.tmp 4] Tryz.func255
instance:aZ 255 (type_of% @aE7):=⟨@aE7⟩
theorem aD5 (p0 p1 r) (h:eK p0 p1=some r):Sc 387 [aX (M.bB.en p0),aS p1] [rI r.1,rB r.2]:=by
 have i1:=inv fun m s=>∃v6:Int,(s.t 1=vS p1∧s.t 2=vP 2 1 0∧s.t 6=vI v6∧s.h 2=(1,oX 291 (M.bB.en p0)))∧iN p0 p1 m v6=some r
 have e1:=@iN.eq_2
 unfold eK at h
 exact sgo 28 [.tmp 4,.tmp 5] Tryz.func387
instance:aZ 387 (type_of% @aD5):=⟨@aD5⟩
theorem aDY (p0 p1 p2 r) (h:rQ p0 p1 p2=some r):Sc 484 [aX (M.Item.en p0),aX (M.Item.en p1),aS p2] [rB r]:=by
 unfold rQ at h
 exact sgo 41 [.tmp 6] Tryz.func484
instance:aZ 484 (type_of% @aDY):=⟨@aDY⟩
theorem aEf (p0 p1 r) (h:qI p0 p1=some r):Sc 386 [aX (M.aP.en p0),aS p1] [rW 293 4 M.Item.en r]:=by
 unfold qI at h
 simp only [EN]
 refine sgn 72 [.tmp 4] Tryz.func386 fun base wd => ?_
 refine sq (rn ?_)
 refine an (sq (rn ?_))
 refine an (sq (sq ?_))
 refine cu (fun s=>s.t 1=vS p1∧s.t 2=vP 2 1 0∧s.t 5=vR 100011 1∧s.h 2=(1,oX 61 (M.aP.en p0))∧s.h 100011=(1,oW 293 4 M.Item.en ([]:List M.Item))∧True) ?_
 rintro s1 ⟨f2,f3,f4,f5,f6,_⟩
 refine rn ?_
 refine an (bk ?_)
 refine aCE ((Gho.aBF (i:=5) (K:=7050000) (j:=100011) (by simp +decide only [F,reduceIte,Nat.reduceAdd,Bool.not_true,Bool.not_false,EN, *,-h];rfl) (by simp +decide only [F,reduceIte,Nat.reduceAdd,Bool.not_true,Bool.not_false,EN, *,-h];rfl))) ?_
 refine aAW (fun m s=>∃v6:Int,∃r50000:List M.Item,∃u50000:Nat,s.t 1=vS p1∧s.t 2=vP 2 1 0∧s.t 5=vR 7050000 u50000∧s.t 6=vI v6∧s.h 2=(1,oX 61 (M.aP.en p0))∧s.h 7050000=(u50000,oW 293 4 M.Item.en r50000)∧eD p0 p1 m v6 r50000=some r) fuel ?_ ?_
 ·refine ⟨0,([]:List M.Item),((s1.h 7050000).1+1),?_,?_,?_,?_,?_,?_,h⟩
  all_goals simp +decide only [F,reduceIte,Nat.reduceAdd,Bool.not_true,Bool.not_false,EN, *,-h]
 rintro mL1 s7 ⟨v6,r50000,u50000,f8,f9,f10,f11,f12,f13,h⟩
 rcases mL1 with _ | mL1
 ·exact absurd h (by simp [eD])
 simp only [eD] at h
 refine sq (sq (rn ?_))
 refine an ?_
 rcases nX (decide (v6<(List.length p0.Items:Int))) with b14 | b14
 ·replace h:=aR b14 h
  refine cf (xt (eA (eX (kB (an (sq (rn ?_)))))))
  refine an (rt ?_)
  cases h
  simp [Ret,TB,EN, *]
 replace h:=aT b14 h
 refine ct (sk (an (sq (bk (sq (sq ?_))))))
 obtain ⟨x15,h16,h⟩:=bind_some h
 obtain ⟨q17,q18,q19⟩:=bK h16
 obtain ⟨x20,h21,h⟩:=bind_some h
 refine rn1 (aD5 _ _ _ h21) ?_
 refine an (sq (rn ?_))
 refine an ?_
 rcases cF (!x20.2) with b22 | b22
 ·replace h:=aT b22 h
  refine ct (xt (eA (kB (an (rn ?_)))))
  refine cN ⟨_,(Gho.aBF (i:=5) (K:=7050000) (j:=7050000) (by simp +decide only [F,reduceIte,Nat.reduceAdd,Bool.not_true,Bool.not_false,EN, *,-h];rfl) (by simp +decide only [F,reduceIte,Nat.reduceAdd,Bool.not_true,Bool.not_false,EN, *,-h];rfl)),mL1,by omega,(i64.wrap (v6+1)),r50000,(u50000+1),?_,?_,?_,?_,?_,?_,h⟩
  all_goals simp +decide only [F,reduceIte,Nat.reduceAdd,Bool.not_true,Bool.not_false,EN, *,-h]
 replace h:=aR b22 h
 refine cf (sk (an (sq (rn ?_))))
 refine an (sq (bk ?_))
 obtain ⟨k24,e25,h⟩:=aDl (f:=fun kk=>eB p1 r50000 x15 kk fuel (List.length r50000:Int)) h
 refine dH (fun m s=>∃v9_L2:Int,s.t 1=vS p1∧s.t 2=vP 2 1 0∧s.t 5=vR 7050000 u50000∧s.t 6=vI v6∧s.t 9=vI v9_L2∧s.h 2=(1,oX 61 (M.aP.en p0))∧s.h 7050000=(u50000,oW 293 4 M.Item.en r50000)∧eB p1 r50000 x15 k24 m v9_L2=some r) fuel ?_ ?_
 ·refine ⟨(List.length r50000:Int),?_,?_,?_,?_,?_,?_,?_,h⟩
  all_goals simp +decide only [F,reduceIte,Nat.reduceAdd,Bool.not_true,Bool.not_false,EN, *,-h]
 rintro mL2 s23 ⟨v9_L2,f26,f27,f28,f29,f30,f31,f32,h⟩
 rcases mL2 with _ | mL2
 ·exact absurd h (by simp [eB])
 simp only [eB] at h
 refine sq (sq ?_)
 rcases nX (decide (v9_L2>0)) with b33 | b33
 ·replace h:=aR b33 h
  refine rd mixed ?_
  refine an (cf (xt (eA ?_)))
  subst e25
  refine eX (kB (an (sq ?_)))
  obtain ⟨x79,h80,h⟩:=bind_some h
  obtain ⟨x81,h82,h⟩:=bind_some h
  apply bC
  ·simp +decide only [E,reduceIte,Nat.reduceAdd,Nat.reduceMul,Bool.not_true,Bool.not_false,←List.map_take,←List.map_drop,L,wN,pS,M.Item.en,EN,b14,q17,q18,q19,b22,f26,f27,f28,f29,f30,f31,f32,b33]
   refine ⟨by first | exact dD h80 | exact (dD h80).2 | exact (dD h80).2.2,?_⟩
   try simp +decide only [E,reduceIte,Nat.reduceAdd,Nat.reduceMul,Bool.not_true,Bool.not_false,←List.map_take,←List.map_drop,L,wN,pS,M.Item.en,EN,b14,q17,q18,q19,b22,f26,f27,f28,f29,f30,f31,f32,b33]
   refine ⟨by (have hb:=bU h82);simp [M.Item.en,List.length_append,aG,←List.map_take,←List.map_drop,-List.map_take,-List.map_drop] at hb ⊢ <;> omega,?_⟩
   try simp +decide only [E,reduceIte,Nat.reduceAdd,Nat.reduceMul,Bool.not_true,Bool.not_false,←List.map_take,←List.map_drop,L,wN,pS,M.Item.en,EN,b14,q17,q18,q19,b22,f26,f27,f28,f29,f30,f31,f32,b33]
   exact Is.mk _
  refine an (sq ?_)
  refine cu (fun s=>s.t 1=vS p1∧s.t 2=vP 2 1 0∧s.t 5=vR 7050000 u50000∧s.t 6=vI v6∧s.t 9=vI v9_L2∧s.t 10=vR 100052 (((s23.h 100052).1+1)+1)∧s.h 2=(1,oX 61 (M.aP.en p0))∧s.h 100052=((((s23.h 100052).1+1)+1),oW 293 4 M.Item.en (List.take v9_L2.toNat r50000))∧s.h 7050000=(u50000,.row 293 4 (rY 4 0 v9_L2.toNat (List.map M.Item.en r50000)) true)∧True) ?_
  rintro s83 ⟨f84,f85,f86,f87,f88,f89,f90,f91,f92,_⟩
  obtain ⟨x93,h94,h⟩:=bind_some h
  obtain ⟨x95,h96,h⟩:=bind_some h
  refine rn2 (aDP _ _ h94) h96 ?_
  refine an ?_
  refine cu (fun s=>s.t 1=vS p1∧s.t 2=vP 2 1 0∧s.t 5=vR 7050000 u50000∧s.t 6=vI v6∧s.t 9=vI v9_L2∧s.t 10=vR 100052 ((((s23.h 100052).1+1)+1)+1)∧s.h 2=(1,oX 61 (M.aP.en p0))∧s.h 100052=(((((s23.h 100052).1+1)+1)+1),oW 293 4 M.Item.en ((List.take v9_L2.toNat r50000)++[x93]))∧s.h 7050000=(u50000,.row 293 4 (rY 4 0 v9_L2.toNat (List.map M.Item.en r50000)) true)∧True) ?_
  rintro s97 ⟨f98,f99,f100,f101,f102,f103,f104,f105,f106,_⟩
  obtain ⟨x107,h108,h⟩:=bind_some h
  apply bC
  ·simp +decide only [E,reduceIte,Nat.reduceAdd,Nat.reduceMul,Bool.not_true,Bool.not_false,←List.map_take,←List.map_drop,L,wN,pS,M.Item.en,EN,b14,q17,q18,q19,b22,b33,f98,f99,f100,f101,f102,f103,f104,f105,f106]
   refine ⟨by first | exact rU (dD h80).1 | exact (rU (dD h80).1).2 | exact (rU (dD h80).1).2.2,?_⟩
   try simp +decide only [E,reduceIte,Nat.reduceAdd,Nat.reduceMul,Bool.not_true,Bool.not_false,←List.map_take,←List.map_drop,L,wN,pS,M.Item.en,EN,b14,q17,q18,q19,b22,b33,f98,f99,f100,f101,f102,f103,f104,f105,f106]
   refine ⟨by (have hb:=bU h108);simp [M.Item.en,List.length_append,aG,←List.map_take,←List.map_drop,-List.map_take,-List.map_drop] at hb ⊢ <;> omega,?_⟩
   try simp +decide only [E,reduceIte,Nat.reduceAdd,Nat.reduceMul,Bool.not_true,Bool.not_false,←List.map_take,←List.map_drop,L,wN,pS,M.Item.en,EN,b14,q17,q18,q19,b22,b33,f98,f99,f100,f101,f102,f103,f104,f105,f106]
   exact Is.mk _
  refine ab (an ?_)
  refine cu (fun s=>s.t 1=vS p1∧s.t 2=vP 2 1 0∧s.t 5=vR 100052 (((((s23.h 100052).1+1)+1)+1)+1)∧s.t 6=vI v6∧s.h 2=(1,oX 61 (M.aP.en p0))∧s.h 100052=((((((s23.h 100052).1+1)+1)+1)+1),oW 293 4 M.Item.en (((List.take v9_L2.toNat r50000)++[x93])++(List.drop v9_L2.toNat r50000)))∧True) ?_
  rintro s109 ⟨f110,f111,f112,f113,f114,f115,_⟩
  refine rn ?_
  refine cN ⟨_,(Gho.aBF (i:=5) (K:=7050000) (j:=100052) (by simp +decide only [F,reduceIte,Nat.reduceAdd,Bool.not_true,Bool.not_false,EN, *,-h];rfl) (by simp +decide only [F,reduceIte,Nat.reduceAdd,Bool.not_true,Bool.not_false,EN, *,-h];rfl)),mL1,by omega,(i64.wrap (v6+1)),(((List.take v9_L2.toNat r50000)++[x93])++(List.drop v9_L2.toNat r50000)),((s109.h 7050000).1+1),?_,?_,?_,?_,?_,?_,h⟩
  all_goals simp +decide only [F,reduceIte,Nat.reduceAdd,Bool.not_true,Bool.not_false,EN, *,-h]
 replace h:=aT b33 h
 obtain ⟨x34,h35,h⟩:=bind_some h
 obtain ⟨q36,q37,q38⟩:=bK h35
 obtain ⟨x39,h40,h⟩:=bind_some h
 refine rd1 mixed (aDY _ _ _ _ h40) ?_
 refine an ?_
 rcases cF x39 with b41 | b41
 ·replace h:=aT b41 h
  refine ct (sk (an (bk (rn ?_))))
  refine ab ?_
  refine cN ⟨mL2,by omega,(i64.wrap (v9_L2-1)),?_,?_,?_,?_,?_,?_,?_,h⟩
  all_goals simp +decide only [F,reduceIte,Nat.reduceAdd,Bool.not_true,Bool.not_false,EN, *,-h]
 replace h:=aR b41 h
 refine cf (xt (eA ?_))
 subst e25
 refine eX (kB (an (sq ?_)))
 obtain ⟨x42,h43,h⟩:=bind_some h
 obtain ⟨x44,h45,h⟩:=bind_some h
 apply bC
 ·simp +decide only [E,reduceIte,Nat.reduceAdd,Nat.reduceMul,Bool.not_true,Bool.not_false,←List.map_take,←List.map_drop,L,wN,pS,M.Item.en,EN,b14,q17,q18,q19,b22,f26,f27,f28,f29,f30,f31,f32,b33,q36,q37,q38,b41]
  refine ⟨by first | exact dD h43 | exact (dD h43).2 | exact (dD h43).2.2,?_⟩
  try simp +decide only [E,reduceIte,Nat.reduceAdd,Nat.reduceMul,Bool.not_true,Bool.not_false,←List.map_take,←List.map_drop,L,wN,pS,M.Item.en,EN,b14,q17,q18,q19,b22,f26,f27,f28,f29,f30,f31,f32,b33,q36,q37,q38,b41]
  refine ⟨by (have hb:=bU h45);simp [M.Item.en,List.length_append,aG,←List.map_take,←List.map_drop,-List.map_take,-List.map_drop] at hb ⊢ <;> omega,?_⟩
  try simp +decide only [E,reduceIte,Nat.reduceAdd,Nat.reduceMul,Bool.not_true,Bool.not_false,←List.map_take,←List.map_drop,L,wN,pS,M.Item.en,EN,b14,q17,q18,q19,b22,f26,f27,f28,f29,f30,f31,f32,b33,q36,q37,q38,b41]
  exact Is.mk _
 refine an (sq ?_)
 refine cu (fun s=>s.t 1=vS p1∧s.t 2=vP 2 1 0∧s.t 5=vR 7050000 u50000∧s.t 6=vI v6∧s.t 9=vI v9_L2∧s.t 10=vR 100052 (((s23.h 100052).1+1)+1)∧s.h 2=(1,oX 61 (M.aP.en p0))∧s.h 100052=((((s23.h 100052).1+1)+1),oW 293 4 M.Item.en (List.take v9_L2.toNat r50000))∧s.h 7050000=(u50000,.row 293 4 (rY 4 0 v9_L2.toNat (List.map M.Item.en r50000)) true)∧True) ?_
 rintro s46 ⟨f47,f48,f49,f50,f51,f52,f53,f54,f55,_⟩
 obtain ⟨x56,h57,h⟩:=bind_some h
 obtain ⟨x58,h59,h⟩:=bind_some h
 refine rn2 (aDP _ _ h57) h59 ?_
 refine an ?_
 refine cu (fun s=>s.t 1=vS p1∧s.t 2=vP 2 1 0∧s.t 5=vR 7050000 u50000∧s.t 6=vI v6∧s.t 9=vI v9_L2∧s.t 10=vR 100052 ((((s23.h 100052).1+1)+1)+1)∧s.h 2=(1,oX 61 (M.aP.en p0))∧s.h 100052=(((((s23.h 100052).1+1)+1)+1),oW 293 4 M.Item.en ((List.take v9_L2.toNat r50000)++[x56]))∧s.h 7050000=(u50000,.row 293 4 (rY 4 0 v9_L2.toNat (List.map M.Item.en r50000)) true)∧True) ?_
 rintro s60 ⟨f61,f62,f63,f64,f65,f66,f67,f68,f69,_⟩
 obtain ⟨x70,h71,h⟩:=bind_some h
 apply bC
 ·simp +decide only [E,reduceIte,Nat.reduceAdd,Nat.reduceMul,Bool.not_true,Bool.not_false,←List.map_take,←List.map_drop,L,wN,pS,M.Item.en,EN,b14,q17,q18,q19,b22,b33,q36,q37,q38,b41,f61,f62,f63,f64,f65,f66,f67,f68,f69]
  refine ⟨by first | exact rU (dD h43).1 | exact (rU (dD h43).1).2 | exact (rU (dD h43).1).2.2,?_⟩
  try simp +decide only [E,reduceIte,Nat.reduceAdd,Nat.reduceMul,Bool.not_true,Bool.not_false,←List.map_take,←List.map_drop,L,wN,pS,M.Item.en,EN,b14,q17,q18,q19,b22,b33,q36,q37,q38,b41,f61,f62,f63,f64,f65,f66,f67,f68,f69]
  refine ⟨by (have hb:=bU h71);simp [M.Item.en,List.length_append,aG,←List.map_take,←List.map_drop,-List.map_take,-List.map_drop] at hb ⊢ <;> omega,?_⟩
  try simp +decide only [E,reduceIte,Nat.reduceAdd,Nat.reduceMul,Bool.not_true,Bool.not_false,←List.map_take,←List.map_drop,L,wN,pS,M.Item.en,EN,b14,q17,q18,q19,b22,b33,q36,q37,q38,b41,f61,f62,f63,f64,f65,f66,f67,f68,f69]
  exact Is.mk _
 refine ab (an ?_)
 refine cu (fun s=>s.t 1=vS p1∧s.t 2=vP 2 1 0∧s.t 5=vR 100052 (((((s23.h 100052).1+1)+1)+1)+1)∧s.t 6=vI v6∧s.h 2=(1,oX 61 (M.aP.en p0))∧s.h 100052=((((((s23.h 100052).1+1)+1)+1)+1),oW 293 4 M.Item.en (((List.take v9_L2.toNat r50000)++[x56])++(List.drop v9_L2.toNat r50000)))∧True) ?_
 rintro s72 ⟨f73,f74,f75,f76,f77,f78,_⟩
 refine rn ?_
 refine cN ⟨_,(Gho.aBF (i:=5) (K:=7050000) (j:=100052) (by simp +decide only [F,reduceIte,Nat.reduceAdd,Bool.not_true,Bool.not_false,EN, *,-h];rfl) (by simp +decide only [F,reduceIte,Nat.reduceAdd,Bool.not_true,Bool.not_false,EN, *,-h];rfl)),mL1,by omega,(i64.wrap (v6+1)),(((List.take v9_L2.toNat r50000)++[x56])++(List.drop v9_L2.toNat r50000)),((s72.h 7050000).1+1),?_,?_,?_,?_,?_,?_,h⟩
 all_goals simp +decide only [F,reduceIte,Nat.reduceAdd,Bool.not_true,Bool.not_false,EN, *,-h]
instance:aZ 386 (type_of% @aEf):=⟨@aEf⟩
end Go.Proofs.YtblghjofnielnaaGreat.gen
