/-
  Helper text. No conditions.
-/
import Derived.Test.YtnhpbpnhmapeeaaGreatActivateWorkerTi
import Derived.Test.YtnhpbpnhmapeeaaGreatActivateWorkerWspec0
namespace Go.Proofs.YtnhpbpnhmapeeaaGreat.gen
open Go Go.Sh
set_option linter.unusedVariables false
set_option linter.unusedSimpArgs false
set_option maxRecDepth 20000
set_option maxHeartbeats 4000000
theorem aTC (p0 r) (h:nC p0=some r):Sc 400 [aX (M.Database.en p0)] [rI r]:=by
 have i1:=inv fun m s=>∃v3:Int,∃v4:Int,(s.t 1=vP 1 1 0∧s.t 3=vI v3∧s.t 4=vI v4∧s.h 1=(1,oX 114 (M.Database.en p0)))∧fS p0 m v3 v4=some r
 have e1:=@fS.eq_2
 unfold nC at h
 exact sgo 21 [.tmp 2] Tryz.func400
instance:bC 400 (type_of% @aTC):=⟨@aTC⟩
theorem aRi (p0 r) (h:aA8 p0=some r):Sc 335 [aX (M.bB.en p0)] [rI r]:=by
 unfold aA8 at h
 exact sgo 10 [.tmp 2] Tryz.func335
instance:bC 335 (type_of% @aRi):=⟨@aRi⟩
theorem aSp (p0 r) (h:aAC p0=some r):Sc 250 [aX (M.aA.en p0)] [rI r]:=by
 unfold aAC at h
 exact sgo 23 [.tmp 2] Tryz.func250
instance:bC 250 (type_of% @aSp):=⟨@aSp⟩
theorem aOT (p0 r) (h:kH p0=some r):Sc 139 [aX (M.aA.en p0)] [rB r]:=by
 unfold kH at h
 exact sgo 50 [.tmp 2] Tryz.func139
instance:bC 139 (type_of% @aOT):=⟨@aOT⟩
theorem aRD (p0 p1 p2 r) (h:uZ p0 p1 p2=some r):Sc 143 [aX (M.aA.en p0),aS p1,aS p2] [rB r]:=by
 unfold uZ at h
 exact sgo 23 [.tmp 6] Tryz.func143
instance:bC 143 (type_of% @aRD):=⟨@aRD⟩
theorem aMe (p0 r) (h:bS p0=some r):Sc 136 [aX (M.aC.en p0)] [rB r]:=by
 have i1:=inv fun m s=>∃v3:Int,(s.t 1=vP 1 1 0∧s.t 3=vI v3∧s.h 1=(1,oX 26 (M.aC.en p0)))∧fI p0 m v3=some r
 have e1:=@fI.eq_2
 unfold bS at h
 exact sgo 48 [.tmp 2] Tryz.func136
instance:bC 136 (type_of% @aMe):=⟨@aMe⟩
theorem aVh (p0 r) (h:pY p0=some r):Sc 245 [aS p0] [rB r]:=by
 have i1:=inv fun m s=>∃v3:Int,(s.t 0=vS p0∧s.t 3=vI v3)∧cZ p0 m v3=some r
 have e1:=@cZ.eq_2
 unfold pY at h
 exact sgo 29 [.tmp 2] Tryz.func245
instance:bC 245 (type_of% @aVh):=⟨@aVh⟩
theorem aUf (p0 r) (h:pK p0=some r):Sc 137 [aX (M.aR.en p0)] [rB r]:=by
 have i1:=inv fun m s=>∃v3:Int,(s.t 1=vP 1 1 0∧s.t 3=vI v3∧s.h 1=(1,oX 30 (M.aR.en p0)))∧eZ p0 m v3=some r
 have e1:=@eZ.eq_2
 have i2:=fun (v3:Int) (x6:M.cG) (k18:Int→Option Bool) (s1:St)=>inv fun m s=>∃v5_L2:Int,(s.t 1=vP 1 1 0∧s.t 3=vI v3∧s.t 4=vP 4 ((s1.h 4).1+1) 0∧s.t 5=vI v5_L2∧s.h 1=(1,oX 30 (M.aR.en p0))∧s.h 4=(((s1.h 4).1+1),oX 144 (M.cG.en x6)))∧bW p0 v3 x6 k18 m v5_L2=some r
 have e2:=@bW.eq_2
 unfold pK at h
 exact sgo 67 [.tmp 2] Tryz.func137
instance:bC 137 (type_of% @aUf):=⟨@aUf⟩
theorem c38 (p0 r) (h:vE p0=some r):Sc 38 [aX (M.World.en p0)] [rB r]:=by
 have i1:=inv fun m s=>∃v3:Int,(s.t 1=vP 1 1 0∧s.t 3=vI v3∧s.h 1=(1,oX 37 (M.World.en p0)))∧iN p0 m v3=some r
 have e1:=@iN.eq_2
 have i2:=inv fun m s=>∃v4:Int,(s.t 1=vP 1 1 0∧s.t 4=vI v4∧s.h 1=(1,oX 37 (M.World.en p0)))∧dH p0 m v4=some r
 have e2:=@dH.eq_2
 unfold vE at h
 exact sgo 126 [.tmp 2] Tryz.func38
instance:bC 38 (type_of% @c38):=⟨@c38⟩
theorem aUe (p0 r) (h:zO p0=some r):Sc 337 [aX (M.Response.en p0)] [(true,M.Response.rs r)]:=by
 unfold zO at h
 exact sgo 11 [.cell 2 137] Tryz.func337
instance:bC 337 (type_of% @aUe):=⟨@aUe⟩
theorem aTA (p0 r) (h:wU p0=some r):Sc 251 [aX (M.Cache.en p0)] [(true,M.Cache.rs r)]:=by
 have i1:=aK4 [.b 3 1 7050000 368 7] fun m s=>∃v4:Int,∃r50000:List M.Cached,∃u50000:Nat,(s.t 1=vP 1 1 0∧s.t 2=vP 2 1 0∧s.t 3=vP 3 1 0∧s.t 4=vI v4∧s.h 1=(1,oX 286 (M.Cache.en p0))∧s.h 2=(1,oB 286 [cI 0,.nil])∧s.h 3=(1,oB 286 [cI p0.Version,.row 7050000 u50000])∧s.h 7050000=(u50000,oW 368 7 M.Cached.en r50000))∧iV p0 m v4 r50000=some r
 have e1:=@iV.eq_2
 unfold wU at h
 exact sgo 36 [.cell 2 286] Tryz.func251
instance:bC 251 (type_of% @aTA):=⟨@aTA⟩
theorem aQK (p0 r) (h:pS p0=some r):Sc 140 [aX (M.aM.en p0)] [(true,M.aM.rs r)]:=by
 have i1:=aK4 [.b 3 0 7050000 286 2] fun m s=>∃v4:Int,∃r50000:List M.Cache,∃u50000:Nat,(s.t 1=vP 1 1 0∧s.t 2=vP 2 1 0∧s.t 3=vP 3 1 0∧s.t 4=vI v4∧s.h 1=(1,oX 110 (M.aM.en p0))∧s.h 2=(1,oB 110 [.nil])∧s.h 3=(1,oB 110 [.row 7050000 u50000])∧s.h 7050000=(u50000,oW 286 2 M.Cache.en r50000))∧kA p0 m v4 r50000=some r
 have e1:=@kA.eq_2
 unfold pS at h
 exact sgo 25 [.cell 2 110] Tryz.func140
instance:bC 140 (type_of% @aQK):=⟨@aQK⟩
theorem aVH (p0 r) (h:sG p0=some r):Sc 241 [aX (M.aH.en p0)] [(true,M.aH.rs r)]:=by
 have i1:=aK4 [.b 3 1 7050000 357 4] fun m s=>∃v4:Int,∃r50000:List M.Item,∃u50000:Nat,(s.t 1=vP 1 1 0∧s.t 2=vP 2 1 0∧s.t 3=vP 3 1 0∧s.t 4=vI v4∧s.h 1=(1,oX 98 (M.aH.en p0))∧s.h 2=(1,oB 98 [cS (⟨#[]⟩:ByteArray),.nil,cI 0])∧s.h 3=(1,oB 98 [cS p0.Name,.row 7050000 u50000,cI p0.Auto])∧s.h 7050000=(u50000,oW 357 4 M.Item.en r50000))∧lI p0 m v4 r50000=some r
 have e1:=@lI.eq_2
 unfold sG at h
 exact sgo 29 [.cell 2 98] Tryz.func241
instance:bC 241 (type_of% @aVH):=⟨@aVH⟩
theorem aUv (p0 r) (h:aAi p0=some r):Sc 252 [aX (M.Database.en p0)] [(true,M.Database.rs r)]:=by
 have i1:=aK4 [.b 3 2 7050000 98 3] fun m s=>∃v4:Int,∃r50000:List M.aH,∃u50000:Nat,(s.t 1=vP 1 1 0∧s.t 2=vP 2 1 0∧s.t 3=vP 3 1 0∧s.t 4=vI v4∧s.h 1=(1,oX 114 (M.Database.en p0))∧s.h 2=(1,oB 114 [cS (⟨#[]⟩:ByteArray),cI 0,.nil,.nil])∧s.h 3=(1,oB 114 [cS p0.Name,cI p0.Version,.row 7050000 u50000,.row 100009 2])∧s.h 100009=(2,oW 383 2 M.aD.en p0.Unique)∧s.h 7050000=(u50000,oW 98 3 M.aH.en r50000))∧lL p0 m v4 r50000=some r
 have e1:=@lL.eq_2
 unfold aAi at h
 exact sgo 33 [.cell 2 114] Tryz.func252
instance:bC 252 (type_of% @aUv):=⟨@aUv⟩
theorem aUT (p0 r) (h:yS p0=some r):Sc 141 [aX (M.bB.en p0)] [(true,M.bB.rs r)]:=by
 unfold yS at h
 exact sgo 13 [.cell 2 116] Tryz.func141
instance:bC 141 (type_of% @aUT):=⟨@aUT⟩
theorem aSS (p0 r) (h:zY p0=some r):Sc 298 [aX (M.aV.en p0)] [(true,M.aV.rs r)]:=by
 unfold zY at h
 exact sgo 11 [.cell 2 118] Tryz.func298
instance:bC 298 (type_of% @aSS):=⟨@aSS⟩
theorem aUB (p0 r) (h:zA p0=some r):Sc 253 [aX (M.Sync.en p0)] [(true,M.Sync.rs r)]:=by
 unfold zA at h
 exact sgo 10 [.cell 2 120] Tryz.func253
instance:bC 253 (type_of% @aUB):=⟨@aUB⟩
theorem aS1 (p0 r) (h:aAE p0=some r):Sc 142 [aX (M.aE.en p0)] [(true,M.aE.rs r)]:=by
 unfold aAE at h
 exact sgo 12 [.cell 2 122] Tryz.func142
instance:bC 142 (type_of% @aS1):=⟨@aS1⟩
theorem c42 (p0 r) (h:gK p0=some r):Sc 42 [aX (M.aA.en p0)] [(true,M.aA.rs r)]:=by
 unfold gK at h
 exact sgo 18 [.cell 2 124] Tryz.func42
instance:bC 42 (type_of% @c42):=⟨@c42⟩
theorem aN9 (p0 r) (h:eX p0=some r):Sc 127 [aX (M.aC.en p0)] [(true,M.aC.rs r)]:=by
 have i1:=aK4 [.b 3 0 7050000 124 24] fun m s=>∃v4:Int,∃r50000:List M.aA,∃u50000:Nat,(s.t 1=vP 1 1 0∧s.t 2=vP 2 1 0∧s.t 3=vP 3 1 0∧s.t 4=vI v4∧s.h 1=(1,oX 26 (M.aC.en p0))∧s.h 2=(1,oB 26 [.nil])∧s.h 3=(1,oB 26 [.row 7050000 u50000])∧s.h 7050000=(u50000,oW 124 24 M.aA.en r50000))∧jN p0 m v4 r50000=some r
 have e1:=@jN.eq_2
 unfold eX at h
 exact sgo 25 [.cell 2 26] Tryz.func127
instance:bC 127 (type_of% @aN9):=⟨@aN9⟩
theorem aTh (p0 r) (h:tV p0=some r):Sc 255 [aL M.Instr.en p0] [rW 196 4 M.Instr.en r]:=by
 unfold tV at h
 exact sgo 6 [.tmp 2] Tryz.func255
instance:bC 255 (type_of% @aTh):=⟨@aTh⟩
theorem aSR (p0 r) (h:zL p0=some r):Sc 240 [aX (M.Machine.en p0)] [(true,M.Machine.rs r)]:=by
 unfold zL at h
 exact sgo 15 [.cell 2 78] Tryz.func240
instance:bC 240 (type_of% @aSR):=⟨@aSR⟩
theorem aTI (p0 r) (h:vA p0=some r):Sc 128 [aX (M.bI.en p0)] [(true,M.bI.rs r)]:=by
 unfold vA at h
 exact sgo 15 [.cell 2 80] Tryz.func128
instance:bC 128 (type_of% @aTI):=⟨@aTI⟩
theorem aSA (p0 r) (h:vH p0=some r):Sc 129 [aX (M.aR.en p0)] [(true,M.aR.rs r)]:=by
 unfold vH at h
 exact sgo 8 [.cell 2 30] Tryz.func129
instance:bC 129 (type_of% @aSA):=⟨@aSA⟩
theorem aUh (p0 r) (h:vG p0=some r):Sc 130 [aX (M.Channel.en p0)] [(true,M.Channel.rs r)]:=by
 unfold vG at h
 exact sgo 8 [.cell 2 33] Tryz.func130
instance:bC 130 (type_of% @aUh):=⟨@aUh⟩
theorem aR8 (p0 r) (h:zP p0=some r):Sc 131 [aX (M.Site.en p0)] [(true,M.Site.rs r)]:=by
 unfold zP at h
 exact sgo 11 [.cell 2 95] Tryz.func131
instance:bC 131 (type_of% @aR8):=⟨@aR8⟩
theorem aRg (p0 r) (h:zE p0=some r):Sc 132 [aX (M.Server.en p0)] [(true,M.Server.rs r)]:=by
 unfold zE at h
 exact sgo 15 [.cell 2 102] Tryz.func132
instance:bC 132 (type_of% @aRg):=⟨@aRg⟩
theorem c36 (p0 r) (h:pT p0=some r):Sc 36 [aX (M.World.en p0)] [(true,M.World.rs r)]:=by
 have i1:=fun (x1:M.aC)=>inv fun m s=>∃v4:Int,∃r12:List M.bI,∃u12:Nat,(s.t 1=vP 1 1 0∧s.t 2=vP 2 1 0∧s.t 3=vP 3 1 0∧s.t 4=vI v4∧s.h 1=(1,oX 37 (M.World.en p0))∧s.h 2=(1,oB 37 [cI 0,cB false,cI 0,.nil,.nil,cI 0,.nil,.nil,.nil,.nil])∧s.h 3=(1,oB 37 [cI p0.Now,cB p0.Online,cI p0.Device,.row 100010 1,.row 100012 u12,cI p0.NextPage,cL M.cG.en p0.Locks.Locks,cL M.fK.en p0.Channel.Mails,cL M.Site.en p0.Sites,cL M.Server.en p0.Servers])∧s.h 100010=(1,oW 124 24 M.aA.en x1.Buckets)∧s.h 100012=(u12,oW 80 11 M.bI.en r12))∧iP p0 x1 m v4 r12=some r
 have e1:=@iP.eq_2
 have i2:=fun (x1:M.aC) (r12:List M.bI) (x42:M.aR) (x44:M.Channel) (s12:St) (u12:Nat)=>inv fun m s=>∃v5:Int,∃r40:List M.Site,∃u40:Nat,(s.t 1=vP 1 1 0∧s.t 2=vP 2 1 0∧s.t 3=vP 3 1 0∧s.t 5=vI v5∧s.h 1=(1,oX 37 (M.World.en p0))∧s.h 2=(1,oB 37 [cI 0,cB false,cI 0,.nil,.nil,cI 0,.nil,.nil,.nil,.nil])∧s.h 3=(1,oB 37 [cI p0.Now,cB p0.Online,cI p0.Device,.row 100010 1,.row 100012 u12,cI p0.NextPage,.row 100034 ((s12.h 100034).1+1),.row 100038 ((s12.h 100038).1+1),.row 100040 u40,cL M.Server.en p0.Servers])∧s.h 100010=(1,oW 124 24 M.aA.en x1.Buckets)∧s.h 100012=(u12,oW 80 11 M.bI.en r12)∧s.h 100034=(((s12.h 100034).1+1),oW 144 4 M.cG.en x42.Locks)∧s.h 100038=(((s12.h 100038).1+1),oW 232 3 M.fK.en x44.Mails)∧s.h 100040=(u40,oW 95 4 M.Site.en r40))∧gW p0 x1 r12 x42 x44 m v5 r40=some r
 have e2:=@gW.eq_2
 have i3:=fun (x1:M.aC) (r12:List M.bI) (x42:M.aR) (x44:M.Channel) (r40:List M.Site) (s12:St) (u12:Nat) (u40:Nat)=>inv fun m s=>∃v6:Int,∃r60:List M.Server,∃u60:Nat,(s.t 1=vP 1 1 0∧s.t 2=vP 2 1 0∧s.t 3=vP 3 1 0∧s.t 6=vI v6∧s.h 1=(1,oX 37 (M.World.en p0))∧s.h 2=(1,oB 37 [cI 0,cB false,cI 0,.nil,.nil,cI 0,.nil,.nil,.nil,.nil])∧s.h 3=(1,oB 37 [cI p0.Now,cB p0.Online,cI p0.Device,.row 100010 1,.row 100012 u12,cI p0.NextPage,.row 100034 ((s12.h 100034).1+1),.row 100038 ((s12.h 100038).1+1),.row 100040 u40,.row 100060 u60])∧s.h 100010=(1,oW 124 24 M.aA.en x1.Buckets)∧s.h 100012=(u12,oW 80 11 M.bI.en r12)∧s.h 100034=(((s12.h 100034).1+1),oW 144 4 M.cG.en x42.Locks)∧s.h 100038=(((s12.h 100038).1+1),oW 232 3 M.fK.en x44.Mails)∧s.h 100040=(u40,oW 95 4 M.Site.en r40)∧s.h 100060=(u60,oW 102 5 M.Server.en r60))∧gT p0 x1 r12 x42 x44 r40 m v6 r60=some r
 have e3:=@gT.eq_2
 unfold pT at h
 exact sgo 81 [.cell 2 37] Tryz.func36
instance:bC 36 (type_of% @c36):=⟨@c36⟩
theorem aTL (p0 p1 p2 r) (h:zM p0 p1 p2=some r):Sc 107 [aX (M.World.en p0),aS p1,aS p2] [rW 80 11 M.bI.en r]:=by
 have i1:=inv fun m s=>∃v8:Int,∃r9:List M.bI,∃u9:Nat,(s.t 1=vS p1∧s.t 2=vS p2∧s.t 3=vP 3 1 0∧s.t 7=vR 100009 u9∧s.t 8=vI v8∧s.h 3=(1,oX 37 (M.World.en p0))∧s.h 100009=(u9,oW 80 11 M.bI.en r9))∧gU p0 p1 p2 m v8 r9=some r
 have e1:=@gU.eq_2
 unfold zM at h
 exact sgo 45 [.tmp 6] Tryz.func107
instance:bC 107 (type_of% @aTL):=⟨@aTL⟩
theorem aUU (p0 p1 r) (h:nB p0 p1=some r):Sc 106 [aL M.bI.en p0,aS p1] [rW 3 1 enI r]:=by
 have i1:=inv fun m s=>∃v6:Int,∃r7:List Int,∃u7:Nat,(s.t 0=vL M.bI.en p0∧s.t 1=vS p1∧s.t 5=vR 100007 u7∧s.t 6=vI v6∧s.h 100007=(u7,oW 3 1 enI r7))∧eA p0 p1 m v6 r7=some r
 have e1:=@eA.eq_2
 unfold nB at h
 exact sgo 30 [.tmp 4] Tryz.func106
instance:bC 106 (type_of% @aUU):=⟨@aUU⟩
theorem aSo (p0 p1 r) (h:oD p0 p1=some r):Sc 225 [aX (M.Registration.en p0),aL enI p1] [rB r]:=by
 have i1:=inv fun m s=>∃v5:Int,(s.t 1=vL enI p1∧s.t 2=vP 2 1 0∧s.t 5=vI v5∧s.h 2=(1,oX 107 (M.Registration.en p0)))∧gD p0 p1 m v5=some r
 have e1:=@gD.eq_2
 unfold oD at h
 exact sgo 26 [.tmp 4] Tryz.func225
instance:bC 225 (type_of% @aSo):=⟨@aSo⟩
theorem aUX (p0 p1 r) (h:wZ p0 p1=some r):Sc 105 [aX (M.Registration.en p0),aL enI p1] [(true,M.Registration.rs r.1),rI r.2.1,rB r.2.2]:=by
 unfold wZ at h
 exact sgo 21 [.cell 4 107,.tmp 5,.tmp 6] Tryz.func105
instance:bC 105 (type_of% @aUX):=⟨@aUX⟩
theorem aQg (p0 p1 r) (h:uU p0 p1=some r):Sc 226 [aX (M.aM.en p0),aI p1] [rI r]:=by
 have i1:=inv fun m s=>∃v5:Int,(s.t 1=vI p1∧s.t 2=vP 2 1 0∧s.t 5=vI v5∧s.h 2=(1,oX 110 (M.aM.en p0)))∧iE p0 p1 m v5=some r
 have e1:=@iE.eq_2
 unfold uU at h
 exact sgo 22 [.tmp 4] Tryz.func226
instance:bC 226 (type_of% @aQg):=⟨@aQg⟩
theorem aSe (p0 p1 r) (h:tZ p0 p1=some r):Sc 108 [aX (M.aM.en p0),aI p1] [(true,M.aM.rs r.1),rB r.2]:=by
 unfold tZ at h
 simp only [EN]
 refine sgn 28 [.cell 4 110,.tmp 5] Tryz.func108 fun base wd => ?_
 refine sq (rn ?_)
 refine an (sq ?_)
 obtain ⟨x1,h2,h⟩:=bind_some h
 refine rn1 (aQK _ _ h2) ?_
 refine an (sq ?_)
 obtain ⟨x3,h4,h⟩:=bind_some h
 refine rn1 (aQg _ _ _ h4) ?_
 refine an (sq (sq (rn ?_)))
 refine an ?_
 rcases cF (decide (x3<0)) with b5 | b5
 ·replace h:=bH b5 h
  refine ct (sq (rn ?_))
  refine an (rt ?_)
  cases h
  simp [Ret,TB,EN, *]
 replace h:=bG b5 h
 refine cf (sk (an (sq ?_)))
 obtain ⟨x6,h7,h⟩:=bind_some h
 obtain ⟨x8,h9,h⟩:=bind_some h
 obtain ⟨x10,h11,h⟩:=bind_some h
 apply aD1 mixed
 ·simp +decide only [E,reduceIte,Nat.reduceAdd,Nat.reduceMul,Bool.not_true,Bool.not_false,←List.map_take,←List.map_drop,Nat.sub_zero,L,aIr,aIj,aI8,M.Cache.en,EN,b5]
  refine ⟨by first | exact jZ h7 | exact (jZ h7).2 | exact (jZ h7).2.2,?_⟩
  try simp +decide only [E,reduceIte,Nat.reduceAdd,Nat.reduceMul,Bool.not_true,Bool.not_false,←List.map_take,←List.map_drop,Nat.sub_zero,L,aIr,aIj,aI8,M.Cache.en,EN,b5]
  refine ⟨by first | exact aKj h9 | exact (aKj h9).2 | exact (aKj h9).2.2,?_⟩
  try simp +decide only [E,reduceIte,Nat.reduceAdd,Nat.reduceMul,Bool.not_true,Bool.not_false,←List.map_take,←List.map_drop,Nat.sub_zero,L,aIr,aIj,aI8,M.Cache.en,EN,b5]
  refine ⟨by first | exact aJw (f:=M.Cache.en) (sz:=2) (fun _=>rfl) (by decide) h7 h9 h11 | (have hb:=aJw (f:=M.Cache.en) (sz:=2) (fun _=>rfl) (by decide) h7 h9 h11;simpa using hb),?_⟩
  try simp +decide only [E,reduceIte,Nat.reduceAdd,Nat.reduceMul,Bool.not_true,Bool.not_false,←List.map_take,←List.map_drop,Nat.sub_zero,L,aIr,aIj,aI8,M.Cache.en,EN,b5]
  exact ⟨.mk (by decide +kernel),Is.mk _⟩
 refine an (sq (rn ?_))
 refine an (rt ?_)
 cases h
 simp [Ret,TB,EN, *]
instance:bC 108 (type_of% @aSe):=⟨@aSe⟩
theorem aQc (p0 p1:M.aA) (r:(M.aA×Bool)) (h:lJ p0 p1=some r) (h2:r.2=false):nH Tryz.prog 211 [(true,M.aA.en p0),(true,M.aA.en p1)] [(true,[.ro (.str r.1.Site),.ro (.str r.1.Top),.ro (.str r.1.Registration.Site),.ro (.int .i64 r.1.Registration.Installing),.ro (.int .i64 r.1.Registration.Waiting),.ro (.int .i64 r.1.Registration.Active),.own 286 2 (List.map M.Cache.en r.1.Caches.Caches),.ro (.str r.1.bB.Base.Name),.ro (.int .i64 r.1.bB.Base.Version),.own 98 3 (List.map M.aH.en r.1.bB.Base.Stores),.own 383 2 (List.map M.aD.en r.1.bB.Base.Unique),.own 5 1 (List.map enB r.1.bB.Log),.ro (.int .i64 r.1.bB.Count),.ro (.str r.1.aE.Base.Name),.own 357 4 (List.map M.Item.en r.1.aE.Base.Items),.ro (.int .i64 r.1.aE.Base.Auto),.ro (.int .i64 r.1.aE.Seen),.ro (.int .i64 r.1.aE.Sync.aV.Device),.ro (.int .i64 r.1.aE.Sync.aV.Next),.own 272 7 (List.map M.aY.en r.1.aE.Sync.aV.Writes),.ro (.int .i64 r.1.aE.Sync.Tries),.ro (.int .i64 r.1.aE.Sync.WaitUntil),.ro (.int .i64 r.1.LastUsed),.ro (.bool r.1.Persistent)]),(false,[.ro (.bool r.2)])]:=by
 unfold lJ at h
 simp only [M.aA.en]
 refine aIs (N:=17) (vars:=[.cell 4 124,.tmp 5]) Tryz.func211 rfl rfl rfl (by decide +kernel) (Nat.le_of_ble_eq_true rfl) fun base wd => ?_
 refine sq ?_
 apply lO
 ·simp +decide only [E,reduceIte,Nat.reduceAdd,Nat.reduceMul,Bool.not_true,Bool.not_false,L,mZ,EN]
  exact Is.mk _
 refine an (sq (sq ?_))
 obtain ⟨x1,h2,h⟩:=bind_some h
 rcases cF (!x1) with b3 | b3
 ·replace h:=bH b3 h
  apply lO
  ·simp +decide only [E,reduceIte,Nat.reduceAdd,Nat.reduceMul,Bool.not_true,Bool.not_false,L,mZ,EN,b3]
   refine ⟨_,aOT _ _ h2,?_⟩
   try simp +decide only [E,reduceIte,Nat.reduceAdd,Nat.reduceMul,Bool.not_true,Bool.not_false,L,mZ,EN,b3]
   exact Is.mk _
  refine an ?_
  refine aLm (by simp +decide only [F,reduceIte,Nat.reduceAdd,Bool.not_true,Bool.not_false,b3]) ?_
  refine sq ?_
  obtain ⟨x4,h5,h⟩:=bind_some h
  apply lO
  ·simp +decide only [E,reduceIte,Nat.reduceAdd,Nat.reduceMul,Bool.not_true,Bool.not_false,L,mZ,EN,b3]
   refine ⟨_,c42 _ _ h5,?_⟩
   try simp +decide only [E,reduceIte,Nat.reduceAdd,Nat.reduceMul,Bool.not_true,Bool.not_false,L,mZ,EN,b3]
   exact Is.mk _
  refine an (rt ?_)
  cases h
  simp [Ret,mZ,M.Cache.en,M.aD.en,M.Item.en,M.aH.en,M.aY.en,enB,b3]
 replace h:=bG b3 h
 obtain ⟨x6,h7,h⟩:=bind_some h
 apply lO
 ·simp +decide only [E,reduceIte,Nat.reduceAdd,Nat.reduceMul,Bool.not_true,Bool.not_false,L,mZ,EN,b3]
  refine ⟨_,aOT _ _ h2,?_⟩
  try simp +decide only [E,reduceIte,Nat.reduceAdd,Nat.reduceMul,Bool.not_true,Bool.not_false,L,mZ,EN,b3]
  refine ⟨_,aOT _ _ h7,?_⟩
  try simp +decide only [E,reduceIte,Nat.reduceAdd,Nat.reduceMul,Bool.not_true,Bool.not_false,L,mZ,EN,b3]
  exact Is.mk _
 refine an ?_
 rcases aBM (!x6) with b8 | b8
 ·replace h:=bG b8 h
  refine aN8 (by simp +decide only [F,reduceIte,Nat.reduceAdd,Bool.not_true,Bool.not_false,b3,b8]) ?_
  refine sk (an (sq ?_))
  apply lO
  ·simp +decide only [E,reduceIte,Nat.reduceAdd,Nat.reduceMul,Bool.not_true,Bool.not_false,L,mZ,EN,b3,b8]
   exact Is.mk _
  refine an (rt ?_)
  cases h
  exact absurd h2 (by simp)
 replace h:=bH b8 h
 refine aLm (by simp +decide only [F,reduceIte,Nat.reduceAdd,Bool.not_true,Bool.not_false,b3,b8]) ?_
 refine sq ?_
 obtain ⟨x9,h10,h⟩:=bind_some h
 apply lO
 ·simp +decide only [E,reduceIte,Nat.reduceAdd,Nat.reduceMul,Bool.not_true,Bool.not_false,L,mZ,EN,b3,b8]
  refine ⟨_,c42 _ _ h10,?_⟩
  try simp +decide only [E,reduceIte,Nat.reduceAdd,Nat.reduceMul,Bool.not_true,Bool.not_false,L,mZ,EN,b3,b8]
  exact Is.mk _
 refine an (rt ?_)
 cases h
 simp [Ret,mZ,M.Cache.en,M.aD.en,M.Item.en,M.aH.en,M.aY.en,enB,b3,b8]
theorem aQd (p0 p1:M.aA) (r:(M.aA×Bool)) (h:lJ p0 p1=some r) (h2:r.2=true):nH Tryz.prog 211 [(true,M.aA.en p0),(true,M.aA.en p1)] [(false,[.edit .pass])]:=by
 unfold lJ at h
 simp only [M.aA.en]
 refine aOh (N:=17) (vars:=[.cell 4 124,.tmp 5]) Tryz.func211 rfl rfl rfl (by decide +kernel) (by decide) fun base wd us => ?_
 refine sq ?_
 apply lO
 ·simp +decide only [LP,E,reduceIte,Nat.reduceAdd,Nat.reduceMul,Bool.not_true,Bool.not_false,L,mZ,EN]
  exact Is.mk _
 refine an (sq (sq ?_))
 obtain ⟨x1,h2,h⟩:=bind_some h
 rcases cF (!x1) with b3 | b3
 ·replace h:=bH b3 h
  apply lO
  ·simp +decide only [LP,E,reduceIte,Nat.reduceAdd,Nat.reduceMul,Bool.not_true,Bool.not_false,L,mZ,EN,b3]
   refine ⟨_,aOT _ _ h2,?_⟩
   try simp +decide only [LP,E,reduceIte,Nat.reduceAdd,Nat.reduceMul,Bool.not_true,Bool.not_false,L,mZ,EN,b3]
   exact Is.mk _
  refine an ?_
  refine aLm (by simp +decide only [LP,F,reduceIte,Nat.reduceAdd,Bool.not_true,Bool.not_false,b3]) ?_
  refine sq ?_
  obtain ⟨x4,h5,h⟩:=bind_some h
  apply lO
  ·simp +decide only [LP,E,reduceIte,Nat.reduceAdd,Nat.reduceMul,Bool.not_true,Bool.not_false,L,mZ,EN,b3]
   refine ⟨_,c42 _ _ h5,?_⟩
   try simp +decide only [LP,E,reduceIte,Nat.reduceAdd,Nat.reduceMul,Bool.not_true,Bool.not_false,L,mZ,EN,b3]
   exact Is.mk _
  refine an (rt ?_)
  cases h
  exact absurd h2 (by simp)
 replace h:=bG b3 h
 obtain ⟨x6,h7,h⟩:=bind_some h
 apply lO
 ·simp +decide only [LP,E,reduceIte,Nat.reduceAdd,Nat.reduceMul,Bool.not_true,Bool.not_false,L,mZ,EN,b3]
  refine ⟨_,aOT _ _ h2,?_⟩
  try simp +decide only [LP,E,reduceIte,Nat.reduceAdd,Nat.reduceMul,Bool.not_true,Bool.not_false,L,mZ,EN,b3]
  refine ⟨_,aOT _ _ h7,?_⟩
  try simp +decide only [LP,E,reduceIte,Nat.reduceAdd,Nat.reduceMul,Bool.not_true,Bool.not_false,L,mZ,EN,b3]
  exact Is.mk _
 refine an ?_
 rcases aBM (!x6) with b8 | b8
 ·replace h:=bG b8 h
  refine aN8 (by simp +decide only [LP,F,reduceIte,Nat.reduceAdd,Bool.not_true,Bool.not_false,b3,b8]) ?_
  refine sk (an (sq ?_))
  apply lO
  ·simp +decide only [LP,E,reduceIte,Nat.reduceAdd,Nat.reduceMul,Bool.not_true,Bool.not_false,L,mZ,EN,b3,b8]
   exact Is.mk _
  refine an (rt ?_)
  cases h
  simp [aRE,LP,M.aA.en,mZ,b3,b8]
 replace h:=bH b8 h
 refine aLm (by simp +decide only [LP,F,reduceIte,Nat.reduceAdd,Bool.not_true,Bool.not_false,b3,b8]) ?_
 refine sq ?_
 obtain ⟨x9,h10,h⟩:=bind_some h
 apply lO
 ·simp +decide only [LP,E,reduceIte,Nat.reduceAdd,Nat.reduceMul,Bool.not_true,Bool.not_false,L,mZ,EN,b3,b8]
  refine ⟨_,c42 _ _ h10,?_⟩
  try simp +decide only [LP,E,reduceIte,Nat.reduceAdd,Nat.reduceMul,Bool.not_true,Bool.not_false,L,mZ,EN,b3,b8]
  exact Is.mk _
 refine an (rt ?_)
 cases h
 exact absurd h2 (by simp)
theorem aSs (p0 p1 p2 r) (h:lT p0 p1 p2=some r):Sc 109 [aX (M.aA.en p0),aX (M.aM.en p1),aX (M.Registration.en p2)] [(true,M.aA.rs r.1),rB r.2]:=by
 unfold lT at h
 simp only [EN]
 refine sgn 21 [.cell 6 124,.tmp 7] Tryz.func109 fun base wd => ?_
 refine sq (rn ?_)
 refine an (sq ?_)
 obtain ⟨x1,h2,h⟩:=bind_some h
 refine rn1 (c42 _ _ h2) ?_
 refine an (sq ?_)
 obtain ⟨x3,h4,h⟩:=bind_some h
 refine rn1 (aQK _ _ h4) ?_
 refine an (sq (rn ?_))
 refine an (sq ?_)
 obtain ⟨x5,h6,h⟩:=bind_some h
 rcases cF x5.2 with b7 | b7
 ·replace h:=bH b7 h
  refine rn1 (aQd _ _ _ h6 b7) ?_
  refine an (rt ?_)
  cases h
  simp [Ret,TB,EN, *]
 replace h:=bG b7 h
 refine rn1 (aQc _ _ _ h6 b7) ?_
 refine an (rt ?_)
 cases h
 simp [Ret,TB,EN, *]
instance:bC 109 (type_of% @aSs):=⟨@aSs⟩
end Go.Proofs.YtnhpbpnhmapeeaaGreat.gen
