/-
  Helper text. No conditions.
-/
import Derived.Test.YtnhpbpnhmapeeaaGreatSendNoteTi
namespace Go.Proofs.YtnhpbpnhmapeeaaGreat.gen
open Go Go.Sh
set_option linter.unusedVariables false
set_option linter.unusedSimpArgs false
set_option maxRecDepth 20000
set_option maxHeartbeats 4000000
theorem c41 (p0 p1 p2 r) (h:mM p0 p1 p2=some r):Sc 41 [aX (M.aF.en p0),aS p1,aS p2] [rI r]:=by
 have i1:=inv fun m s=>∃v7:Int,(s.t 1=vS p1∧s.t 2=vS p2∧s.t 3=vP 3 1 0∧s.t 7=vI v7∧s.h 3=(1,oX 26 (M.aF.en p0)))∧fK p0 p1 p2 m v7=some r
 have e1:=@fK.eq_2
 unfold mM at h
 exact sgo 34 [.tmp 6] Tryz.func41
instance:bG 41 (type_of% @c41):=⟨@c41⟩
theorem aT8 (p0 r) (h:zC p0=some r):Sc 337 [aX (M.Response.en p0)] [(true,M.Response.rs r)]:=by
 unfold zC at h
 exact sgo 11 [.cell 2 137] Tryz.func337
instance:bG 337 (type_of% @aT8):=⟨@aT8⟩
theorem aSp (p0 r) (h:wM p0=some r):Sc 251 [aX (M.Cache.en p0)] [(true,M.Cache.rs r)]:=by
 have i1:=aJ0 [.b 3 1 7050000 368 7] fun m s=>∃v4:Int,∃r50000:List M.Cached,∃u50000:Nat,(s.t 1=vP 1 1 0∧s.t 2=vP 2 1 0∧s.t 3=vP 3 1 0∧s.t 4=vI v4∧s.h 1=(1,oX 286 (M.Cache.en p0))∧s.h 2=(1,oB 286 [cI 0,.nil])∧s.h 3=(1,oB 286 [cI p0.Version,.row 7050000 u50000])∧s.h 7050000=(u50000,oW 368 7 M.Cached.en r50000))∧iJ p0 m v4 r50000=some r
 have e1:=@iJ.eq_2
 unfold wM at h
 exact sgo 36 [.cell 2 286] Tryz.func251
instance:bG 251 (type_of% @aSp):=⟨@aSp⟩
theorem aRa (p0 r) (h:zT p0=some r):Sc 140 [aX (M.aU.en p0)] [(true,M.aU.rs r)]:=by
 have i1:=aJ0 [.b 3 0 7050000 286 2] fun m s=>∃v4:Int,∃r50000:List M.Cache,∃u50000:Nat,(s.t 1=vP 1 1 0∧s.t 2=vP 2 1 0∧s.t 3=vP 3 1 0∧s.t 4=vI v4∧s.h 1=(1,oX 110 (M.aU.en p0))∧s.h 2=(1,oB 110 [.nil])∧s.h 3=(1,oB 110 [.row 7050000 u50000])∧s.h 7050000=(u50000,oW 286 2 M.Cache.en r50000))∧jU p0 m v4 r50000=some r
 have e1:=@jU.eq_2
 unfold zT at h
 exact sgo 25 [.cell 2 110] Tryz.func140
instance:bG 140 (type_of% @aRa):=⟨@aRa⟩
theorem aLq (p0 r) (h:bQ p0=some r):Sc 370 [aX (M.aH.en p0)] [(true,M.aH.rs r)]:=by
 unfold bQ at h
 exact sgo 8 [.cell 2 355] Tryz.func370
instance:bG 370 (type_of% @aLq):=⟨@aLq⟩
theorem aQC (p0 r) (h:xL p0=some r):Sc 327 [aX (M.Item.en p0)] [(true,M.Item.rs r)]:=by
 unfold xL at h
 exact sgo 9 [.cell 2 357] Tryz.func327
instance:bG 327 (type_of% @aQC):=⟨@aQC⟩
theorem aOu (p0 r) (h:eV p0=some r):Sc 241 [aX (M.aE.en p0)] [(true,M.aE.rs r)]:=by
 have i1:=aJ0 [.b 3 1 7050000 357 4] fun m s=>∃v4:Int,∃r50000:List M.Item,∃u50000:Nat,(s.t 1=vP 1 1 0∧s.t 2=vP 2 1 0∧s.t 3=vP 3 1 0∧s.t 4=vI v4∧s.h 1=(1,oX 98 (M.aE.en p0))∧s.h 2=(1,oB 98 [cS (⟨#[]⟩:ByteArray),.nil,cI 0])∧s.h 3=(1,oB 98 [cS p0.Name,.row 7050000 u50000,cI p0.Auto])∧s.h 7050000=(u50000,oW 357 4 M.Item.en r50000))∧lA p0 m v4 r50000=some r
 have e1:=@lA.eq_2
 unfold eV at h
 exact sgo 29 [.cell 2 98] Tryz.func241
instance:bG 241 (type_of% @aOu):=⟨@aOu⟩
theorem aUP (p0 r) (h:aAc p0=some r):Sc 252 [aX (M.Database.en p0)] [(true,M.Database.rs r)]:=by
 have i1:=aJ0 [.b 3 2 7050000 98 3] fun m s=>∃v4:Int,∃r50000:List M.aE,∃u50000:Nat,(s.t 1=vP 1 1 0∧s.t 2=vP 2 1 0∧s.t 3=vP 3 1 0∧s.t 4=vI v4∧s.h 1=(1,oX 114 (M.Database.en p0))∧s.h 2=(1,oB 114 [cS (⟨#[]⟩:ByteArray),cI 0,.nil,.nil])∧s.h 3=(1,oB 114 [cS p0.Name,cI p0.Version,.row 7050000 u50000,.row 100009 2])∧s.h 100009=(2,oW 383 2 M.aD.en p0.Unique)∧s.h 7050000=(u50000,oW 98 3 M.aE.en r50000))∧lC p0 m v4 r50000=some r
 have e1:=@lC.eq_2
 unfold aAc at h
 exact sgo 33 [.cell 2 114] Tryz.func252
instance:bG 252 (type_of% @aUP):=⟨@aUP⟩
theorem aT0 (p0 r) (h:yH p0=some r):Sc 141 [aX (M.bD.en p0)] [(true,M.bD.rs r)]:=by
 unfold yH at h
 exact sgo 13 [.cell 2 116] Tryz.func141
instance:bG 141 (type_of% @aT0):=⟨@aT0⟩
theorem aSD (p0 r) (h:pN p0=some r):Sc 298 [aX (M.aN.en p0)] [(true,M.aN.rs r)]:=by
 unfold pN at h
 exact sgo 11 [.cell 2 118] Tryz.func298
instance:bG 298 (type_of% @aSD):=⟨@aSD⟩
theorem aTl (p0 r) (h:yP p0=some r):Sc 253 [aX (M.Sync.en p0)] [(true,M.Sync.rs r)]:=by
 unfold yP at h
 exact sgo 10 [.cell 2 120] Tryz.func253
instance:bG 253 (type_of% @aTl):=⟨@aTl⟩
theorem aQf (p0 r) (h:pO p0=some r):Sc 142 [aX (M.aC.en p0)] [(true,M.aC.rs r)]:=by
 unfold pO at h
 exact sgo 12 [.cell 2 122] Tryz.func142
instance:bG 142 (type_of% @aQf):=⟨@aQf⟩
theorem c42 (p0 r) (h:gE p0=some r):Sc 42 [aX (M.aA.en p0)] [(true,M.aA.rs r)]:=by
 unfold gE at h
 exact sgo 18 [.cell 2 124] Tryz.func42
instance:bG 42 (type_of% @c42):=⟨@c42⟩
theorem aNt (p0 r) (h:eQ p0=some r):Sc 127 [aX (M.aF.en p0)] [(true,M.aF.rs r)]:=by
 have i1:=aJ0 [.b 3 0 7050000 124 24] fun m s=>∃v4:Int,∃r50000:List M.aA,∃u50000:Nat,(s.t 1=vP 1 1 0∧s.t 2=vP 2 1 0∧s.t 3=vP 3 1 0∧s.t 4=vI v4∧s.h 1=(1,oX 26 (M.aF.en p0))∧s.h 2=(1,oB 26 [.nil])∧s.h 3=(1,oB 26 [.row 7050000 u50000])∧s.h 7050000=(u50000,oW 124 24 M.aA.en r50000))∧jH p0 m v4 r50000=some r
 have e1:=@jH.eq_2
 unfold eQ at h
 exact sgo 25 [.cell 2 26] Tryz.func127
instance:bG 127 (type_of% @aNt):=⟨@aNt⟩
theorem aTJ (p0 r) (h:tM p0=some r):Sc 255 [aL M.Instr.en p0] [rW 196 4 M.Instr.en r]:=by
 unfold tM at h
 exact sgo 6 [.tmp 2] Tryz.func255
instance:bG 255 (type_of% @aTJ):=⟨@aTJ⟩
theorem aSC (p0 r) (h:zA p0=some r):Sc 240 [aX (M.Machine.en p0)] [(true,M.Machine.rs r)]:=by
 unfold zA at h
 exact sgo 15 [.cell 2 78] Tryz.func240
instance:bG 240 (type_of% @aSC):=⟨@aSC⟩
theorem aSx (p0 r) (h:yQ p0=some r):Sc 128 [aX (M.bJ.en p0)] [(true,M.bJ.rs r)]:=by
 unfold yQ at h
 exact sgo 15 [.cell 2 80] Tryz.func128
instance:bG 128 (type_of% @aSx):=⟨@aSx⟩
theorem aRx (p0 r) (h:uU p0=some r):Sc 129 [aX (M.aW.en p0)] [(true,M.aW.rs r)]:=by
 unfold uU at h
 exact sgo 8 [.cell 2 30] Tryz.func129
instance:bG 129 (type_of% @aRx):=⟨@aRx⟩
theorem aUA (p0 r) (h:uT p0=some r):Sc 130 [aX (M.Channel.en p0)] [(true,M.Channel.rs r)]:=by
 unfold uT at h
 exact sgo 8 [.cell 2 33] Tryz.func130
instance:bG 130 (type_of% @aUA):=⟨@aUA⟩
theorem aRv (p0 r) (h:zD p0=some r):Sc 131 [aX (M.Site.en p0)] [(true,M.Site.rs r)]:=by
 unfold zD at h
 exact sgo 11 [.cell 2 95] Tryz.func131
instance:bG 131 (type_of% @aRv):=⟨@aRv⟩
theorem aRV (p0 r) (h:yU p0=some r):Sc 132 [aX (M.Server.en p0)] [(true,M.Server.rs r)]:=by
 unfold yU at h
 exact sgo 15 [.cell 2 102] Tryz.func132
instance:bG 132 (type_of% @aRV):=⟨@aRV⟩
theorem c36 (p0 r) (h:uW p0=some r):Sc 36 [aX (M.World.en p0)] [(true,M.World.rs r)]:=by
 have i1:=fun (x1:M.aF)=>inv fun m s=>∃v4:Int,∃r12:List M.bJ,∃u12:Nat,(s.t 1=vP 1 1 0∧s.t 2=vP 2 1 0∧s.t 3=vP 3 1 0∧s.t 4=vI v4∧s.h 1=(1,oX 37 (M.World.en p0))∧s.h 2=(1,oB 37 [cI 0,cB false,cI 0,.nil,.nil,cI 0,.nil,.nil,.nil,.nil])∧s.h 3=(1,oB 37 [cI p0.Now,cB p0.Online,cI p0.Device,.row 100010 1,.row 100012 u12,cI p0.NextPage,cL M.cT.en p0.Locks.Locks,cL M.eO.en p0.Channel.Mails,cL M.Site.en p0.Sites,cL M.Server.en p0.Servers])∧s.h 100010=(1,oW 124 24 M.aA.en x1.Buckets)∧s.h 100012=(u12,oW 80 11 M.bJ.en r12))∧iD p0 x1 m v4 r12=some r
 have e1:=@iD.eq_2
 have i2:=fun (x1:M.aF) (r12:List M.bJ) (x42:M.aW) (x44:M.Channel) (s12:St) (u12:Nat)=>inv fun m s=>∃v5:Int,∃r40:List M.Site,∃u40:Nat,(s.t 1=vP 1 1 0∧s.t 2=vP 2 1 0∧s.t 3=vP 3 1 0∧s.t 5=vI v5∧s.h 1=(1,oX 37 (M.World.en p0))∧s.h 2=(1,oB 37 [cI 0,cB false,cI 0,.nil,.nil,cI 0,.nil,.nil,.nil,.nil])∧s.h 3=(1,oB 37 [cI p0.Now,cB p0.Online,cI p0.Device,.row 100010 1,.row 100012 u12,cI p0.NextPage,.row 100034 ((s12.h 100034).1+1),.row 100038 ((s12.h 100038).1+1),.row 100040 u40,cL M.Server.en p0.Servers])∧s.h 100010=(1,oW 124 24 M.aA.en x1.Buckets)∧s.h 100012=(u12,oW 80 11 M.bJ.en r12)∧s.h 100034=(((s12.h 100034).1+1),oW 144 4 M.cT.en x42.Locks)∧s.h 100038=(((s12.h 100038).1+1),oW 232 3 M.eO.en x44.Mails)∧s.h 100040=(u40,oW 95 4 M.Site.en r40))∧gN p0 x1 r12 x42 x44 m v5 r40=some r
 have e2:=@gN.eq_2
 have i3:=fun (x1:M.aF) (r12:List M.bJ) (x42:M.aW) (x44:M.Channel) (r40:List M.Site) (s12:St) (u12:Nat) (u40:Nat)=>inv fun m s=>∃v6:Int,∃r60:List M.Server,∃u60:Nat,(s.t 1=vP 1 1 0∧s.t 2=vP 2 1 0∧s.t 3=vP 3 1 0∧s.t 6=vI v6∧s.h 1=(1,oX 37 (M.World.en p0))∧s.h 2=(1,oB 37 [cI 0,cB false,cI 0,.nil,.nil,cI 0,.nil,.nil,.nil,.nil])∧s.h 3=(1,oB 37 [cI p0.Now,cB p0.Online,cI p0.Device,.row 100010 1,.row 100012 u12,cI p0.NextPage,.row 100034 ((s12.h 100034).1+1),.row 100038 ((s12.h 100038).1+1),.row 100040 u40,.row 100060 u60])∧s.h 100010=(1,oW 124 24 M.aA.en x1.Buckets)∧s.h 100012=(u12,oW 80 11 M.bJ.en r12)∧s.h 100034=(((s12.h 100034).1+1),oW 144 4 M.cT.en x42.Locks)∧s.h 100038=(((s12.h 100038).1+1),oW 232 3 M.eO.en x44.Mails)∧s.h 100040=(u40,oW 95 4 M.Site.en r40)∧s.h 100060=(u60,oW 102 5 M.Server.en r60))∧gL p0 x1 r12 x42 x44 r40 m v6 r60=some r
 have e3:=@gL.eq_2
 unfold uW at h
 exact sgo 81 [.cell 2 37] Tryz.func36
instance:bG 36 (type_of% @c36):=⟨@c36⟩
theorem c91 (p0 r) (h:aBe p0=some r):Sc 91 [aI p0] [(true,M.Key.rs r)]:=by
 unfold aBe at h
 exact sgo 5 [.cell 2 174] Tryz.func91
instance:bG 91 (type_of% @c91):=⟨@c91⟩
theorem c34 (p0 p1 p2 r) (h:bW p0 p1 p2=some r):Sc 34 [aI p0,aI p1,aI p2] [rB r]:=by
 unfold bW at h
 exact sgo 15 [.tmp 6] Tryz.func34
instance:bG 34 (type_of% @c34):=⟨@c34⟩
theorem aRp (p0 r) (h:xH p0=some r):Sc 394 [aS p0] [rB r]:=by
 have i1:=inv fun m s=>∃v3:Int,(s.t 0=vS p0∧s.t 3=vI v3)∧gF p0 m v3=some r
 have e1:=@gF.eq_2
 unfold xH at h
 exact sgo 35 [.tmp 2] Tryz.func394
instance:bG 394 (type_of% @aRp):=⟨@aRp⟩
theorem aPI (p0 r) (h:lN p0=some r):Sc 328 [aX (M.Key.en p0)] [rB r]:=by
 unfold lN at h
 exact sgo 36 [.tmp 2] Tryz.func328
instance:bG 328 (type_of% @aPI):=⟨@aPI⟩
theorem aQO (p0 r) (h:fV p0=some r):Sc 242 [aS p0] [rB r]:=by
 have i1:=inv fun m s=>∃v3:Int,(s.t 0=vS p0∧s.t 3=vI v3)∧iX p0 m v3=some r
 have e1:=@iX.eq_2
 unfold fV at h
 exact sgo 23 [.tmp 2] Tryz.func242
instance:bG 242 (type_of% @aQO):=⟨@aQO⟩
theorem aUw (p0 r) (h:lJ p0=some r):Sc 243 [aX (M.aV.en p0)] [rB r]:=by
 unfold lJ at h
 exact sgo 26 [.tmp 2] Tryz.func243
instance:bG 243 (type_of% @aUw):=⟨@aUw⟩
theorem aSm (p0 r) (h:nF p0=some r):Sc 246 [aX (M.aN.en p0)] [rB r]:=by
 have i1:=inv fun m s=>∃v4:Int,(s.t 1=vP 1 1 0∧s.t 3=vI (List.length p0.Writes:Int)∧s.t 4=vI v4∧s.h 1=(1,oX 118 (M.aN.en p0)))∧iK p0 m v4=some r
 have e1:=@iK.eq_2
 unfold nF at h
 exact sgo 60 [.tmp 2] Tryz.func246
instance:bG 246 (type_of% @aSm):=⟨@aSm⟩
theorem aRW (p0 p1 p2 p3 r) (h:nD p0 p1 p2 p3=some r):Sc 207 [aX (M.aN.en p0),aX (M.Key.en p1),aS p2,aI p3] [(true,M.aN.rs r.1),rB r.2]:=by
 unfold nD at h
 exact sgo 40 [.cell 8 118,.tmp 9] Tryz.func207
instance:bG 207 (type_of% @aRW):=⟨@aRW⟩
theorem aRC (p0 p1 r) (h:qH p0 p1=some r):Sc 299 [aX (M.aE.en p0),aX (M.Key.en p1)] [rI r]:=by
 have i1:=inv fun m s=>∃v5:Int,(s.t 2=vP 2 1 0∧s.t 3=vP 3 1 0∧s.t 5=vI v5∧s.h 2=(1,oX 98 (M.aE.en p0))∧s.h 3=(1,oX 174 (M.Key.en p1)))∧iS p0 p1 m v5=some r
 have e1:=@iS.eq_2
 unfold qH at h
 exact sgo 22 [.tmp 4] Tryz.func299
instance:bG 299 (type_of% @aRC):=⟨@aRC⟩
theorem aLm (p0 r) (h:bN p0=some r):Sc 329 [aX (M.aH.en p0)] [rB r]:=by
 have i1:=inv fun m s=>∃v3:Int,(s.t 1=vP 1 1 0∧s.t 3=vI v3∧s.h 1=(1,oX 355 (M.aH.en p0)))∧fS p0 m v3=some r
 have e1:=@fS.eq_2
 unfold bN at h
 exact sgo 53 [.tmp 2] Tryz.func329
instance:bG 329 (type_of% @aLm):=⟨@aLm⟩
theorem aUj (p0 p1 p2 r) (h:rJ p0 p1 p2=some r):Sc 300 [aX (M.aH.en p0),aS p1,aI p2] [(true,M.aH.rs r.1),rB r.2]:=by
 unfold rJ at h
 simp only [EN]
 refine sgn 78 [.cell 6 355,.tmp 7] Tryz.func300 fun base wd => ?_
 refine sq (rn ?_)
 refine an (sq ?_)
 obtain ⟨x1,h2,h⟩:=bind_some h
 refine rn1 (aLq _ _ h2) ?_
 refine an (sq (rn ?_))
 refine an (sq (bk ?_))
 refine kX (fun m s=>∃v9:Int,s.t 1=vS p1∧s.t 2=vI p2∧s.t 3=vP 3 1 0∧s.t 6=vP 6 1 0∧s.t 8=vP 8 1 0∧s.t 9=vI v9∧s.h 3=(1,oX 355 (M.aH.en p0))∧s.h 6=(1,oB 355 [.nil])∧s.h 8=(1,oB 355 [.row 100011 1])∧s.h 100011=(1,oW 417 2 M.Field.en x1.Fields)∧gV p0 p1 p2 x1 m v9=some r) fuel ?_ ?_
 ·refine ⟨0,?_,?_,?_,?_,?_,?_,?_,?_,?_,?_,h⟩
  all_goals simp +decide only [F,reduceIte,Nat.reduceAdd,Bool.not_true,Bool.not_false,EN, *,-h]
 rintro mL1 s3 ⟨v9,f4,f5,f6,f7,f8,f9,f10,f11,f12,f13,h⟩
 rcases mL1 with _ | mL1
 ·exact absurd h (by simp [gV])
 simp only [gV] at h
 refine sq (sq ?_)
 rcases rQ (decide (v9<(List.length p0.Fields:Int))) with b14 | b14
 ·replace h:=bA b14 h
  refine rn ?_
  refine an (cf (xt (jD (jY (uX (an (sq (sq (rn ?_)))))))))
  refine an (cf ?_)
  obtain ⟨x73,h74,h⟩:=bind_some h
  obtain ⟨x75,h76,h⟩:=bind_some h
  obtain ⟨x77,h78,h⟩:=bind_some h
  obtain ⟨x79,h80,h⟩:=bind_some h
  obtain ⟨x81,h82,h⟩:=bind_some h
  apply aBC mixed
  ·simp +decide only [E,reduceIte,Nat.reduceAdd,Nat.reduceMul,Bool.not_true,Bool.not_false,←List.map_take,←List.map_drop,M.Field.en.fl,L,aCc,aBA,aCS,M.Field.en,EN,f4,f5,f6,f7,f8,f9,f10,f11,f12,f13,b14]
   refine ⟨by first | exact xK (f:=M.Field.en) (n:=2) (fun _=>rfl) h74 | exact (xK (f:=M.Field.en) (n:=2) (fun _=>rfl) h74).2 | exact (xK (f:=M.Field.en) (n:=2) (fun _=>rfl) h74).2.2,?_⟩
   try simp +decide only [E,reduceIte,Nat.reduceAdd,Nat.reduceMul,Bool.not_true,Bool.not_false,←List.map_take,←List.map_drop,M.Field.en.fl,L,aCc,aBA,aCS,M.Field.en,EN,f4,f5,f6,f7,f8,f9,f10,f11,f12,f13,b14]
   refine ⟨by (have hb:=eI h76);simp [M.Field.en,List.length_append,aY,←List.map_take,←List.map_drop,-List.map_take,-List.map_drop] at hb ⊢ <;> omega,?_⟩
   try simp +decide only [E,reduceIte,Nat.reduceAdd,Nat.reduceMul,Bool.not_true,Bool.not_false,←List.map_take,←List.map_drop,M.Field.en.fl,L,aCc,aBA,aCS,M.Field.en,EN,f4,f5,f6,f7,f8,f9,f10,f11,f12,f13,b14]
   refine ⟨by (have hb:=eI h78);simp [M.Field.en,List.length_append,aY,←List.map_take,←List.map_drop,-List.map_take,-List.map_drop] at hb ⊢ <;> omega,?_⟩
   try simp +decide only [E,reduceIte,Nat.reduceAdd,Nat.reduceMul,Bool.not_true,Bool.not_false,←List.map_take,←List.map_drop,M.Field.en.fl,L,aCc,aBA,aCS,M.Field.en,EN,f4,f5,f6,f7,f8,f9,f10,f11,f12,f13,b14]
   refine ⟨by first | exact aBl (f:=M.Field.en) (n:=2) (fun _=>rfl) h80 | exact (aBl (f:=M.Field.en) (n:=2) (fun _=>rfl) h80).2 | exact (aBl (f:=M.Field.en) (n:=2) (fun _=>rfl) h80).2.2,?_⟩
   try simp +decide only [E,reduceIte,Nat.reduceAdd,Nat.reduceMul,Bool.not_true,Bool.not_false,←List.map_take,←List.map_drop,M.Field.en.fl,L,aCc,aBA,aCS,M.Field.en,EN,f4,f5,f6,f7,f8,f9,f10,f11,f12,f13,b14]
   refine ⟨by (have hb:=eI h82);simp [M.Field.en,List.length_append,aY,←List.map_take,←List.map_drop,-List.map_take,-List.map_drop] at hb ⊢ <;> omega,?_⟩
   try simp +decide only [E,reduceIte,Nat.reduceAdd,Nat.reduceMul,Bool.not_true,Bool.not_false,←List.map_take,←List.map_drop,M.Field.en.fl,L,aCc,aBA,aCS,M.Field.en,EN,f4,f5,f6,f7,f8,f9,f10,f11,f12,f13,b14]
   exact ⟨.mk (by decide +kernel),Is.mk _⟩
  refine an (sq (sq ?_))
  refine cu (fun s=>s.t 3=vP 3 1 0∧s.t 6=vP 6 1 0∧s.t 8=vP 8 1 0∧s.h 3=(1,oX 355 (M.aH.en p0))∧s.h 6=(1,oB 355 [.nil])∧s.h 8=(1,oB 355 [.row 100050 (((((s3.h 100050).1+1)+1)+1)+1)])∧s.h 100050=((((((s3.h 100050).1+1)+1)+1)+1),oW 417 2 M.Field.en (((List.take v9.toNat p0.Fields)++[(⟨p1,p2⟩:M.Field)])++(List.drop v9.toNat p0.Fields)))∧True) ?_
  rintro s83 ⟨f84,f85,f86,f87,f88,f89,f90,_⟩
  obtain ⟨x91,h92,h⟩:=bind_some h
  rcases bO (!x91) with b93 | b93
  ·replace h:=bB b93 h
   refine rn1 (aLm _ _ h92) ?_
   refine an (ct (sq ?_))
   obtain ⟨x94,h95,h⟩:=bind_some h
   refine rn1 (aLq _ _ h95) ?_
   refine an (rt ?_)
   cases h
   simp [Ret,TB,EN, *]
  replace h:=bA b93 h
  obtain ⟨x96,h97,h⟩:=bind_some h
  refine rn2 (aLm _ _ h92) (aLm _ _ h97) ?_
  refine an ?_
  rcases rQ (!x96) with b98 | b98
  ·replace h:=bA b98 h
   refine cf (sk (an (sq (rn ?_))))
   refine an (rt ?_)
   cases h
   simp [Ret,TB,EN, *]
  replace h:=bB b98 h
  refine ct (sq ?_)
  obtain ⟨x99,h100,h⟩:=bind_some h
  refine rn1 (aLq _ _ h100) ?_
  refine an (rt ?_)
  cases h
  simp [Ret,TB,EN, *]
 replace h:=bB b14 h
 obtain ⟨x15,h16,h⟩:=bind_some h
 obtain ⟨q17,q18,q19⟩:=aR h16
 refine rn ?_
 refine an ?_
 rcases bO (Op.bytesLess x15.Name.toList p1.toList) with b20 | b20
 ·replace h:=bB b20 h
  refine ct (sk (an (bk (rn ?_))))
  refine ab ?_
  refine xY ⟨mL1,by omega,(IntKind.i64.wrap (v9+1)),?_,?_,?_,?_,?_,?_,?_,?_,?_,?_,h⟩
  all_goals simp +decide only [F,reduceIte,Nat.reduceAdd,Bool.not_true,Bool.not_false,EN, *,-h]
 replace h:=bA b20 h
 refine cf (xt (jD (jY (uX (an (sq (sq (rn ?_))))))))
 refine an ?_
 rcases bO (x15.Name.toList==p1.toList) with b21 | b21
 ·replace h:=bB b21 h
  refine ct ?_
  obtain ⟨x22,h23,h⟩:=bind_some h
  obtain ⟨q24,q25,q26⟩:=aR h23
  refine rn ?_
  refine an (sq (sq ?_))
  refine cu (fun s=>s.t 3=vP 3 1 0∧s.t 6=vP 6 1 0∧s.t 8=vP 8 1 0∧s.h 3=(1,oX 355 (M.aH.en p0))∧s.h 6=(1,oB 355 [.nil])∧s.h 8=(1,oB 355 [.row 100011 1])∧s.h 100011=(1,oW 417 2 M.Field.en (List.set x1.Fields v9.toNat (⟨x22.Name,p2⟩:M.Field)))∧True) ?_
  rintro s27 ⟨f28,f29,f30,f31,f32,f33,f34,_⟩
  obtain ⟨x35,h36,h⟩:=bind_some h
  rcases bO (!x35) with b37 | b37
  ·replace h:=bB b37 h
   refine rn1 (aLm _ _ h36) ?_
   refine an (ct (sq ?_))
   obtain ⟨x38,h39,h⟩:=bind_some h
   refine rn1 (aLq _ _ h39) ?_
   refine an (rt ?_)
   cases h
   simp [Ret,TB,EN, *]
  replace h:=bA b37 h
  obtain ⟨x40,h41,h⟩:=bind_some h
  refine rn2 (aLm _ _ h36) (aLm _ _ h41) ?_
  refine an ?_
  rcases rQ (!x40) with b42 | b42
  ·replace h:=bA b42 h
   refine cf (sk (an (sq (rn ?_))))
   refine an (rt ?_)
   cases h
   simp [Ret,TB,EN, *]
  replace h:=bB b42 h
  refine ct (sq ?_)
  obtain ⟨x43,h44,h⟩:=bind_some h
  refine rn1 (aLq _ _ h44) ?_
  refine an (rt ?_)
  cases h
  simp [Ret,TB,EN, *]
 replace h:=bA b21 h
 refine cf ?_
 obtain ⟨x45,h46,h⟩:=bind_some h
 obtain ⟨x47,h48,h⟩:=bind_some h
 obtain ⟨x49,h50,h⟩:=bind_some h
 obtain ⟨x51,h52,h⟩:=bind_some h
 obtain ⟨x53,h54,h⟩:=bind_some h
 apply aBC mixed
 ·simp +decide only [E,reduceIte,Nat.reduceAdd,Nat.reduceMul,Bool.not_true,Bool.not_false,←List.map_take,←List.map_drop,M.Field.en.fl,L,aCc,aBA,aCS,M.Field.en,EN,f4,f5,f6,f7,f8,f9,f10,f11,f12,f13,b14,q17,q18,q19,b20,b21]
  refine ⟨by first | exact xK (f:=M.Field.en) (n:=2) (fun _=>rfl) h46 | exact (xK (f:=M.Field.en) (n:=2) (fun _=>rfl) h46).2 | exact (xK (f:=M.Field.en) (n:=2) (fun _=>rfl) h46).2.2,?_⟩
  try simp +decide only [E,reduceIte,Nat.reduceAdd,Nat.reduceMul,Bool.not_true,Bool.not_false,←List.map_take,←List.map_drop,M.Field.en.fl,L,aCc,aBA,aCS,M.Field.en,EN,f4,f5,f6,f7,f8,f9,f10,f11,f12,f13,b14,q17,q18,q19,b20,b21]
  refine ⟨by (have hb:=eI h48);simp [M.Field.en,List.length_append,aY,←List.map_take,←List.map_drop,-List.map_take,-List.map_drop] at hb ⊢ <;> omega,?_⟩
  try simp +decide only [E,reduceIte,Nat.reduceAdd,Nat.reduceMul,Bool.not_true,Bool.not_false,←List.map_take,←List.map_drop,M.Field.en.fl,L,aCc,aBA,aCS,M.Field.en,EN,f4,f5,f6,f7,f8,f9,f10,f11,f12,f13,b14,q17,q18,q19,b20,b21]
  refine ⟨by (have hb:=eI h50);simp [M.Field.en,List.length_append,aY,←List.map_take,←List.map_drop,-List.map_take,-List.map_drop] at hb ⊢ <;> omega,?_⟩
  try simp +decide only [E,reduceIte,Nat.reduceAdd,Nat.reduceMul,Bool.not_true,Bool.not_false,←List.map_take,←List.map_drop,M.Field.en.fl,L,aCc,aBA,aCS,M.Field.en,EN,f4,f5,f6,f7,f8,f9,f10,f11,f12,f13,b14,q17,q18,q19,b20,b21]
  refine ⟨by first | exact aBl (f:=M.Field.en) (n:=2) (fun _=>rfl) h52 | exact (aBl (f:=M.Field.en) (n:=2) (fun _=>rfl) h52).2 | exact (aBl (f:=M.Field.en) (n:=2) (fun _=>rfl) h52).2.2,?_⟩
  try simp +decide only [E,reduceIte,Nat.reduceAdd,Nat.reduceMul,Bool.not_true,Bool.not_false,←List.map_take,←List.map_drop,M.Field.en.fl,L,aCc,aBA,aCS,M.Field.en,EN,f4,f5,f6,f7,f8,f9,f10,f11,f12,f13,b14,q17,q18,q19,b20,b21]
  refine ⟨by (have hb:=eI h54);simp [M.Field.en,List.length_append,aY,←List.map_take,←List.map_drop,-List.map_take,-List.map_drop] at hb ⊢ <;> omega,?_⟩
  try simp +decide only [E,reduceIte,Nat.reduceAdd,Nat.reduceMul,Bool.not_true,Bool.not_false,←List.map_take,←List.map_drop,M.Field.en.fl,L,aCc,aBA,aCS,M.Field.en,EN,f4,f5,f6,f7,f8,f9,f10,f11,f12,f13,b14,q17,q18,q19,b20,b21]
  exact ⟨.mk (by decide +kernel),Is.mk _⟩
 refine an (sq (sq ?_))
 refine cu (fun s=>s.t 3=vP 3 1 0∧s.t 6=vP 6 1 0∧s.t 8=vP 8 1 0∧s.h 3=(1,oX 355 (M.aH.en p0))∧s.h 6=(1,oB 355 [.nil])∧s.h 8=(1,oB 355 [.row 100050 (((((s3.h 100050).1+1)+1)+1)+1)])∧s.h 100050=((((((s3.h 100050).1+1)+1)+1)+1),oW 417 2 M.Field.en (((List.take v9.toNat p0.Fields)++[(⟨p1,p2⟩:M.Field)])++(List.drop v9.toNat p0.Fields)))∧True) ?_
 rintro s55 ⟨f56,f57,f58,f59,f60,f61,f62,_⟩
 obtain ⟨x63,h64,h⟩:=bind_some h
 rcases bO (!x63) with b65 | b65
 ·replace h:=bB b65 h
  refine rn1 (aLm _ _ h64) ?_
  refine an (ct (sq ?_))
  obtain ⟨x66,h67,h⟩:=bind_some h
  refine rn1 (aLq _ _ h67) ?_
  refine an (rt ?_)
  cases h
  simp [Ret,TB,EN, *]
 replace h:=bA b65 h
 obtain ⟨x68,h69,h⟩:=bind_some h
 refine rn2 (aLm _ _ h64) (aLm _ _ h69) ?_
 refine an ?_
 rcases rQ (!x68) with b70 | b70
 ·replace h:=bA b70 h
  refine cf (sk (an (sq (rn ?_))))
  refine an (rt ?_)
  cases h
  simp [Ret,TB,EN, *]
 replace h:=bB b70 h
 refine ct (sq ?_)
 obtain ⟨x71,h72,h⟩:=bind_some h
 refine rn1 (aLq _ _ h72) ?_
 refine an (rt ?_)
 cases h
 simp [Ret,TB,EN, *]
instance:bG 300 (type_of% @aUj):=⟨@aUj⟩
theorem aTi (p0 p1 r) (h:xI p0 p1=some r):Sc 395 [aB p0,aB p1] [rI r]:=by
 unfold xI at h
 exact sgo 7 [.tmp 4] Tryz.func395
instance:bG 395 (type_of% @aTi):=⟨@aTi⟩
theorem aQ6 (p0 p1 r) (h:iP p0 p1=some r):Sc 330 [aX (M.Key.en p0),aX (M.Key.en p1)] [rI r]:=by
 unfold iP at h
 exact sgo 46 [.tmp 4] Tryz.func330
instance:bG 330 (type_of% @aQ6):=⟨@aQ6⟩
theorem aPz (p0 r) (h:pK p0=some r):Sc 244 [aX (M.aE.en p0)] [rB r]:=by
 have i1:=inv fun m s=>∃v3:Int,(s.t 1=vP 1 1 0∧s.t 3=vI v3∧s.h 1=(1,oX 98 (M.aE.en p0)))∧gO p0 m v3=some r
 have e1:=@gO.eq_2
 unfold pK at h
 exact sgo 64 [.tmp 2] Tryz.func244
instance:bG 244 (type_of% @aPz):=⟨@aPz⟩
end Go.Proofs.YtnhpbpnhmapeeaaGreat.gen
