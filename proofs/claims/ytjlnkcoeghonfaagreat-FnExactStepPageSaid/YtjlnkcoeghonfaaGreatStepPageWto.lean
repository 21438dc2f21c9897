/-
  Helper text. No conditions.
-/
import Derived.Test.YtjlnkcoeghonfaaGreatStepPageTi
set_option linter.all false
namespace Go.Proofs.YtjlnkcoeghonfaaGreat.gen
open Go Go.Sh
set_option maxRecDepth 20000
set_option maxHeartbeats 4000000
instance:aZ 357 (∀p0 r (h:pE p0=some r),Sc 357 [aX (M.aJc.en p0)] [(true,M.aJc.rs r)]):=⟨λp0 r h=>by unfold pE at h;exact sgo 17 [.cell 2 63] Tryz.func357⟩
instance:aZ 464 (∀p0 r (h:AA p0=some r),Sc 464 [aL enB p0] [rW 5 1 enB r]):=⟨λp0 r h=>by
 have i1:=inv λm s=>∃v4:Int,∃r7:List Int,(s.t 0=vL enB p0/\s.t 3=vR 100007 1/\s.t 4=vI v4/\s.h 100007=(1,oW 5 1 enB r7))/\sB p0 m v4 r7=some r
 have e1:=@sB.eq_2
 unfold AA at h
 exact sgo 22 [.tmp 2] Tryz.func464⟩
instance:aZ 619 (∀p0 r (h:xI p0=some r),Sc 619 [aX (M.aJg.en p0)] [(true,M.aJg.rs r)]):=⟨λp0 r h=>by unfold xI at h;exact sgo 21 [.cell 2 107] Tryz.func619⟩
instance:aZ 608 (∀p0 r (h:xL p0=some r),Sc 608 [aX (M.aJo.en p0)] [(true,M.aJo.rs r)]):=⟨λp0 r h=>by unfold xL at h;exact sgo 15 [.cell 2 279] Tryz.func608⟩
instance:aZ 583 (∀p0 r (h:C1 p0=some r),Sc 583 [aL M.aJo.en p0] [rW 279 7 M.aJo.en r]):=⟨λp0 r h=>by
 have i1:=inv λm s=>∃v4:Int,∃r7:List M.aJo,(s.t 0=vL M.aJo.en p0/\s.t 3=vR 100007 1/\s.t 4=vI v4/\s.h 100007=(1,oW 279 7 M.aJo.en r7))/\H3 xL p0 m v4 r7=some r
 have e1:=@H3.eq_2
 unfold C1 toS at h
 exact sgo 23 [.tmp 2] Tryz.func583⟩
instance:aZ 543 (∀p0 r (h:Az p0=some r),Sc 543 [aX (M.aJs.en p0)] [(true,M.aJs.rs r)]):=⟨λp0 r h=>by unfold Az at h;exact sgo 12 [.cell 2 277] Tryz.func543⟩
instance:aZ 462 (∀p0 r (h:DS p0=some r),Sc 462 [aL M.aJs.en p0] [rW 277 2 M.aJs.en r]):=⟨λp0 r h=>by
 have i1:=inv λm s=>∃v4:Int,∃r7:List M.aJs,(s.t 0=vL M.aJs.en p0/\s.t 3=vR 100007 1/\s.t 4=vI v4/\s.h 100007=(1,oW 277 2 M.aJs.en r7))/\H3 Az p0 m v4 r7=some r
 have e1:=@H3.eq_2
 unfold DS toS at h
 exact sgo 23 [.tmp 2] Tryz.func462⟩
instance:aZ 358 (∀p0 r (h:xS p0=some r),Sc 358 [aX (M.aO.en p0)] [(true,M.aO.rs r)]):=⟨λp0 r h=>by unfold xS at h;exact sgo 9 [.cell 2 66] Tryz.func358⟩
instance:aZ 468 (∀p0 r (h:Dk p0=some r),Sc 468 [aX (M.Key.en p0)] [(true,M.Key.rs r)]):=⟨λp0 r h=>by unfold Dk at h;exact sgo 14 [.cell 2 216] Tryz.func468⟩
instance:aZ 609 (∀p0 r (h:AK p0=some r),Sc 609 [aX (M.Field.en p0)] [(true,M.Field.rs r)]):=⟨λp0 r h=>by unfold AK at h;exact sgo 11 [.cell 2 322] Tryz.func609⟩
instance:aZ 585 (∀p0 r (h:Eb p0=some r),Sc 585 [aL M.Field.en p0] [rW 322 2 M.Field.en r]):=⟨λp0 r h=>by
 have i1:=inv λm s=>∃v4:Int,∃r7:List M.Field,(s.t 0=vL M.Field.en p0/\s.t 3=vR 100007 1/\s.t 4=vI v4/\s.h 100007=(1,oW 322 2 M.Field.en r7))/\H3 AK p0 m v4 r7=some r
 have e1:=@H3.eq_2
 unfold Eb toS at h
 exact sgo 23 [.tmp 2] Tryz.func585⟩
instance:aZ 547 (∀p0 r (h:Bi p0=some r),Sc 547 [aX (M.aA.en p0)] [(true,M.aA.rs r)]):=⟨λp0 r h=>by unfold Bi at h;exact sgo 9 [.cell 2 207] Tryz.func547⟩
instance:aZ 467 (∀p0 r (h:BE p0=some r),Sc 467 [aX (M.aJl.en p0)] [(true,M.aJl.rs r)]):=⟨λp0 r h=>by unfold BE at h;exact sgo 13 [.cell 2 320] Tryz.func467⟩
instance:aZ 364 (∀p0 r (h:Ex p0=some r),Sc 364 [aL M.aJl.en p0] [rW 320 4 M.aJl.en r]):=⟨λp0 r h=>by
 have i1:=inv λm s=>∃v4:Int,∃r7:List M.aJl,(s.t 0=vL M.aJl.en p0/\s.t 3=vR 100007 1/\s.t 4=vI v4/\s.h 100007=(1,oW 320 4 M.aJl.en r7))/\H3 BE p0 m v4 r7=some r
 have e1:=@H3.eq_2
 unfold Ex toS at h
 exact sgo 23 [.tmp 2] Tryz.func364⟩
instance:aZ 250 (∀p0 r (h:rQ p0=some r),Sc 250 [aX (M.aD.en p0)] [(true,M.aD.rs r)]):=⟨λp0 r h=>by unfold rQ at h;exact sgo 15 [.cell 2 75] Tryz.func250⟩
instance:aZ 544 (∀p0 r (h:DC p0=some r),Sc 544 [aL M.aD.en p0] [rW 75 3 M.aD.en r]):=⟨λp0 r h=>by
 have i1:=inv λm s=>∃v4:Int,∃r7:List M.aD,(s.t 0=vL M.aD.en p0/\s.t 3=vR 100007 1/\s.t 4=vI v4/\s.h 100007=(1,oW 75 3 M.aD.en r7))/\H3 rQ p0 m v4 r7=some r
 have e1:=@H3.eq_2
 unfold DC toS at h
 exact sgo 23 [.tmp 2] Tryz.func544⟩
instance:aZ 584 (∀p0 r (h:sE p0=some r),Sc 584 [aX (M.aG.en p0)] [(true,M.aG.rs r)]):=⟨λp0 r h=>by unfold sE at h;exact sgo 11 [.cell 2 382] Tryz.func584⟩
instance:aZ 545 (∀p0 r (h:A0 p0=some r),Sc 545 [aL M.aG.en p0] [rW 382 2 M.aG.en r]):=⟨λp0 r h=>by
 have i1:=inv λm s=>∃v4:Int,∃r7:List M.aG,(s.t 0=vL M.aG.en p0/\s.t 3=vR 100007 1/\s.t 4=vI v4/\s.h 100007=(1,oW 382 2 M.aG.en r7))/\H3 sE p0 m v4 r7=some r
 have e1:=@H3.eq_2
 unfold A0 toS at h
 exact sgo 23 [.tmp 2] Tryz.func545⟩
instance:aZ 463 (∀p0 r (h:wL p0=some r),Sc 463 [aX (M.aJb.en p0)] [(true,M.aJb.rs r)]):=⟨λp0 r h=>by unfold wL at h;exact sgo 19 [.cell 2 70] Tryz.func463⟩
instance:aZ 359 (∀p0 r (h:D7 p0=some r),Sc 359 [aX (M.bL.en p0)] [(true,M.bL.rs r)]):=⟨λp0 r h=>by unfold D7 at h;exact sgo 16 [.cell 2 72] Tryz.func359⟩
instance:aZ 366 (∀p0 r (h:AB p0=some r),Sc 366 [aX (M.aW.en p0)] [(true,M.aW.rs r)]):=⟨λp0 r h=>by unfold AB at h;exact sgo 21 [.cell 2 269] Tryz.func366⟩
instance:aZ 252 (∀p0 r (h:Bs p0=some r),Sc 252 [aL M.aW.en p0] [rW 269 7 M.aW.en r]):=⟨λp0 r h=>by
 have i1:=inv λm s=>∃v4:Int,∃r7:List M.aW,(s.t 0=vL M.aW.en p0/\s.t 3=vR 100007 1/\s.t 4=vI v4/\s.h 100007=(1,oW 269 7 M.aW.en r7))/\H3 AB p0 m v4 r7=some r
 have e1:=@H3.eq_2
 unfold Bs toS at h
 exact sgo 23 [.tmp 2] Tryz.func252⟩
instance:aZ 546 (∀p0 r (h:Bc p0=some r),Sc 546 [aX (M.aM.en p0)] [(true,M.aM.rs r)]):=⟨λp0 r h=>by unfold Bc at h;exact sgo 15 [.cell 2 78] Tryz.func546⟩
instance:aZ 465 (∀p0 r (h:DX p0=some r),Sc 465 [aX (M.aJx.en p0)] [(true,M.aJx.rs r)]):=⟨λp0 r h=>by unfold DX at h;exact sgo 15 [.cell 2 80] Tryz.func465⟩
instance:aZ 360 (∀p0 r (h:Ac p0=some r),Sc 360 [aX (M.aE.en p0)] [(true,M.aE.rs r)]):=⟨λp0 r h=>by unfold Ac at h;exact sgo 16 [.cell 2 82] Tryz.func360⟩
instance:aZ 244 (∀p0 r (h:xX p0=some r),Sc 244 [aX (M.aJa.en p0)] [(true,M.aJa.rs r)]):=⟨λp0 r h=>by unfold xX at h;exact sgo 33 [.cell 2 84] Tryz.func244⟩
instance:aZ 127 (∀p0 r (h:C8 p0=some r),Sc 127 [aL M.aJa.en p0] [rW 84 24 M.aJa.en r]):=⟨λp0 r h=>by
 have i1:=inv λm s=>∃v4:Int,∃r7:List M.aJa,(s.t 0=vL M.aJa.en p0/\s.t 3=vR 100007 1/\s.t 4=vI v4/\s.h 100007=(1,oW 84 24 M.aJa.en r7))/\H3 xX p0 m v4 r7=some r
 have e1:=@H3.eq_2
 unfold C8 toS at h
 exact sgo 23 [.tmp 2] Tryz.func127⟩
instance:aZ 39 (∀p0 r (h:zX p0=some r),Sc 39 [aX (M.aC.en p0)] [(true,M.aC.rs r)]):=⟨λp0 r h=>by unfold zX at h;exact sgo 9 [.cell 2 39] Tryz.func39⟩
instance:aZ 361 (∀p0 r (h:wM p0=some r),Sc 361 [aX (M.aJ.en p0)] [(true,M.aJ.rs r)]):=⟨λp0 r h=>by unfold wM at h;exact sgo 11 [.cell 2 204] Tryz.func361⟩
instance:aZ 245 (∀p0 r (h:CT p0=some r),Sc 245 [aL M.aJ.en p0] [rW 204 2 M.aJ.en r]):=⟨λp0 r h=>by
 have i1:=inv λm s=>∃v4:Int,∃r7:List M.aJ,(s.t 0=vL M.aJ.en p0/\s.t 3=vR 100007 1/\s.t 4=vI v4/\s.h 100007=(1,oW 204 2 M.aJ.en r7))/\H3 wM p0 m v4 r7=some r
 have e1:=@H3.eq_2
 unfold CT toS at h
 exact sgo 23 [.tmp 2] Tryz.func245⟩
instance:aZ 466 (∀p0 r (h:AL p0=some r),Sc 466 [aX (M.Instr.en p0)] [(true,M.Instr.rs r)]):=⟨λp0 r h=>by unfold AL at h;exact sgo 17 [.cell 2 197] Tryz.func466⟩
instance:aZ 362 (∀p0 r (h:Ec p0=some r),Sc 362 [aL M.Instr.en p0] [rW 197 4 M.Instr.en r]):=⟨λp0 r h=>by
 have i1:=inv λm s=>∃v4:Int,∃r7:List M.Instr,(s.t 0=vL M.Instr.en p0/\s.t 3=vR 100007 1/\s.t 4=vI v4/\s.h 100007=(1,oW 197 4 M.Instr.en r7))/\H3 AL p0 m v4 r7=some r
 have e1:=@H3.eq_2
 unfold Ec toS at h
 exact sgo 23 [.tmp 2] Tryz.func362⟩
instance:aZ 363 (∀p0 r (h:DH p0=some r),Sc 363 [aL enI p0] [rW 3 1 enI r]):=⟨λp0 r h=>by
 have i1:=inv λm s=>∃v4:Int,∃r7:List Int,(s.t 0=vL enI p0/\s.t 3=vR 100007 1/\s.t 4=vI v4/\s.h 100007=(1,oW 3 1 enI r7))/\uI p0 m v4 r7=some r
 have e1:=@uI.eq_2
 unfold DH at h
 exact sgo 22 [.tmp 2] Tryz.func363⟩
instance:aZ 246 (∀p0 r (h:zU p0=some r),Sc 246 [aX (M.aJf.en p0)] [(true,M.aJf.rs r)]):=⟨λp0 r h=>by unfold zU at h;exact sgo 25 [.cell 2 89] Tryz.func246⟩
instance:aZ 128 (∀p0 r (h:BG p0=some r),Sc 128 [aX (M.bD.en p0)] [(true,M.bD.rs r)]):=⟨λp0 r h=>by unfold BG at h;exact sgo 25 [.cell 2 91] Tryz.func128⟩
instance:aZ 40 (∀p0 r (h:EB p0=some r),Sc 40 [aL M.bD.en p0] [rW 91 11 M.bD.en r]):=⟨λp0 r h=>by
 have i1:=inv λm s=>∃v4:Int,∃r7:List M.bD,(s.t 0=vL M.bD.en p0/\s.t 3=vR 100007 1/\s.t 4=vI v4/\s.h 100007=(1,oW 91 11 M.bD.en r7))/\H3 BG p0 m v4 r7=some r
 have e1:=@H3.eq_2
 unfold EB toS at h
 exact sgo 23 [.tmp 2] Tryz.func40⟩
instance:aZ 247 (∀p0 r (h:BQ p0=some r),Sc 247 [aX (M.fE.en p0)] [(true,M.fE.rs r)]):=⟨λp0 r h=>by unfold BQ at h;exact sgo 17 [.cell 2 144] Tryz.func247⟩
instance:aZ 129 (∀p0 r (h:Ey p0=some r),Sc 129 [aL M.fE.en p0] [rW 144 4 M.fE.en r]):=⟨λp0 r h=>by
 have i1:=inv λm s=>∃v4:Int,∃r7:List M.fE,(s.t 0=vL M.fE.en p0/\s.t 3=vR 100007 1/\s.t 4=vI v4/\s.h 100007=(1,oW 144 4 M.fE.en r7))/\H3 BQ p0 m v4 r7=some r
 have e1:=@H3.eq_2
 unfold Ey toS at h
 exact sgo 23 [.tmp 2] Tryz.func129⟩
instance:aZ 41 (∀p0 r (h:uZ p0=some r),Sc 41 [aX (M.aQ.en p0)] [(true,M.aQ.rs r)]):=⟨λp0 r h=>by unfold uZ at h;exact sgo 9 [.cell 2 43] Tryz.func41⟩
instance:aZ 248 (∀p0 r (h:B0 p0=some r),Sc 248 [aX (M.kK.en p0)] [(true,M.kK.rs r)]):=⟨λp0 r h=>by unfold B0 at h;exact sgo 14 [.cell 2 147] Tryz.func248⟩
instance:aZ 130 (∀p0 r (h:Eu p0=some r),Sc 130 [aL M.kK.en p0] [rW 147 3 M.kK.en r]):=⟨λp0 r h=>by
 have i1:=inv λm s=>∃v4:Int,∃r7:List M.kK,(s.t 0=vL M.kK.en p0/\s.t 3=vR 100007 1/\s.t 4=vI v4/\s.h 100007=(1,oW 147 3 M.kK.en r7))/\H3 B0 p0 m v4 r7=some r
 have e1:=@H3.eq_2
 unfold Eu toS at h
 exact sgo 23 [.tmp 2] Tryz.func130⟩
instance:aZ 42 (∀p0 r (h:zT p0=some r),Sc 42 [aX (M.aJp.en p0)] [(true,M.aJp.rs r)]):=⟨λp0 r h=>by unfold zT at h;exact sgo 9 [.cell 2 46] Tryz.func42⟩
instance:aZ 249 (∀p0 r (h:Aj p0=some r),Sc 249 [aL enS p0] [rW 9 1 enS r]):=⟨λp0 r h=>by
 have i1:=inv λm s=>∃v4:Int,∃r7:List ByteArray,(s.t 0=vL enS p0/\s.t 3=vR 100007 1/\s.t 4=vI v4/\s.h 100007=(1,oW 9 1 enS r7))/\nS p0 m v4 r7=some r
 have e1:=@nS.eq_2
 unfold Aj at h
 exact sgo 22 [.tmp 2] Tryz.func249⟩
instance:aZ 131 (∀p0 r (h:BU p0=some r),Sc 131 [aX (M.aJj.en p0)] [(true,M.aJj.rs r)]):=⟨λp0 r h=>by unfold BU at h;exact sgo 18 [.cell 2 151] Tryz.func131⟩
instance:aZ 43 (∀p0 r (h:ED p0=some r),Sc 43 [aL M.aJj.en p0] [rW 151 4 M.aJj.en r]):=⟨λp0 r h=>by
 have i1:=inv λm s=>∃v4:Int,∃r7:List M.aJj,(s.t 0=vL M.aJj.en p0/\s.t 3=vR 100007 1/\s.t 4=vI v4/\s.h 100007=(1,oW 151 4 M.aJj.en r7))/\H3 BU p0 m v4 r7=some r
 have e1:=@H3.eq_2
 unfold ED toS at h
 exact sgo 23 [.tmp 2] Tryz.func43⟩
instance:aZ 365 (∀p0 r (h:uG p0=some r),Sc 365 [aX (M.aK.en p0)] [(true,M.aK.rs r)]):=⟨λp0 r h=>by unfold uG at h;exact sgo 11 [.cell 2 266] Tryz.func365⟩
instance:aZ 251 (∀p0 r (h:B5 p0=some r),Sc 251 [aL M.aK.en p0] [rW 266 2 M.aK.en r]):=⟨λp0 r h=>by
 have i1:=inv λm s=>∃v4:Int,∃r7:List M.aK,(s.t 0=vL M.aK.en p0/\s.t 3=vR 100007 1/\s.t 4=vI v4/\s.h 100007=(1,oW 266 2 M.aK.en r7))/\H3 uG p0 m v4 r7=some r
 have e1:=@H3.eq_2
 unfold B5 toS at h
 exact sgo 23 [.tmp 2] Tryz.func251⟩
instance:aZ 132 (∀p0 r (h:yE p0=some r),Sc 132 [aX (M.aJn.en p0)] [(true,M.aJn.rs r)]):=⟨λp0 r h=>by unfold yE at h;exact sgo 17 [.cell 2 156] Tryz.func132⟩
instance:aZ 44 (∀p0 r (h:CU p0=some r),Sc 44 [aL M.aJn.en p0] [rW 156 5 M.aJn.en r]):=⟨λp0 r h=>by
 have i1:=inv λm s=>∃v4:Int,∃r7:List M.aJn,(s.t 0=vL M.aJn.en p0/\s.t 3=vR 100007 1/\s.t 4=vI v4/\s.h 100007=(1,oW 156 5 M.aJn.en r7))/\H3 yE p0 m v4 r7=some r
 have e1:=@H3.eq_2
 unfold CU toS at h
 exact sgo 23 [.tmp 2] Tryz.func44⟩
theorem c8(p0 r)(h:rR p0=some r):Sc 8 [aX (M.World.en p0)] [(true,M.World.rs r)]:=by unfold rR at h;exact sgo 41 [.cell 2 50] Tryz.func8
