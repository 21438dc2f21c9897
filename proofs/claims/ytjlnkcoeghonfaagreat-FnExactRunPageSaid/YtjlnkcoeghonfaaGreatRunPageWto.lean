/-
  Helper text. No conditions.
-/
import Derived.Test.YtjlnkcoeghonfaaGreatRunPageTi
set_option linter.all false
namespace Go.Proofs.YtjlnkcoeghonfaaGreat.gen
open Go Go.Sh
set_option maxRecDepth 20000
set_option maxHeartbeats 4000000
instance:aW 357 (∀p0 r (h:pJ p0=some r),Sc 357 [aX (M.aJk.en p0)] [(true,M.aJk.rs r)]):=⟨λp0 r h=>by unfold pJ at h;exact sgo 17 [.cell 2 63] Tryz.func357⟩
instance:aW 464 (∀p0 r (h:AD p0=some r),Sc 464 [aL enB p0] [rW 5 1 enB r]):=⟨λp0 r h=>by
 have i1:=inv λm s=>∃v4:Int,∃r7:List Int,(s.t 0=vL enB p0/\s.t 3=vR 100007 1/\s.t 4=vI v4/\s.h 100007=(1,oW 5 1 enB r7))/\sE p0 m v4 r7=some r
 have e1:=@sE.eq_2
 unfold AD at h
 exact sgo 22 [.tmp 2] Tryz.func464⟩
instance:aW 619 (∀p0 r (h:xK p0=some r),Sc 619 [aX (M.aJo.en p0)] [(true,M.aJo.rs r)]):=⟨λp0 r h=>by unfold xK at h;exact sgo 21 [.cell 2 107] Tryz.func619⟩
instance:aW 608 (∀p0 r (h:xN p0=some r),Sc 608 [aX (M.aJx.en p0)] [(true,M.aJx.rs r)]):=⟨λp0 r h=>by unfold xN at h;exact sgo 15 [.cell 2 279] Tryz.func608⟩
instance:aW 583 (∀p0 r (h:C7 p0=some r),Sc 583 [aL M.aJx.en p0] [rW 279 7 M.aJx.en r]):=⟨λp0 r h=>by
 have i1:=inv λm s=>∃v4:Int,∃r7:List M.aJx,(s.t 0=vL M.aJx.en p0/\s.t 3=vR 100007 1/\s.t 4=vI v4/\s.h 100007=(1,oW 279 7 M.aJx.en r7))/\H9 xN p0 m v4 r7=some r
 have e1:=@H9.eq_2
 unfold C7 toS at h
 exact sgo 23 [.tmp 2] Tryz.func583⟩
instance:aW 543 (∀p0 r (h:AB p0=some r),Sc 543 [aX (M.aJ0.en p0)] [(true,M.aJ0.rs r)]):=⟨λp0 r h=>by unfold AB at h;exact sgo 12 [.cell 2 277] Tryz.func543⟩
instance:aW 462 (∀p0 r (h:DY p0=some r),Sc 462 [aL M.aJ0.en p0] [rW 277 2 M.aJ0.en r]):=⟨λp0 r h=>by
 have i1:=inv λm s=>∃v4:Int,∃r7:List M.aJ0,(s.t 0=vL M.aJ0.en p0/\s.t 3=vR 100007 1/\s.t 4=vI v4/\s.h 100007=(1,oW 277 2 M.aJ0.en r7))/\H9 AB p0 m v4 r7=some r
 have e1:=@H9.eq_2
 unfold DY toS at h
 exact sgo 23 [.tmp 2] Tryz.func462⟩
instance:aW 358 (∀p0 r (h:xU p0=some r),Sc 358 [aX (M.aO.en p0)] [(true,M.aO.rs r)]):=⟨λp0 r h=>by unfold xU at h;exact sgo 9 [.cell 2 66] Tryz.func358⟩
instance:aW 468 (∀p0 r (h:Dr p0=some r),Sc 468 [aX (M.Key.en p0)] [(true,M.Key.rs r)]):=⟨λp0 r h=>by unfold Dr at h;exact sgo 14 [.cell 2 216] Tryz.func468⟩
instance:aW 609 (∀p0 r (h:AM p0=some r),Sc 609 [aX (M.Field.en p0)] [(true,M.Field.rs r)]):=⟨λp0 r h=>by unfold AM at h;exact sgo 11 [.cell 2 322] Tryz.func609⟩
instance:aW 585 (∀p0 r (h:Ej p0=some r),Sc 585 [aL M.Field.en p0] [rW 322 2 M.Field.en r]):=⟨λp0 r h=>by
 have i1:=inv λm s=>∃v4:Int,∃r7:List M.Field,(s.t 0=vL M.Field.en p0/\s.t 3=vR 100007 1/\s.t 4=vI v4/\s.h 100007=(1,oW 322 2 M.Field.en r7))/\H9 AM p0 m v4 r7=some r
 have e1:=@H9.eq_2
 unfold Ej toS at h
 exact sgo 23 [.tmp 2] Tryz.func585⟩
instance:aW 547 (∀p0 r (h:Bm p0=some r),Sc 547 [aX (M.aC.en p0)] [(true,M.aC.rs r)]):=⟨λp0 r h=>by unfold Bm at h;exact sgo 9 [.cell 2 207] Tryz.func547⟩
instance:aW 467 (∀p0 r (h:BI p0=some r),Sc 467 [aX (M.aJt.en p0)] [(true,M.aJt.rs r)]):=⟨λp0 r h=>by unfold BI at h;exact sgo 13 [.cell 2 320] Tryz.func467⟩
instance:aW 364 (∀p0 r (h:EE p0=some r),Sc 364 [aL M.aJt.en p0] [rW 320 4 M.aJt.en r]):=⟨λp0 r h=>by
 have i1:=inv λm s=>∃v4:Int,∃r7:List M.aJt,(s.t 0=vL M.aJt.en p0/\s.t 3=vR 100007 1/\s.t 4=vI v4/\s.h 100007=(1,oW 320 4 M.aJt.en r7))/\H9 BI p0 m v4 r7=some r
 have e1:=@H9.eq_2
 unfold EE toS at h
 exact sgo 23 [.tmp 2] Tryz.func364⟩
instance:aW 250 (∀p0 r (h:rV p0=some r),Sc 250 [aX (M.aD.en p0)] [(true,M.aD.rs r)]):=⟨λp0 r h=>by unfold rV at h;exact sgo 15 [.cell 2 75] Tryz.func250⟩
instance:aW 544 (∀p0 r (h:DI p0=some r),Sc 544 [aL M.aD.en p0] [rW 75 3 M.aD.en r]):=⟨λp0 r h=>by
 have i1:=inv λm s=>∃v4:Int,∃r7:List M.aD,(s.t 0=vL M.aD.en p0/\s.t 3=vR 100007 1/\s.t 4=vI v4/\s.h 100007=(1,oW 75 3 M.aD.en r7))/\H9 rV p0 m v4 r7=some r
 have e1:=@H9.eq_2
 unfold DI toS at h
 exact sgo 23 [.tmp 2] Tryz.func544⟩
instance:aW 584 (∀p0 r (h:sI p0=some r),Sc 584 [aX (M.aG.en p0)] [(true,M.aG.rs r)]):=⟨λp0 r h=>by unfold sI at h;exact sgo 11 [.cell 2 382] Tryz.func584⟩
instance:aW 545 (∀p0 r (h:A5 p0=some r),Sc 545 [aL M.aG.en p0] [rW 382 2 M.aG.en r]):=⟨λp0 r h=>by
 have i1:=inv λm s=>∃v4:Int,∃r7:List M.aG,(s.t 0=vL M.aG.en p0/\s.t 3=vR 100007 1/\s.t 4=vI v4/\s.h 100007=(1,oW 382 2 M.aG.en r7))/\H9 sI p0 m v4 r7=some r
 have e1:=@H9.eq_2
 unfold A5 toS at h
 exact sgo 23 [.tmp 2] Tryz.func545⟩
instance:aW 463 (∀p0 r (h:wO p0=some r),Sc 463 [aX (M.aJj.en p0)] [(true,M.aJj.rs r)]):=⟨λp0 r h=>by unfold wO at h;exact sgo 19 [.cell 2 70] Tryz.func463⟩
instance:aW 359 (∀p0 r (h:Ef p0=some r),Sc 359 [aX (M.bL.en p0)] [(true,M.bL.rs r)]):=⟨λp0 r h=>by unfold Ef at h;exact sgo 16 [.cell 2 72] Tryz.func359⟩
instance:aW 366 (∀p0 r (h:AE p0=some r),Sc 366 [aX (M.aY.en p0)] [(true,M.aY.rs r)]):=⟨λp0 r h=>by unfold AE at h;exact sgo 21 [.cell 2 269] Tryz.func366⟩
instance:aW 252 (∀p0 r (h:Bw p0=some r),Sc 252 [aL M.aY.en p0] [rW 269 7 M.aY.en r]):=⟨λp0 r h=>by
 have i1:=inv λm s=>∃v4:Int,∃r7:List M.aY,(s.t 0=vL M.aY.en p0/\s.t 3=vR 100007 1/\s.t 4=vI v4/\s.h 100007=(1,oW 269 7 M.aY.en r7))/\H9 AE p0 m v4 r7=some r
 have e1:=@H9.eq_2
 unfold Bw toS at h
 exact sgo 23 [.tmp 2] Tryz.func252⟩
instance:aW 546 (∀p0 r (h:Bf p0=some r),Sc 546 [aX (M.aM.en p0)] [(true,M.aM.rs r)]):=⟨λp0 r h=>by unfold Bf at h;exact sgo 15 [.cell 2 78] Tryz.func546⟩
instance:aW 465 (∀p0 r (h:D4 p0=some r),Sc 465 [aX (M.aJ7.en p0)] [(true,M.aJ7.rs r)]):=⟨λp0 r h=>by unfold D4 at h;exact sgo 15 [.cell 2 80] Tryz.func465⟩
instance:aW 360 (∀p0 r (h:Ae p0=some r),Sc 360 [aX (M.aE.en p0)] [(true,M.aE.rs r)]):=⟨λp0 r h=>by unfold Ae at h;exact sgo 16 [.cell 2 82] Tryz.func360⟩
instance:aW 244 (∀p0 r (h:xZ p0=some r),Sc 244 [aX (M.aJi.en p0)] [(true,M.aJi.rs r)]):=⟨λp0 r h=>by unfold xZ at h;exact sgo 33 [.cell 2 84] Tryz.func244⟩
instance:aW 127 (∀p0 r (h:Df p0=some r),Sc 127 [aL M.aJi.en p0] [rW 84 24 M.aJi.en r]):=⟨λp0 r h=>by
 have i1:=inv λm s=>∃v4:Int,∃r7:List M.aJi,(s.t 0=vL M.aJi.en p0/\s.t 3=vR 100007 1/\s.t 4=vI v4/\s.h 100007=(1,oW 84 24 M.aJi.en r7))/\H9 xZ p0 m v4 r7=some r
 have e1:=@H9.eq_2
 unfold Df toS at h
 exact sgo 23 [.tmp 2] Tryz.func127⟩
instance:aW 39 (∀p0 r (h:zZ p0=some r),Sc 39 [aX (M.aA.en p0)] [(true,M.aA.rs r)]):=⟨λp0 r h=>by unfold zZ at h;exact sgo 9 [.cell 2 39] Tryz.func39⟩
instance:aW 361 (∀p0 r (h:wP p0=some r),Sc 361 [aX (M.aJ.en p0)] [(true,M.aJ.rs r)]):=⟨λp0 r h=>by unfold wP at h;exact sgo 11 [.cell 2 204] Tryz.func361⟩
instance:aW 245 (∀p0 r (h:CZ p0=some r),Sc 245 [aL M.aJ.en p0] [rW 204 2 M.aJ.en r]):=⟨λp0 r h=>by
 have i1:=inv λm s=>∃v4:Int,∃r7:List M.aJ,(s.t 0=vL M.aJ.en p0/\s.t 3=vR 100007 1/\s.t 4=vI v4/\s.h 100007=(1,oW 204 2 M.aJ.en r7))/\H9 wP p0 m v4 r7=some r
 have e1:=@H9.eq_2
 unfold CZ toS at h
 exact sgo 23 [.tmp 2] Tryz.func245⟩
instance:aW 466 (∀p0 r (h:AN p0=some r),Sc 466 [aX (M.Instr.en p0)] [(true,M.Instr.rs r)]):=⟨λp0 r h=>by unfold AN at h;exact sgo 17 [.cell 2 197] Tryz.func466⟩
instance:aW 362 (∀p0 r (h:Ek p0=some r),Sc 362 [aL M.Instr.en p0] [rW 197 4 M.Instr.en r]):=⟨λp0 r h=>by
 have i1:=inv λm s=>∃v4:Int,∃r7:List M.Instr,(s.t 0=vL M.Instr.en p0/\s.t 3=vR 100007 1/\s.t 4=vI v4/\s.h 100007=(1,oW 197 4 M.Instr.en r7))/\H9 AN p0 m v4 r7=some r
 have e1:=@H9.eq_2
 unfold Ek toS at h
 exact sgo 23 [.tmp 2] Tryz.func362⟩
instance:aW 363 (∀p0 r (h:DN p0=some r),Sc 363 [aL enI p0] [rW 3 1 enI r]):=⟨λp0 r h=>by
 have i1:=inv λm s=>∃v4:Int,∃r7:List Int,(s.t 0=vL enI p0/\s.t 3=vR 100007 1/\s.t 4=vI v4/\s.h 100007=(1,oW 3 1 enI r7))/\uJ p0 m v4 r7=some r
 have e1:=@uJ.eq_2
 unfold DN at h
 exact sgo 22 [.tmp 2] Tryz.func363⟩
instance:aW 246 (∀p0 r (h:zW p0=some r),Sc 246 [aX (M.aJn.en p0)] [(true,M.aJn.rs r)]):=⟨λp0 r h=>by unfold zW at h;exact sgo 25 [.cell 2 89] Tryz.func246⟩
instance:aW 128 (∀p0 r (h:BK p0=some r),Sc 128 [aX (M.bD.en p0)] [(true,M.bD.rs r)]):=⟨λp0 r h=>by unfold BK at h;exact sgo 25 [.cell 2 91] Tryz.func128⟩
instance:aW 40 (∀p0 r (h:EI p0=some r),Sc 40 [aL M.bD.en p0] [rW 91 11 M.bD.en r]):=⟨λp0 r h=>by
 have i1:=inv λm s=>∃v4:Int,∃r7:List M.bD,(s.t 0=vL M.bD.en p0/\s.t 3=vR 100007 1/\s.t 4=vI v4/\s.h 100007=(1,oW 91 11 M.bD.en r7))/\H9 BK p0 m v4 r7=some r
 have e1:=@H9.eq_2
 unfold EI toS at h
 exact sgo 23 [.tmp 2] Tryz.func40⟩
instance:aW 247 (∀p0 r (h:BU p0=some r),Sc 247 [aX (M.eO.en p0)] [(true,M.eO.rs r)]):=⟨λp0 r h=>by unfold BU at h;exact sgo 17 [.cell 2 144] Tryz.func247⟩
instance:aW 129 (∀p0 r (h:EF p0=some r),Sc 129 [aL M.eO.en p0] [rW 144 4 M.eO.en r]):=⟨λp0 r h=>by
 have i1:=inv λm s=>∃v4:Int,∃r7:List M.eO,(s.t 0=vL M.eO.en p0/\s.t 3=vR 100007 1/\s.t 4=vI v4/\s.h 100007=(1,oW 144 4 M.eO.en r7))/\H9 BU p0 m v4 r7=some r
 have e1:=@H9.eq_2
 unfold EF toS at h
 exact sgo 23 [.tmp 2] Tryz.func129⟩
instance:aW 41 (∀p0 r (h:vC p0=some r),Sc 41 [aX (M.aP.en p0)] [(true,M.aP.rs r)]):=⟨λp0 r h=>by unfold vC at h;exact sgo 9 [.cell 2 43] Tryz.func41⟩
instance:aW 248 (∀p0 r (h:B4 p0=some r),Sc 248 [aX (M.iU.en p0)] [(true,M.iU.rs r)]):=⟨λp0 r h=>by unfold B4 at h;exact sgo 14 [.cell 2 147] Tryz.func248⟩
instance:aW 130 (∀p0 r (h:EB p0=some r),Sc 130 [aL M.iU.en p0] [rW 147 3 M.iU.en r]):=⟨λp0 r h=>by
 have i1:=inv λm s=>∃v4:Int,∃r7:List M.iU,(s.t 0=vL M.iU.en p0/\s.t 3=vR 100007 1/\s.t 4=vI v4/\s.h 100007=(1,oW 147 3 M.iU.en r7))/\H9 B4 p0 m v4 r7=some r
 have e1:=@H9.eq_2
 unfold EB toS at h
 exact sgo 23 [.tmp 2] Tryz.func130⟩
instance:aW 42 (∀p0 r (h:zV p0=some r),Sc 42 [aX (M.aJu.en p0)] [(true,M.aJu.rs r)]):=⟨λp0 r h=>by unfold zV at h;exact sgo 9 [.cell 2 46] Tryz.func42⟩
instance:aW 249 (∀p0 r (h:Al p0=some r),Sc 249 [aL enS p0] [rW 9 1 enS r]):=⟨λp0 r h=>by
 have i1:=inv λm s=>∃v4:Int,∃r7:List ByteArray,(s.t 0=vL enS p0/\s.t 3=vR 100007 1/\s.t 4=vI v4/\s.h 100007=(1,oW 9 1 enS r7))/\nV p0 m v4 r7=some r
 have e1:=@nV.eq_2
 unfold Al at h
 exact sgo 22 [.tmp 2] Tryz.func249⟩
instance:aW 131 (∀p0 r (h:BZ p0=some r),Sc 131 [aX (M.aJr.en p0)] [(true,M.aJr.rs r)]):=⟨λp0 r h=>by unfold BZ at h;exact sgo 18 [.cell 2 151] Tryz.func131⟩
instance:aW 43 (∀p0 r (h:EK p0=some r),Sc 43 [aL M.aJr.en p0] [rW 151 4 M.aJr.en r]):=⟨λp0 r h=>by
 have i1:=inv λm s=>∃v4:Int,∃r7:List M.aJr,(s.t 0=vL M.aJr.en p0/\s.t 3=vR 100007 1/\s.t 4=vI v4/\s.h 100007=(1,oW 151 4 M.aJr.en r7))/\H9 BZ p0 m v4 r7=some r
 have e1:=@H9.eq_2
 unfold EK toS at h
 exact sgo 23 [.tmp 2] Tryz.func43⟩
instance:aW 365 (∀p0 r (h:uH p0=some r),Sc 365 [aX (M.aK.en p0)] [(true,M.aK.rs r)]):=⟨λp0 r h=>by unfold uH at h;exact sgo 11 [.cell 2 266] Tryz.func365⟩
instance:aW 251 (∀p0 r (h:B9 p0=some r),Sc 251 [aL M.aK.en p0] [rW 266 2 M.aK.en r]):=⟨λp0 r h=>by
 have i1:=inv λm s=>∃v4:Int,∃r7:List M.aK,(s.t 0=vL M.aK.en p0/\s.t 3=vR 100007 1/\s.t 4=vI v4/\s.h 100007=(1,oW 266 2 M.aK.en r7))/\H9 uH p0 m v4 r7=some r
 have e1:=@H9.eq_2
 unfold B9 toS at h
 exact sgo 23 [.tmp 2] Tryz.func251⟩
instance:aW 132 (∀p0 r (h:yG p0=some r),Sc 132 [aX (M.aJv.en p0)] [(true,M.aJv.rs r)]):=⟨λp0 r h=>by unfold yG at h;exact sgo 17 [.cell 2 156] Tryz.func132⟩
instance:aW 44 (∀p0 r (h:C0 p0=some r),Sc 44 [aL M.aJv.en p0] [rW 156 5 M.aJv.en r]):=⟨λp0 r h=>by
 have i1:=inv λm s=>∃v4:Int,∃r7:List M.aJv,(s.t 0=vL M.aJv.en p0/\s.t 3=vR 100007 1/\s.t 4=vI v4/\s.h 100007=(1,oW 156 5 M.aJv.en r7))/\H9 yG p0 m v4 r7=some r
 have e1:=@H9.eq_2
 unfold C0 toS at h
 exact sgo 23 [.tmp 2] Tryz.func44⟩
theorem c8(p0 r)(h:rX p0=some r):Sc 8 [aX (M.World.en p0)] [(true,M.World.rs r)]:=by unfold rX at h;exact sgo 41 [.cell 2 50] Tryz.func8
