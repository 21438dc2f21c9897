/-
  Helper text. No conditions.
-/
import Derived.Test.YtjlnkcoeghonfaaGreatRunPageTi
set_option linter.all false
namespace Go.Proofs.YtjlnkcoeghonfaaGreat.gen
open Go Go.Sh
set_option maxRecDepth 20000
set_option maxHeartbeats 4000000
instance:aW 410 (∀p0 p1 r (h:pK p0 p1=some r),Sc 410 [aX (M.aJk.en p0),aX (M.aJk.en p1)] [rB r]):=⟨λp0 p1 r h=>by unfold pK at h;exact sgo 25 [.tmp 4] Tryz.func410⟩
instance:aW 495 (∀p0 p1 r (h:AH p0 p1=some r),Sc 495 [aL enB p0,aL enB p1] [rB r]):=⟨λp0 p1 r h=>by
 have i1:=inv λm s=>∃v5:Int,(s.t 0=vL enB p0/\s.t 1=vL enB p1/\s.t 5=vI v5)/\sC p0 p1 m v5=some r
 have e1:=@sC.eq_2
 unfold AH at h
 exact sgo 26 [.tmp 4] Tryz.func495⟩
instance:aW 620 (∀p0 p1 r (h:yD p0 p1=some r),Sc 620 [aX (M.aJo.en p0),aX (M.aJo.en p1)] [rB r]):=⟨λp0 p1 r h=>by unfold yD at h;exact sgo 31 [.tmp 4] Tryz.func620⟩
instance:aW 611 (∀p0 p1 r (h:xR p0 p1=some r),Sc 611 [aX (M.aJx.en p0),aX (M.aJx.en p1)] [rB r]):=⟨λp0 p1 r h=>by unfold xR at h;exact sgo 21 [.tmp 4] Tryz.func611⟩
instance:aW 592 (∀p0 p1 r (h:C2 p0 p1=some r),Sc 592 [aL M.aJx.en p0,aL M.aJx.en p1] [rB r]):=⟨λp0 p1 r h=>by
 have i1:=inv λm s=>∃v5:Int,(s.t 0=vL M.aJx.en p0/\s.t 1=vL M.aJx.en p1/\s.t 5=vI v5)/\H8 xR p0 p1 m v5=some r
 have e1:=@H8.eq_2
 unfold C2 eqS at h
 exact sgo 27 [.tmp 4] Tryz.func592⟩
instance:aW 560 (∀p0 p1 r (h:AR p0 p1=some r),Sc 560 [aX (M.aJ0.en p0),aX (M.aJ0.en p1)] [rB r]):=⟨λp0 p1 r h=>by unfold AR at h;exact sgo 16 [.tmp 4] Tryz.func560⟩
instance:aW 493 (∀p0 p1 r (h:DX p0 p1=some r),Sc 493 [aL M.aJ0.en p0,aL M.aJ0.en p1] [rB r]):=⟨λp0 p1 r h=>by
 have i1:=inv λm s=>∃v5:Int,(s.t 0=vL M.aJ0.en p0/\s.t 1=vL M.aJ0.en p1/\s.t 5=vI v5)/\H8 AR p0 p1 m v5=some r
 have e1:=@H8.eq_2
 unfold DX eqS at h
 exact sgo 27 [.tmp 4] Tryz.func493⟩
instance:aW 411 (∀p0 p1 r (h:xT p0 p1=some r),Sc 411 [aX (M.aO.en p0),aX (M.aO.en p1)] [rB r]):=⟨λp0 p1 r h=>by unfold xT at h;exact sgo 11 [.tmp 4] Tryz.func411⟩
instance:aW 499 (∀p0 p1 r (h:Ds p0 p1=some r),Sc 499 [aX (M.Key.en p0),aX (M.Key.en p1)] [rB r]):=⟨λp0 p1 r h=>by unfold Ds at h;exact sgo 20 [.tmp 4] Tryz.func499⟩
instance:aW 612 (∀p0 p1 r (h:Av p0 p1=some r),Sc 612 [aX (M.Field.en p0),aX (M.Field.en p1)] [rB r]):=⟨λp0 p1 r h=>by unfold Av at h;exact sgo 15 [.tmp 4] Tryz.func612⟩
instance:aW 594 (∀p0 p1 r (h:D3 p0 p1=some r),Sc 594 [aL M.Field.en p0,aL M.Field.en p1] [rB r]):=⟨λp0 p1 r h=>by
 have i1:=inv λm s=>∃v5:Int,(s.t 0=vL M.Field.en p0/\s.t 1=vL M.Field.en p1/\s.t 5=vI v5)/\H8 Av p0 p1 m v5=some r
 have e1:=@H8.eq_2
 unfold D3 eqS at h
 exact sgo 27 [.tmp 4] Tryz.func594⟩
instance:aW 564 (∀p0 p1 r (h:Bx p0 p1=some r),Sc 564 [aX (M.aC.en p0),aX (M.aC.en p1)] [rB r]):=⟨λp0 p1 r h=>by unfold Bx at h;exact sgo 11 [.tmp 4] Tryz.func564⟩
instance:aW 498 (∀p0 p1 r (h:BL p0 p1=some r),Sc 498 [aX (M.aJt.en p0),aX (M.aJt.en p1)] [rB r]):=⟨λp0 p1 r h=>by unfold BL at h;exact sgo 17 [.tmp 4] Tryz.func498⟩
instance:aW 417 (∀p0 p1 r (h:ER p0 p1=some r),Sc 417 [aL M.aJt.en p0,aL M.aJt.en p1] [rB r]):=⟨λp0 p1 r h=>by
 have i1:=inv λm s=>∃v5:Int,(s.t 0=vL M.aJt.en p0/\s.t 1=vL M.aJt.en p1/\s.t 5=vI v5)/\H8 BL p0 p1 m v5=some r
 have e1:=@H8.eq_2
 unfold ER eqS at h
 exact sgo 27 [.tmp 4] Tryz.func417⟩
instance:aW 292 (∀p0 p1 r (h:rU p0 p1=some r),Sc 292 [aX (M.aD.en p0),aX (M.aD.en p1)] [rB r]):=⟨λp0 p1 r h=>by unfold rU at h;exact sgo 21 [.tmp 4] Tryz.func292⟩
instance:aW 561 (∀p0 p1 r (h:DD p0 p1=some r),Sc 561 [aL M.aD.en p0,aL M.aD.en p1] [rB r]):=⟨λp0 p1 r h=>by
 have i1:=inv λm s=>∃v5:Int,(s.t 0=vL M.aD.en p0/\s.t 1=vL M.aD.en p1/\s.t 5=vI v5)/\H8 rU p0 p1 m v5=some r
 have e1:=@H8.eq_2
 unfold DD eqS at h
 exact sgo 27 [.tmp 4] Tryz.func561⟩
instance:aW 593 (∀p0 p1 r (h:sH p0 p1=some r),Sc 593 [aX (M.aG.en p0),aX (M.aG.en p1)] [rB r]):=⟨λp0 p1 r h=>by unfold sH at h;exact sgo 15 [.tmp 4] Tryz.func593⟩
instance:aW 562 (∀p0 p1 r (h:AY p0 p1=some r),Sc 562 [aL M.aG.en p0,aL M.aG.en p1] [rB r]):=⟨λp0 p1 r h=>by
 have i1:=inv λm s=>∃v5:Int,(s.t 0=vL M.aG.en p0/\s.t 1=vL M.aG.en p1/\s.t 5=vI v5)/\H8 sH p0 p1 m v5=some r
 have e1:=@H8.eq_2
 unfold AY eqS at h
 exact sgo 27 [.tmp 4] Tryz.func562⟩
instance:aW 494 (∀p0 p1 r (h:yM p0 p1=some r),Sc 494 [aX (M.aJj.en p0),aX (M.aJj.en p1)] [rB r]):=⟨λp0 p1 r h=>by unfold yM at h;exact sgo 27 [.tmp 4] Tryz.func494⟩
instance:aW 412 (∀p0 p1 r (h:D1 p0 p1=some r),Sc 412 [aX (M.bL.en p0),aX (M.bL.en p1)] [rB r]):=⟨λp0 p1 r h=>by unfold D1 at h;exact sgo 22 [.tmp 4] Tryz.func412⟩
instance:aW 419 (∀p0 p1 r (h:Az p0 p1=some r),Sc 419 [aX (M.aY.en p0),aX (M.aY.en p1)] [rB r]):=⟨λp0 p1 r h=>by unfold Az at h;exact sgo 31 [.tmp 4] Tryz.func419⟩
instance:aW 294 (∀p0 p1 r (h:BF p0 p1=some r),Sc 294 [aL M.aY.en p0,aL M.aY.en p1] [rB r]):=⟨λp0 p1 r h=>by
 have i1:=inv λm s=>∃v5:Int,(s.t 0=vL M.aY.en p0/\s.t 1=vL M.aY.en p1/\s.t 5=vI v5)/\H8 Az p0 p1 m v5=some r
 have e1:=@H8.eq_2
 unfold BF eqS at h
 exact sgo 27 [.tmp 4] Tryz.func294⟩
instance:aW 563 (∀p0 p1 r (h:BD p0 p1=some r),Sc 563 [aX (M.aM.en p0),aX (M.aM.en p1)] [rB r]):=⟨λp0 p1 r h=>by unfold BD at h;exact sgo 21 [.tmp 4] Tryz.func563⟩
instance:aW 496 (∀p0 p1 r (h:DK p0 p1=some r),Sc 496 [aX (M.aJ7.en p0),aX (M.aJ7.en p1)] [rB r]):=⟨λp0 p1 r h=>by unfold DK at h;exact sgo 21 [.tmp 4] Tryz.func496⟩
instance:aW 413 (∀p0 p1 r (h:Ad p0 p1=some r),Sc 413 [aX (M.aE.en p0),aX (M.aE.en p1)] [rB r]):=⟨λp0 p1 r h=>by unfold Ad at h;exact sgo 22 [.tmp 4] Tryz.func413⟩
instance:aW 286 (∀p0 p1 r (h:xB p0 p1=some r),Sc 286 [aX (M.aJi.en p0),aX (M.aJi.en p1)] [rB r]):=⟨λp0 p1 r h=>by unfold xB at h;exact sgo 49 [.tmp 4] Tryz.func286⟩
instance:aW 166 (∀p0 p1 r (h:Db p0 p1=some r),Sc 166 [aL M.aJi.en p0,aL M.aJi.en p1] [rB r]):=⟨λp0 p1 r h=>by
 have i1:=inv λm s=>∃v5:Int,(s.t 0=vL M.aJi.en p0/\s.t 1=vL M.aJi.en p1/\s.t 5=vI v5)/\H8 xB p0 p1 m v5=some r
 have e1:=@H8.eq_2
 unfold Db eqS at h
 exact sgo 27 [.tmp 4] Tryz.func166⟩
instance:aW 56 (∀p0 p1 r (h:Ai p0 p1=some r),Sc 56 [aX (M.aA.en p0),aX (M.aA.en p1)] [rB r]):=⟨λp0 p1 r h=>by unfold Ai at h;exact sgo 11 [.tmp 4] Tryz.func56⟩
instance:aW 414 (∀p0 p1 r (h:wQ p0 p1=some r),Sc 414 [aX (M.aJ.en p0),aX (M.aJ.en p1)] [rB r]):=⟨λp0 p1 r h=>by unfold wQ at h;exact sgo 15 [.tmp 4] Tryz.func414⟩
instance:aW 287 (∀p0 p1 r (h:De p0 p1=some r),Sc 287 [aL M.aJ.en p0,aL M.aJ.en p1] [rB r]):=⟨λp0 p1 r h=>by
 have i1:=inv λm s=>∃v5:Int,(s.t 0=vL M.aJ.en p0/\s.t 1=vL M.aJ.en p1/\s.t 5=vI v5)/\H8 wQ p0 p1 m v5=some r
 have e1:=@H8.eq_2
 unfold De eqS at h
 exact sgo 27 [.tmp 4] Tryz.func287⟩
instance:aW 497 (∀p0 p1 r (h:As p0 p1=some r),Sc 497 [aX (M.Instr.en p0),aX (M.Instr.en p1)] [rB r]):=⟨λp0 p1 r h=>by unfold As at h;exact sgo 25 [.tmp 4] Tryz.func497⟩
instance:aW 415 (∀p0 p1 r (h:DW p0 p1=some r),Sc 415 [aL M.Instr.en p0,aL M.Instr.en p1] [rB r]):=⟨λp0 p1 r h=>by
 have i1:=inv λm s=>∃v5:Int,(s.t 0=vL M.Instr.en p0/\s.t 1=vL M.Instr.en p1/\s.t 5=vI v5)/\H8 As p0 p1 m v5=some r
 have e1:=@H8.eq_2
 unfold DW eqS at h
 exact sgo 27 [.tmp 4] Tryz.func415⟩
instance:aW 416 (∀p0 p1 r (h:D2 p0 p1=some r),Sc 416 [aL enI p0,aL enI p1] [rB r]):=⟨λp0 p1 r h=>by
 have i1:=inv λm s=>∃v5:Int,(s.t 0=vL enI p0/\s.t 1=vL enI p1/\s.t 5=vI v5)/\tU p0 p1 m v5=some r
 have e1:=@tU.eq_2
 unfold D2 at h
 exact sgo 26 [.tmp 4] Tryz.func416⟩
instance:aW 288 (∀p0 p1 r (h:zN p0 p1=some r),Sc 288 [aX (M.aJn.en p0),aX (M.aJn.en p1)] [rB r]):=⟨λp0 p1 r h=>by unfold zN at h;exact sgo 37 [.tmp 4] Tryz.func288⟩
instance:aW 167 (∀p0 p1 r (h:BW p0 p1=some r),Sc 167 [aX (M.bD.en p0),aX (M.bD.en p1)] [rB r]):=⟨λp0 p1 r h=>by unfold BW at h;exact sgo 37 [.tmp 4] Tryz.func167⟩
instance:aW 57 (∀p0 p1 r (h:EJ p0 p1=some r),Sc 57 [aL M.bD.en p0,aL M.bD.en p1] [rB r]):=⟨λp0 p1 r h=>by
 have i1:=inv λm s=>∃v5:Int,(s.t 0=vL M.bD.en p0/\s.t 1=vL M.bD.en p1/\s.t 5=vI v5)/\H8 BW p0 p1 m v5=some r
 have e1:=@H8.eq_2
 unfold EJ eqS at h
 exact sgo 27 [.tmp 4] Tryz.func57⟩
instance:aW 289 (∀p0 p1 r (h:Cc p0 p1=some r),Sc 289 [aX (M.eO.en p0),aX (M.eO.en p1)] [rB r]):=⟨λp0 p1 r h=>by unfold Cc at h;exact sgo 25 [.tmp 4] Tryz.func289⟩
instance:aW 168 (∀p0 p1 r (h:ED p0 p1=some r),Sc 168 [aL M.eO.en p0,aL M.eO.en p1] [rB r]):=⟨λp0 p1 r h=>by
 have i1:=inv λm s=>∃v5:Int,(s.t 0=vL M.eO.en p0/\s.t 1=vL M.eO.en p1/\s.t 5=vI v5)/\H8 Cc p0 p1 m v5=some r
 have e1:=@H8.eq_2
 unfold ED eqS at h
 exact sgo 27 [.tmp 4] Tryz.func168⟩
instance:aW 58 (∀p0 p1 r (h:vJ p0 p1=some r),Sc 58 [aX (M.aP.en p0),aX (M.aP.en p1)] [rB r]):=⟨λp0 p1 r h=>by unfold vJ at h;exact sgo 11 [.tmp 4] Tryz.func58⟩
instance:aW 290 (∀p0 p1 r (h:Cf p0 p1=some r),Sc 290 [aX (M.iU.en p0),aX (M.iU.en p1)] [rB r]):=⟨λp0 p1 r h=>by unfold Cf at h;exact sgo 20 [.tmp 4] Tryz.func290⟩
instance:aW 169 (∀p0 p1 r (h:EM p0 p1=some r),Sc 169 [aL M.iU.en p0,aL M.iU.en p1] [rB r]):=⟨λp0 p1 r h=>by
 have i1:=inv λm s=>∃v5:Int,(s.t 0=vL M.iU.en p0/\s.t 1=vL M.iU.en p1/\s.t 5=vI v5)/\H8 Cf p0 p1 m v5=some r
 have e1:=@H8.eq_2
 unfold EM eqS at h
 exact sgo 27 [.tmp 4] Tryz.func169⟩
instance:aW 59 (∀p0 p1 r (h:Ab p0 p1=some r),Sc 59 [aX (M.aJu.en p0),aX (M.aJu.en p1)] [rB r]):=⟨λp0 p1 r h=>by unfold Ab at h;exact sgo 11 [.tmp 4] Tryz.func59⟩
instance:aW 291 (∀p0 p1 r (h:Ah p0 p1=some r),Sc 291 [aL enS p0,aL enS p1] [rB r]):=⟨λp0 p1 r h=>by
 have i1:=inv λm s=>∃v5:Int,(s.t 0=vL enS p0/\s.t 1=vL enS p1/\s.t 5=vI v5)/\nX p0 p1 m v5=some r
 have e1:=@nX.eq_2
 unfold Ah at h
 exact sgo 26 [.tmp 4] Tryz.func291⟩
instance:aW 170 (∀p0 p1 r (h:BJ p0 p1=some r),Sc 170 [aX (M.aJr.en p0),aX (M.aJr.en p1)] [rB r]):=⟨λp0 p1 r h=>by unfold BJ at h;exact sgo 26 [.tmp 4] Tryz.func170⟩
instance:aW 60 (∀p0 p1 r (h:EU p0 p1=some r),Sc 60 [aL M.aJr.en p0,aL M.aJr.en p1] [rB r]):=⟨λp0 p1 r h=>by
 have i1:=inv λm s=>∃v5:Int,(s.t 0=vL M.aJr.en p0/\s.t 1=vL M.aJr.en p1/\s.t 5=vI v5)/\H8 BJ p0 p1 m v5=some r
 have e1:=@H8.eq_2
 unfold EU eqS at h
 exact sgo 27 [.tmp 4] Tryz.func60⟩
instance:aW 418 (∀p0 p1 r (h:tQ p0 p1=some r),Sc 418 [aX (M.aK.en p0),aX (M.aK.en p1)] [rB r]):=⟨λp0 p1 r h=>by unfold tQ at h;exact sgo 15 [.tmp 4] Tryz.func418⟩
instance:aW 293 (∀p0 p1 r (h:BT p0 p1=some r),Sc 293 [aL M.aK.en p0,aL M.aK.en p1] [rB r]):=⟨λp0 p1 r h=>by
 have i1:=inv λm s=>∃v5:Int,(s.t 0=vL M.aK.en p0/\s.t 1=vL M.aK.en p1/\s.t 5=vI v5)/\H8 tQ p0 p1 m v5=some r
 have e1:=@H8.eq_2
 unfold BT eqS at h
 exact sgo 27 [.tmp 4] Tryz.func293⟩
instance:aW 171 (∀p0 p1 r (h:xE p0 p1=some r),Sc 171 [aX (M.aJv.en p0),aX (M.aJv.en p1)] [rB r]):=⟨λp0 p1 r h=>by unfold xE at h;exact sgo 23 [.tmp 4] Tryz.func171⟩
instance:aW 61 (∀p0 p1 r (h:Da p0 p1=some r),Sc 61 [aL M.aJv.en p0,aL M.aJv.en p1] [rB r]):=⟨λp0 p1 r h=>by
 have i1:=inv λm s=>∃v5:Int,(s.t 0=vL M.aJv.en p0/\s.t 1=vL M.aJv.en p1/\s.t 5=vI v5)/\H8 xE p0 p1 m v5=some r
 have e1:=@H8.eq_2
 unfold Da eqS at h
 exact sgo 27 [.tmp 4] Tryz.func61⟩
theorem c10(p0 p1 r)(h:rT p0 p1=some r):Sc 10 [aX (M.World.en p0),aX (M.World.en p1)] [rB r]:=by unfold rT at h;exact sgo 61 [.tmp 4] Tryz.func10
