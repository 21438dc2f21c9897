/-
  Helper text. No conditions.
-/
import Derived.Test.YtjlnkcoeghonfaaGreatStepPageTi
set_option linter.all false
namespace Go.Proofs.YtjlnkcoeghonfaaGreat.gen
open Go Go.Sh
set_option maxRecDepth 20000
set_option maxHeartbeats 4000000
instance:aZ 410 (∀p0 p1 r (h:pF p0 p1=some r),Sc 410 [aX (M.aJc.en p0),aX (M.aJc.en p1)] [rB r]):=⟨λp0 p1 r h=>by unfold pF at h;exact sgo 25 [.tmp 4] Tryz.func410⟩
instance:aZ 495 (∀p0 p1 r (h:AF p0 p1=some r),Sc 495 [aL enB p0,aL enB p1] [rB r]):=⟨λp0 p1 r h=>by
 have i1:=inv λm s=>∃v5:Int,(s.t 0=vL enB p0/\s.t 1=vL enB p1/\s.t 5=vI v5)/\rZ p0 p1 m v5=some r
 have e1:=@rZ.eq_2
 unfold AF at h
 exact sgo 26 [.tmp 4] Tryz.func495⟩
instance:aZ 620 (∀p0 p1 r (h:yB p0 p1=some r),Sc 620 [aX (M.aJg.en p0),aX (M.aJg.en p1)] [rB r]):=⟨λp0 p1 r h=>by unfold yB at h;exact sgo 31 [.tmp 4] Tryz.func620⟩
instance:aZ 611 (∀p0 p1 r (h:xP p0 p1=some r),Sc 611 [aX (M.aJo.en p0),aX (M.aJo.en p1)] [rB r]):=⟨λp0 p1 r h=>by unfold xP at h;exact sgo 21 [.tmp 4] Tryz.func611⟩
instance:aZ 592 (∀p0 p1 r (h:CW p0 p1=some r),Sc 592 [aL M.aJo.en p0,aL M.aJo.en p1] [rB r]):=⟨λp0 p1 r h=>by
 have i1:=inv λm s=>∃v5:Int,(s.t 0=vL M.aJo.en p0/\s.t 1=vL M.aJo.en p1/\s.t 5=vI v5)/\H0 xP p0 p1 m v5=some r
 have e1:=@H0.eq_2
 unfold CW eqS at h
 exact sgo 27 [.tmp 4] Tryz.func592⟩
instance:aZ 560 (∀p0 p1 r (h:AO p0 p1=some r),Sc 560 [aX (M.aJs.en p0),aX (M.aJs.en p1)] [rB r]):=⟨λp0 p1 r h=>by unfold AO at h;exact sgo 16 [.tmp 4] Tryz.func560⟩
instance:aZ 493 (∀p0 p1 r (h:DR p0 p1=some r),Sc 493 [aL M.aJs.en p0,aL M.aJs.en p1] [rB r]):=⟨λp0 p1 r h=>by
 have i1:=inv λm s=>∃v5:Int,(s.t 0=vL M.aJs.en p0/\s.t 1=vL M.aJs.en p1/\s.t 5=vI v5)/\H0 AO p0 p1 m v5=some r
 have e1:=@H0.eq_2
 unfold DR eqS at h
 exact sgo 27 [.tmp 4] Tryz.func493⟩
instance:aZ 411 (∀p0 p1 r (h:xR p0 p1=some r),Sc 411 [aX (M.aO.en p0),aX (M.aO.en p1)] [rB r]):=⟨λp0 p1 r h=>by unfold xR at h;exact sgo 11 [.tmp 4] Tryz.func411⟩
instance:aZ 499 (∀p0 p1 r (h:Dl p0 p1=some r),Sc 499 [aX (M.Key.en p0),aX (M.Key.en p1)] [rB r]):=⟨λp0 p1 r h=>by unfold Dl at h;exact sgo 20 [.tmp 4] Tryz.func499⟩
instance:aZ 612 (∀p0 p1 r (h:At p0 p1=some r),Sc 612 [aX (M.Field.en p0),aX (M.Field.en p1)] [rB r]):=⟨λp0 p1 r h=>by unfold At at h;exact sgo 15 [.tmp 4] Tryz.func612⟩
instance:aZ 594 (∀p0 p1 r (h:DW p0 p1=some r),Sc 594 [aL M.Field.en p0,aL M.Field.en p1] [rB r]):=⟨λp0 p1 r h=>by
 have i1:=inv λm s=>∃v5:Int,(s.t 0=vL M.Field.en p0/\s.t 1=vL M.Field.en p1/\s.t 5=vI v5)/\H0 At p0 p1 m v5=some r
 have e1:=@H0.eq_2
 unfold DW eqS at h
 exact sgo 27 [.tmp 4] Tryz.func594⟩
instance:aZ 564 (∀p0 p1 r (h:Bt p0 p1=some r),Sc 564 [aX (M.aA.en p0),aX (M.aA.en p1)] [rB r]):=⟨λp0 p1 r h=>by unfold Bt at h;exact sgo 11 [.tmp 4] Tryz.func564⟩
instance:aZ 498 (∀p0 p1 r (h:BH p0 p1=some r),Sc 498 [aX (M.aJl.en p0),aX (M.aJl.en p1)] [rB r]):=⟨λp0 p1 r h=>by unfold BH at h;exact sgo 17 [.tmp 4] Tryz.func498⟩
instance:aZ 417 (∀p0 p1 r (h:EJ p0 p1=some r),Sc 417 [aL M.aJl.en p0,aL M.aJl.en p1] [rB r]):=⟨λp0 p1 r h=>by
 have i1:=inv λm s=>∃v5:Int,(s.t 0=vL M.aJl.en p0/\s.t 1=vL M.aJl.en p1/\s.t 5=vI v5)/\H0 BH p0 p1 m v5=some r
 have e1:=@H0.eq_2
 unfold EJ eqS at h
 exact sgo 27 [.tmp 4] Tryz.func417⟩
instance:aZ 292 (∀p0 p1 r (h:rP p0 p1=some r),Sc 292 [aX (M.aD.en p0),aX (M.aD.en p1)] [rB r]):=⟨λp0 p1 r h=>by unfold rP at h;exact sgo 21 [.tmp 4] Tryz.func292⟩
instance:aZ 561 (∀p0 p1 r (h:Dx p0 p1=some r),Sc 561 [aL M.aD.en p0,aL M.aD.en p1] [rB r]):=⟨λp0 p1 r h=>by
 have i1:=inv λm s=>∃v5:Int,(s.t 0=vL M.aD.en p0/\s.t 1=vL M.aD.en p1/\s.t 5=vI v5)/\H0 rP p0 p1 m v5=some r
 have e1:=@H0.eq_2
 unfold Dx eqS at h
 exact sgo 27 [.tmp 4] Tryz.func561⟩
instance:aZ 593 (∀p0 p1 r (h:sD p0 p1=some r),Sc 593 [aX (M.aG.en p0),aX (M.aG.en p1)] [rB r]):=⟨λp0 p1 r h=>by unfold sD at h;exact sgo 15 [.tmp 4] Tryz.func593⟩
instance:aZ 562 (∀p0 p1 r (h:AV p0 p1=some r),Sc 562 [aL M.aG.en p0,aL M.aG.en p1] [rB r]):=⟨λp0 p1 r h=>by
 have i1:=inv λm s=>∃v5:Int,(s.t 0=vL M.aG.en p0/\s.t 1=vL M.aG.en p1/\s.t 5=vI v5)/\H0 sD p0 p1 m v5=some r
 have e1:=@H0.eq_2
 unfold AV eqS at h
 exact sgo 27 [.tmp 4] Tryz.func562⟩
instance:aZ 494 (∀p0 p1 r (h:yK p0 p1=some r),Sc 494 [aX (M.aJb.en p0),aX (M.aJb.en p1)] [rB r]):=⟨λp0 p1 r h=>by unfold yK at h;exact sgo 27 [.tmp 4] Tryz.func494⟩
instance:aZ 412 (∀p0 p1 r (h:DU p0 p1=some r),Sc 412 [aX (M.bL.en p0),aX (M.bL.en p1)] [rB r]):=⟨λp0 p1 r h=>by unfold DU at h;exact sgo 22 [.tmp 4] Tryz.func412⟩
instance:aZ 419 (∀p0 p1 r (h:Ax p0 p1=some r),Sc 419 [aX (M.aW.en p0),aX (M.aW.en p1)] [rB r]):=⟨λp0 p1 r h=>by unfold Ax at h;exact sgo 31 [.tmp 4] Tryz.func419⟩
instance:aZ 294 (∀p0 p1 r (h:BB p0 p1=some r),Sc 294 [aL M.aW.en p0,aL M.aW.en p1] [rB r]):=⟨λp0 p1 r h=>by
 have i1:=inv λm s=>∃v5:Int,(s.t 0=vL M.aW.en p0/\s.t 1=vL M.aW.en p1/\s.t 5=vI v5)/\H0 Ax p0 p1 m v5=some r
 have e1:=@H0.eq_2
 unfold BB eqS at h
 exact sgo 27 [.tmp 4] Tryz.func294⟩
instance:aZ 563 (∀p0 p1 r (h:Bz p0 p1=some r),Sc 563 [aX (M.aM.en p0),aX (M.aM.en p1)] [rB r]):=⟨λp0 p1 r h=>by unfold Bz at h;exact sgo 21 [.tmp 4] Tryz.func563⟩
instance:aZ 496 (∀p0 p1 r (h:DE p0 p1=some r),Sc 496 [aX (M.aJx.en p0),aX (M.aJx.en p1)] [rB r]):=⟨λp0 p1 r h=>by unfold DE at h;exact sgo 21 [.tmp 4] Tryz.func496⟩
instance:aZ 413 (∀p0 p1 r (h:Ab p0 p1=some r),Sc 413 [aX (M.aE.en p0),aX (M.aE.en p1)] [rB r]):=⟨λp0 p1 r h=>by unfold Ab at h;exact sgo 22 [.tmp 4] Tryz.func413⟩
instance:aZ 286 (∀p0 p1 r (h:wZ p0 p1=some r),Sc 286 [aX (M.aJa.en p0),aX (M.aJa.en p1)] [rB r]):=⟨λp0 p1 r h=>by unfold wZ at h;exact sgo 49 [.tmp 4] Tryz.func286⟩
instance:aZ 166 (∀p0 p1 r (h:C5 p0 p1=some r),Sc 166 [aL M.aJa.en p0,aL M.aJa.en p1] [rB r]):=⟨λp0 p1 r h=>by
 have i1:=inv λm s=>∃v5:Int,(s.t 0=vL M.aJa.en p0/\s.t 1=vL M.aJa.en p1/\s.t 5=vI v5)/\H0 wZ p0 p1 m v5=some r
 have e1:=@H0.eq_2
 unfold C5 eqS at h
 exact sgo 27 [.tmp 4] Tryz.func166⟩
instance:aZ 56 (∀p0 p1 r (h:Ag p0 p1=some r),Sc 56 [aX (M.aC.en p0),aX (M.aC.en p1)] [rB r]):=⟨λp0 p1 r h=>by unfold Ag at h;exact sgo 11 [.tmp 4] Tryz.func56⟩
instance:aZ 414 (∀p0 p1 r (h:wN p0 p1=some r),Sc 414 [aX (M.aJ.en p0),aX (M.aJ.en p1)] [rB r]):=⟨λp0 p1 r h=>by unfold wN at h;exact sgo 15 [.tmp 4] Tryz.func414⟩
instance:aZ 287 (∀p0 p1 r (h:C7 p0 p1=some r),Sc 287 [aL M.aJ.en p0,aL M.aJ.en p1] [rB r]):=⟨λp0 p1 r h=>by
 have i1:=inv λm s=>∃v5:Int,(s.t 0=vL M.aJ.en p0/\s.t 1=vL M.aJ.en p1/\s.t 5=vI v5)/\H0 wN p0 p1 m v5=some r
 have e1:=@H0.eq_2
 unfold C7 eqS at h
 exact sgo 27 [.tmp 4] Tryz.func287⟩
instance:aZ 497 (∀p0 p1 r (h:Aq p0 p1=some r),Sc 497 [aX (M.Instr.en p0),aX (M.Instr.en p1)] [rB r]):=⟨λp0 p1 r h=>by unfold Aq at h;exact sgo 25 [.tmp 4] Tryz.func497⟩
instance:aZ 415 (∀p0 p1 r (h:DQ p0 p1=some r),Sc 415 [aL M.Instr.en p0,aL M.Instr.en p1] [rB r]):=⟨λp0 p1 r h=>by
 have i1:=inv λm s=>∃v5:Int,(s.t 0=vL M.Instr.en p0/\s.t 1=vL M.Instr.en p1/\s.t 5=vI v5)/\H0 Aq p0 p1 m v5=some r
 have e1:=@H0.eq_2
 unfold DQ eqS at h
 exact sgo 27 [.tmp 4] Tryz.func415⟩
instance:aZ 416 (∀p0 p1 r (h:DV p0 p1=some r),Sc 416 [aL enI p0,aL enI p1] [rB r]):=⟨λp0 p1 r h=>by
 have i1:=inv λm s=>∃v5:Int,(s.t 0=vL enI p0/\s.t 1=vL enI p1/\s.t 5=vI v5)/\tT p0 p1 m v5=some r
 have e1:=@tT.eq_2
 unfold DV at h
 exact sgo 26 [.tmp 4] Tryz.func416⟩
instance:aZ 288 (∀p0 p1 r (h:zL p0 p1=some r),Sc 288 [aX (M.aJf.en p0),aX (M.aJf.en p1)] [rB r]):=⟨λp0 p1 r h=>by unfold zL at h;exact sgo 37 [.tmp 4] Tryz.func288⟩
instance:aZ 167 (∀p0 p1 r (h:BS p0 p1=some r),Sc 167 [aX (M.bD.en p0),aX (M.bD.en p1)] [rB r]):=⟨λp0 p1 r h=>by unfold BS at h;exact sgo 37 [.tmp 4] Tryz.func167⟩
instance:aZ 57 (∀p0 p1 r (h:EC p0 p1=some r),Sc 57 [aL M.bD.en p0,aL M.bD.en p1] [rB r]):=⟨λp0 p1 r h=>by
 have i1:=inv λm s=>∃v5:Int,(s.t 0=vL M.bD.en p0/\s.t 1=vL M.bD.en p1/\s.t 5=vI v5)/\H0 BS p0 p1 m v5=some r
 have e1:=@H0.eq_2
 unfold EC eqS at h
 exact sgo 27 [.tmp 4] Tryz.func57⟩
instance:aZ 289 (∀p0 p1 r (h:B8 p0 p1=some r),Sc 289 [aX (M.fE.en p0),aX (M.fE.en p1)] [rB r]):=⟨λp0 p1 r h=>by unfold B8 at h;exact sgo 25 [.tmp 4] Tryz.func289⟩
instance:aZ 168 (∀p0 p1 r (h:Ew p0 p1=some r),Sc 168 [aL M.fE.en p0,aL M.fE.en p1] [rB r]):=⟨λp0 p1 r h=>by
 have i1:=inv λm s=>∃v5:Int,(s.t 0=vL M.fE.en p0/\s.t 1=vL M.fE.en p1/\s.t 5=vI v5)/\H0 B8 p0 p1 m v5=some r
 have e1:=@H0.eq_2
 unfold Ew eqS at h
 exact sgo 27 [.tmp 4] Tryz.func168⟩
instance:aZ 58 (∀p0 p1 r (h:vF p0 p1=some r),Sc 58 [aX (M.aQ.en p0),aX (M.aQ.en p1)] [rB r]):=⟨λp0 p1 r h=>by unfold vF at h;exact sgo 11 [.tmp 4] Tryz.func58⟩
instance:aZ 290 (∀p0 p1 r (h:Cb p0 p1=some r),Sc 290 [aX (M.kK.en p0),aX (M.kK.en p1)] [rB r]):=⟨λp0 p1 r h=>by unfold Cb at h;exact sgo 20 [.tmp 4] Tryz.func290⟩
instance:aZ 169 (∀p0 p1 r (h:EF p0 p1=some r),Sc 169 [aL M.kK.en p0,aL M.kK.en p1] [rB r]):=⟨λp0 p1 r h=>by
 have i1:=inv λm s=>∃v5:Int,(s.t 0=vL M.kK.en p0/\s.t 1=vL M.kK.en p1/\s.t 5=vI v5)/\H0 Cb p0 p1 m v5=some r
 have e1:=@H0.eq_2
 unfold EF eqS at h
 exact sgo 27 [.tmp 4] Tryz.func169⟩
instance:aZ 59 (∀p0 p1 r (h:zZ p0 p1=some r),Sc 59 [aX (M.aJp.en p0),aX (M.aJp.en p1)] [rB r]):=⟨λp0 p1 r h=>by unfold zZ at h;exact sgo 11 [.tmp 4] Tryz.func59⟩
instance:aZ 291 (∀p0 p1 r (h:Af p0 p1=some r),Sc 291 [aL enS p0,aL enS p1] [rB r]):=⟨λp0 p1 r h=>by
 have i1:=inv λm s=>∃v5:Int,(s.t 0=vL enS p0/\s.t 1=vL enS p1/\s.t 5=vI v5)/\nU p0 p1 m v5=some r
 have e1:=@nU.eq_2
 unfold Af at h
 exact sgo 26 [.tmp 4] Tryz.func291⟩
instance:aZ 170 (∀p0 p1 r (h:BF p0 p1=some r),Sc 170 [aX (M.aJj.en p0),aX (M.aJj.en p1)] [rB r]):=⟨λp0 p1 r h=>by unfold BF at h;exact sgo 26 [.tmp 4] Tryz.func170⟩
instance:aZ 60 (∀p0 p1 r (h:EM p0 p1=some r),Sc 60 [aL M.aJj.en p0,aL M.aJj.en p1] [rB r]):=⟨λp0 p1 r h=>by
 have i1:=inv λm s=>∃v5:Int,(s.t 0=vL M.aJj.en p0/\s.t 1=vL M.aJj.en p1/\s.t 5=vI v5)/\H0 BF p0 p1 m v5=some r
 have e1:=@H0.eq_2
 unfold EM eqS at h
 exact sgo 27 [.tmp 4] Tryz.func60⟩
instance:aZ 418 (∀p0 p1 r (h:tP p0 p1=some r),Sc 418 [aX (M.aK.en p0),aX (M.aK.en p1)] [rB r]):=⟨λp0 p1 r h=>by unfold tP at h;exact sgo 15 [.tmp 4] Tryz.func418⟩
instance:aZ 293 (∀p0 p1 r (h:BP p0 p1=some r),Sc 293 [aL M.aK.en p0,aL M.aK.en p1] [rB r]):=⟨λp0 p1 r h=>by
 have i1:=inv λm s=>∃v5:Int,(s.t 0=vL M.aK.en p0/\s.t 1=vL M.aK.en p1/\s.t 5=vI v5)/\H0 tP p0 p1 m v5=some r
 have e1:=@H0.eq_2
 unfold BP eqS at h
 exact sgo 27 [.tmp 4] Tryz.func293⟩
instance:aZ 171 (∀p0 p1 r (h:xC p0 p1=some r),Sc 171 [aX (M.aJn.en p0),aX (M.aJn.en p1)] [rB r]):=⟨λp0 p1 r h=>by unfold xC at h;exact sgo 23 [.tmp 4] Tryz.func171⟩
instance:aZ 61 (∀p0 p1 r (h:C4 p0 p1=some r),Sc 61 [aL M.aJn.en p0,aL M.aJn.en p1] [rB r]):=⟨λp0 p1 r h=>by
 have i1:=inv λm s=>∃v5:Int,(s.t 0=vL M.aJn.en p0/\s.t 1=vL M.aJn.en p1/\s.t 5=vI v5)/\H0 xC p0 p1 m v5=some r
 have e1:=@H0.eq_2
 unfold C4 eqS at h
 exact sgo 27 [.tmp 4] Tryz.func61⟩
theorem c10(p0 p1 r)(h:rO p0 p1=some r):Sc 10 [aX (M.World.en p0),aX (M.World.en p1)] [rB r]:=by unfold rO at h;exact sgo 61 [.tmp 4] Tryz.func10
