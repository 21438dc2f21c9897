/-
  Helper text. No conditions.
-/
import Derived.Test.YtbpbocchokbggaaGreatWriteNoteTi
set_option linter.all false
namespace Go.Proofs.YtbpbocchokbggaaGreat.gen
open Go Go.Sh
set_option maxRecDepth 20000
set_option maxHeartbeats 4000000
instance:aZ 458 (∀p0 p1 r (h:mF p0 p1=some r),Sc 458 [aX (M.aEL.en p0),aX (M.aEL.en p1)] [rB r]):=⟨λp0 p1 r h=>by unfold mF at h;exact sgo 25 [.tmp 4] Tryz.func458⟩
instance:aZ 538 (∀p0 p1 r (h:wX p0 p1=some r),Sc 538 [aL enB p0,aL enB p1] [rB r]):=⟨λp0 p1 r h=>by
 have i1:=inv λm s=>∃v5:Int,(s.t 0=vL enB p0/\s.t 1=vL enB p1/\s.t 5=vI v5)/\nU p0 p1 m v5=some r
 have e1:=@nU.eq_2
 unfold wX at h
 exact sgo 26 [.tmp 4] Tryz.func538⟩
instance:aZ 650 (∀p0 p1 r (h:tW p0 p1=some r),Sc 650 [aX (M.aEQ.en p0),aX (M.aEQ.en p1)] [rB r]):=⟨λp0 p1 r h=>by unfold tW at h;exact sgo 31 [.tmp 4] Tryz.func650⟩
instance:aZ 639 (∀p0 p1 r (h:tJ p0 p1=some r),Sc 639 [aX (M.aEW.en p0),aX (M.aEW.en p1)] [rB r]):=⟨λp0 p1 r h=>by unfold tJ at h;exact sgo 21 [.tmp 4] Tryz.func639⟩
instance:aZ 620 (∀p0 p1 r (h:AS p0 p1=some r),Sc 620 [aL M.aEW.en p0,aL M.aEW.en p1] [rB r]):=⟨λp0 p1 r h=>by
 have i1:=inv λm s=>∃v5:Int,(s.t 0=vL M.aEW.en p0/\s.t 1=vL M.aEW.en p1/\s.t 5=vI v5)/\EZ tJ p0 p1 m v5=some r
 have e1:=@EZ.eq_2
 unfold AS eqS at h
 exact sgo 27 [.tmp 4] Tryz.func620⟩
instance:aZ 591 (∀p0 p1 r (h:xE p0 p1=some r),Sc 591 [aX (M.aEZ.en p0),aX (M.aEZ.en p1)] [rB r]):=⟨λp0 p1 r h=>by unfold xE at h;exact sgo 16 [.tmp 4] Tryz.func591⟩
instance:aZ 536 (∀p0 p1 r (h:BR p0 p1=some r),Sc 536 [aL M.aEZ.en p0,aL M.aEZ.en p1] [rB r]):=⟨λp0 p1 r h=>by
 have i1:=inv λm s=>∃v5:Int,(s.t 0=vL M.aEZ.en p0/\s.t 1=vL M.aEZ.en p1/\s.t 5=vI v5)/\EZ xE p0 p1 m v5=some r
 have e1:=@EZ.eq_2
 unfold BR eqS at h
 exact sgo 27 [.tmp 4] Tryz.func536⟩
instance:aZ 459 (∀p0 p1 r (h:tL p0 p1=some r),Sc 459 [aX (M.aP.en p0),aX (M.aP.en p1)] [rB r]):=⟨λp0 p1 r h=>by unfold tL at h;exact sgo 11 [.tmp 4] Tryz.func459⟩
instance:aZ 541 (∀p0 p1 r (h:Bk p0 p1=some r),Sc 541 [aX (M.Key.en p0),aX (M.Key.en p1)] [rB r]):=⟨λp0 p1 r h=>by unfold Bk at h;exact sgo 20 [.tmp 4] Tryz.func541⟩
instance:aZ 640 (∀p0 p1 r (h:wO p0 p1=some r),Sc 640 [aX (M.Field.en p0),aX (M.Field.en p1)] [rB r]):=⟨λp0 p1 r h=>by unfold wO at h;exact sgo 15 [.tmp 4] Tryz.func640⟩
instance:aZ 622 (∀p0 p1 r (h:BW p0 p1=some r),Sc 622 [aL M.Field.en p0,aL M.Field.en p1] [rB r]):=⟨λp0 p1 r h=>by
 have i1:=inv λm s=>∃v5:Int,(s.t 0=vL M.Field.en p0/\s.t 1=vL M.Field.en p1/\s.t 5=vI v5)/\EZ wO p0 p1 m v5=some r
 have e1:=@EZ.eq_2
 unfold BW eqS at h
 exact sgo 27 [.tmp 4] Tryz.func622⟩
instance:aZ 595 (∀p0 p1 r (h:yO p0 p1=some r),Sc 595 [aX (M.aA.en p0),aX (M.aA.en p1)] [rB r]):=⟨λp0 p1 r h=>by unfold yO at h;exact sgo 11 [.tmp 4] Tryz.func595⟩
instance:aZ 540 (∀p0 p1 r (h:yY p0 p1=some r),Sc 540 [aX (M.aES.en p0),aX (M.aES.en p1)] [rB r]):=⟨λp0 p1 r h=>by unfold yY at h;exact sgo 17 [.tmp 4] Tryz.func540⟩
instance:aZ 462 (∀p0 p1 r (h:CC p0 p1=some r),Sc 462 [aL M.aES.en p0,aL M.aES.en p1] [rB r]):=⟨λp0 p1 r h=>by
 have i1:=inv λm s=>∃v5:Int,(s.t 0=vL M.aES.en p0/\s.t 1=vL M.aES.en p1/\s.t 5=vI v5)/\EZ yY p0 p1 m v5=some r
 have e1:=@EZ.eq_2
 unfold CC eqS at h
 exact sgo 27 [.tmp 4] Tryz.func462⟩
instance:aZ 359 (∀p0 p1 r (h:nL p0 p1=some r),Sc 359 [aX (M.aC.en p0),aX (M.aC.en p1)] [rB r]):=⟨λp0 p1 r h=>by unfold nL at h;exact sgo 21 [.tmp 4] Tryz.func359⟩
instance:aZ 592 (∀p0 p1 r (h:Bu p0 p1=some r),Sc 592 [aL M.aC.en p0,aL M.aC.en p1] [rB r]):=⟨λp0 p1 r h=>by
 have i1:=inv λm s=>∃v5:Int,(s.t 0=vL M.aC.en p0/\s.t 1=vL M.aC.en p1/\s.t 5=vI v5)/\EZ nL p0 p1 m v5=some r
 have e1:=@EZ.eq_2
 unfold Bu eqS at h
 exact sgo 27 [.tmp 4] Tryz.func592⟩
instance:aZ 621 (∀p0 p1 r (h:nY p0 p1=some r),Sc 621 [aX (M.aG.en p0),aX (M.aG.en p1)] [rB r]):=⟨λp0 p1 r h=>by unfold nY at h;exact sgo 15 [.tmp 4] Tryz.func621⟩
instance:aZ 593 (∀p0 p1 r (h:xL p0 p1=some r),Sc 593 [aL M.aG.en p0,aL M.aG.en p1] [rB r]):=⟨λp0 p1 r h=>by
 have i1:=inv λm s=>∃v5:Int,(s.t 0=vL M.aG.en p0/\s.t 1=vL M.aG.en p1/\s.t 5=vI v5)/\EZ nY p0 p1 m v5=some r
 have e1:=@EZ.eq_2
 unfold xL eqS at h
 exact sgo 27 [.tmp 4] Tryz.func593⟩
instance:aZ 537 (∀p0 p1 r (h:uF p0 p1=some r),Sc 537 [aX (M.aEK.en p0),aX (M.aEK.en p1)] [rB r]):=⟨λp0 p1 r h=>by unfold uF at h;exact sgo 27 [.tmp 4] Tryz.func537⟩
instance:aZ 460 (∀p0 p1 r (h:BU p0 p1=some r),Sc 460 [aX (M.bK.en p0),aX (M.bK.en p1)] [rB r]):=⟨λp0 p1 r h=>by unfold BU at h;exact sgo 22 [.tmp 4] Tryz.func460⟩
instance:aZ 464 (∀p0 p1 r (h:wQ p0 p1=some r),Sc 464 [aX (M.bB.en p0),aX (M.bB.en p1)] [rB r]):=⟨λp0 p1 r h=>by unfold wQ at h;exact sgo 31 [.tmp 4] Tryz.func464⟩
instance:aZ 361 (∀p0 p1 r (h:yS p0 p1=some r),Sc 361 [aL M.bB.en p0,aL M.bB.en p1] [rB r]):=⟨λp0 p1 r h=>by
 have i1:=inv λm s=>∃v5:Int,(s.t 0=vL M.bB.en p0/\s.t 1=vL M.bB.en p1/\s.t 5=vI v5)/\EZ wQ p0 p1 m v5=some r
 have e1:=@EZ.eq_2
 unfold yS eqS at h
 exact sgo 27 [.tmp 4] Tryz.func361⟩
instance:aZ 594 (∀p0 p1 r (h:yQ p0 p1=some r),Sc 594 [aX (M.aU.en p0),aX (M.aU.en p1)] [rB r]):=⟨λp0 p1 r h=>by unfold yQ at h;exact sgo 21 [.tmp 4] Tryz.func594⟩
instance:aZ 539 (∀p0 p1 r (h:BD p0 p1=some r),Sc 539 [aX (M.aEf.en p0),aX (M.aEf.en p1)] [rB r]):=⟨λp0 p1 r h=>by unfold BD at h;exact sgo 21 [.tmp 4] Tryz.func539⟩
instance:aZ 461 (∀p0 p1 r (h:wA p0 p1=some r),Sc 461 [aX (M.aF.en p0),aX (M.aF.en p1)] [rB r]):=⟨λp0 p1 r h=>by unfold wA at h;exact sgo 22 [.tmp 4] Tryz.func461⟩
instance:aZ 355 (∀p0 p1 r (h:sS p0 p1=some r),Sc 355 [aX (M.aEJ.en p0),aX (M.aEJ.en p1)] [rB r]):=⟨λp0 p1 r h=>by unfold sS at h;exact sgo 49 [.tmp 4] Tryz.func355⟩
instance:aZ 208 (∀p0 p1 r (h:A3 p0 p1=some r),Sc 208 [aL M.aEJ.en p0,aL M.aEJ.en p1] [rB r]):=⟨λp0 p1 r h=>by
 have i1:=inv λm s=>∃v5:Int,(s.t 0=vL M.aEJ.en p0/\s.t 1=vL M.aEJ.en p1/\s.t 5=vI v5)/\EZ sS p0 p1 m v5=some r
 have e1:=@EZ.eq_2
 unfold A3 eqS at h
 exact sgo 27 [.tmp 4] Tryz.func208⟩
instance:aZ 67 (∀p0 p1 r (h:wE p0 p1=some r),Sc 67 [aX (M.aD.en p0),aX (M.aD.en p1)] [rB r]):=⟨λp0 p1 r h=>by unfold wE at h;exact sgo 11 [.tmp 4] Tryz.func67⟩
instance:aZ 213 (∀p0 p1 r (h:sJ p0 p1=some r),Sc 213 [aX (M.aK.en p0),aX (M.aK.en p1)] [rB r]):=⟨λp0 p1 r h=>by unfold sJ at h;exact sgo 15 [.tmp 4] Tryz.func213⟩
instance:aZ 73 (∀p0 p1 r (h:A5 p0 p1=some r),Sc 73 [aL M.aK.en p0,aL M.aK.en p1] [rB r]):=⟨λp0 p1 r h=>by
 have i1:=inv λm s=>∃v5:Int,(s.t 0=vL M.aK.en p0/\s.t 1=vL M.aK.en p1/\s.t 5=vI v5)/\EZ sJ p0 p1 m v5=some r
 have e1:=@EZ.eq_2
 unfold A5 eqS at h
 exact sgo 27 [.tmp 4] Tryz.func73⟩
instance:aZ 362 (∀p0 p1 r (h:wL p0 p1=some r),Sc 362 [aX (M.Instr.en p0),aX (M.Instr.en p1)] [rB r]):=⟨λp0 p1 r h=>by unfold wL at h;exact sgo 25 [.tmp 4] Tryz.func362⟩
instance:aZ 214 (∀p0 p1 r (h:BQ p0 p1=some r),Sc 214 [aL M.Instr.en p0,aL M.Instr.en p1] [rB r]):=⟨λp0 p1 r h=>by
 have i1:=inv λm s=>∃v5:Int,(s.t 0=vL M.Instr.en p0/\s.t 1=vL M.Instr.en p1/\s.t 5=vI v5)/\EZ wL p0 p1 m v5=some r
 have e1:=@EZ.eq_2
 unfold BQ eqS at h
 exact sgo 27 [.tmp 4] Tryz.func214⟩
instance:aZ 215 (∀p0 p1 r (h:BV p0 p1=some r),Sc 215 [aL enI p0,aL enI p1] [rB r]):=⟨λp0 p1 r h=>by
 have i1:=inv λm s=>∃v5:Int,(s.t 0=vL enI p0/\s.t 1=vL enI p1/\s.t 5=vI v5)/\pE p0 p1 m v5=some r
 have e1:=@pE.eq_2
 unfold BV at h
 exact sgo 26 [.tmp 4] Tryz.func215⟩
instance:aZ 74 (∀p0 p1 r (h:vC p0 p1=some r),Sc 74 [aX (M.aEO.en p0),aX (M.aEO.en p1)] [rB r]):=⟨λp0 p1 r h=>by unfold vC at h;exact sgo 37 [.tmp 4] Tryz.func74⟩
instance c13:aZ 13 (∀p0 p1 r (h:uR p0 p1=some r),Sc 13 [aX (M.bS.en p0),aX (M.bS.en p1)] [rB r]):=⟨λp0 p1 r h=>by unfold uR at h;exact sgo 37 [.tmp 4] Tryz.func13⟩
instance:aZ 68 (∀p0 p1 r (h:Cw p0 p1=some r),Sc 68 [aL M.bS.en p0,aL M.bS.en p1] [rB r]):=⟨λp0 p1 r h=>by
 have i1:=inv λm s=>∃v5:Int,(s.t 0=vL M.bS.en p0/\s.t 1=vL M.bS.en p1/\s.t 5=vI v5)/\EZ uR p0 p1 m v5=some r
 have e1:=@EZ.eq_2
 unfold Cw eqS at h
 exact sgo 27 [.tmp 4] Tryz.func68⟩
instance:aZ 356 (∀p0 p1 r (h:zU p0 p1=some r),Sc 356 [aX (M.eV.en p0),aX (M.eV.en p1)] [rB r]):=⟨λp0 p1 r h=>by unfold zU at h;exact sgo 25 [.tmp 4] Tryz.func356⟩
instance:aZ 209 (∀p0 p1 r (h:Cp p0 p1=some r),Sc 209 [aL M.eV.en p0,aL M.eV.en p1] [rB r]):=⟨λp0 p1 r h=>by
 have i1:=inv λm s=>∃v5:Int,(s.t 0=vL M.eV.en p0/\s.t 1=vL M.eV.en p1/\s.t 5=vI v5)/\EZ zU p0 p1 m v5=some r
 have e1:=@EZ.eq_2
 unfold Cp eqS at h
 exact sgo 27 [.tmp 4] Tryz.func209⟩
instance:aZ 69 (∀p0 p1 r (h:rD p0 p1=some r),Sc 69 [aX (M.aR.en p0),aX (M.aR.en p1)] [rB r]):=⟨λp0 p1 r h=>by unfold rD at h;exact sgo 11 [.tmp 4] Tryz.func69⟩
instance:aZ 357 (∀p0 p1 r (h:zW p0 p1=some r),Sc 357 [aX (M.gT.en p0),aX (M.gT.en p1)] [rB r]):=⟨λp0 p1 r h=>by unfold zW at h;exact sgo 20 [.tmp 4] Tryz.func357⟩
instance:aZ 210 (∀p0 p1 r (h:Cz p0 p1=some r),Sc 210 [aL M.gT.en p0,aL M.gT.en p1] [rB r]):=⟨λp0 p1 r h=>by
 have i1:=inv λm s=>∃v5:Int,(s.t 0=vL M.gT.en p0/\s.t 1=vL M.gT.en p1/\s.t 5=vI v5)/\EZ zW p0 p1 m v5=some r
 have e1:=@EZ.eq_2
 unfold Cz eqS at h
 exact sgo 27 [.tmp 4] Tryz.func210⟩
instance:aZ 70 (∀p0 p1 r (h:vX p0 p1=some r),Sc 70 [aX (M.aEY.en p0),aX (M.aEY.en p1)] [rB r]):=⟨λp0 p1 r h=>by unfold vX at h;exact sgo 11 [.tmp 4] Tryz.func70⟩
instance:aZ 358 (∀p0 p1 r (h:wD p0 p1=some r),Sc 358 [aL enS p0,aL enS p1] [rB r]):=⟨λp0 p1 r h=>by
 have i1:=inv λm s=>∃v5:Int,(s.t 0=vL enS p0/\s.t 1=vL enS p1/\s.t 5=vI v5)/\lJ p0 p1 m v5=some r
 have e1:=@lJ.eq_2
 unfold wD at h
 exact sgo 26 [.tmp 4] Tryz.func358⟩
instance:aZ 211 (∀p0 p1 r (h:yX p0 p1=some r),Sc 211 [aX (M.aET.en p0),aX (M.aET.en p1)] [rB r]):=⟨λp0 p1 r h=>by unfold yX at h;exact sgo 26 [.tmp 4] Tryz.func211⟩
instance:aZ 71 (∀p0 p1 r (h:CH p0 p1=some r),Sc 71 [aL M.aET.en p0,aL M.aET.en p1] [rB r]):=⟨λp0 p1 r h=>by
 have i1:=inv λm s=>∃v5:Int,(s.t 0=vL M.aET.en p0/\s.t 1=vL M.aET.en p1/\s.t 5=vI v5)/\EZ yX p0 p1 m v5=some r
 have e1:=@EZ.eq_2
 unfold CH eqS at h
 exact sgo 27 [.tmp 4] Tryz.func71⟩
instance:aZ 463 (∀p0 p1 r (h:pC p0 p1=some r),Sc 463 [aX (M.aQ.en p0),aX (M.aQ.en p1)] [rB r]):=⟨λp0 p1 r h=>by unfold pC at h;exact sgo 15 [.tmp 4] Tryz.func463⟩
instance:aZ 360 (∀p0 p1 r (h:zF p0 p1=some r),Sc 360 [aL M.aQ.en p0,aL M.aQ.en p1] [rB r]):=⟨λp0 p1 r h=>by
 have i1:=inv λm s=>∃v5:Int,(s.t 0=vL M.aQ.en p0/\s.t 1=vL M.aQ.en p1/\s.t 5=vI v5)/\EZ pC p0 p1 m v5=some r
 have e1:=@EZ.eq_2
 unfold zF eqS at h
 exact sgo 27 [.tmp 4] Tryz.func360⟩
instance:aZ 212 (∀p0 p1 r (h:sW p0 p1=some r),Sc 212 [aX (M.aEX.en p0),aX (M.aEX.en p1)] [rB r]):=⟨λp0 p1 r h=>by unfold sW at h;exact sgo 23 [.tmp 4] Tryz.func212⟩
instance:aZ 72 (∀p0 p1 r (h:A0 p0 p1=some r),Sc 72 [aL M.aEX.en p0,aL M.aEX.en p1] [rB r]):=⟨λp0 p1 r h=>by
 have i1:=inv λm s=>∃v5:Int,(s.t 0=vL M.aEX.en p0/\s.t 1=vL M.aEX.en p1/\s.t 5=vI v5)/\EZ sW p0 p1 m v5=some r
 have e1:=@EZ.eq_2
 unfold A0 eqS at h
 exact sgo 27 [.tmp 4] Tryz.func72⟩
theorem c12(p0 p1 r)(h:nK p0 p1=some r):Sc 12 [aX (M.World.en p0),aX (M.World.en p1)] [rB r]:=by unfold nK at h;exact sgo 61 [.tmp 4] Tryz.func12
