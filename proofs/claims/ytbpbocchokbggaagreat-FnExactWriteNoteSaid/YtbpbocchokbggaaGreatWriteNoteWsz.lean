/-
  Helper text. No conditions.
-/
import Derived.Test.YtbpbocchokbggaaGreatWriteNoteTi
set_option linter.all false
namespace Go.Proofs.YtbpbocchokbggaaGreat.gen
open Go Go.Sh
set_option maxRecDepth 20000
set_option maxHeartbeats 4000000
instance:aZ 423 (∀p0 p1 r (h:mA p0 p1=some r),Sc 423 [aX (M.aEL.en p0),aI p1] [rI r]):=⟨λp0 p1 r h=>by unfold mA at h;exact sgo 13 [.tmp 4] Tryz.func423⟩
instance:aZ 506 (∀p0 p1 r (h:wN p0 p1=some r),Sc 506 [aL enB p0,aI p1] [rI r]):=⟨λp0 p1 r h=>by unfold wN at h;exact sgo 12 [.tmp 4] Tryz.func506⟩
instance:aZ 647 (∀p0 p1 r (h:tQ p0 p1=some r),Sc 647 [aX (M.aEQ.en p0),aI p1] [rI r]):=⟨λp0 p1 r h=>by unfold tQ at h;exact sgo 12 [.tmp 4] Tryz.func647⟩
instance:aZ 634 (∀p0 p1 r (h:sN p0 p1=some r),Sc 634 [aX (M.aEW.en p0),aI p1] [rI r]):=⟨λp0 p1 r h=>by unfold sN at h;exact sgo 26 [.tmp 4] Tryz.func634⟩
instance:aZ 612 (∀p0 p1 r (h:AL p0 p1=some r),Sc 612 [aL M.aEW.en p0,aI p1] [rI r]):=⟨λp0 p1 r h=>by
 have i1:=inv λm s=>∃v1:Int,∃v5:Int,(s.t 0=vL M.aEW.en p0/\s.t 1=vI v1/\s.t 5=vI v5)/\Gy sN p0 m v1 v5=some r
 have e1:=@Gy.eq_2
 unfold AL szS at h
 exact sgo 27 [.tmp 4] Tryz.func612⟩
instance:aZ 573 (∀p0 p1 r (h:wZ p0 p1=some r),Sc 573 [aX (M.aEZ.en p0),aI p1] [rI r]):=⟨λp0 p1 r h=>by unfold wZ at h;exact sgo 12 [.tmp 4] Tryz.func573⟩
instance:aZ 504 (∀p0 p1 r (h:B5 p0 p1=some r),Sc 504 [aL M.aEZ.en p0,aI p1] [rI r]):=⟨λp0 p1 r h=>by
 have i1:=inv λm s=>∃v1:Int,∃v5:Int,(s.t 0=vL M.aEZ.en p0/\s.t 1=vI v1/\s.t 5=vI v5)/\Gy wZ p0 m v1 v5=some r
 have e1:=@Gy.eq_2
 unfold B5 szS at h
 exact sgo 27 [.tmp 4] Tryz.func504⟩
instance:aZ 424 (∀p0 p1 r (h:uH p0 p1=some r),Sc 424 [aX (M.aP.en p0),aI p1] [rI r]):=⟨λp0 p1 r h=>by unfold uH at h;exact sgo 12 [.tmp 4] Tryz.func424⟩
instance:aZ 509 (∀p0 p1 r (h:Bl p0 p1=some r),Sc 509 [aX (M.Key.en p0),aI p1] [rI r]):=⟨λp0 p1 r h=>by unfold Bl at h;exact sgo 13 [.tmp 4] Tryz.func509⟩
instance:aZ 635 (∀p0 p1 r (h:wW p0 p1=some r),Sc 635 [aX (M.Field.en p0),aI p1] [rI r]):=⟨λp0 p1 r h=>by unfold wW at h;exact sgo 13 [.tmp 4] Tryz.func635⟩
instance:aZ 614 (∀p0 p1 r (h:Bv p0 p1=some r),Sc 614 [aL M.Field.en p0,aI p1] [rI r]):=⟨λp0 p1 r h=>by
 have i1:=inv λm s=>∃v1:Int,∃v5:Int,(s.t 0=vL M.Field.en p0/\s.t 1=vI v1/\s.t 5=vI v5)/\Gy wW p0 m v1 v5=some r
 have e1:=@Gy.eq_2
 unfold Bv szS at h
 exact sgo 27 [.tmp 4] Tryz.func614⟩
instance:aZ 577 (∀p0 p1 r (h:yR p0 p1=some r),Sc 577 [aX (M.aA.en p0),aI p1] [rI r]):=⟨λp0 p1 r h=>by unfold yR at h;exact sgo 12 [.tmp 4] Tryz.func577⟩
instance:aZ 508 (∀p0 p1 r (h:zQ p0 p1=some r),Sc 508 [aX (M.aES.en p0),aI p1] [rI r]):=⟨λp0 p1 r h=>by unfold zQ at h;exact sgo 18 [.tmp 4] Tryz.func508⟩
instance:aZ 427 (∀p0 p1 r (h:CD p0 p1=some r),Sc 427 [aL M.aES.en p0,aI p1] [rI r]):=⟨λp0 p1 r h=>by
 have i1:=inv λm s=>∃v1:Int,∃v5:Int,(s.t 0=vL M.aES.en p0/\s.t 1=vI v1/\s.t 5=vI v5)/\Gy zQ p0 m v1 v5=some r
 have e1:=@Gy.eq_2
 unfold CD szS at h
 exact sgo 27 [.tmp 4] Tryz.func427⟩
instance:aZ 301 (∀p0 p1 r (h:nG p0 p1=some r),Sc 301 [aX (M.aC.en p0),aI p1] [rI r]):=⟨λp0 p1 r h=>by unfold nG at h;exact sgo 19 [.tmp 4] Tryz.func301⟩
instance:aZ 574 (∀p0 p1 r (h:BP p0 p1=some r),Sc 574 [aL M.aC.en p0,aI p1] [rI r]):=⟨λp0 p1 r h=>by
 have i1:=inv λm s=>∃v1:Int,∃v5:Int,(s.t 0=vL M.aC.en p0/\s.t 1=vI v1/\s.t 5=vI v5)/\Gy nG p0 m v1 v5=some r
 have e1:=@Gy.eq_2
 unfold BP szS at h
 exact sgo 27 [.tmp 4] Tryz.func574⟩
instance:aZ 613 (∀p0 p1 r (h:nQ p0 p1=some r),Sc 613 [aX (M.aG.en p0),aI p1] [rI r]):=⟨λp0 p1 r h=>by unfold nQ at h;exact sgo 20 [.tmp 4] Tryz.func613⟩
instance:aZ 575 (∀p0 p1 r (h:xK p0 p1=some r),Sc 575 [aL M.aG.en p0,aI p1] [rI r]):=⟨λp0 p1 r h=>by
 have i1:=inv λm s=>∃v1:Int,∃v5:Int,(s.t 0=vL M.aG.en p0/\s.t 1=vI v1/\s.t 5=vI v5)/\Gy nQ p0 m v1 v5=some r
 have e1:=@Gy.eq_2
 unfold xK szS at h
 exact sgo 27 [.tmp 4] Tryz.func575⟩
instance:aZ 505 (∀p0 p1 r (h:uC p0 p1=some r),Sc 505 [aX (M.aEK.en p0),aI p1] [rI r]):=⟨λp0 p1 r h=>by unfold uC at h;exact sgo 25 [.tmp 4] Tryz.func505⟩
instance:aZ 425 (∀p0 p1 r (h:Br p0 p1=some r),Sc 425 [aX (M.bK.en p0),aI p1] [rI r]):=⟨λp0 p1 r h=>by unfold Br at h;exact sgo 18 [.tmp 4] Tryz.func425⟩
instance:aZ 428 (∀p0 p1 r (h:wY p0 p1=some r),Sc 428 [aX (M.bB.en p0),aI p1] [rI r]):=⟨λp0 p1 r h=>by unfold wY at h;exact sgo 19 [.tmp 4] Tryz.func428⟩
instance:aZ 303 (∀p0 p1 r (h:yL p0 p1=some r),Sc 303 [aL M.bB.en p0,aI p1] [rI r]):=⟨λp0 p1 r h=>by
 have i1:=inv λm s=>∃v1:Int,∃v5:Int,(s.t 0=vL M.bB.en p0/\s.t 1=vI v1/\s.t 5=vI v5)/\Gy wY p0 m v1 v5=some r
 have e1:=@Gy.eq_2
 unfold yL szS at h
 exact sgo 27 [.tmp 4] Tryz.func303⟩
instance:aZ 576 (∀p0 p1 r (h:yE p0 p1=some r),Sc 576 [aX (M.aU.en p0),aI p1] [rI r]):=⟨λp0 p1 r h=>by unfold yE at h;exact sgo 12 [.tmp 4] Tryz.func576⟩
instance:aZ 507 (∀p0 p1 r (h:B9 p0 p1=some r),Sc 507 [aX (M.aEf.en p0),aI p1] [rI r]):=⟨λp0 p1 r h=>by unfold B9 at h;exact sgo 12 [.tmp 4] Tryz.func507⟩
instance:aZ 426 (∀p0 p1 r (h:wG p0 p1=some r),Sc 426 [aX (M.aF.en p0),aI p1] [rI r]):=⟨λp0 p1 r h=>by unfold wG at h;exact sgo 18 [.tmp 4] Tryz.func426⟩
instance:aZ 298 (∀p0 p1 r (h:uE p0 p1=some r),Sc 298 [aX (M.aEJ.en p0),aI p1] [rI r]):=⟨λp0 p1 r h=>by unfold uE at h;exact sgo 44 [.tmp 4] Tryz.func298⟩
instance:aZ 151 (∀p0 p1 r (h:AM p0 p1=some r),Sc 151 [aL M.aEJ.en p0,aI p1] [rI r]):=⟨λp0 p1 r h=>by
 have i1:=inv λm s=>∃v1:Int,∃v5:Int,(s.t 0=vL M.aEJ.en p0/\s.t 1=vI v1/\s.t 5=vI v5)/\Gy uE p0 m v1 v5=some r
 have e1:=@Gy.eq_2
 unfold AM szS at h
 exact sgo 27 [.tmp 4] Tryz.func151⟩
instance:aZ 35 (∀p0 p1 r (h:vH p0 p1=some r),Sc 35 [aX (M.aD.en p0),aI p1] [rI r]):=⟨λp0 p1 r h=>by unfold vH at h;exact sgo 12 [.tmp 4] Tryz.func35⟩
instance:aZ 156 (∀p0 p1 r (h:sO p0 p1=some r),Sc 156 [aX (M.aK.en p0),aI p1] [rI r]):=⟨λp0 p1 r h=>by unfold sO at h;exact sgo 13 [.tmp 4] Tryz.func156⟩
instance:aZ 41 (∀p0 p1 r (h:AN p0 p1=some r),Sc 41 [aL M.aK.en p0,aI p1] [rI r]):=⟨λp0 p1 r h=>by
 have i1:=inv λm s=>∃v1:Int,∃v5:Int,(s.t 0=vL M.aK.en p0/\s.t 1=vI v1/\s.t 5=vI v5)/\Gy sO p0 m v1 v5=some r
 have e1:=@Gy.eq_2
 unfold AN szS at h
 exact sgo 27 [.tmp 4] Tryz.func41⟩
instance:aZ 304 (∀p0 p1 r (h:wM p0 p1=some r),Sc 304 [aX (M.Instr.en p0),aI p1] [rI r]):=⟨λp0 p1 r h=>by unfold wM at h;exact sgo 13 [.tmp 4] Tryz.func304⟩
instance:aZ 157 (∀p0 p1 r (h:BT p0 p1=some r),Sc 157 [aL M.Instr.en p0,aI p1] [rI r]):=⟨λp0 p1 r h=>by
 have i1:=inv λm s=>∃v1:Int,∃v5:Int,(s.t 0=vL M.Instr.en p0/\s.t 1=vI v1/\s.t 5=vI v5)/\Gy wM p0 m v1 v5=some r
 have e1:=@Gy.eq_2
 unfold BT szS at h
 exact sgo 27 [.tmp 4] Tryz.func157⟩
instance:aZ 158 (∀p0 p1 r (h:BZ p0 p1=some r),Sc 158 [aL enI p0,aI p1] [rI r]):=⟨λp0 p1 r h=>by unfold BZ at h;exact sgo 12 [.tmp 4] Tryz.func158⟩
instance:aZ 42 (∀p0 p1 r (h:wJ p0 p1=some r),Sc 42 [aX (M.aEO.en p0),aI p1] [rI r]):=⟨λp0 p1 r h=>by unfold wJ at h;exact sgo 18 [.tmp 4] Tryz.func42⟩
instance c7:aZ 7 (∀p0 p1 r (h:uV p0 p1=some r),Sc 7 [aX (M.bS.en p0),aI p1] [rI r]):=⟨λp0 p1 r h=>by unfold uV at h;exact sgo 32 [.tmp 4] Tryz.func7⟩
instance:aZ 36 (∀p0 p1 r (h:Ct p0 p1=some r),Sc 36 [aL M.bS.en p0,aI p1] [rI r]):=⟨λp0 p1 r h=>by
 have i1:=inv λm s=>∃v1:Int,∃v5:Int,(s.t 0=vL M.bS.en p0/\s.t 1=vI v1/\s.t 5=vI v5)/\Gy uV p0 m v1 v5=some r
 have e1:=@Gy.eq_2
 unfold Ct szS at h
 exact sgo 27 [.tmp 4] Tryz.func36⟩
instance:aZ 299 (∀p0 p1 r (h:zZ p0 p1=some r),Sc 299 [aX (M.eV.en p0),aI p1] [rI r]):=⟨λp0 p1 r h=>by unfold zZ at h;exact sgo 13 [.tmp 4] Tryz.func299⟩
instance:aZ 152 (∀p0 p1 r (h:Cs p0 p1=some r),Sc 152 [aL M.eV.en p0,aI p1] [rI r]):=⟨λp0 p1 r h=>by
 have i1:=inv λm s=>∃v1:Int,∃v5:Int,(s.t 0=vL M.eV.en p0/\s.t 1=vI v1/\s.t 5=vI v5)/\Gy zZ p0 m v1 v5=some r
 have e1:=@Gy.eq_2
 unfold Cs szS at h
 exact sgo 27 [.tmp 4] Tryz.func152⟩
instance:aZ 37 (∀p0 p1 r (h:rA p0 p1=some r),Sc 37 [aX (M.aR.en p0),aI p1] [rI r]):=⟨λp0 p1 r h=>by unfold rA at h;exact sgo 12 [.tmp 4] Tryz.func37⟩
instance:aZ 153 (∀p0 p1 r (h:As p0 p1=some r),Sc 153 [aL M.gT.en p0,aI p1] [rI r]):=⟨λp0 p1 r h=>by unfold As at h;exact sgo 12 [.tmp 4] Tryz.func153⟩
instance:aZ 38 (∀p0 p1 r (h:wF p0 p1=some r),Sc 38 [aX (M.aEY.en p0),aI p1] [rI r]):=⟨λp0 p1 r h=>by unfold wF at h;exact sgo 12 [.tmp 4] Tryz.func38⟩
instance:aZ 300 (∀p0 p1 r (h:vA p0 p1=some r),Sc 300 [aL enS p0,aI p1] [rI r]):=⟨λp0 p1 r h=>by
 have i1:=inv λm s=>∃v1:Int,∃v5:Int,(s.t 0=vL enS p0/\s.t 1=vI v1/\s.t 5=vI v5)/\uY p0 m v1 v5=some r
 have e1:=@uY.eq_2
 unfold vA at h
 exact sgo 28 [.tmp 4] Tryz.func300⟩
instance:aZ 154 (∀p0 p1 r (h:yZ p0 p1=some r),Sc 154 [aX (M.aET.en p0),aI p1] [rI r]):=⟨λp0 p1 r h=>by unfold yZ at h;exact sgo 19 [.tmp 4] Tryz.func154⟩
instance:aZ 39 (∀p0 p1 r (h:CF p0 p1=some r),Sc 39 [aL M.aET.en p0,aI p1] [rI r]):=⟨λp0 p1 r h=>by
 have i1:=inv λm s=>∃v1:Int,∃v5:Int,(s.t 0=vL M.aET.en p0/\s.t 1=vI v1/\s.t 5=vI v5)/\Gy yZ p0 m v1 v5=some r
 have e1:=@Gy.eq_2
 unfold CF szS at h
 exact sgo 27 [.tmp 4] Tryz.func39⟩
instance:aZ 302 (∀p0 p1 r (h:tO p0 p1=some r),Sc 302 [aL M.aQ.en p0,aI p1] [rI r]):=⟨λp0 p1 r h=>by unfold tO at h;exact sgo 12 [.tmp 4] Tryz.func302⟩
instance:aZ 155 (∀p0 p1 r (h:sL p0 p1=some r),Sc 155 [aX (M.aEX.en p0),aI p1] [rI r]):=⟨λp0 p1 r h=>by unfold sL at h;exact sgo 24 [.tmp 4] Tryz.func155⟩
instance:aZ 40 (∀p0 p1 r (h:A7 p0 p1=some r),Sc 40 [aL M.aEX.en p0,aI p1] [rI r]):=⟨λp0 p1 r h=>by
 have i1:=inv λm s=>∃v1:Int,∃v5:Int,(s.t 0=vL M.aEX.en p0/\s.t 1=vI v1/\s.t 5=vI v5)/\Gy sL p0 m v1 v5=some r
 have e1:=@Gy.eq_2
 unfold A7 szS at h
 exact sgo 27 [.tmp 4] Tryz.func40⟩
theorem c6(p0 p1 r)(h:Aq p0 p1=some r):Sc 6 [aX (M.World.en p0),aI p1] [rI r]:=by unfold Aq at h;exact sgo 42 [.tmp 4] Tryz.func6
