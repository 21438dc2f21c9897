/-
  Helper text. No conditions.
-/
import Derived.Test.YtjlnkcoeghonfaaGreatRunPageTi
set_option linter.all false
namespace Go.Proofs.YtjlnkcoeghonfaaGreat.gen
open Go Go.Sh
set_option maxRecDepth 20000
set_option maxHeartbeats 4000000
instance:aW 325 (∀p0 p1 r (h:pB p0 p1=some r),Sc 325 [aX (M.aJk.en p0),aI p1] [rI r]):=⟨λp0 p1 r h=>by unfold pB at h;exact sgo 13 [.tmp 4] Tryz.func325⟩
instance:aW 448 (∀p0 p1 r (h:Au p0 p1=some r),Sc 448 [aL enB p0,aI p1] [rI r]):=⟨λp0 p1 r h=>by unfold Au at h;exact sgo 12 [.tmp 4] Tryz.func448⟩
instance:aW 618 (∀p0 p1 r (h:xY p0 p1=some r),Sc 618 [aX (M.aJo.en p0),aI p1] [rI r]):=⟨λp0 p1 r h=>by unfold xY at h;exact sgo 12 [.tmp 4] Tryz.func618⟩
instance:aW 606 (∀p0 p1 r (h:wX p0 p1=some r),Sc 606 [aX (M.aJx.en p0),aI p1] [rI r]):=⟨λp0 p1 r h=>by unfold wX at h;exact sgo 26 [.tmp 4] Tryz.func606⟩
instance:aW 578 (∀p0 p1 r (h:CW p0 p1=some r),Sc 578 [aL M.aJx.en p0,aI p1] [rI r]):=⟨λp0 p1 r h=>by
 have i1:=inv λm s=>∃v1:Int,∃v5:Int,(s.t 0=vL M.aJx.en p0/\s.t 1=vI v1/\s.t 5=vI v5)/\JI wX p0 m v1 v5=some r
 have e1:=@JI.eq_2
 unfold CW szS at h
 exact sgo 27 [.tmp 4] Tryz.func578⟩
instance:aW 532 (∀p0 p1 r (h:AK p0 p1=some r),Sc 532 [aX (M.aJ0.en p0),aI p1] [rI r]):=⟨λp0 p1 r h=>by unfold AK at h;exact sgo 12 [.tmp 4] Tryz.func532⟩
instance:aW 446 (∀p0 p1 r (h:Ec p0 p1=some r),Sc 446 [aL M.aJ0.en p0,aI p1] [rI r]):=⟨λp0 p1 r h=>by
 have i1:=inv λm s=>∃v1:Int,∃v5:Int,(s.t 0=vL M.aJ0.en p0/\s.t 1=vI v1/\s.t 5=vI v5)/\JI AK p0 m v1 v5=some r
 have e1:=@JI.eq_2
 unfold Ec szS at h
 exact sgo 27 [.tmp 4] Tryz.func446⟩
instance:aW 326 (∀p0 p1 r (h:yQ p0 p1=some r),Sc 326 [aX (M.aO.en p0),aI p1] [rI r]):=⟨λp0 p1 r h=>by unfold yQ at h;exact sgo 12 [.tmp 4] Tryz.func326⟩
instance:aW 452 (∀p0 p1 r (h:Dt p0 p1=some r),Sc 452 [aX (M.Key.en p0),aI p1] [rI r]):=⟨λp0 p1 r h=>by unfold Dt at h;exact sgo 13 [.tmp 4] Tryz.func452⟩
instance:aW 607 (∀p0 p1 r (h:AF p0 p1=some r),Sc 607 [aX (M.Field.en p0),aI p1] [rI r]):=⟨λp0 p1 r h=>by unfold AF at h;exact sgo 13 [.tmp 4] Tryz.func607⟩
instance:aW 580 (∀p0 p1 r (h:DE p0 p1=some r),Sc 580 [aL M.Field.en p0,aI p1] [rI r]):=⟨λp0 p1 r h=>by
 have i1:=inv λm s=>∃v1:Int,∃v5:Int,(s.t 0=vL M.Field.en p0/\s.t 1=vI v1/\s.t 5=vI v5)/\JI AF p0 m v1 v5=some r
 have e1:=@JI.eq_2
 unfold DE szS at h
 exact sgo 27 [.tmp 4] Tryz.func580⟩
instance:aW 536 (∀p0 p1 r (h:BE p0 p1=some r),Sc 536 [aX (M.aC.en p0),aI p1] [rI r]):=⟨λp0 p1 r h=>by unfold BE at h;exact sgo 12 [.tmp 4] Tryz.func536⟩
instance:aW 451 (∀p0 p1 r (h:B6 p0 p1=some r),Sc 451 [aX (M.aJt.en p0),aI p1] [rI r]):=⟨λp0 p1 r h=>by unfold B6 at h;exact sgo 18 [.tmp 4] Tryz.func451⟩
instance:aW 332 (∀p0 p1 r (h:ES p0 p1=some r),Sc 332 [aL M.aJt.en p0,aI p1] [rI r]):=⟨λp0 p1 r h=>by
 have i1:=inv λm s=>∃v1:Int,∃v5:Int,(s.t 0=vL M.aJt.en p0/\s.t 1=vI v1/\s.t 5=vI v5)/\JI B6 p0 m v1 v5=some r
 have e1:=@JI.eq_2
 unfold ES szS at h
 exact sgo 27 [.tmp 4] Tryz.func332⟩
instance:aW 220 (∀p0 p1 r (h:rP p0 p1=some r),Sc 220 [aX (M.aD.en p0),aI p1] [rI r]):=⟨λp0 p1 r h=>by unfold rP at h;exact sgo 19 [.tmp 4] Tryz.func220⟩
instance:aW 533 (∀p0 p1 r (h:DV p0 p1=some r),Sc 533 [aL M.aD.en p0,aI p1] [rI r]):=⟨λp0 p1 r h=>by
 have i1:=inv λm s=>∃v1:Int,∃v5:Int,(s.t 0=vL M.aD.en p0/\s.t 1=vI v1/\s.t 5=vI v5)/\JI rP p0 m v1 v5=some r
 have e1:=@JI.eq_2
 unfold DV szS at h
 exact sgo 27 [.tmp 4] Tryz.func533⟩
instance:aW 579 (∀p0 p1 r (h:rZ p0 p1=some r),Sc 579 [aX (M.aG.en p0),aI p1] [rI r]):=⟨λp0 p1 r h=>by unfold rZ at h;exact sgo 20 [.tmp 4] Tryz.func579⟩
instance:aW 534 (∀p0 p1 r (h:AX p0 p1=some r),Sc 534 [aL M.aG.en p0,aI p1] [rI r]):=⟨λp0 p1 r h=>by
 have i1:=inv λm s=>∃v1:Int,∃v5:Int,(s.t 0=vL M.aG.en p0/\s.t 1=vI v1/\s.t 5=vI v5)/\JI rZ p0 m v1 v5=some r
 have e1:=@JI.eq_2
 unfold AX szS at h
 exact sgo 27 [.tmp 4] Tryz.func534⟩
instance:aW 447 (∀p0 p1 r (h:yJ p0 p1=some r),Sc 447 [aX (M.aJj.en p0),aI p1] [rI r]):=⟨λp0 p1 r h=>by unfold yJ at h;exact sgo 25 [.tmp 4] Tryz.func447⟩
instance:aW 327 (∀p0 p1 r (h:DA p0 p1=some r),Sc 327 [aX (M.bL.en p0),aI p1] [rI r]):=⟨λp0 p1 r h=>by unfold DA at h;exact sgo 18 [.tmp 4] Tryz.func327⟩
instance:aW 333 (∀p0 p1 r (h:AJ p0 p1=some r),Sc 333 [aX (M.aY.en p0),aI p1] [rI r]):=⟨λp0 p1 r h=>by unfold AJ at h;exact sgo 19 [.tmp 4] Tryz.func333⟩
instance:aW 222 (∀p0 p1 r (h:Bv p0 p1=some r),Sc 222 [aL M.aY.en p0,aI p1] [rI r]):=⟨λp0 p1 r h=>by
 have i1:=inv λm s=>∃v1:Int,∃v5:Int,(s.t 0=vL M.aY.en p0/\s.t 1=vI v1/\s.t 5=vI v5)/\JI AJ p0 m v1 v5=some r
 have e1:=@JI.eq_2
 unfold Bv szS at h
 exact sgo 27 [.tmp 4] Tryz.func222⟩
instance:aW 535 (∀p0 p1 r (h:Bk p0 p1=some r),Sc 535 [aX (M.aM.en p0),aI p1] [rI r]):=⟨λp0 p1 r h=>by unfold Bk at h;exact sgo 12 [.tmp 4] Tryz.func535⟩
instance:aW 449 (∀p0 p1 r (h:Eh p0 p1=some r),Sc 449 [aX (M.aJ7.en p0),aI p1] [rI r]):=⟨λp0 p1 r h=>by unfold Eh at h;exact sgo 12 [.tmp 4] Tryz.func449⟩
instance:aW 328 (∀p0 p1 r (h:Ak p0 p1=some r),Sc 328 [aX (M.aE.en p0),aI p1] [rI r]):=⟨λp0 p1 r h=>by unfold Ak at h;exact sgo 18 [.tmp 4] Tryz.func328⟩
instance:aW 215 (∀p0 p1 r (h:yL p0 p1=some r),Sc 215 [aX (M.aJi.en p0),aI p1] [rI r]):=⟨λp0 p1 r h=>by unfold yL at h;exact sgo 44 [.tmp 4] Tryz.func215⟩
instance:aW 99 (∀p0 p1 r (h:CX p0 p1=some r),Sc 99 [aL M.aJi.en p0,aI p1] [rI r]):=⟨λp0 p1 r h=>by
 have i1:=inv λm s=>∃v1:Int,∃v5:Int,(s.t 0=vL M.aJi.en p0/\s.t 1=vI v1/\s.t 5=vI v5)/\JI yL p0 m v1 v5=some r
 have e1:=@JI.eq_2
 unfold CX szS at h
 exact sgo 27 [.tmp 4] Tryz.func99⟩
instance:aW 23 (∀p0 p1 r (h:zT p0 p1=some r),Sc 23 [aX (M.aA.en p0),aI p1] [rI r]):=⟨λp0 p1 r h=>by unfold zT at h;exact sgo 12 [.tmp 4] Tryz.func23⟩
instance:aW 329 (∀p0 p1 r (h:wY p0 p1=some r),Sc 329 [aX (M.aJ.en p0),aI p1] [rI r]):=⟨λp0 p1 r h=>by unfold wY at h;exact sgo 13 [.tmp 4] Tryz.func329⟩
instance:aW 216 (∀p0 p1 r (h:CY p0 p1=some r),Sc 216 [aL M.aJ.en p0,aI p1] [rI r]):=⟨λp0 p1 r h=>by
 have i1:=inv λm s=>∃v1:Int,∃v5:Int,(s.t 0=vL M.aJ.en p0/\s.t 1=vI v1/\s.t 5=vI v5)/\JI wY p0 m v1 v5=some r
 have e1:=@JI.eq_2
 unfold CY szS at h
 exact sgo 27 [.tmp 4] Tryz.func216⟩
instance:aW 450 (∀p0 p1 r (h:At p0 p1=some r),Sc 450 [aX (M.Instr.en p0),aI p1] [rI r]):=⟨λp0 p1 r h=>by unfold At at h;exact sgo 13 [.tmp 4] Tryz.func450⟩
instance:aW 330 (∀p0 p1 r (h:DZ p0 p1=some r),Sc 330 [aL M.Instr.en p0,aI p1] [rI r]):=⟨λp0 p1 r h=>by
 have i1:=inv λm s=>∃v1:Int,∃v5:Int,(s.t 0=vL M.Instr.en p0/\s.t 1=vI v1/\s.t 5=vI v5)/\JI At p0 m v1 v5=some r
 have e1:=@JI.eq_2
 unfold DZ szS at h
 exact sgo 27 [.tmp 4] Tryz.func330⟩
instance:aW 331 (∀p0 p1 r (h:D6 p0 p1=some r),Sc 331 [aL enI p0,aI p1] [rI r]):=⟨λp0 p1 r h=>by unfold D6 at h;exact sgo 12 [.tmp 4] Tryz.func331⟩
instance:aW 217 (∀p0 p1 r (h:An p0 p1=some r),Sc 217 [aX (M.aJn.en p0),aI p1] [rI r]):=⟨λp0 p1 r h=>by unfold An at h;exact sgo 18 [.tmp 4] Tryz.func217⟩
instance:aW 100 (∀p0 p1 r (h:B8 p0 p1=some r),Sc 100 [aX (M.bD.en p0),aI p1] [rI r]):=⟨λp0 p1 r h=>by unfold B8 at h;exact sgo 32 [.tmp 4] Tryz.func100⟩
instance:aW 24 (∀p0 p1 r (h:EH p0 p1=some r),Sc 24 [aL M.bD.en p0,aI p1] [rI r]):=⟨λp0 p1 r h=>by
 have i1:=inv λm s=>∃v1:Int,∃v5:Int,(s.t 0=vL M.bD.en p0/\s.t 1=vI v1/\s.t 5=vI v5)/\JI B8 p0 m v1 v5=some r
 have e1:=@JI.eq_2
 unfold EH szS at h
 exact sgo 27 [.tmp 4] Tryz.func24⟩
instance:aW 218 (∀p0 p1 r (h:Cj p0 p1=some r),Sc 218 [aX (M.eO.en p0),aI p1] [rI r]):=⟨λp0 p1 r h=>by unfold Cj at h;exact sgo 13 [.tmp 4] Tryz.func218⟩
instance:aW 101 (∀p0 p1 r (h:EG p0 p1=some r),Sc 101 [aL M.eO.en p0,aI p1] [rI r]):=⟨λp0 p1 r h=>by
 have i1:=inv λm s=>∃v1:Int,∃v5:Int,(s.t 0=vL M.eO.en p0/\s.t 1=vI v1/\s.t 5=vI v5)/\JI Cj p0 m v1 v5=some r
 have e1:=@JI.eq_2
 unfold EG szS at h
 exact sgo 27 [.tmp 4] Tryz.func101⟩
instance:aW 25 (∀p0 p1 r (h:vA p0 p1=some r),Sc 25 [aX (M.aP.en p0),aI p1] [rI r]):=⟨λp0 p1 r h=>by unfold vA at h;exact sgo 12 [.tmp 4] Tryz.func25⟩
instance:aW 102 (∀p0 p1 r (h:CF p0 p1=some r),Sc 102 [aL M.iU.en p0,aI p1] [rI r]):=⟨λp0 p1 r h=>by unfold CF at h;exact sgo 12 [.tmp 4] Tryz.func102⟩
instance:aW 26 (∀p0 p1 r (h:Aj p0 p1=some r),Sc 26 [aX (M.aJu.en p0),aI p1] [rI r]):=⟨λp0 p1 r h=>by unfold Aj at h;exact sgo 12 [.tmp 4] Tryz.func26⟩
instance:aW 219 (∀p0 p1 r (h:zM p0 p1=some r),Sc 219 [aL enS p0,aI p1] [rI r]):=⟨λp0 p1 r h=>by
 have i1:=inv λm s=>∃v1:Int,∃v5:Int,(s.t 0=vL enS p0/\s.t 1=vI v1/\s.t 5=vI v5)/\zI p0 m v1 v5=some r
 have e1:=@zI.eq_2
 unfold zM at h
 exact sgo 28 [.tmp 4] Tryz.func219⟩
instance:aW 103 (∀p0 p1 r (h:BM p0 p1=some r),Sc 103 [aX (M.aJr.en p0),aI p1] [rI r]):=⟨λp0 p1 r h=>by unfold BM at h;exact sgo 19 [.tmp 4] Tryz.func103⟩
instance:aW 27 (∀p0 p1 r (h:ET p0 p1=some r),Sc 27 [aL M.aJr.en p0,aI p1] [rI r]):=⟨λp0 p1 r h=>by
 have i1:=inv λm s=>∃v1:Int,∃v5:Int,(s.t 0=vL M.aJr.en p0/\s.t 1=vI v1/\s.t 5=vI v5)/\JI BM p0 m v1 v5=some r
 have e1:=@JI.eq_2
 unfold ET szS at h
 exact sgo 27 [.tmp 4] Tryz.func27⟩
instance:aW 221 (∀p0 p1 r (h:xV p0 p1=some r),Sc 221 [aL M.aK.en p0,aI p1] [rI r]):=⟨λp0 p1 r h=>by unfold xV at h;exact sgo 12 [.tmp 4] Tryz.func221⟩
instance:aW 104 (∀p0 p1 r (h:wU p0 p1=some r),Sc 104 [aX (M.aJv.en p0),aI p1] [rI r]):=⟨λp0 p1 r h=>by unfold wU at h;exact sgo 24 [.tmp 4] Tryz.func104⟩
instance:aW 28 (∀p0 p1 r (h:Dg p0 p1=some r),Sc 28 [aL M.aJv.en p0,aI p1] [rI r]):=⟨λp0 p1 r h=>by
 have i1:=inv λm s=>∃v1:Int,∃v5:Int,(s.t 0=vL M.aJv.en p0/\s.t 1=vI v1/\s.t 5=vI v5)/\JI wU p0 m v1 v5=some r
 have e1:=@JI.eq_2
 unfold Dg szS at h
 exact sgo 27 [.tmp 4] Tryz.func28⟩
theorem c6(p0 p1 r)(h:CD p0 p1=some r):Sc 6 [aX (M.World.en p0),aI p1] [rI r]:=by unfold CD at h;exact sgo 42 [.tmp 4] Tryz.func6
