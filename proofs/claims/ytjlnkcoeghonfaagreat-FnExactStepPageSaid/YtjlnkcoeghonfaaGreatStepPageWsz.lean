/-
  Helper text. No conditions.
-/
import Derived.Test.YtjlnkcoeghonfaaGreatStepPageTi
set_option linter.all false
namespace Go.Proofs.YtjlnkcoeghonfaaGreat.gen
open Go Go.Sh
set_option maxRecDepth 20000
set_option maxHeartbeats 4000000
instance:aZ 325 (∀p0 p1 r (h:oU p0 p1=some r),Sc 325 [aX (M.aJc.en p0),aI p1] [rI r]):=⟨λp0 p1 r h=>by unfold oU at h;exact sgo 13 [.tmp 4] Tryz.func325⟩
instance:aZ 448 (∀p0 p1 r (h:As p0 p1=some r),Sc 448 [aL enB p0,aI p1] [rI r]):=⟨λp0 p1 r h=>by unfold As at h;exact sgo 12 [.tmp 4] Tryz.func448⟩
instance:aZ 618 (∀p0 p1 r (h:xW p0 p1=some r),Sc 618 [aX (M.aJg.en p0),aI p1] [rI r]):=⟨λp0 p1 r h=>by unfold xW at h;exact sgo 12 [.tmp 4] Tryz.func618⟩
instance:aZ 606 (∀p0 p1 r (h:wU p0 p1=some r),Sc 606 [aX (M.aJo.en p0),aI p1] [rI r]):=⟨λp0 p1 r h=>by unfold wU at h;exact sgo 26 [.tmp 4] Tryz.func606⟩
instance:aZ 578 (∀p0 p1 r (h:CQ p0 p1=some r),Sc 578 [aL M.aJo.en p0,aI p1] [rI r]):=⟨λp0 p1 r h=>by
 have i1:=inv λm s=>∃v1:Int,∃v5:Int,(s.t 0=vL M.aJo.en p0/\s.t 1=vI v1/\s.t 5=vI v5)/\JC wU p0 m v1 v5=some r
 have e1:=@JC.eq_2
 unfold CQ szS at h
 exact sgo 27 [.tmp 4] Tryz.func578⟩
instance:aZ 532 (∀p0 p1 r (h:AH p0 p1=some r),Sc 532 [aX (M.aJs.en p0),aI p1] [rI r]):=⟨λp0 p1 r h=>by unfold AH at h;exact sgo 12 [.tmp 4] Tryz.func532⟩
instance:aZ 446 (∀p0 p1 r (h:D5 p0 p1=some r),Sc 446 [aL M.aJs.en p0,aI p1] [rI r]):=⟨λp0 p1 r h=>by
 have i1:=inv λm s=>∃v1:Int,∃v5:Int,(s.t 0=vL M.aJs.en p0/\s.t 1=vI v1/\s.t 5=vI v5)/\JC AH p0 m v1 v5=some r
 have e1:=@JC.eq_2
 unfold D5 szS at h
 exact sgo 27 [.tmp 4] Tryz.func446⟩
instance:aZ 326 (∀p0 p1 r (h:yO p0 p1=some r),Sc 326 [aX (M.aO.en p0),aI p1] [rI r]):=⟨λp0 p1 r h=>by unfold yO at h;exact sgo 12 [.tmp 4] Tryz.func326⟩
instance:aZ 452 (∀p0 p1 r (h:Dm p0 p1=some r),Sc 452 [aX (M.Key.en p0),aI p1] [rI r]):=⟨λp0 p1 r h=>by unfold Dm at h;exact sgo 13 [.tmp 4] Tryz.func452⟩
instance:aZ 607 (∀p0 p1 r (h:AD p0 p1=some r),Sc 607 [aX (M.Field.en p0),aI p1] [rI r]):=⟨λp0 p1 r h=>by unfold AD at h;exact sgo 13 [.tmp 4] Tryz.func607⟩
instance:aZ 580 (∀p0 p1 r (h:Dy p0 p1=some r),Sc 580 [aL M.Field.en p0,aI p1] [rI r]):=⟨λp0 p1 r h=>by
 have i1:=inv λm s=>∃v1:Int,∃v5:Int,(s.t 0=vL M.Field.en p0/\s.t 1=vI v1/\s.t 5=vI v5)/\JC AD p0 m v1 v5=some r
 have e1:=@JC.eq_2
 unfold Dy szS at h
 exact sgo 27 [.tmp 4] Tryz.func580⟩
instance:aZ 536 (∀p0 p1 r (h:BA p0 p1=some r),Sc 536 [aX (M.aA.en p0),aI p1] [rI r]):=⟨λp0 p1 r h=>by unfold BA at h;exact sgo 12 [.tmp 4] Tryz.func536⟩
instance:aZ 451 (∀p0 p1 r (h:B2 p0 p1=some r),Sc 451 [aX (M.aJl.en p0),aI p1] [rI r]):=⟨λp0 p1 r h=>by unfold B2 at h;exact sgo 18 [.tmp 4] Tryz.func451⟩
instance:aZ 332 (∀p0 p1 r (h:EK p0 p1=some r),Sc 332 [aL M.aJl.en p0,aI p1] [rI r]):=⟨λp0 p1 r h=>by
 have i1:=inv λm s=>∃v1:Int,∃v5:Int,(s.t 0=vL M.aJl.en p0/\s.t 1=vI v1/\s.t 5=vI v5)/\JC B2 p0 m v1 v5=some r
 have e1:=@JC.eq_2
 unfold EK szS at h
 exact sgo 27 [.tmp 4] Tryz.func332⟩
instance:aZ 220 (∀p0 p1 r (h:rL p0 p1=some r),Sc 220 [aX (M.aD.en p0),aI p1] [rI r]):=⟨λp0 p1 r h=>by unfold rL at h;exact sgo 19 [.tmp 4] Tryz.func220⟩
instance:aZ 533 (∀p0 p1 r (h:DP p0 p1=some r),Sc 533 [aL M.aD.en p0,aI p1] [rI r]):=⟨λp0 p1 r h=>by
 have i1:=inv λm s=>∃v1:Int,∃v5:Int,(s.t 0=vL M.aD.en p0/\s.t 1=vI v1/\s.t 5=vI v5)/\JC rL p0 m v1 v5=some r
 have e1:=@JC.eq_2
 unfold DP szS at h
 exact sgo 27 [.tmp 4] Tryz.func533⟩
instance:aZ 579 (∀p0 p1 r (h:rV p0 p1=some r),Sc 579 [aX (M.aG.en p0),aI p1] [rI r]):=⟨λp0 p1 r h=>by unfold rV at h;exact sgo 20 [.tmp 4] Tryz.func579⟩
instance:aZ 534 (∀p0 p1 r (h:AU p0 p1=some r),Sc 534 [aL M.aG.en p0,aI p1] [rI r]):=⟨λp0 p1 r h=>by
 have i1:=inv λm s=>∃v1:Int,∃v5:Int,(s.t 0=vL M.aG.en p0/\s.t 1=vI v1/\s.t 5=vI v5)/\JC rV p0 m v1 v5=some r
 have e1:=@JC.eq_2
 unfold AU szS at h
 exact sgo 27 [.tmp 4] Tryz.func534⟩
instance:aZ 447 (∀p0 p1 r (h:yH p0 p1=some r),Sc 447 [aX (M.aJb.en p0),aI p1] [rI r]):=⟨λp0 p1 r h=>by unfold yH at h;exact sgo 25 [.tmp 4] Tryz.func447⟩
instance:aZ 327 (∀p0 p1 r (h:Du p0 p1=some r),Sc 327 [aX (M.bL.en p0),aI p1] [rI r]):=⟨λp0 p1 r h=>by unfold Du at h;exact sgo 18 [.tmp 4] Tryz.func327⟩
instance:aZ 333 (∀p0 p1 r (h:AG p0 p1=some r),Sc 333 [aX (M.aW.en p0),aI p1] [rI r]):=⟨λp0 p1 r h=>by unfold AG at h;exact sgo 19 [.tmp 4] Tryz.func333⟩
instance:aZ 222 (∀p0 p1 r (h:Br p0 p1=some r),Sc 222 [aL M.aW.en p0,aI p1] [rI r]):=⟨λp0 p1 r h=>by
 have i1:=inv λm s=>∃v1:Int,∃v5:Int,(s.t 0=vL M.aW.en p0/\s.t 1=vI v1/\s.t 5=vI v5)/\JC AG p0 m v1 v5=some r
 have e1:=@JC.eq_2
 unfold Br szS at h
 exact sgo 27 [.tmp 4] Tryz.func222⟩
instance:aZ 535 (∀p0 p1 r (h:Bg p0 p1=some r),Sc 535 [aX (M.aM.en p0),aI p1] [rI r]):=⟨λp0 p1 r h=>by unfold Bg at h;exact sgo 12 [.tmp 4] Tryz.func535⟩
instance:aZ 449 (∀p0 p1 r (h:D9 p0 p1=some r),Sc 449 [aX (M.aJx.en p0),aI p1] [rI r]):=⟨λp0 p1 r h=>by unfold D9 at h;exact sgo 12 [.tmp 4] Tryz.func449⟩
instance:aZ 328 (∀p0 p1 r (h:Ai p0 p1=some r),Sc 328 [aX (M.aE.en p0),aI p1] [rI r]):=⟨λp0 p1 r h=>by unfold Ai at h;exact sgo 18 [.tmp 4] Tryz.func328⟩
instance:aZ 215 (∀p0 p1 r (h:yJ p0 p1=some r),Sc 215 [aX (M.aJa.en p0),aI p1] [rI r]):=⟨λp0 p1 r h=>by unfold yJ at h;exact sgo 44 [.tmp 4] Tryz.func215⟩
instance:aZ 99 (∀p0 p1 r (h:CR p0 p1=some r),Sc 99 [aL M.aJa.en p0,aI p1] [rI r]):=⟨λp0 p1 r h=>by
 have i1:=inv λm s=>∃v1:Int,∃v5:Int,(s.t 0=vL M.aJa.en p0/\s.t 1=vI v1/\s.t 5=vI v5)/\JC yJ p0 m v1 v5=some r
 have e1:=@JC.eq_2
 unfold CR szS at h
 exact sgo 27 [.tmp 4] Tryz.func99⟩
instance:aZ 23 (∀p0 p1 r (h:zR p0 p1=some r),Sc 23 [aX (M.aC.en p0),aI p1] [rI r]):=⟨λp0 p1 r h=>by unfold zR at h;exact sgo 12 [.tmp 4] Tryz.func23⟩
instance:aZ 329 (∀p0 p1 r (h:wV p0 p1=some r),Sc 329 [aX (M.aJ.en p0),aI p1] [rI r]):=⟨λp0 p1 r h=>by unfold wV at h;exact sgo 13 [.tmp 4] Tryz.func329⟩
instance:aZ 216 (∀p0 p1 r (h:CS p0 p1=some r),Sc 216 [aL M.aJ.en p0,aI p1] [rI r]):=⟨λp0 p1 r h=>by
 have i1:=inv λm s=>∃v1:Int,∃v5:Int,(s.t 0=vL M.aJ.en p0/\s.t 1=vI v1/\s.t 5=vI v5)/\JC wV p0 m v1 v5=some r
 have e1:=@JC.eq_2
 unfold CS szS at h
 exact sgo 27 [.tmp 4] Tryz.func216⟩
instance:aZ 450 (∀p0 p1 r (h:Ar p0 p1=some r),Sc 450 [aX (M.Instr.en p0),aI p1] [rI r]):=⟨λp0 p1 r h=>by unfold Ar at h;exact sgo 13 [.tmp 4] Tryz.func450⟩
instance:aZ 330 (∀p0 p1 r (h:DT p0 p1=some r),Sc 330 [aL M.Instr.en p0,aI p1] [rI r]):=⟨λp0 p1 r h=>by
 have i1:=inv λm s=>∃v1:Int,∃v5:Int,(s.t 0=vL M.Instr.en p0/\s.t 1=vI v1/\s.t 5=vI v5)/\JC Ar p0 m v1 v5=some r
 have e1:=@JC.eq_2
 unfold DT szS at h
 exact sgo 27 [.tmp 4] Tryz.func330⟩
instance:aZ 331 (∀p0 p1 r (h:DZ p0 p1=some r),Sc 331 [aL enI p0,aI p1] [rI r]):=⟨λp0 p1 r h=>by unfold DZ at h;exact sgo 12 [.tmp 4] Tryz.func331⟩
instance:aZ 217 (∀p0 p1 r (h:Al p0 p1=some r),Sc 217 [aX (M.aJf.en p0),aI p1] [rI r]):=⟨λp0 p1 r h=>by unfold Al at h;exact sgo 18 [.tmp 4] Tryz.func217⟩
instance:aZ 100 (∀p0 p1 r (h:B4 p0 p1=some r),Sc 100 [aX (M.bD.en p0),aI p1] [rI r]):=⟨λp0 p1 r h=>by unfold B4 at h;exact sgo 32 [.tmp 4] Tryz.func100⟩
instance:aZ 24 (∀p0 p1 r (h:EA p0 p1=some r),Sc 24 [aL M.bD.en p0,aI p1] [rI r]):=⟨λp0 p1 r h=>by
 have i1:=inv λm s=>∃v1:Int,∃v5:Int,(s.t 0=vL M.bD.en p0/\s.t 1=vI v1/\s.t 5=vI v5)/\JC B4 p0 m v1 v5=some r
 have e1:=@JC.eq_2
 unfold EA szS at h
 exact sgo 27 [.tmp 4] Tryz.func24⟩
instance:aZ 218 (∀p0 p1 r (h:Cf p0 p1=some r),Sc 218 [aX (M.fE.en p0),aI p1] [rI r]):=⟨λp0 p1 r h=>by unfold Cf at h;exact sgo 13 [.tmp 4] Tryz.func218⟩
instance:aZ 101 (∀p0 p1 r (h:Ez p0 p1=some r),Sc 101 [aL M.fE.en p0,aI p1] [rI r]):=⟨λp0 p1 r h=>by
 have i1:=inv λm s=>∃v1:Int,∃v5:Int,(s.t 0=vL M.fE.en p0/\s.t 1=vI v1/\s.t 5=vI v5)/\JC Cf p0 m v1 v5=some r
 have e1:=@JC.eq_2
 unfold Ez szS at h
 exact sgo 27 [.tmp 4] Tryz.func101⟩
instance:aZ 25 (∀p0 p1 r (h:uY p0 p1=some r),Sc 25 [aX (M.aQ.en p0),aI p1] [rI r]):=⟨λp0 p1 r h=>by unfold uY at h;exact sgo 12 [.tmp 4] Tryz.func25⟩
instance:aZ 102 (∀p0 p1 r (h:CA p0 p1=some r),Sc 102 [aL M.kK.en p0,aI p1] [rI r]):=⟨λp0 p1 r h=>by unfold CA at h;exact sgo 12 [.tmp 4] Tryz.func102⟩
instance:aZ 26 (∀p0 p1 r (h:Ah p0 p1=some r),Sc 26 [aX (M.aJp.en p0),aI p1] [rI r]):=⟨λp0 p1 r h=>by unfold Ah at h;exact sgo 12 [.tmp 4] Tryz.func26⟩
instance:aZ 219 (∀p0 p1 r (h:zK p0 p1=some r),Sc 219 [aL enS p0,aI p1] [rI r]):=⟨λp0 p1 r h=>by
 have i1:=inv λm s=>∃v1:Int,∃v5:Int,(s.t 0=vL enS p0/\s.t 1=vI v1/\s.t 5=vI v5)/\zG p0 m v1 v5=some r
 have e1:=@zG.eq_2
 unfold zK at h
 exact sgo 28 [.tmp 4] Tryz.func219⟩
instance:aZ 103 (∀p0 p1 r (h:BI p0 p1=some r),Sc 103 [aX (M.aJj.en p0),aI p1] [rI r]):=⟨λp0 p1 r h=>by unfold BI at h;exact sgo 19 [.tmp 4] Tryz.func103⟩
instance:aZ 27 (∀p0 p1 r (h:EL p0 p1=some r),Sc 27 [aL M.aJj.en p0,aI p1] [rI r]):=⟨λp0 p1 r h=>by
 have i1:=inv λm s=>∃v1:Int,∃v5:Int,(s.t 0=vL M.aJj.en p0/\s.t 1=vI v1/\s.t 5=vI v5)/\JC BI p0 m v1 v5=some r
 have e1:=@JC.eq_2
 unfold EL szS at h
 exact sgo 27 [.tmp 4] Tryz.func27⟩
instance:aZ 221 (∀p0 p1 r (h:xT p0 p1=some r),Sc 221 [aL M.aK.en p0,aI p1] [rI r]):=⟨λp0 p1 r h=>by unfold xT at h;exact sgo 12 [.tmp 4] Tryz.func221⟩
instance:aZ 104 (∀p0 p1 r (h:wR p0 p1=some r),Sc 104 [aX (M.aJn.en p0),aI p1] [rI r]):=⟨λp0 p1 r h=>by unfold wR at h;exact sgo 24 [.tmp 4] Tryz.func104⟩
instance:aZ 28 (∀p0 p1 r (h:C9 p0 p1=some r),Sc 28 [aL M.aJn.en p0,aI p1] [rI r]):=⟨λp0 p1 r h=>by
 have i1:=inv λm s=>∃v1:Int,∃v5:Int,(s.t 0=vL M.aJn.en p0/\s.t 1=vI v1/\s.t 5=vI v5)/\JC wR p0 m v1 v5=some r
 have e1:=@JC.eq_2
 unfold C9 szS at h
 exact sgo 27 [.tmp 4] Tryz.func28⟩
theorem c6(p0 p1 r)(h:Cy p0 p1=some r):Sc 6 [aX (M.World.en p0),aI p1] [rI r]:=by unfold Cy at h;exact sgo 42 [.tmp 4] Tryz.func6
