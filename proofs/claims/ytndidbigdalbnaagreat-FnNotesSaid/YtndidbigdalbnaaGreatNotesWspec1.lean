/-
  Helper text. No conditions.
-/
import Derived.Test.YtndidbigdalbnaaGreatNotesTi
set_option linter.all false
namespace Go.Proofs.YtndidbigdalbnaaGreat.gen
open Go Go.Sh Tryz
set_option maxRecDepth 20000
set_option maxHeartbeats 4000000
instance aEz:bU 265 (∀p0 r (h:vY p0=some r),Sc 265 [aX (M.aKo.en p0)] [(true,M.aKo.rs r)]):=⟨λp0 r h=>by unfold vY at h;exact sgo 11 [.cell 2 244] func265⟩
instance:bU 208 (∀p0 r (h:Cl p0=some r),Sc 208 [aX (M.aKv.en p0)] [(true,M.aKv.rs r)]):=⟨λp0 r h=>by
 have i1:=He [.b 3 1 7050000 264 7] λm s=>∃v4:Int,∃aa:List M.aK2,∃ae:Nat,(s.t 1=vP 1 1 0/\s.t 2=vP 2 1 0/\s.t 3=vP 3 1 0/\s.t 4=vI v4/\s.h 1=(1,oX 262 (M.aKv.en p0))/\s.h 2=(1,oB 262 [cI 0,.nil])/\s.h 3=(1,oB 262 [cI p0.aKb,.row 7050000 ae])/\s.h 7050000=(ae,oW 264 7 M.aK2.en aa))/\oY p0 m v4 aa=some r
 have e1:=@oY.eq_2
 unfold Cl at h
 exact sgo 36 [.cell 2 262] func208⟩
instance:bU 200 (∀p0 r (h:zG p0=some r),Sc 200 [aL M.aY.en p0] [rW 229 4 M.aY.en r]):=⟨λp0 r h=>by unfold zG at h;exact sgo 6 [.tmp 2] func200⟩
instance:bU 143 (∀p0 r (h:Au p0=some r),Sc 143 [aX (M.aKh.en p0)] [(true,M.aKh.rs r)]):=⟨λp0 r h=>by unfold Au at h;exact sgo 15 [.cell 2 42] func143⟩
instance:bU 78 (∀p0 r (h:Ax p0=some r),Sc 78 [aX (M.aW.en p0)] [(true,M.aW.rs r)]):=⟨λp0 r h=>by unfold Ax at h;exact sgo 8 [.cell 2 30] func78⟩
instance:bU 79 (∀p0 r (h:BZ p0=some r),Sc 79 [aX (M.aKp.en p0)] [(true,M.aKp.rs r)]):=⟨λp0 r h=>by unfold BZ at h;exact sgo 8 [.cell 2 33] func79⟩
instance:bU 349 (∀p0 p1 p2 r (h:DE p0 p1 p2=some r),Sc 349 [aL M.vE.en p0,aI p1,aX (M.vE.en p2)] [rB r]):=⟨λp0 p1 p2 r h=>by
 have i1:=inv λm s=>∃v7:Int,(s.t 0=vL M.vE.en p0/\s.t 1=vI p1/\s.t 5=vP 5 1 0/\s.t 7=vI v7/\s.h 5=(1,oX 113 (M.vE.en p2)))/\rA p0 p1 p2 m v7=some r
 have e1:=@rA.eq_2
 unfold DE at h
 exact sgo 42 [.tmp 6] func349⟩
instance:bU 330 (∀p0 r (h:xO p0=some r),Sc 330 [aX (M.aW.en p0)] [(true,M.aW.rs r)]):=⟨λp0 r h=>by
 have i1:=inv λm s=>∃v4:Int,∃r6:List M.vE,(s.t 2=vP 2 1 0/\s.t 3=vP 3 1 0/\s.t 4=vI v4/\s.h 2=(1,oB 30 [.nil])/\s.h 3=(1,oB 30 [.row 100006 1])/\s.h 100006=(1,oW 113 4 M.vE.en r6))/\fV m v4 r6=some r
 have e1:=@fV.eq_2
 unfold xO at h
 exact sgo 38 [.cell 2 30] func330⟩
theorem aJ9(p0 p1 r)(h:Dj p0 p1=some r):Sc 280 [aX (M.aKp.en p0),aI p1] [(true,M.aKp.rs r)]:=by
 have i1:=He [.b 5 0 7050000 116 3] λm s=>∃I:Int,∃j:List M.Eb,∃C:Nat,(s.t 1=vI p1/\s.t 2=vP 2 1 0/\s.t 4=vP 4 1 0/\s.t 5=vP 5 1 0/\s.t 6=vI I/\s.h 2=(1,oX 33 (M.aKp.en p0))/\s.h 4=(1,oB 33 [.nil])/\s.h 5=(1,oB 33 [.row 7050000 C])/\s.h 7050000=(C,oW 116 3 M.Eb.en j))/\kK p0 p1 m I j=some r
 have e1:=@kK.eq_2
 unfold Dj at h
 exact sgo 34 [.cell 4 33] func280
instance:bU 283 (∀p0 r (h:Bo p0=some r),Sc 283 [aX (M.aE.en p0)] [rI r]):=⟨λp0 r h=>by unfold Bo at h;exact sgo 9 [.tmp 2] func283⟩
instance:bU 292 (∀r (h:dD=some r),Sc 292 [] [(true,M.aKo.rs r)]):=⟨λr h=>by unfold dD at h;exact sgo 2 [.cell 0 244] func292⟩
instance aF4:bU 350 (∀p0 p1 r (h:zT p0 p1=some r),Sc 350 [aX (M.aN.en p0),aI p1] [rI r]):=⟨λp0 p1 r h=>by
 have i1:=inv λm s=>∃v5:Int,(s.t 1=vI p1/\s.t 2=vP 2 1 0/\s.t 5=vI v5/\s.h 2=(1,oX 63 (M.aN.en p0)))/\nE p0 p1 m v5=some r
 have e1:=@nE.eq_2
 unfold zT at h
 exact sgo 22 [.tmp 4] func350⟩
instance aE9:bU 351 (∀p0 p1 p2 r (h:BQ p0 p1 p2=some r),Sc 351 [aX (M.aKv.en p0),aS p1,aS p2] [rI r]):=⟨λp0 p1 p2 r h=>by
 have i1:=inv λm s=>∃v7:Int,(s.t 1=vS p1/\s.t 2=vS p2/\s.t 3=vP 3 1 0/\s.t 7=vI v7/\s.h 3=(1,oX 262 (M.aKv.en p0)))/\oJ p0 p1 p2 m v7=some r
 have e1:=@oJ.eq_2
 unfold BQ at h
 exact sgo 34 [.tmp 6] func351⟩
instance:bU 333 (∀p0 p1 p2 p3 r (h:AP p0 p1 p2 p3=some r),Sc 333 [aX (M.aN.en p0),aI p1,aS p2,aS p3] [(true,M.aKo.rs r.1),rB r.2]):=⟨λp0 p1 p2 p3 r h=>by unfold AP at h;exact sgo 40 [.cell 8 244,.tmp 9] func333⟩
instance:bU 229 (∀p0 p1 r (h:zO p0 p1=some r),Sc 229 [aI p0,aI p1] [rI r]):=⟨λp0 p1 r h=>by unfold zO at h;exact sgo 10 [.tmp 4] func229⟩
instance:bU 353 (∀p0 p1 r (h:CW p0 p1=some r),Sc 353 [aX (M.aKl.en p0),aS p1] [rB r]):=⟨λp0 p1 r h=>by
 have i1:=inv λm s=>∃v5:Int,(s.t 1=vS p1/\s.t 2=vP 2 1 0/\s.t 5=vI v5/\s.h 2=(1,oX 120 (M.aKl.en p0)))/\rZ p0 p1 m v5=some r
 have e1:=@rZ.eq_2
 unfold CW at h
 exact sgo 20 [.tmp 4] func353⟩
instance:bU 169 (∀p0 r (h:uL p0=some r),Sc 169 [aL enB p0] [rW 3 1 enI r]):=⟨λp0 r h=>by
 have i1:=inv λm s=>∃v4:Int,∃r7:List Int,∃u7:Nat,(s.t 0=vL enB p0/\s.t 3=vR 100007 u7/\s.t 4=vI v4/\s.h 100007=(u7,oW 3 1 enI r7))/\kF p0 m v4 r7=some r
 have e1:=@kF.eq_2
 unfold uL at h
 exact sgo 23 [.tmp 2] func169⟩
instance c13:bU 13 (∀p0 p1 r (h:dS p0 p1=some r),Sc 13 [aI p0,aI p1] [rI r]):=⟨λp0 p1 r h=>by unfold dS at h;exact sgo 10 [.tmp 4] func13⟩
instance:bU 290 (∀p0 r (h:uW p0=some r),Sc 290 [aI p0] [rI r]):=⟨λp0 r h=>by unfold uW at h;exact sgo 6 [.tmp 2] func290⟩
theorem aJj(p0 p1 r)(h:ET p0 p1=some r):Sc 375 [aX (M.aKc.en p0),aX (M.tC.en p1)] [rI r]:=by
 have i1:=inv λm s=>∃j:Int,(s.t 2=vP 2 1 0/\s.t 3=vP 3 1 0/\s.t 5=vI j/\s.h 2=(1,oX 56 (M.aKc.en p0))/\s.h 3=(1,oX 404 (M.tC.en p1)))/\rR p0 p1 m j=some r
 have e1:=@rR.eq_2
 unfold ET at h
 exact sgo 34 [.tmp 4] func375
instance:bU 371 (∀p0 r (h:CF p0=some r),Sc 371 [aX (M.aO.en p0)] [(true,M.cH.rs r.1),rB r.2]):=⟨λp0 r h=>by unfold CF at h;exact sgo 13 [.cell 2 182,.tmp 3] func371⟩
