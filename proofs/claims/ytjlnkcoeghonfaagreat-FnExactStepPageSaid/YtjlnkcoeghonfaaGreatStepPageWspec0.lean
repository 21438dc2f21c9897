/-
  Helper text. No conditions.
-/
import Derived.Test.YtjlnkcoeghonfaaGreatStepPageTi
set_option linter.all false
namespace Go.Proofs.YtjlnkcoeghonfaaGreat.gen
open Go Go.Sh
set_option maxRecDepth 20000
set_option maxHeartbeats 4000000
instance:aZ 231 (∀p0 r (h:cD p0=some r),Sc 231 [aX (M.aA.en p0)] [(true,M.aA.rs r)]):=⟨λp0 r h=>by unfold cD at h;exact sgo 8 [.cell 2 207] Tryz.func231⟩
instance:aZ 335 (∀p0 r (h:yX p0=some r),Sc 335 [aX (M.aJl.en p0)] [(true,M.aJl.rs r)]):=⟨λp0 r h=>by unfold yX at h;exact sgo 9 [.cell 2 320] Tryz.func335⟩
instance:aZ 225 (∀p0 r (h:zY p0=some r),Sc 225 [aL M.Instr.en p0] [rW 197 4 M.Instr.en r]):=⟨λp0 r h=>by unfold zY at h;exact sgo 6 [.tmp 2] Tryz.func225⟩
instance:aZ 110 (∀p0 r (h:vZ p0=some r),Sc 110 [aX (M.aJf.en p0)] [(true,M.aJf.rs r)]):=⟨λp0 r h=>by unfold vZ at h;exact sgo 15 [.cell 2 89] Tryz.func110⟩
instance:aZ 106 (∀p0 r (h:AN p0=some r),Sc 106 [aX (M.aQ.en p0)] [(true,M.aQ.rs r)]):=⟨λp0 r h=>by unfold AN at h;exact sgo 8 [.cell 2 43] Tryz.func106⟩
instance:aZ 107 (∀p0 r (h:AJ p0=some r),Sc 107 [aX (M.aJp.en p0)] [(true,M.aJp.rs r)]):=⟨λp0 r h=>by unfold AJ at h;exact sgo 8 [.cell 2 46] Tryz.func107⟩
instance c93:aZ 93 (∀p0 p1 p2 r (h:bB p0 p1 p2=some r),Sc 93 [aI p0,aI p1,aI p2] [rB r]):=⟨λp0 p1 p2 r h=>by unfold bB at h;exact sgo 15 [.tmp 6] Tryz.func93⟩
instance aAK:aZ 204 (∀p0 r (h:cE p0=some r),Sc 204 [aS p0] [rB r]):=⟨λp0 r h=>by
 have i1:=inv λm s=>∃v3:Int,(s.t 0=vS p0/\s.t 3=vI v3)/\nI p0 m v3=some r
 have e1:=@nI.eq_2
 unfold cE at h
 exact sgo 23 [.tmp 2] Tryz.func204⟩
instance:aZ 89 (∀r (h:xG=some r),Sc 89 [] [rW 9 1 enS r]):=⟨λr h=>by unfold xG at h;exact sgo 2 [.tmp 0] Tryz.func89⟩
instance:aZ 439 (∀p0 r (h:BJ p0=some r),Sc 439 [aS p0] [rB r]):=⟨λp0 r h=>by
 have i1:=inv λm s=>∃v3:Int,(s.t 0=vS p0/\s.t 3=vI v3)/\iE p0 m v3=some r
 have e1:=@iE.eq_2
 unfold BJ at h
 exact sgo 35 [.tmp 2] Tryz.func439⟩
instance:aZ 317 (∀p0 r (h:fL p0=some r),Sc 317 [aX (M.Key.en p0)] [rB r]):=⟨λp0 r h=>by unfold fL at h;exact sgo 36 [.tmp 2] Tryz.func317⟩
instance:aZ 440 (∀p0 p1 r (h:BM p0 p1=some r),Sc 440 [aB p0,aB p1] [rI r]):=⟨λp0 p1 r h=>by unfold BM at h;exact sgo 7 [.tmp 4] Tryz.func440⟩
instance:aZ 92 (∀p0 p1 p2 r (h:fF p0 p1 p2=some r),Sc 92 [aX (M.aC.en p0),aS p1,aS p2] [rI r]):=⟨λp0 p1 p2 r h=>by
 have i1:=inv λm s=>∃v7:Int,(s.t 1=vS p1/\s.t 2=vS p2/\s.t 3=vP 3 1 0/\s.t 7=vI v7/\s.h 3=(1,oX 39 (M.aC.en p0)))/\gF p0 p1 p2 m v7=some r
 have e1:=@gF.eq_2
 unfold fF at h
 exact sgo 34 [.tmp 6] Tryz.func92⟩
instance:aZ 528 (∀p0 r (h:xY p0=some r),Sc 528 [aX (M.aJg.en p0)] [rB r]):=⟨λp0 r h=>by unfold xY at h;exact sgo 22 [.tmp 2] Tryz.func528⟩
instance:aZ 118 (∀p0 p1 r (h:hJ p0 p1=some r),Sc 118 [aX (M.aA.en p0),aS p1] [rI r.1,rB r.2]):=⟨λp0 p1 r h=>by
 have i1:=inv λm s=>∃v6:Int,(s.t 1=vS p1/\s.t 2=vP 2 1 0/\s.t 6=vI v6/\s.h 2=(1,oX 207 (M.aA.en p0)))/\pM p0 p1 m v6=some r
 have e1:=@pM.eq_2
 unfold hJ at h
 exact sgo 28 [.tmp 4,.tmp 5] Tryz.func118⟩
instance:aZ 346 (∀p0 p1 r (h:bX p0 p1=some r),Sc 346 [aL enB p0,aI p1] [rW 5 1 enB r]):=⟨λp0 p1 r h=>by
 have i1:=inv λm s=>∃v1:Int,∃r6:List Int,∃u6:Nat,(s.t 1=vI v1/\s.t 5=vR 100006 u6/\s.h 100006=(u6,oW 5 1 enB r6))/\cV m v1 r6=some r
 have e1:=@cV.eq_2
 unfold bX at h
 exact sgo 29 [.tmp 4] Tryz.func346⟩
instance:aZ 209 (∀p0 r (h:wK p0=some r),Sc 209 [aS p0] [rB r]):=⟨λp0 r h=>by
 have i1:=inv λm s=>∃v3:Int,(s.t 0=vS p0/\s.t 3=vI v3)/\dR p0 m v3=some r
 have e1:=@dR.eq_2
 unfold wK at h
 exact sgo 29 [.tmp 2] Tryz.func209⟩
instance:aZ 119 (∀p0 p1 r (h:FF p0 p1=some r),Sc 119 [aI p0,aI p1] [rI r]):=⟨λp0 p1 r h=>by unfold FF at h;exact sgo 10 [.tmp 4] Tryz.func119⟩
instance:aZ 37 (∀p0 p1 r (h:uM p0 p1=some r),Sc 37 [aI p0,aI p1] [rI r]):=⟨λp0 p1 r h=>by unfold uM at h;exact sgo 10 [.tmp 4] Tryz.func37⟩
instance:aZ 112 (∀p0 r (h:pZ p0=some r),Sc 112 [aI p0] [rI r]):=⟨λp0 r h=>by unfold pZ at h;exact sgo 6 [.tmp 2] Tryz.func112⟩
instance:aZ 114 (∀p0 r (h:yN p0=some r),Sc 114 [aS p0] [rI r]):=⟨λp0 r h=>by
 have i1:=λ(x1:(List ByteArray))=>inv λm s=>∃v4:Int,(s.t 0=vS p0/\s.t 3=vR 100005 1/\s.t 4=vI v4/\s.h 100005=(1,oW 9 1 enS x1))/\jT p0 x1 m v4=some r
 have e1:=@jT.eq_2
 unfold yN at h
 exact sgo 19 [.tmp 2] Tryz.func114⟩
instance:aZ 340 (∀p0 p1 r (h:Cp p0 p1=some r),Sc 340 [aX (M.aJj.en p0),aS p1] [rB r]):=⟨λp0 p1 r h=>by
 have i1:=inv λm s=>∃v5:Int,(s.t 1=vS p1/\s.t 2=vP 2 1 0/\s.t 5=vI v5/\s.h 2=(1,oX 151 (M.aJj.en p0)))/\nX p0 p1 m v5=some r
 have e1:=@nX.eq_2
 unfold Cp at h
 exact sgo 20 [.tmp 4] Tryz.func340⟩
instance:aZ 542 (∀p0 p1 r (h:GM p0 p1=some r),Sc 542 [aI p0,aI p1] [rI r]):=⟨λp0 p1 r h=>by unfold GM at h;exact sgo 15 [.tmp 4] Tryz.func542⟩
instance:aZ 212 (∀p0 p1 r (h:xO p0 p1=some r),Sc 212 [aL enB p0,aL enB p1] [rB r]):=⟨λp0 p1 r h=>by unfold xO at h;exact sgo 10 [.tmp 4] Tryz.func212⟩
