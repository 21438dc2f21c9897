/-
  Helper text. No conditions.
-/
import Derived.Test.YtjlnkcoeghonfaaGreatRunningPagesTi
set_option linter.all false
namespace Go.Proofs.YtjlnkcoeghonfaaGreat.gen
open Go Go.Sh Tryz
set_option maxRecDepth 20000
set_option maxHeartbeats 4000000
instance c93:bK 93 (∀p0 p1 p2 r (h:bG p0 p1 p2=some r),Sc 93 [aI p0,aI p1,aI p2] [rB r]):=⟨λp0 p1 p2 r h=>by unfold bG at h;exact sgo 15 [.tmp 6] func93⟩
instance:bK 89 (∀r (h:zG=some r),Sc 89 [] [rW 9 1 enS r]):=⟨λr h=>by unfold zG at h;exact sgo 2 [.tmp 0] func89⟩
instance:bK 422 (∀p0 r (h:CS p0=some r),Sc 422 [aI p0] [(true,M.aD.rs r)]):=⟨λp0 r h=>by
 have i1:=λ(x4:(List ByteArray))=>G8 [.b 3 8 7050000 151 4,.b 3 9 7050001 156 5] λm s=>∃v5:Int,∃aa:List M.aLa,∃ae:List M.aLj,∃af:Nat,∃ah:Nat,(s.t 2=vP 2 1 0/\s.t 3=vP 3 1 0/\s.t 4=vR 100012 1/\s.t 5=vI v5/\s.h 2=(1,Vo)/\s.h 3=(1,oB 50 [cI 0,cB true,cI p0,.nil,.nil,cI 1,.nil,.nil,.row 7050000 af,.row 7050001 ah])/\s.h 100012=(1,oW 9 1 enS x4)/\s.h 7050000=(af,oW 151 4 M.aLa.en aa)/\s.h 7050001=(ah,oW 156 5 M.aLj.en ae))/\CH p0 x4 m v5 aa ae=some r
 have e1:=@CH.eq_2
 unfold CS at h
 exact sgo 43 [.cell 2 50] func422⟩
instance:bK 353 (∀p0 r (h:yE p0=some r),Sc 353 [aX (M.aN.en p0)] [(true,M.aN.rs r)]):=⟨λp0 r h=>by unfold yE at h;exact sgo 11 [.cell 2 78] func353⟩
instance:bK 352 (∀p0 r (h:Bd p0=some r),Sc 352 [aX (M.aLs.en p0)] [(true,M.aLs.rs r)]):=⟨λp0 r h=>by unfold Bd at h;exact sgo 10 [.cell 2 80] func352⟩
instance:bK 108 (∀p0 r (h:DQ p0=some r),Sc 108 [aX (M.aLa.en p0)] [(true,M.aLa.rs r)]):=⟨λp0 r h=>by unfold DQ at h;exact sgo 11 [.cell 2 151] func108⟩
instance:bK 87 (∀p0 p1 r (h:DW p0 p1=some r),Sc 87 [aL M.bO.en p0,aI p1] [rI r]):=⟨λp0 p1 r h=>by
 have i1:=inv λm s=>∃v5:Int,(s.t 0=vL M.bO.en p0/\s.t 1=vI p1/\s.t 5=vI v5)/\sS p0 p1 m v5=some r
 have e1:=@sS.eq_2
 unfold DW at h
 exact sgo 20 [.tmp 4] func87⟩
instance c18:bK 18 (∀p0 p1 r (h:rZ p0 p1=some r),Sc 18 [aX (M.aD.en p0),aI p1] [rI r]):=⟨λp0 p1 r h=>by unfold rZ at h;exact sgo 9 [.tmp 4] func18⟩
instance aDX:bK 204 (∀p0 r (h:cP p0=some r),Sc 204 [aS p0] [rB r]):=⟨λp0 r h=>by
 have i1:=inv λm s=>∃v3:Int,(s.t 0=vS p0/\s.t 3=vI v3)/\sB p0 m v3=some r
 have e1:=@sB.eq_2
 unfold cP at h
 exact sgo 23 [.tmp 2] func204⟩
instance:bK 439 (∀p0 r (h:Dc p0=some r),Sc 439 [aS p0] [rB r]):=⟨λp0 r h=>by
 have i1:=inv λm s=>∃v3:Int,(s.t 0=vS p0/\s.t 3=vI v3)/\lM p0 m v3=some r
 have e1:=@lM.eq_2
 unfold Dc at h
 exact sgo 35 [.tmp 2] func439⟩
instance:bK 317 (∀p0 r (h:gZ p0=some r),Sc 317 [aX (M.bD.en p0)] [rB r]):=⟨λp0 r h=>by unfold gZ at h;exact sgo 36 [.tmp 2] func317⟩
instance:bK 440 (∀p0 p1 r (h:Df p0 p1=some r),Sc 440 [aB p0,aB p1] [rI r]):=⟨λp0 p1 r h=>by unfold Df at h;exact sgo 7 [.tmp 4] func440⟩
instance:bK 528 (∀p0 r (h:BK p0=some r),Sc 528 [aX (M.aLb.en p0)] [rB r]):=⟨λp0 r h=>by unfold BK at h;exact sgo 22 [.tmp 2] func528⟩
instance:bK 346 (∀p0 p1 r (h:cG p0 p1=some r),Sc 346 [aL enB p0,aI p1] [rW 5 1 enB r]):=⟨λp0 p1 r h=>by
 have i1:=inv λm s=>∃v1:Int,∃r6:List Int,∃u6:Nat,(s.t 1=vI v1/\s.t 5=vR 100006 u6/\s.h 100006=(u6,oW 5 1 enB r6))/\dI m v1 r6=some r
 have e1:=@dI.eq_2
 unfold cG at h
 exact sgo 29 [.tmp 4] func346⟩
instance:bK 209 (∀p0 r (h:Bl p0=some r),Sc 209 [aS p0] [rB r]):=⟨λp0 r h=>by
 have i1:=inv λm s=>∃v3:Int,(s.t 0=vS p0/\s.t 3=vI v3)/\eQ p0 m v3=some r
 have e1:=@eQ.eq_2
 unfold Bl at h
 exact sgo 29 [.tmp 2] func209⟩
instance:bK 114 (∀p0 r (h:tW p0=some r),Sc 114 [aS p0] [rI r]):=⟨λp0 r h=>by
 have i1:=λ(x1:(List ByteArray))=>inv λm s=>∃v4:Int,(s.t 0=vS p0/\s.t 3=vR 100005 1/\s.t 4=vI v4/\s.h 100005=(1,oW 9 1 enS x1))/\rN p0 x1 m v4=some r
 have e1:=@rN.eq_2
 unfold tW at h
 exact sgo 19 [.tmp 2] func114⟩
instance:bK 505 (∀p0 p1 p2 r (h:sZ p0 p1 p2=some r),Sc 505 [aX (M.aLU.en p0),aX (M.aLa.en p1),aB p2] [rI r]):=⟨λp0 p1 p2 r h=>by unfold sZ at h;exact sgo 15 [.tmp 6] func505⟩
instance:bK 461 (∀p0 r (h:vX p0=some r),Sc 461 [aL enB p0] [rW 3 1 enI r]):=⟨λp0 r h=>by
 have i1:=inv λm s=>∃v4:Int,∃r7:List Int,∃u7:Nat,(s.t 0=vL enB p0/\s.t 3=vR 100007 u7/\s.t 4=vI v4/\s.h 100007=(u7,oW 3 1 enI r7))/\kW p0 m v4 r7=some r
 have e1:=@kW.eq_2
 unfold vX at h
 exact sgo 23 [.tmp 2] func461⟩
instance:bK 542 (∀p0 p1 r (h:Hy p0 p1=some r),Sc 542 [aI p0,aI p1] [rI r]):=⟨λp0 p1 r h=>by unfold Hy at h;exact sgo 15 [.tmp 4] func542⟩
instance:bK 113 (∀p0 p1 r (h:AX p0 p1=some r),Sc 113 [aX (M.aLX.en p0),aX (M.aZ.en p1)] [(true,M.Ask.rs r)]):=⟨λp0 p1 r h=>by unfold AX at h;exact sgo 50 [.cell 4 102] func113⟩
theorem aKk(p0 p1 r)(h:FC p0 p1=some r):Sc 621 [aX (M.aLS.en p0),aX (M.pR.en p1)] [rI r]:=by
 have i1:=inv λm s=>∃j:Int,(s.t 2=vP 2 1 0/\s.t 3=vP 3 1 0/\s.t 5=vI j/\s.h 2=(1,oX 70 (M.aLS.en p0))/\s.h 3=(1,oX 609 (M.pR.en p1)))/\sQ p0 p1 m j=some r
 have e1:=@sQ.eq_2
 unfold FC at h
 exact sgo 34 [.tmp 4] func621
instance:bK 575 (∀p0 p1 p2 r (h:DJ p0 p1 p2=some r),Sc 575 [aL M.aQ.en p0,aI p1,aI p2] [rW 266 2 M.aQ.en r]):=⟨λp0 p1 p2 r h=>by
 have i1:=inv λm s=>∃v8:Int,(s.t 0=vL M.aQ.en p0/\s.t 1=vI p1/\s.t 2=vI p2/\s.t 7=vR 100009 2/\s.t 8=vI v8/\s.h 100009=(2,oW 266 2 M.aQ.en p0))/\yP p0 p1 p2 m v8=some r
 have e1:=@yP.eq_2
 unfold DJ at h
 exact sgo 60 [.tmp 6] func575⟩
instance:bK 324 (∀p0 p1 r (h:xQ p0 p1=some r),Sc 324 [aX (M.aN.en p0),aX (M.aN.en p1)] [rB r]):=⟨λp0 p1 r h=>by
 have i1:=inv λm s=>∃v5:Int,(s.t 2=vP 2 1 0/\s.t 3=vP 3 1 0/\s.t 5=vI v5/\s.h 2=(1,oX 78 (M.aN.en p0))/\s.h 3=(1,oX 78 (M.aN.en p1)))/\lR p0 p1 m v5=some r
 have e1:=@lR.eq_2
 unfold xQ at h
 exact sgo 45 [.tmp 4] func324⟩
instance:bK 214 (∀p0 p1 r (h:Bo p0 p1=some r),Sc 214 [aX (M.aLs.en p0),aX (M.aLs.en p1)] [rB r]):=⟨λp0 p1 r h=>by unfold Bo at h;exact sgo 24 [.tmp 4] func214⟩
