/-
  Helper text. No conditions.
-/
import Derived.Test.YtndidbigdalbnaaGreatNotesTi
set_option linter.all false
namespace Go.Proofs.YtndidbigdalbnaaGreat.gen
open Go Go.Sh Tryz
set_option maxRecDepth 20000
set_option maxHeartbeats 4000000
instance Xl:bU 148 (∀p0 p1 p2 r (h:bG p0 p1 p2=some r),Sc 148 [aI p0,aI p1,aI p2] [rB r]):=⟨λp0 p1 p2 r h=>by unfold bG at h;exact sgo 15 [.tmp 6] func148⟩
instance:bU 278 (∀r (h:xZ=some r),Sc 278 [] [rW 9 1 enS r]):=⟨λr h=>by unfold xZ at h;exact sgo 2 [.tmp 0] func278⟩
instance:bU 220 (∀p0 r (h:Cg p0=some r),Sc 220 [aI p0] [(true,M.aE.rs r)]):=⟨λp0 r h=>by
 have i1:=λ(x4:(List ByteArray))=>He [.b 3 8 7050000 120 4,.b 3 9 7050001 125 5] λm s=>∃v5:Int,∃aa:List M.aKl,∃ae:List M.aKt,∃af:Nat,∃ah:Nat,(s.t 2=vP 2 1 0/\s.t 3=vP 3 1 0/\s.t 4=vR 100012 1/\s.t 5=vI v5/\s.h 2=(1,WY)/\s.h 3=(1,oB 37 [cI 0,cB true,cI p0,.nil,.nil,cI 1,.nil,.nil,.row 7050000 af,.row 7050001 ah])/\s.h 100012=(1,oW 9 1 enS x4)/\s.h 7050000=(af,oW 120 4 M.aKl.en aa)/\s.h 7050001=(ah,oW 125 5 M.aKt.en ae))/\B7 p0 x4 m v5 aa ae=some r
 have e1:=@B7.eq_2
 unfold Cg at h
 exact sgo 43 [.cell 2 37] func220⟩
instance:bU 266 (∀p0 r (h:vZ p0=some r),Sc 266 [aX (M.aO.en p0)] [(true,M.aO.rs r)]):=⟨λp0 r h=>by unfold vZ at h;exact sgo 11 [.cell 2 69] func266⟩
instance:bU 209 (∀p0 r (h:As p0=some r),Sc 209 [aX (M.aK3.en p0)] [(true,M.aK3.rs r)]):=⟨λp0 r h=>by unfold As at h;exact sgo 10 [.cell 2 71] func209⟩
instance:bU 285 (∀p0 p1 r (h:C9 p0 p1=some r),Sc 285 [aL M.bK.en p0,aI p1] [rI r]):=⟨λp0 p1 r h=>by
 have i1:=inv λm s=>∃v5:Int,(s.t 0=vL M.bK.en p0/\s.t 1=vI p1/\s.t 5=vI v5)/\rV p0 p1 m v5=some r
 have e1:=@rV.eq_2
 unfold C9 at h
 exact sgo 20 [.tmp 4] func285⟩
instance aFN:bU 224 (∀p0 p1 r (h:zI p0 p1=some r),Sc 224 [aX (M.aE.en p0),aI p1] [rI r]):=⟨λp0 p1 r h=>by unfold zI at h;exact sgo 9 [.tmp 4] func224⟩
instance aEF:bU 147 (∀p0 r (h:cU p0=some r),Sc 147 [aS p0] [rB r]):=⟨λp0 r h=>by
 have i1:=inv λm s=>∃v3:Int,(s.t 0=vS p0/\s.t 3=vI v3)/\vC p0 m v3=some r
 have e1:=@vC.eq_2
 unfold cU at h
 exact sgo 23 [.tmp 2] func147⟩
instance:bU 264 (∀p0 r (h:Cs p0=some r),Sc 264 [aS p0] [rB r]):=⟨λp0 r h=>by
 have i1:=inv λm s=>∃v3:Int,(s.t 0=vS p0/\s.t 3=vI v3)/\mW p0 m v3=some r
 have e1:=@mW.eq_2
 unfold Cs at h
 exact sgo 35 [.tmp 2] func264⟩
instance:bU 207 (∀p0 r (h:gQ p0=some r),Sc 207 [aX (M.bD.en p0)] [rB r]):=⟨λp0 r h=>by unfold gQ at h;exact sgo 36 [.tmp 2] func207⟩
instance:bU 322 (∀p0 p1 r (h:Cu p0 p1=some r),Sc 322 [aB p0,aB p1] [rI r]):=⟨λp0 p1 r h=>by unfold Cu at h;exact sgo 7 [.tmp 4] func322⟩
instance c9:bU 9 (∀p0 p1 p2 r (h:dZ p0 p1 p2=some r),Sc 9 [aX (M.aC.en p0),aS p1,aS p2] [rI r]):=⟨λp0 p1 p2 r h=>by
 have i1:=inv λm s=>∃v7:Int,(s.t 1=vS p1/\s.t 2=vS p2/\s.t 3=vP 3 1 0/\s.t 7=vI v7/\s.h 3=(1,oX 26 (M.aC.en p0)))/\iN p0 p1 p2 m v7=some r
 have e1:=@iN.eq_2
 unfold dZ at h
 exact sgo 34 [.tmp 6] func9⟩
instance:bU 325 (∀p0 r (h:A3 p0=some r),Sc 325 [aX (M.aKo.en p0)] [rB r]):=⟨λp0 r h=>by unfold A3 at h;exact sgo 22 [.tmp 2] func325⟩
instance:bU 151 (∀p0 p1 r (h:cK p0 p1=some r),Sc 151 [aL enB p0,aI p1] [rW 5 1 enB r]):=⟨λp0 p1 r h=>by
 have i1:=inv λm s=>∃v1:Int,∃r6:List Int,∃u6:Nat,(s.t 1=vI v1/\s.t 5=vR 100006 u6/\s.h 100006=(u6,oW 5 1 enB r6))/\dI m v1 r6=some r
 have e1:=@dI.eq_2
 unfold cK at h
 exact sgo 29 [.tmp 4] func151⟩
instance:bU 332 (∀p0 r (h:AE p0=some r),Sc 332 [aS p0] [rB r]):=⟨λp0 r h=>by
 have i1:=inv λm s=>∃v3:Int,(s.t 0=vS p0/\s.t 3=vI v3)/\eI p0 m v3=some r
 have e1:=@eI.eq_2
 unfold AE at h
 exact sgo 29 [.tmp 2] func332⟩
instance:bU 281 (∀p0 r (h:sS p0=some r),Sc 281 [aS p0] [rI r]):=⟨λp0 r h=>by
 have i1:=λ(x1:(List ByteArray))=>inv λm s=>∃v4:Int,(s.t 0=vS p0/\s.t 3=vR 100005 1/\s.t 4=vI v4/\s.h 100005=(1,oW 9 1 enS x1))/\pV p0 x1 m v4=some r
 have e1:=@pV.eq_2
 unfold sS at h
 exact sgo 19 [.tmp 2] func281⟩
instance:bU 284 (∀p0 p1 p2 r (h:sC p0 p1 p2=some r),Sc 284 [aX (M.aKd.en p0),aX (M.aKl.en p1),aB p2] [rI r]):=⟨λp0 p1 p2 r h=>by unfold sC at h;exact sgo 15 [.tmp 6] func284⟩
instance:bU 219 (∀p0 p1 r (h:G7 p0 p1=some r),Sc 219 [aI p0,aI p1] [rI r]):=⟨λp0 p1 r h=>by unfold G7 at h;exact sgo 15 [.tmp 4] func219⟩
instance:bU 291 (∀p0 p1 r (h:Ah p0 p1=some r),Sc 291 [aX (M.aKh.en p0),aX (M.aY.en p1)] [(true,M.Ask.rs r)]):=⟨λp0 p1 r h=>by unfold Ah at h;exact sgo 50 [.cell 4 283] func291⟩
instance:bU 203 (∀p0 p1 r (h:AV p0 p1=some r),Sc 203 [aL enB p0,aL enB p1] [rB r]):=⟨λp0 p1 r h=>by unfold AV at h;exact sgo 10 [.tmp 4] func203⟩
instance:bU 304 (∀p0 p1 r (h:At p0 p1=some r),Sc 304 [aX (M.aKt.en p0),aI p1] [rI r]):=⟨λp0 p1 r h=>by
 have i1:=inv λm s=>∃v5:Int,(s.t 1=vI p1/\s.t 2=vP 2 1 0/\s.t 5=vI v5/\s.h 2=(1,oX 125 (M.aKt.en p0)))/\xI p0 p1 m v5=some r
 have e1:=@xI.eq_2
 unfold At at h
 exact sgo 27 [.tmp 4] func304⟩
instance:bU 345 (∀p0 p1 p2 r (h:C0 p0 p1 p2=some r),Sc 345 [aL M.aQ.en p0,aI p1,aI p2] [rW 179 2 M.aQ.en r]):=⟨λp0 p1 p2 r h=>by
 have i1:=inv λm s=>∃v8:Int,(s.t 0=vL M.aQ.en p0/\s.t 1=vI p1/\s.t 2=vI p2/\s.t 7=vR 100009 2/\s.t 8=vI v8/\s.h 100009=(2,oW 179 2 M.aQ.en p0))/\xK p0 p1 p2 m v8=some r
 have e1:=@xK.eq_2
 unfold C0 at h
 exact sgo 60 [.tmp 6] func345⟩
