/-
  Helper text. No conditions.
-/
import Derived.Test.YtbpbocchokbggaaGreatWriteNoteWspec0
import Derived.Test.YtbpbocchokbggaaGreatWriteNoteWspec1
set_option linter.all false
namespace Go.Proofs.YtbpbocchokbggaaGreat.gen
open Go Go.Sh
set_option maxRecDepth 20000
set_option maxHeartbeats 4000000
instance:aZ 307 (∀p0 r (h:kK p0=some r),Sc 307 [aX (M.aEK.en p0)] [(true,M.aEK.rs r)]):=⟨λp0 r h=>by
 have i1:=KP [.b 3 2 7050000 117 3] λm s=>∃v4:Int,∃aa:List M.aC,∃ae:Nat,(s.t 1=vP 1 1 0/\s.t 2=vP 2 1 0/\s.t 3=vP 3 1 0/\s.t 4=vI v4/\s.h 1=(1,oX 112 (M.aEK.en p0))/\s.h 2=(1,KH)/\s.h 3=(1,oB 112 [cS p0.Name,cI p0.aER,.row 7050000 ae,.row 100009 2])/\s.h 100009=(2,oW 471 2 M.aG.en p0.aEb)/\s.h 7050000=(ae,oW 117 3 M.aC.en aa))/\mW p0 m v4 aa=some r
 have e1:=@mW.eq_2
 unfold kK at h
 exact sgo 33 [.cell 2 112] Tryz.func307⟩
instance XD:aZ 170 (∀p0 r (h:rX p0=some r),Sc 170 [aX (M.bK.en p0)] [(true,M.bK.rs r)]):=⟨λp0 r h=>by unfold rX at h;exact sgo 13 [.cell 2 114] Tryz.func170⟩
instance:aZ 254 (∀p0 r (h:AG p0=some r),Sc 254 [aX (M.aF.en p0)] [(true,M.aF.rs r)]):=⟨λp0 r h=>by unfold AG at h;exact sgo 12 [.cell 2 124] Tryz.func254⟩
instance VE:aZ 105 (∀p0 r (h:gH p0=some r),Sc 105 [aX (M.aEJ.en p0)] [(true,M.aEJ.rs r)]):=⟨λp0 r h=>by unfold gH at h;exact sgo 18 [.cell 2 126] Tryz.func105⟩
instance:aZ 164 (∀p0 r (h:Ar p0=some r),Sc 164 [aX (M.aEX.en p0)] [(true,M.aEX.rs r)]):=⟨λp0 r h=>by unfold Ar at h;exact sgo 15 [.cell 2 205] Tryz.func164⟩
instance:aZ 317 (∀p0 p1 r (h:sR p0 p1=some r),Sc 317 [aI p0,aL enB p1] [rI r]):=⟨λp0 p1 r h=>by unfold sR at h;exact sgo 11 [.tmp 4] Tryz.func317⟩
instance:aZ 308 (∀p0 r (h:Aj p0=some r),Sc 308 [aL enB p0] [rW 74 1 (enL enB) r.1,rI r.2]):=⟨λp0 r h=>by
 have i1:=inv λm s=>∃v5:Int,∃aa:List (List Int),∃ae:Nat,(s.t 0=vL enB p0/\s.t 4=vR 100012 ae/\s.t 5=vI v5/\s.h 100012=(ae,oW 74 1 (enL enB) aa))/\nX p0 m v5 aa=some r
 have e1:=@nX.eq_2
 unfold Aj at h
 exact sgo 50 [.tmp 2,.tmp 3] Tryz.func308⟩
instance:aZ 578 (∀p0 p1 r (h:C8 p0 p1=some r),Sc 578 [aL enB p0,aI p1] [(true,M.aA.rs r.1),rI r.2.1,rB r.2.2]):=⟨λp0 p1 r h=>by
 have i1:=λ(x1:(Int×Int×Bool))=>KP [.b 10 0 7050000 262 2] λm s=>∃v8:Int,∃v11:Int,∃aa:List M.Field,∃ae:Nat,(s.t 0=vL enB p0/\s.t 4=vP 4 1 0/\s.t 7=vI x1.1/\s.t 8=vI v8/\s.t 10=vP 10 1 0/\s.t 11=vI v11/\s.h 4=(1,oB 129 [.nil])/\s.h 10=(1,oB 129 [.row 7050000 ae])/\s.h 7050000=(ae,oW 262 2 M.Field.en aa))/\mT p0 x1 m v8 v11 aa=some r
 have e1:=@mT.eq_2
 unfold C8 at h
 exact sgo 72 [.cell 4 129,.tmp 5,.tmp 6] Tryz.func578⟩
instance:aZ 511 (∀p0 r (h:lU p0=some r),Sc 511 [aL enB p0] [(true,M.aA.rs r.1),rB r.2]):=⟨λp0 r h=>by unfold lU at h;exact sgo 23 [.cell 2 129,.tmp 3] Tryz.func511⟩
instance:aZ 432 (∀p0 p1 r (h:Bt p0 p1=some r),Sc 432 [aL enB p0,aI p1] [(true,M.Op.rs r.1),rI r.2.1,rB r.2.2]):=⟨λp0 p1 r h=>by unfold Bt at h;exact sgo 103 [.cell 4 139,.tmp 5,.tmp 6] Tryz.func432⟩
instance:aZ 313 (∀p0 r (h:Cj p0=some r),Sc 313 [aX (M.Op.en p0)] [rB r]):=⟨λp0 r h=>by unfold Cj at h;exact sgo 46 [.tmp 2] Tryz.func313⟩
instance:aZ 316 (∀p0 r (h:eX p0=some r),Sc 316 [aX (M.aA.en p0)] [rW 5 1 enB r]):=⟨λp0 r h=>by
 have i1:=KP [.t 3 7050000 5 1] λm s=>∃v4:Int,∃aa:List Int,∃ae:Nat,(s.t 1=vP 1 1 0/\s.t 3=vR 7050000 ae/\s.t 4=vI v4/\s.h 1=(1,oX 129 (M.aA.en p0))/\s.h 7050000=(ae,oW 5 1 enB aa))/\cH p0 m v4 aa=some r
 have e1:=@cH.eq_2
 unfold eX at h
 exact sgo 38 [.tmp 2] Tryz.func316⟩
instance:aZ 172 (∀p0 r (h:oZ p0=some r),Sc 172 [aL M.Op.en p0] [rW 5 1 enB r]):=⟨λp0 r h=>by
 have i1:=KP [.t 3 7050000 5 1] λm s=>∃v4:Int,∃aa:List Int,∃ae:Nat,(s.t 0=vL M.Op.en p0/\s.t 3=vR 7050000 ae/\s.t 4=vI v4/\s.h 7050000=(ae,oW 5 1 enB aa))/\lO p0 m v4 aa=some r
 have e1:=@lO.eq_2
 unfold oZ at h
 exact sgo 64 [.tmp 2] Tryz.func172⟩
instance:aZ 269 (∀p0 r (h:nJ p0=some r),Sc 269 [aX (M.aC.en p0)] [rB r]):=⟨λp0 r h=>by
 have i1:=inv λm s=>∃v3:Int,(s.t 1=vP 1 1 0/\s.t 3=vI v3/\s.h 1=(1,oX 117 (M.aC.en p0)))/\gR p0 m v3=some r
 have e1:=@gR.eq_2
 unfold nJ at h
 exact sgo 64 [.tmp 2] Tryz.func269⟩
instance:aZ 579 (∀p0 p1 p2 r (h:Cd p0 p1 p2=some r),Sc 579 [aX (M.aES.en p0),aX (M.aES.en p1),aS p2] [rB r]):=⟨λp0 p1 p2 r h=>by unfold Cd at h;exact sgo 41 [.tmp 6] Tryz.func579⟩
instance:aZ 512 (∀p0 p1 r (h:Aw p0 p1=some r),Sc 512 [aX (M.aC.en p0),aS p1] [rW 260 4 M.aES.en r]):=⟨λp0 p1 r h=>by
 have i1:=KP [.t 5 7050000 260 4] λm s=>∃v6:Int,∃aa:List M.aES,∃ae:Nat,(s.t 1=vS p1/\s.t 2=vP 2 1 0/\s.t 5=vR 7050000 ae/\s.t 6=vI v6/\s.h 2=(1,oX 117 (M.aC.en p0))/\s.h 7050000=(ae,oW 260 4 M.aES.en aa))/\jT p0 p1 m v6 aa=some r
 have e1:=@jT.eq_2
 have i2:=λ(v6:Int) (aa:List M.aES) (ah:M.aES) (ai:Int->Option (List M.aES)) (ae:Nat)=>inv λm s=>∃af:Int,(s.t 1=vS p1/\s.t 2=vP 2 1 0/\s.t 5=vR 7050000 ae/\s.t 6=vI v6/\s.t 9=vI af/\s.h 2=(1,oX 117 (M.aC.en p0))/\s.h 7050000=(ae,oW 260 4 M.aES.en aa))/\lF p1 aa ah ai m af=some r
 have e2:=@lF.eq_2
 unfold Aw at h
 exact sgo 72 [.tmp 4] Tryz.func512⟩
instance:aZ 434 (∀p0 p1 r (h:pV p0 p1=some r),Sc 434 [aX (M.aC.en p0),aS p1] [(true,M.Key.rs r.1),(true,M.Key.rs r.2.1),rB r.2.2]):=⟨λp0 p1 r h=>by
 have i1:=λ(x1:(List M.aES))=>inv λm s=>∃v8:Int,(s.t 1=vS p1/\s.t 4=vP 4 1 0/\s.t 5=vP 5 1 0/\s.t 7=vR 100015 1/\s.t 8=vI v8/\s.h 4=(1,oB 136 [cI 0,cI 0,cS (⟨#[]⟩:ByteArray)])/\s.h 5=(1,oB 136 [cI 0,cI 0,cS (⟨#[]⟩:ByteArray)])/\s.h 100015=(1,oW 260 4 M.aES.en x1))/\jY p1 x1 m v8=some r
 have e1:=@jY.eq_2
 unfold pV at h
 exact sgo 59 [.cell 4 136,.cell 5 136,.tmp 6] Tryz.func434⟩
instance:aZ 514 (∀p0 p1 p2 r (h:nH p0 p1 p2=some r),Sc 514 [aX (M.aC.en p0),aX (M.Key.en p1),aX (M.aA.en p2)] [(true,M.aC.rs r.1),rB r.2]):=⟨λp0 p1 p2 r h=>by
 have i1:=λ(aa:M.aC)=>inv λm s=>∃v10:Int,(s.t 3=vP 3 1 0/\s.t 4=vP 4 1 0/\s.t 5=vP 5 1 0/\s.t 6=vP 6 1 0/\s.t 8=vP 8 1 0/\s.t 10=vI v10/\s.h 3=(1,oX 117 (M.aC.en p0))/\s.h 4=(1,oX 136 (M.Key.en p1))/\s.h 5=(1,oX 129 (M.aA.en p2))/\s.h 6=(1,oB 117 [cS (⟨#[]⟩:ByteArray),.nil,cI 0])/\s.h 8=(1,oB 117 [cS aa.Name,.row 200028 1,cI aa.aEo])/\s.h 200028=(1,oW 260 4 M.aES.en aa.aEM))/\lT p0 p1 p2 aa m v10=some r
 have e1:=@lT.eq_2
 unfold nH at h
 exact sgo 100 [.cell 6 117,.tmp 7] Tryz.func514⟩
instance:aZ 515 (∀p0 p1 p2 r (h:Ap p0 p1 p2=some r),Sc 515 [aX (M.aC.en p0),aX (M.Key.en p1),aX (M.aA.en p2)] [(true,M.aC.rs r.1),rB r.2]):=⟨λp0 p1 p2 r h=>by unfold Ap at h;exact sgo 20 [.cell 6 117,.tmp 7] Tryz.func515⟩
instance:aZ 580 (∀p0 p1 r (h:wC p0 p1=some r),Sc 580 [aX (M.Key.en p0),aX (M.cP.en p1)] [rB r]):=⟨λp0 p1 r h=>by unfold wC at h;exact sgo 50 [.tmp 4] Tryz.func580⟩
instance:aZ 516 (∀p0 p1 r (h:mQ p0 p1=some r),Sc 516 [aX (M.aC.en p0),aX (M.cP.en p1)] [(true,M.aC.rs r.1),rI r.2]):=⟨λp0 p1 r h=>by
 have i1:=KP [.b 6 1 7050000 260 4] λm s=>∃v7:Int,∃aa:List M.aES,∃ae:Nat,(s.t 2=vP 2 1 0/\s.t 3=vP 3 1 0/\s.t 4=vP 4 1 0/\s.t 6=vP 6 1 0/\s.t 7=vI v7/\s.h 2=(1,oX 117 (M.aC.en p0))/\s.h 3=(1,oX 533 (M.cP.en p1))/\s.h 4=(1,oB 117 [cS (⟨#[]⟩:ByteArray),.nil,cI 0])/\s.h 6=(1,oB 117 [cS p0.Name,.row 7050000 ae,cI p0.aEo])/\s.h 7050000=(ae,oW 260 4 M.aES.en aa))/\gB p0 p1 m v7 aa=some r
 have e1:=@gB.eq_2
 unfold mQ at h
 exact sgo 53 [.cell 4 117,.tmp 5] Tryz.func516⟩
instance:aZ 45 (∀p0 p1 p2 r (h:oN p0 p1 p2=some r),Sc 45 [aX (M.aA.en p0),aS p1,aI p2] [(true,M.aA.rs r.1),rB r.2]):=⟨λp0 p1 p2 r h=>by
 have i1:=λ(x1:M.aA)=>inv λm s=>∃v9:Int,(s.t 1=vS p1/\s.t 2=vI p2/\s.t 3=vP 3 1 0/\s.t 6=vP 6 1 0/\s.t 8=vP 8 1 0/\s.t 9=vI v9/\s.h 3=(1,oX 129 (M.aA.en p0))/\s.h 6=(1,oB 129 [.nil])/\s.h 8=(1,oB 129 [.row 100011 1])/\s.h 100011=(1,oW 262 2 M.Field.en x1.aEN))/\kE p0 p1 p2 x1 m v9=some r
 have e1:=@kE.eq_2
 unfold oN at h
 exact sgo 78 [.cell 6 129,.tmp 7] Tryz.func45⟩
instance:aZ 517 (∀p0 p1 p2 r (h:CI p0 p1 p2=some r),Sc 517 [aX (M.aC.en p0),aX (M.Key.en p1),aS p2] [(true,M.aC.rs r.1),rI r.2.1,rB r.2.2]):=⟨λp0 p1 p2 r h=>by unfold CI at h;exact sgo 57 [.cell 6 117,.tmp 7,.tmp 8] Tryz.func517⟩
instance:aZ 173 (∀p0 p1 p2 r (h:vU p0 p1 p2=some r),Sc 173 [aL enB p0,aI p1,aL enB p2] [rW 5 1 enB r.1,rB r.2]):=⟨λp0 p1 p2 r h=>by unfold vU at h;exact sgo 29 [.tmp 6,.tmp 7] Tryz.func173⟩
instance:aZ 392 (∀p0 r (h:tV p0=some r),Sc 392 [aX (M.aP.en p0)] [rB r]):=⟨λp0 r h=>by
 have i1:=inv λm s=>∃v3:Int,(s.t 1=vP 1 1 0/\s.t 3=vI v3/\s.h 1=(1,oX 108 (M.aP.en p0)))/\dV p0 m v3=some r
 have e1:=@dV.eq_2
 unfold tV at h
 exact sgo 53 [.tmp 2] Tryz.func392⟩
instance:aZ 391 (∀p0 r (h:yN p0=some r),Sc 391 [aX (M.aU.en p0)] [rB r]):=⟨λp0 r h=>by
 have i1:=inv λm s=>∃v4:Int,(s.t 1=vP 1 1 0/\s.t 3=vI (List.length p0.aEm:Int)/\s.t 4=vI v4/\s.h 1=(1,oX 120 (M.aU.en p0)))/\kG p0 m v4=some r
 have e1:=@kG.eq_2
 unfold yN at h
 exact sgo 60 [.tmp 2] Tryz.func391⟩
instance:aZ 393 (∀p0 r (h:vQ p0=some r),Sc 393 [aX (M.aF.en p0)] [rB r]):=⟨λp0 r h=>by unfold vQ at h;exact sgo 23 [.tmp 2] Tryz.func393⟩
instance:aZ 488 (∀p0 r (h:pM p0=some r),Sc 488 [aX (M.aC.en p0)] [rI r]):=⟨λp0 r h=>by
 have i1:=inv λm s=>∃v3:Int,∃v4:Int,(s.t 1=vP 1 1 0/\s.t 3=vI v3/\s.t 4=vI v4/\s.h 1=(1,oX 117 (M.aC.en p0)))/\iN p0 m v3 v4=some r
 have e1:=@iN.eq_2
 unfold pM at h
 exact sgo 32 [.tmp 2] Tryz.func488⟩
instance:aZ 564 (∀p0 r (h:oM p0=some r),Sc 564 [aX (M.aEK.en p0)] [rI r]):=⟨λp0 r h=>by
 have i1:=inv λm s=>∃v3:Int,∃v4:Int,(s.t 1=vP 1 1 0/\s.t 3=vI v3/\s.t 4=vI v4/\s.h 1=(1,oX 112 (M.aEK.en p0)))/\fJ p0 m v3 v4=some r
 have e1:=@fJ.eq_2
 unfold oM at h
 exact sgo 21 [.tmp 2] Tryz.func564⟩
