/-
  Helper text. No conditions.
-/
import Derived.Test.YtjlnkcoeghonfaaGreatStepPageWspec3
set_option linter.all false
namespace Go.Proofs.YtjlnkcoeghonfaaGreat.gen
open Go Go.Sh
set_option maxRecDepth 20000
set_option maxHeartbeats 4000000
instance YA:aZ 223 (∀p0 r (h:gC p0=some r),Sc 223 [aX (M.aJa.en p0)] [(true,M.aJa.rs r)]):=⟨λp0 r h=>by unfold gC at h;exact sgo 18 [.cell 2 84] Tryz.func223⟩
instance:aZ 105 (∀p0 r (h:fH p0=some r),Sc 105 [aX (M.aC.en p0)] [(true,M.aC.rs r)]):=⟨λp0 r h=>by
 have i1:=Ni [.b 3 0 7050000 84 24] λm s=>∃v4:Int,∃aa:List M.aJa,∃ae:Nat,(s.t 1=vP 1 1 0/\s.t 2=vP 2 1 0/\s.t 3=vP 3 1 0/\s.t 4=vI v4/\s.h 1=(1,oX 39 (M.aC.en p0))/\s.h 2=(1,oB 39 [.nil])/\s.h 3=(1,oB 39 [.row 7050000 ae])/\s.h 7050000=(ae,oW 84 24 M.aJa.en aa))/\nR p0 m v4 aa=some r
 have e1:=@nR.eq_2
 unfold fH at h
 exact sgo 25 [.cell 2 39] Tryz.func105⟩
instance:aZ 29 (∀p0 r (h:rT p0=some r),Sc 29 [aX (M.World.en p0)] [(true,M.World.rs r)]):=⟨λp0 r h=>by
 have i1:=λ(x1:M.aC)=>inv λm s=>∃v4:Int,∃ae:List M.bD,∃af:Nat,(s.t 1=vP 1 1 0/\s.t 2=vP 2 1 0/\s.t 3=vP 3 1 0/\s.t 4=vI v4/\s.h 1=(1,oX 50 (M.World.en p0))/\s.h 2=(1,Z8)/\s.h 3=(1,oB 50 [cI p0.Now,cB p0.aKB,cI p0.aJq,.row 100010 1,.row 100012 af,cI p0.aJy,cL M.fE.en p0.aJv.aJv,cL M.kK.en p0.aJp.aKI,cL M.aJj.en p0.aJ6,cL M.aJn.en p0.aJ0])/\s.h 100010=(1,oW 84 24 M.aJa.en x1.aJh)/\s.h 100012=(af,oW 91 11 M.bD.en ae))/\lS p0 x1 m v4 ae=some r
 have e1:=@lS.eq_2
 have i2:=λ(x1:M.aC) (ae:List M.bD) (ah:M.aQ) (ai:M.aJp) (aa:St) (af:Nat)=>inv λm s=>∃v5:Int,∃aj:List M.aJj,∃ak:Nat,(s.t 1=vP 1 1 0/\s.t 2=vP 2 1 0/\s.t 3=vP 3 1 0/\s.t 5=vI v5/\s.h 1=(1,oX 50 (M.World.en p0))/\s.h 2=(1,Z8)/\s.h 3=(1,oB 50 [cI p0.Now,cB p0.aKB,cI p0.aJq,.row 100010 1,.row 100012 af,cI p0.aJy,.row 100034 ((aa.h 100034).1+1),.row 100038 ((aa.h 100038).1+1),.row 100040 ak,cL M.aJn.en p0.aJ0])/\s.h 100010=(1,oW 84 24 M.aJa.en x1.aJh)/\s.h 100012=(af,oW 91 11 M.bD.en ae)/\s.h 100034=((aa.h 100034).1+1,oW 144 4 M.fE.en ah.aJv)/\s.h 100038=((aa.h 100038).1+1,oW 147 3 M.kK.en ai.aKI)/\s.h 100040=(ak,oW 151 4 M.aJj.en aj))/\iN p0 x1 ae ah ai m v5 aj=some r
 have e2:=@iN.eq_2
 have i3:=λ(x1:M.aC) (ae:List M.bD) (ah:M.aQ) (ai:M.aJp) (aj:List M.aJj) (aa:St) (af:Nat) (ak:Nat)=>inv λm s=>∃v6:Int,∃al:List M.aJn,∃ao:Nat,(s.t 1=vP 1 1 0/\s.t 2=vP 2 1 0/\s.t 3=vP 3 1 0/\s.t 6=vI v6/\s.h 1=(1,oX 50 (M.World.en p0))/\s.h 2=(1,Z8)/\s.h 3=(1,oB 50 [cI p0.Now,cB p0.aKB,cI p0.aJq,.row 100010 1,.row 100012 af,cI p0.aJy,.row 100034 ((aa.h 100034).1+1),.row 100038 ((aa.h 100038).1+1),.row 100040 ak,.row 100060 ao])/\s.h 100010=(1,oW 84 24 M.aJa.en x1.aJh)/\s.h 100012=(af,oW 91 11 M.bD.en ae)/\s.h 100034=((aa.h 100034).1+1,oW 144 4 M.fE.en ah.aJv)/\s.h 100038=((aa.h 100038).1+1,oW 147 3 M.kK.en ai.aKI)/\s.h 100040=(ak,oW 151 4 M.aJj.en aj)/\s.h 100060=(ao,oW 156 5 M.aJn.en al))/\iK p0 x1 ae ah ai aj m v6 al=some r
 have e3:=@iK.eq_2
 unfold rT at h
 exact sgo 81 [.cell 2 50] Tryz.func29⟩
instance:aZ 442 (∀p0 p1 r (h:uS p0 p1=some r),Sc 442 [aX (M.aD.en p0),aS p1] [(true,M.Key.rs r.1),(true,M.Key.rs r.2.1),rB r.2.2]):=⟨λp0 p1 r h=>by
 have i1:=λ(x1:(List M.aJl))=>inv λm s=>∃v8:Int,(s.t 1=vS p1/\s.t 4=vP 4 1 0/\s.t 5=vP 5 1 0/\s.t 7=vR 100015 1/\s.t 8=vI v8/\s.h 4=(1,oB 216 [cI 0,cI 0,cS (⟨#[]⟩:ByteArray)])/\s.h 5=(1,oB 216 [cI 0,cI 0,cS (⟨#[]⟩:ByteArray)])/\s.h 100015=(1,oW 320 4 M.aJl.en x1))/\lV p1 x1 m v8=some r
 have e1:=@lV.eq_2
 unfold uS at h
 exact sgo 59 [.cell 4 216,.cell 5 216,.tmp 6] Tryz.func442⟩
instance:aZ 321 (∀p0 r (h:lN p0=some r),Sc 321 [aX (M.aJb.en p0)] [rB r]):=⟨λp0 r h=>by
 have i1:=inv λm s=>∃v3:Int,(s.t 1=vP 1 1 0/\s.t 3=vI v3/\s.h 1=(1,oX 70 (M.aJb.en p0)))/\eW p0 m v3=some r
 have e1:=@eW.eq_2
 have i2:=inv λm s=>∃v4:Int,(s.t 1=vP 1 1 0/\s.t 4=vI v4/\s.h 1=(1,oX 70 (M.aJb.en p0)))/\eX p0 m v4=some r
 have e2:=@eX.eq_2
 have i3:=λ(v4:Int) (ae:M.aG) (af:Int->Option Bool)=>inv λm s=>∃aa:Int,(s.t 1=vP 1 1 0/\s.t 4=vI v4/\s.t 9=vI aa/\s.h 1=(1,oX 70 (M.aJb.en p0)))/\gD p0 v4 ae af m aa=some r
 have e3:=@gD.eq_2
 unfold lN at h
 exact sgo 124 [.tmp 2] Tryz.func321⟩
instance:aZ 531 (∀p0 r (h:sW p0=some r),Sc 531 [aX (M.aJb.en p0)] [rI r]):=⟨λp0 r h=>by
 have i1:=inv λm s=>∃v3:Int,∃v4:Int,(s.t 1=vP 1 1 0/\s.t 3=vI v3/\s.t 4=vI v4/\s.h 1=(1,oX 70 (M.aJb.en p0)))/\gK p0 m v3 v4=some r
 have e1:=@gK.eq_2
 unfold sW at h
 exact sgo 21 [.tmp 2] Tryz.func531⟩
instance:aZ 444 (∀p0 r (h:D2 p0=some r),Sc 444 [aX (M.bL.en p0)] [rI r]):=⟨λp0 r h=>by unfold D2 at h;exact sgo 10 [.tmp 2] Tryz.func444⟩
instance:aZ 322 (∀p0 r (h:CK p0=some r),Sc 322 [aX (M.aJa.en p0)] [rI r]):=⟨λp0 r h=>by unfold CK at h;exact sgo 23 [.tmp 2] Tryz.func322⟩
instance:aZ 341 (∀p0 p1 p2 r (h:DN p0 p1 p2=some r),Sc 341 [aX (M.aJj.en p0),aS p1,aI p2] [rW 5 1 enB r]):=⟨λp0 p1 p2 r h=>by
 have i1:=λ(x5:Int)=>inv λm s=>∃v9:Int,∃aa:List Int,∃ae:Nat,(s.t 7=vI x5/\s.t 8=vR 100019 ae/\s.t 9=vI v9/\s.h 100019=(ae,oW 5 1 enB aa))/\tX x5 m v9 aa=some r
 have e1:=@tX.eq_2
 unfold DN at h
 exact sgo 34 [.tmp 6] Tryz.func341⟩
instance:aZ 227 (∀p0 p1 p2 r (h:Ak p0 p1 p2=some r),Sc 227 [aX (M.aJj.en p0),aS p1,aI p2] [(true,M.aJg.rs r)]):=⟨λp0 p1 p2 r h=>by unfold Ak at h;exact sgo 32 [.cell 6 107] Tryz.func227⟩
instance:aZ 116 (∀p0 p1 p2 p3 p4 r (h:vA p0 p1 p2 p3 p4=some r),Sc 116 [aX (M.aO.en p0),aX (M.aJj.en p1),aI p2,aS p3,aB p4] [(true,M.aJg.rs r)]):=⟨λp0 p1 p2 p3 p4 r h=>by unfold vA at h;exact sgo 30 [.cell 10 107] Tryz.func116⟩
instance:aZ 458 (∀p0 p1 r (h:Dw p0 p1=some r),Sc 458 [aL enB p0,aI p1] [(true,M.Op.rs r.1),rI r.2.1,rB r.2.2]):=⟨λp0 p1 r h=>by unfold Dw at h;exact sgo 103 [.cell 4 219,.tmp 5,.tmp 6] Tryz.func458⟩
instance:aZ 344 (∀p0 r (h:tH p0=some r),Sc 344 [aL enB p0] [rW 219 7 M.Op.en r.1,rB r.2]):=⟨λp0 r h=>by
 have i1:=λ(x1:(Int×Int×Bool))=>inv λm s=>∃v5:Int,∃v8:Int,∃aa:List M.Op,∃ae:Nat,(s.t 0=vL enB p0/\s.t 4=vI x1.1/\s.t 5=vI v5/\s.t 7=vR 100025 ae/\s.t 8=vI v8/\s.h 100025=(ae,oW 219 7 M.Op.en aa))/\kX p0 x1 m v5 v8 aa=some r
 have e1:=@kX.eq_2
 unfold tH at h
 exact sgo 53 [.tmp 2,.tmp 3] Tryz.func344⟩
instance:aZ 539 (∀p0 p1 p2 r (h:Cw p0 p1 p2=some r),Sc 539 [aX (M.aD.en p0),aX (M.Key.en p1),aX (M.aA.en p2)] [(true,M.aD.rs r.1),rB r.2]):=⟨λp0 p1 p2 r h=>by unfold Cw at h;exact sgo 20 [.cell 6 75,.tmp 7] Tryz.func539⟩
instance:aZ 541 (∀p0 p1 p2 r (h:EO p0 p1 p2=some r),Sc 541 [aX (M.aD.en p0),aX (M.Key.en p1),aS p2] [(true,M.aD.rs r.1),rI r.2.1,rB r.2.2]):=⟨λp0 p1 p2 r h=>by unfold EO at h;exact sgo 57 [.cell 6 75,.tmp 7,.tmp 8] Tryz.func541⟩
instance:aZ 459 (∀p0 p1 r (h:CC p0 p1=some r),Sc 459 [aX (M.aD.en p0),aX (M.Op.en p1)] [(true,M.aD.rs r.1),rI r.2.1,rB r.2.2]):=⟨λp0 p1 r h=>by unfold CC at h;exact sgo 97 [.cell 4 75,.tmp 5,.tmp 6] Tryz.func459⟩
instance:aZ 345 (∀p0 p1 r (h:Dg p0 p1=some r),Sc 345 [aX (M.aJb.en p0),aX (M.Op.en p1)] [(true,M.aJb.rs r.1),rI r.2.1,rB r.2.2]):=⟨λp0 p1 r h=>by unfold Dg at h;exact sgo 58 [.cell 4 70,.tmp 5,.tmp 6] Tryz.func345⟩
instance:aZ 241 (∀p0 p1 r (h:nO p0 p1=some r),Sc 241 [aX (M.aD.en p0),aX (M.aW.en p1)] [(true,M.aD.rs r.1),rB r.2]):=⟨λp0 p1 r h=>by unfold nO at h;exact sgo 43 [.cell 4 75,.tmp 5] Tryz.func241⟩
instance:aZ 356 (∀p0 p1 r (h:Bq p0 p1=some r),Sc 356 [aX (M.aD.en p0),aL M.aW.en p1] [(true,M.aD.rs r)]):=⟨λp0 p1 r h=>by
 have i1:=Ni [.b 5 1 7050000 320 4] λm s=>∃v6:Int,∃af:ByteArray,∃ah:Int,∃aa:List M.aJl,∃ae:Nat,(s.t 1=vL M.aW.en p1/\s.t 4=vP 4 1 0/\s.t 5=vP 5 1 0/\s.t 6=vI v6/\s.h 4=(1,oB 75 [cS (⟨#[]⟩:ByteArray),.nil,cI 0])/\s.h 5=(1,oB 75 [cS af,.row 7050000 ae,cI ah])/\s.h 7050000=(ae,oW 320 4 M.aJl.en aa))/\jY p1 m v6 af ah aa=some r
 have e1:=@jY.eq_2
 unfold Bq at h
 exact sgo 29 [.cell 4 75] Tryz.func356⟩
instance:aZ 242 (∀p0 r (h:Cc p0=some r),Sc 242 [aX (M.aE.en p0)] [(true,M.aD.rs r)]):=⟨λp0 r h=>by unfold Cc at h;exact sgo 10 [.cell 2 75] Tryz.func242⟩
