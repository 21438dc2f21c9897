/-
  Helper text. No conditions.
-/
import Derived.Test.YtjlnkcoeghonfaaGreatRunPageWspec2
set_option linter.all false
namespace Go.Proofs.YtjlnkcoeghonfaaGreat.gen
open Go Go.Sh
set_option maxRecDepth 20000
set_option maxHeartbeats 4000000
instance aCS:aW 233 (∀p0 r (h:wA p0=some r),Sc 233 [aX (M.bL.en p0)] [(true,M.bL.rs r)]):=⟨λp0 r h=>by unfold wA at h;exact sgo 13 [.cell 2 72] Tryz.func233⟩
instance YH:aW 223 (∀p0 r (h:gD p0=some r),Sc 223 [aX (M.aJi.en p0)] [(true,M.aJi.rs r)]):=⟨λp0 r h=>by unfold gD at h;exact sgo 18 [.cell 2 84] Tryz.func223⟩
instance:aW 105 (∀p0 r (h:fH p0=some r),Sc 105 [aX (M.aA.en p0)] [(true,M.aA.rs r)]):=⟨λp0 r h=>by
 have i1:=Mt [.b 3 0 7050000 84 24] λm s=>∃v4:Int,∃aa:List M.aJi,∃ae:Nat,(s.t 1=vP 1 1 0/\s.t 2=vP 2 1 0/\s.t 3=vP 3 1 0/\s.t 4=vI v4/\s.h 1=(1,oX 39 (M.aA.en p0))/\s.h 2=(1,oB 39 [.nil])/\s.h 3=(1,oB 39 [.row 7050000 ae])/\s.h 7050000=(ae,oW 84 24 M.aJi.en aa))/\nU p0 m v4 aa=some r
 have e1:=@nU.eq_2
 unfold fH at h
 exact sgo 25 [.cell 2 39] Tryz.func105⟩
instance:aW 90 (∀p0 r (h:BB p0=some r),Sc 90 [aX (M.aJv.en p0)] [rB r]):=⟨λp0 r h=>by
 have i1:=inv λm s=>∃v3:Int,(s.t 1=vP 1 1 0/\s.t 3=vI v3/\s.h 1=(1,oX 156 (M.aJv.en p0)))/\gP p0 m v3=some r
 have e1:=@gP.eq_2
 have i2:=inv λm s=>∃v4:Int,(s.t 1=vP 1 1 0/\s.t 4=vI v4/\s.h 1=(1,oX 156 (M.aJv.en p0)))/\jZ p0 m v4=some r
 have e2:=@jZ.eq_2
 unfold BB at h
 exact sgo 79 [.tmp 2] Tryz.func90⟩
instance:aW 529 (∀p0 p1 r (h:CJ p0 p1=some r),Sc 529 [aX (M.aD.en p0),aS p1] [rW 320 4 M.aJt.en r]):=⟨λp0 p1 r h=>by
 have i1:=Mt [.t 5 7050000 320 4] λm s=>∃v6:Int,∃aa:List M.aJt,∃ae:Nat,(s.t 1=vS p1/\s.t 2=vP 2 1 0/\s.t 5=vR 7050000 ae/\s.t 6=vI v6/\s.h 2=(1,oX 75 (M.aD.en p0))/\s.h 7050000=(ae,oW 320 4 M.aJt.en aa))/\lO p0 p1 m v6 aa=some r
 have e1:=@lO.eq_2
 have i2:=λ(v6:Int) (aa:List M.aJt) (ah:M.aJt) (ai:Int->Option (List M.aJt)) (ae:Nat)=>inv λm s=>∃af:Int,(s.t 1=vS p1/\s.t 2=vP 2 1 0/\s.t 5=vR 7050000 ae/\s.t 6=vI v6/\s.t 9=vI af/\s.h 2=(1,oX 75 (M.aD.en p0))/\s.h 7050000=(ae,oW 320 4 M.aJt.en aa))/\nS p1 aa ah ai m af=some r
 have e2:=@nS.eq_2
 unfold CJ at h
 exact sgo 72 [.tmp 4] Tryz.func529⟩
instance:aW 442 (∀p0 p1 r (h:uU p0 p1=some r),Sc 442 [aX (M.aD.en p0),aS p1] [(true,M.Key.rs r.1),(true,M.Key.rs r.2.1),rB r.2.2]):=⟨λp0 p1 r h=>by
 have i1:=λ(x1:(List M.aJt))=>inv λm s=>∃v8:Int,(s.t 1=vS p1/\s.t 4=vP 4 1 0/\s.t 5=vP 5 1 0/\s.t 7=vR 100015 1/\s.t 8=vI v8/\s.h 4=(1,oB 216 [cI 0,cI 0,cS (⟨#[]⟩:ByteArray)])/\s.h 5=(1,oB 216 [cI 0,cI 0,cS (⟨#[]⟩:ByteArray)])/\s.h 100015=(1,oW 320 4 M.aJt.en x1))/\lX p1 x1 m v8=some r
 have e1:=@lX.eq_2
 unfold uU at h
 exact sgo 59 [.cell 4 216,.cell 5 216,.tmp 6] Tryz.func442⟩
instance:aW 321 (∀p0 r (h:lP p0=some r),Sc 321 [aX (M.aJj.en p0)] [rB r]):=⟨λp0 r h=>by
 have i1:=inv λm s=>∃v3:Int,(s.t 1=vP 1 1 0/\s.t 3=vI v3/\s.h 1=(1,oX 70 (M.aJj.en p0)))/\eX p0 m v3=some r
 have e1:=@eX.eq_2
 have i2:=inv λm s=>∃v4:Int,(s.t 1=vP 1 1 0/\s.t 4=vI v4/\s.h 1=(1,oX 70 (M.aJj.en p0)))/\eY p0 m v4=some r
 have e2:=@eY.eq_2
 have i3:=λ(v4:Int) (ae:M.aG) (af:Int->Option Bool)=>inv λm s=>∃aa:Int,(s.t 1=vP 1 1 0/\s.t 4=vI v4/\s.t 9=vI aa/\s.h 1=(1,oX 70 (M.aJj.en p0)))/\gE p0 v4 ae af m aa=some r
 have e3:=@gE.eq_2
 unfold lP at h
 exact sgo 124 [.tmp 2] Tryz.func321⟩
instance:aW 243 (∀p0 r (h:tT p0=some r),Sc 243 [aX (M.aE.en p0)] [rB r]):=⟨λp0 r h=>by unfold tT at h;exact sgo 23 [.tmp 2] Tryz.func243⟩
instance:aW 445 (∀p0 r (h:uG p0=some r),Sc 445 [aX (M.aD.en p0)] [rI r]):=⟨λp0 r h=>by
 have i1:=inv λm s=>∃v3:Int,∃v4:Int,(s.t 1=vP 1 1 0/\s.t 3=vI v3/\s.t 4=vI v4/\s.h 1=(1,oX 75 (M.aD.en p0)))/\kX p0 m v3 v4=some r
 have e1:=@kX.eq_2
 unfold uG at h
 exact sgo 32 [.tmp 2] Tryz.func445⟩
instance:aW 531 (∀p0 r (h:sY p0=some r),Sc 531 [aX (M.aJj.en p0)] [rI r]):=⟨λp0 r h=>by
 have i1:=inv λm s=>∃v3:Int,∃v4:Int,(s.t 1=vP 1 1 0/\s.t 3=vI v3/\s.t 4=vI v4/\s.h 1=(1,oX 70 (M.aJj.en p0)))/\gL p0 m v3 v4=some r
 have e1:=@gL.eq_2
 unfold sY at h
 exact sgo 21 [.tmp 2] Tryz.func531⟩
instance:aW 444 (∀p0 r (h:D9 p0=some r),Sc 444 [aX (M.bL.en p0)] [rI r]):=⟨λp0 r h=>by unfold D9 at h;exact sgo 10 [.tmp 2] Tryz.func444⟩
instance:aW 455 (∀p0 p1 r (h:iK p0 p1=some r),Sc 455 [aI p0,aS p1] [rI r]):=⟨λp0 p1 r h=>by unfold iK at h;exact sgo 11 [.tmp 4] Tryz.func455⟩
instance:aW 341 (∀p0 p1 p2 r (h:DT p0 p1 p2=some r),Sc 341 [aX (M.aJr.en p0),aS p1,aI p2] [rW 5 1 enB r]):=⟨λp0 p1 p2 r h=>by
 have i1:=λ(x5:Int)=>inv λm s=>∃v9:Int,∃aa:List Int,∃ae:Nat,(s.t 7=vI x5/\s.t 8=vR 100019 ae/\s.t 9=vI v9/\s.h 100019=(ae,oW 5 1 enB aa))/\tY x5 m v9 aa=some r
 have e1:=@tY.eq_2
 unfold DT at h
 exact sgo 34 [.tmp 6] Tryz.func341⟩
instance:aW 227 (∀p0 p1 p2 r (h:Am p0 p1 p2=some r),Sc 227 [aX (M.aJr.en p0),aS p1,aI p2] [(true,M.aJo.rs r)]):=⟨λp0 p1 p2 r h=>by unfold Am at h;exact sgo 32 [.cell 6 107] Tryz.func227⟩
instance:aW 343 (∀p0 r (h:Cv p0=some r),Sc 343 [aL enB p0] [rW 58 1 (enL enB) r.1,rI r.2]):=⟨λp0 r h=>by
 have i1:=inv λm s=>∃v5:Int,∃aa:List (List Int),∃ae:Nat,(s.t 0=vL enB p0/\s.t 4=vR 100012 ae/\s.t 5=vI v5/\s.h 100012=(ae,oW 58 1 (enL enB) aa))/\sG p0 m v5 aa=some r
 have e1:=@sG.eq_2
 unfold Cv at h
 exact sgo 50 [.tmp 2,.tmp 3] Tryz.func343⟩
instance:aW 538 (∀p0 r (h:oN p0=some r),Sc 538 [aL enB p0] [(true,M.aC.rs r.1),rB r.2]):=⟨λp0 r h=>by unfold oN at h;exact sgo 23 [.cell 2 207,.tmp 3] Tryz.func538⟩
instance:aW 458 (∀p0 p1 r (h:DC p0 p1=some r),Sc 458 [aL enB p0,aI p1] [(true,M.Op.rs r.1),rI r.2.1,rB r.2.2]):=⟨λp0 p1 r h=>by unfold DC at h;exact sgo 103 [.cell 4 219,.tmp 5,.tmp 6] Tryz.func458⟩
instance:aW 235 (∀p0 r (h:tM p0=some r),Sc 235 [aL M.Op.en p0] [rW 5 1 enB r]):=⟨λp0 r h=>by
 have i1:=Mt [.t 3 7050000 5 1] λm s=>∃v4:Int,∃aa:List Int,∃ae:Nat,(s.t 0=vL M.Op.en p0/\s.t 3=vR 7050000 ae/\s.t 4=vI v4/\s.h 7050000=(ae,oW 5 1 enB aa))/\oG p0 m v4 aa=some r
 have e1:=@oG.eq_2
 unfold tM at h
 exact sgo 64 [.tmp 2] Tryz.func235⟩
instance:aW 344 (∀p0 r (h:tJ p0=some r),Sc 344 [aL enB p0] [rW 219 7 M.Op.en r.1,rB r.2]):=⟨λp0 r h=>by
 have i1:=λ(x1:(Int×Int×Bool))=>inv λm s=>∃v5:Int,∃v8:Int,∃aa:List M.Op,∃ae:Nat,(s.t 0=vL enB p0/\s.t 4=vI x1.1/\s.t 5=vI v5/\s.t 7=vR 100025 ae/\s.t 8=vI v8/\s.h 100025=(ae,oW 219 7 M.Op.en aa))/\kZ p0 x1 m v5 v8 aa=some r
 have e1:=@kZ.eq_2
 unfold tJ at h
 exact sgo 53 [.tmp 2,.tmp 3] Tryz.func344⟩
instance:aW 355 (∀p0 p1 p2 r (h:iE p0 p1 p2=some r),Sc 355 [aX (M.aD.en p0),aX (M.Key.en p1),aX (M.aC.en p2)] [(true,M.aD.rs r.1),rB r.2]):=⟨λp0 p1 p2 r h=>by
 have i1:=λ(aa:M.aD)=>inv λm s=>∃v10:Int,(s.t 3=vP 3 1 0/\s.t 4=vP 4 1 0/\s.t 5=vP 5 1 0/\s.t 6=vP 6 1 0/\s.t 8=vP 8 1 0/\s.t 10=vI v10/\s.h 3=(1,oX 75 (M.aD.en p0))/\s.h 4=(1,oX 216 (M.Key.en p1))/\s.h 5=(1,oX 207 (M.aC.en p2))/\s.h 6=(1,oB 75 [cS (⟨#[]⟩:ByteArray),.nil,cI 0])/\s.h 8=(1,oB 75 [cS aa.Name,.row 200028 1,cI aa.aKG])/\s.h 200028=(1,oW 320 4 M.aJt.en aa.aJm))/\oM p0 p1 p2 aa m v10=some r
 have e1:=@oM.eq_2
 unfold iE at h
 exact sgo 100 [.cell 6 75,.tmp 7] Tryz.func355⟩
instance:aW 539 (∀p0 p1 p2 r (h:CB p0 p1 p2=some r),Sc 539 [aX (M.aD.en p0),aX (M.Key.en p1),aX (M.aC.en p2)] [(true,M.aD.rs r.1),rB r.2]):=⟨λp0 p1 p2 r h=>by unfold CB at h;exact sgo 20 [.cell 6 75,.tmp 7] Tryz.func539⟩
instance:aW 540 (∀p0 p1 r (h:pZ p0 p1=some r),Sc 540 [aX (M.aD.en p0),aX (M.dF.en p1)] [(true,M.aD.rs r.1),rI r.2]):=⟨λp0 p1 r h=>by
 have i1:=Mt [.b 6 1 7050000 320 4] λm s=>∃v7:Int,∃aa:List M.aJt,∃ae:Nat,(s.t 2=vP 2 1 0/\s.t 3=vP 3 1 0/\s.t 4=vP 4 1 0/\s.t 6=vP 6 1 0/\s.t 7=vI v7/\s.h 2=(1,oX 75 (M.aD.en p0))/\s.h 3=(1,oX 550 (M.dF.en p1))/\s.h 4=(1,oB 75 [cS (⟨#[]⟩:ByteArray),.nil,cI 0])/\s.h 6=(1,oB 75 [cS p0.Name,.row 7050000 ae,cI p0.aKG])/\s.h 7050000=(ae,oW 320 4 M.aJt.en aa))/\hM p0 p1 m v7 aa=some r
 have e1:=@hM.eq_2
 unfold pZ at h
 exact sgo 53 [.cell 4 75,.tmp 5] Tryz.func540⟩
instance:aW 541 (∀p0 p1 p2 r (h:EV p0 p1 p2=some r),Sc 541 [aX (M.aD.en p0),aX (M.Key.en p1),aS p2] [(true,M.aD.rs r.1),rI r.2.1,rB r.2.2]):=⟨λp0 p1 p2 r h=>by unfold EV at h;exact sgo 57 [.cell 6 75,.tmp 7,.tmp 8] Tryz.func541⟩
instance:aW 459 (∀p0 p1 r (h:CH p0 p1=some r),Sc 459 [aX (M.aD.en p0),aX (M.Op.en p1)] [(true,M.aD.rs r.1),rI r.2.1,rB r.2.2]):=⟨λp0 p1 r h=>by unfold CH at h;exact sgo 97 [.cell 4 75,.tmp 5,.tmp 6] Tryz.func459⟩
instance:aW 236 (∀p0 p1 p2 r (h:zX p0 p1 p2=some r),Sc 236 [aL enB p0,aI p1,aL enB p2] [rW 5 1 enB r.1,rB r.2]):=⟨λp0 p1 p2 r h=>by unfold zX at h;exact sgo 29 [.tmp 6,.tmp 7] Tryz.func236⟩
instance:aW 240 (∀p0 p1 p2 p3 r (h:sV p0 p1 p2 p3=some r),Sc 240 [aX (M.aM.en p0),aX (M.Key.en p1),aS p2,aI p3] [(true,M.aM.rs r.1),rB r.2]):=⟨λp0 p1 p2 p3 r h=>by unfold sV at h;exact sgo 40 [.cell 8 78,.tmp 9] Tryz.func240⟩
instance:aW 241 (∀p0 p1 r (h:nR p0 p1=some r),Sc 241 [aX (M.aD.en p0),aX (M.aY.en p1)] [(true,M.aD.rs r.1),rB r.2]):=⟨λp0 p1 r h=>by unfold nR at h;exact sgo 43 [.cell 4 75,.tmp 5] Tryz.func241⟩
instance:aW 356 (∀p0 p1 r (h:Bu p0 p1=some r),Sc 356 [aX (M.aD.en p0),aL M.aY.en p1] [(true,M.aD.rs r)]):=⟨λp0 p1 r h=>by
 have i1:=Mt [.b 5 1 7050000 320 4] λm s=>∃v6:Int,∃af:ByteArray,∃ah:Int,∃aa:List M.aJt,∃ae:Nat,(s.t 1=vL M.aY.en p1/\s.t 4=vP 4 1 0/\s.t 5=vP 5 1 0/\s.t 6=vI v6/\s.h 4=(1,oB 75 [cS (⟨#[]⟩:ByteArray),.nil,cI 0])/\s.h 5=(1,oB 75 [cS af,.row 7050000 ae,cI ah])/\s.h 7050000=(ae,oW 320 4 M.aJt.en aa))/\kB p1 m v6 af ah aa=some r
 have e1:=@kB.eq_2
 unfold Bu at h
 exact sgo 29 [.cell 4 75] Tryz.func356⟩
