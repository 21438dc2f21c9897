/-
  Helper text. No conditions.
-/
import Derived.Test.YtipmihbgjolaaaaGreatStorageTi
set_option linter.unusedVariables false
set_option linter.unusedSimpArgs false
namespace Go.Proofs.YtipmihbgjolaaaaGreat.gen
open Go Go.Sh
set_option maxRecDepth 20000
set_option maxHeartbeats 4000000
instance UN:bR 313 (∀p0 p1 r (h:mY p0 p1=some r),Sc 313 [aX (M.YY.en p0),aS p1] [rI r]):=⟨λp0 p1 r h=>by
 have i1:=inv λm s=>∃v5:Int,(s.t 1=vS p1/\s.t 2=vP 2 1 0/\s.t 5=vI v5/\s.h 2=(1,oX 35 (M.YY.en p0)))/\iZ p0 p1 m v5=some r
 have e1:=@iZ.eq_2
 unfold mY at h
 exact sgo 22 [.tmp 4] Tryz.func313⟩
instance:bR 347 (∀p0 r (h:bQ p0=some r),Sc 347 [aX (M.aC.en p0)] [(true,M.aC.rs r)]):=⟨λp0 r h=>by unfold bQ at h;exact sgo 8 [.cell 2 254] Tryz.func347⟩
instance:bR 310 (∀p0 r (h:sZ p0=some r),Sc 310 [aX (M.Zd.en p0)] [(true,M.Zd.rs r)]):=⟨λp0 r h=>by unfold sZ at h;exact sgo 9 [.cell 2 284] Tryz.func310⟩
instance:bR 232 (∀p0 r (h:bL p0=some r),Sc 232 [aX (M.aA.en p0)] [(true,M.aA.rs r)]):=⟨λp0 r h=>by
 have i1:=CO [.b 3 1 7050000 284 4] λm s=>∃v4:Int,∃aa:List M.Zd,∃ae:Nat,(s.t 1=vP 1 1 0/\s.t 2=vP 2 1 0/\s.t 3=vP 3 1 0/\s.t 4=vI v4/\s.h 1=(1,oX 40 (M.aA.en p0))/\s.h 2=(1,oB 40 [cS (⟨#[]⟩:ByteArray),.nil,cI 0])/\s.h 3=(1,oB 40 [cS p0.Name,.row 7050000 ae,cI p0.Zn])/\s.h 7050000=(ae,oW 284 4 M.Zd.en aa))/\nD p0 m v4 aa=some r
 have e1:=@nD.eq_2
 unfold bL at h
 exact sgo 29 [.cell 2 40] Tryz.func232⟩
instance:bR 386 (∀p0 p1 r (h:eG p0 p1=some r),Sc 386 [aL enB p0,aI p1] [rI r.1,rI r.2.1,rB r.2.2]):=⟨λp0 p1 r h=>by
 have i1:=inv λm s=>∃v7:Int,∃v8:Int,(s.t 0=vL enB p0/\s.t 1=vI p1/\s.t 7=vI v7/\s.t 8=vI v8)/\dF p0 p1 m v7 v8=some r
 have e1:=@dF.eq_2
 unfold eG at h
 exact sgo 55 [.tmp 4,.tmp 5,.tmp 6] Tryz.func386⟩
instance:bR 385 (∀p0 p1 p2 r (h:dE p0 p1 p2=some r),Sc 385 [aL enB p0,aI p1,aI p2] [rW 5 1 enB r.1,rI r.2.1,rB r.2.2]):=⟨λp0 p1 p2 r h=>by unfold dE at h;exact sgo 46 [.tmp 6,.tmp 7,.tmp 8] Tryz.func385⟩
instance:bR 202 (∀p0 r (h:rH p0=some r),Sc 202 [aL enB p0] [rW 3 1 enI r]):=⟨λp0 r h=>by
 have i1:=inv λm s=>∃v4:Int,∃r7:List Int,∃u7:Nat,(s.t 0=vL enB p0/\s.t 3=vR 100007 u7/\s.t 4=vI v4/\s.h 100007=(u7,oW 3 1 enI r7))/\fU p0 m v4 r7=some r
 have e1:=@fU.eq_2
 unfold rH at h
 exact sgo 23 [.tmp 2] Tryz.func202⟩
instance:bR 113 (∀p0 p1 r (h:lI p0 p1=some r),Sc 113 [aL enB p0,aL enB p1] [rB r]):=⟨λp0 p1 r h=>by unfold lI at h;exact sgo 10 [.tmp 4] Tryz.func113⟩
instance:bR 348 (∀p0 p1 r (h:kF p0 p1=some r),Sc 348 [aX (M.aA.en p0),aX (M.Key.en p1)] [rI r]):=⟨λp0 p1 r h=>by
 have i1:=inv λm s=>∃v5:Int,(s.t 2=vP 2 1 0/\s.t 3=vP 3 1 0/\s.t 5=vI v5/\s.h 2=(1,oX 40 (M.aA.en p0))/\s.h 3=(1,oX 209 (M.Key.en p1)))/\kP p0 p1 m v5=some r
 have e1:=@kP.eq_2
 unfold kF at h
 exact sgo 22 [.tmp 4] Tryz.func348⟩
instance Ux:bR 197 (∀p0 r (h:uB p0=some r),Sc 197 [aX (M.Y7.en p0)] [(true,M.Y7.rs r)]):=⟨λp0 r h=>by unfold uB at h;exact sgo 11 [.cell 2 105] Tryz.func197⟩
instance:bR 230 (∀p0 r (h:uR p0=some r),Sc 230 [aX (M.Y6.en p0)] [(true,M.Y6.rs r)]):=⟨λp0 r h=>by
 have i1:=CO [.b 3 1 7050000 195 7] λm s=>∃v4:Int,∃aa:List M.Zb,∃ae:Nat,(s.t 1=vP 1 1 0/\s.t 2=vP 2 1 0/\s.t 3=vP 3 1 0/\s.t 4=vI v4/\s.h 1=(1,oX 193 (M.Y6.en p0))/\s.h 2=(1,oB 193 [cI 0,.nil])/\s.h 3=(1,oB 193 [cI p0.Y2,.row 7050000 ae])/\s.h 7050000=(ae,oW 195 7 M.Zb.en aa))/\kA p0 m v4 aa=some r
 have e1:=@kA.eq_2
 unfold uR at h
 exact sgo 36 [.cell 2 193] Tryz.func230⟩
instance SK:bR 133 (∀p0 r (h:cN p0=some r),Sc 133 [aX (M.aE.en p0)] [(true,M.aE.rs r)]):=⟨λp0 r h=>by
 have i1:=CO [.b 3 0 7050000 193 2] λm s=>∃v4:Int,∃aa:List M.Y6,∃ae:Nat,(s.t 1=vP 1 1 0/\s.t 2=vP 2 1 0/\s.t 3=vP 3 1 0/\s.t 4=vI v4/\s.h 1=(1,oX 31 (M.aE.en p0))/\s.h 2=(1,oB 31 [.nil])/\s.h 3=(1,oB 31 [.row 7050000 ae])/\s.h 7050000=(ae,oW 193 2 M.Y6.en aa))/\lW p0 m v4 aa=some r
 have e1:=@lW.eq_2
 unfold cN at h
 exact sgo 25 [.cell 2 31] Tryz.func133⟩
theorem YC(p0 p1 r)(h:tU p0 p1=some r):Sc 114 [aX (M.aE.en p0),aI p1] [rI r]:=by
 have i1:=inv λm s=>∃j:Int,(s.t 1=vI p1/\s.t 2=vP 2 1 0/\s.t 5=vI j/\s.h 2=(1,oX 31 (M.aE.en p0)))/\iP p0 p1 m j=some r
 have e1:=@iP.eq_2
 unfold tU at h
 exact sgo 22 [.tmp 4] Tryz.func114
instance:bR 294 (∀p0 p1 r (h:rO p0 p1=some r),Sc 294 [aX (M.Zk.en p0),aI p1] [rI r]):=⟨λp0 p1 r h=>by
 have i1:=inv λm s=>∃v5:Int,(s.t 1=vI p1/\s.t 2=vP 2 1 0/\s.t 5=vI v5/\s.h 2=(1,oX 137 (M.Zk.en p0)))/\oD p0 p1 m v5=some r
 have e1:=@oD.eq_2
 unfold rO at h
 exact sgo 27 [.tmp 4] Tryz.func294⟩
instance:bR 357 (∀p0 p1 p2 r (h:wC p0 p1 p2=some r),Sc 357 [aL M.aT.en p0,aI p1,aI p2] [rW 207 2 M.aT.en r]):=⟨λp0 p1 p2 r h=>by
 have i1:=inv λm s=>∃v8:Int,(s.t 0=vL M.aT.en p0/\s.t 1=vI p1/\s.t 2=vI p2/\s.t 7=vR 100009 2/\s.t 8=vI v8/\s.h 100009=(2,oW 207 2 M.aT.en p0))/\oF p0 p1 p2 m v8=some r
 have e1:=@oF.eq_2
 unfold wC at h
 exact sgo 60 [.tmp 6] Tryz.func357⟩
instance:bR 353 (∀p0 r (h:vJ p0=some r),Sc 353 [aX (M.aF.en p0)] [(true,M.aV.rs r.1),rB r.2]):=⟨λp0 r h=>by unfold vJ at h;exact sgo 13 [.cell 2 211,.tmp 3] Tryz.func353⟩
instance:bR 355 (∀p0 p1 r (h:fR p0 p1=some r),Sc 355 [aI p0,aI p1] [rI r]):=⟨λp0 p1 r h=>by unfold fR at h;exact sgo 10 [.tmp 4] Tryz.func355⟩
instance:bR 140 (∀p0 p1 r (h:mC p0 p1=some r),Sc 140 [aX (M.Y7.en p0),aX (M.Y7.en p1)] [rB r]):=⟨λp0 p1 r h=>by unfold mC at h;exact sgo 38 [.tmp 4] Tryz.func140⟩
instance:bR 61 (∀p0 p1 r (h:mE p0 p1=some r),Sc 61 [aX (M.aE.en p0),aX (M.aE.en p1)] [rB r]):=⟨λp0 p1 r h=>by
 have i1:=inv λm s=>∃v5:Int,(s.t 2=vP 2 1 0/\s.t 3=vP 3 1 0/\s.t 5=vI v5/\s.h 2=(1,oX 31 (M.aE.en p0))/\s.h 3=(1,oX 31 (M.aE.en p1)))/\fP p0 p1 m v5=some r
 have e1:=@fP.eq_2
 have i2:=λ(v5:Int) (x9:M.Y6) (ae:M.Y6) (af:Int->Option Bool) (s2:St)=>inv λm s=>∃aa:Int,(s.t 2=vP 2 1 0/\s.t 3=vP 3 1 0/\s.t 5=vI v5/\s.t 6=vP 6 ((s2.h 6).1+1) 0/\s.t 7=vP 7 ((s2.h 7).1+1) 0/\s.t 8=vI aa/\s.h 2=(1,oX 31 (M.aE.en p0))/\s.h 3=(1,oX 31 (M.aE.en p1))/\s.h 6=((s2.h 6).1+1,oX 193 (M.Y6.en x9))/\s.h 7=((s2.h 7).1+1,oX 193 (M.Y6.en ae)))/\eF x9 ae af m aa=some r
 have e2:=@eF.eq_2
 unfold mE at h
 exact sgo 98 [.tmp 4] Tryz.func61⟩
instance:bR 243 (∀p0 p1 r (h:oR p0 p1=some r),Sc 243 [aX (M.aC.en p0),aX (M.aC.en p1)] [rB r]):=⟨λp0 p1 r h=>by
 have i1:=inv λm s=>∃v5:Int,(s.t 2=vP 2 1 0/\s.t 3=vP 3 1 0/\s.t 5=vI v5/\s.h 2=(1,oX 254 (M.aC.en p0))/\s.h 3=(1,oX 254 (M.aC.en p1)))/\gZ p0 p1 m v5=some r
 have e1:=@gZ.eq_2
 unfold oR at h
 exact sgo 31 [.tmp 4] Tryz.func243⟩
instance:bR 142 (∀p0 p1 r (h:mT p0 p1=some r),Sc 142 [aX (M.aA.en p0),aX (M.aA.en p1)] [rB r]):=⟨λp0 p1 r h=>by
 have i1:=inv λm s=>∃v5:Int,(s.t 2=vP 2 1 0/\s.t 3=vP 3 1 0/\s.t 5=vI v5/\s.h 2=(1,oX 40 (M.aA.en p0))/\s.h 3=(1,oX 40 (M.aA.en p1)))/\jD p0 p1 m v5=some r
 have e1:=@jD.eq_2
 unfold mT at h
 exact sgo 63 [.tmp 4] Tryz.func142⟩
instance:bR 141 (∀p0 p1 r (h:mI p0 p1=some r),Sc 141 [aX (M.YY.en p0),aX (M.YY.en p1)] [rB r]):=⟨λp0 p1 r h=>by
 have i1:=inv λm s=>∃v5:Int,(s.t 2=vP 2 1 0/\s.t 3=vP 3 1 0/\s.t 5=vI v5/\s.h 2=(1,oX 35 (M.YY.en p0))/\s.h 3=(1,oX 35 (M.YY.en p1)))/\cV p0 p1 m v5=some r
 have e1:=@cV.eq_2
 have i2:=inv λm s=>∃v6:Int,(s.t 2=vP 2 1 0/\s.t 3=vP 3 1 0/\s.t 6=vI v6/\s.h 2=(1,oX 35 (M.YY.en p0))/\s.h 3=(1,oX 35 (M.YY.en p1)))/\cW p0 p1 m v6=some r
 have e2:=@cW.eq_2
 unfold mI at h
 exact sgo 74 [.tmp 4] Tryz.func141⟩
instance:bR 244 (∀p0 p1 r (h:nK p0 p1=some r),Sc 244 [aX (M.aF.en p0),aX (M.aF.en p1)] [rB r]):=⟨λp0 p1 r h=>by
 have i1:=inv λm s=>∃v5:Int,(s.t 2=vP 2 1 0/\s.t 3=vP 3 1 0/\s.t 5=vI v5/\s.h 2=(1,oX 43 (M.aF.en p0))/\s.h 3=(1,oX 43 (M.aF.en p1)))/\gE p0 p1 m v5=some r
 have e1:=@gE.eq_2
 unfold nK at h
 exact sgo 45 [.tmp 4] Tryz.func244⟩
instance:bR 143 (∀p0 p1 r (h:rR p0 p1=some r),Sc 143 [aX (M.Ze.en p0),aX (M.Ze.en p1)] [rB r]):=⟨λp0 p1 r h=>by unfold rR at h;exact sgo 24 [.tmp 4] Tryz.func143⟩
instance:bR 63 (∀p0 p1 r (h:nF p0 p1=some r),Sc 63 [aX (M.aD.en p0),aX (M.aD.en p1)] [rB r]):=⟨λp0 p1 r h=>by unfold nF at h;exact sgo 24 [.tmp 4] Tryz.func63⟩
end Go.Proofs.YtipmihbgjolaaaaGreat.gen
