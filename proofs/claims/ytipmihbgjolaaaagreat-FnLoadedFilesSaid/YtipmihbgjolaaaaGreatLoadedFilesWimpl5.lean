/-
  Helper text. No conditions.
-/
import Derived.Test.YtipmihbgjolaaaaGreatLoadedFilesTi
import Derived.Test.YtipmihbgjolaaaaGreatLoadedFilesWimpl0
import Derived.Test.YtipmihbgjolaaaaGreatLoadedFilesWimpl1
import Derived.Test.YtipmihbgjolaaaaGreatLoadedFilesWimpl2
import Derived.Test.YtipmihbgjolaaaaGreatLoadedFilesWimpl3
import Derived.Test.YtipmihbgjolaaaaGreatLoadedFilesWimpl4
set_option linter.unusedVariables false
set_option linter.unusedSimpArgs false
namespace Go.Proofs.YtipmihbgjolaaaaGreat.gen
open Go Go.Sh
set_option maxRecDepth 20000
set_option maxHeartbeats 4000000
theorem aDW (p0 r) (h:sX p0=some r):Sc 127 [aX (M.aE.en p0)] [(true,M.aE.rs r)]:=by
 have i1:=DV [.b 3 0 7050100 193 2] λm s=>∃aj:Int,∃ah:List M.aFE,∃aa:Nat,(s.t 2=vP 2 1 0/\s.t 3=vP 3 1 0/\s.t 11=vL M.aFE.en p0.aE6/\s.t 12=vI (List.length p0.aE6:Int)/\s.t 13=vI aj/\s.h 2=(1,oB 31 [.nil])/\s.h 3=(1,oB 31 [.row 7050100 aa])/\s.h 7050100=(aa,oW 193 2 M.aFE.en ah))/\eG p0 m aj ah=some r
 have e1:=@eG.eq_2
 have i2:=λ(aj:Int) (ah:List M.aFE) (ak:M.aFE) (al:Int->List M.aFL->Option M.aE) (s1:St) (aa:Nat)=>DV [.b 6 1 7050000 195 7] λm s=>∃ai:Int,∃ae:List M.aFL,∃af:Nat,(s.t 2=vP 2 1 0/\s.t 3=vP 3 1 0/\s.t 6=vP 6 ((s1.h 6).1+1) 0/\s.t 11=vL M.aFE.en p0.aE6/\s.t 12=vI (List.length p0.aE6:Int)/\s.t 13=vI aj/\s.t 21=vL M.aFL.en ak.aFK/\s.t 22=vI (List.length ak.aFK:Int)/\s.t 23=vI ai/\s.h 2=(1,oB 31 [.nil])/\s.h 3=(1,oB 31 [.row 7050100 aa])/\s.h 6=(((s1.h 6).1+1),oB 193 [cI ak.aE3,.row 7050000 af])/\s.h 7050000=(af,oW 195 7 M.aFL.en ae)/\s.h 7050100=(aa,oW 193 2 M.aFE.en ah))/\gL ak al m ai ae=some r
 have e2:=@gL.eq_2
 unfold sX at h
 exact sgo 46 [.cell 2 31] Tryz.func127
instance:bH 127 (type_of% @aDW):=⟨@aDW⟩
theorem aAf (p0 r) (h:pZ p0=some r):Sc 223 [aX (M.aC.en p0)] [(true,M.aC.rs r)]:=by
 have i1:=DV [.b 3 1 7050000 284 4] λm s=>∃af:Int,∃aa:List M.aFP,∃ae:Nat,(s.t 2=vP 2 1 0/\s.t 3=vP 3 1 0/\s.t 12=vL M.aFP.en p0.aE7/\s.t 13=vI (List.length p0.aE7:Int)/\s.t 14=vI af/\s.h 2=(1,oB 40 [cS (⟨#[]⟩:ByteArray),.nil,cI 0])/\s.h 3=(1,oB 40 [cS p0.Name,.row 7050000 ae,cI p0.aFZ])/\s.h 7050000=(ae,oW 284 4 M.aFP.en aa))/\kP p0 m af aa=some r
 have e1:=@kP.eq_2
 unfold pZ at h
 exact sgo 27 [.cell 2 40] Tryz.func223
instance:bH 223 (type_of% @aAf):=⟨@aAf⟩
theorem aBU (p0 r) (h:xP p0=some r):Sc 168 [aL M.bC.en p0] [rW 96 11 M.bC.en r]:=by
 have i1:=inv λm s=>∃v9:Int,∃r6:List M.bC,∃u6:Nat,(s.t 3=vR 100006 u6/\s.t 7=vL M.bC.en p0/\s.t 8=vI (List.length p0:Int)/\s.t 9=vI v9/\s.h 100006=(u6,oW 96 11 M.bC.en r6))/\kV p0 m v9 r6=some r
 have e1:=@kV.eq_2
 unfold xP at h
 exact sgo 20 [.tmp 2] Tryz.func168
instance:bH 168 (type_of% @aBU):=⟨@aBU⟩
theorem Zu (p0 r) (h:cJ p0=some r):Sc 150 [aS p0] [rB r]:=by unfold cJ at h;exact sgo 5 [.tmp 2] Tryz.func150
instance:bH 150 (type_of% @Zu):=⟨@Zu⟩
theorem aDC (p0 p1 r) (h:pF p0 p1=some r):Sc 252 [aX (M.Key.en p0),aX (M.Key.en p1)] [rI r]:=by unfold pF at h;exact sgo 36 [.tmp 4] Tryz.func252
instance:bH 252 (type_of% @aDC):=⟨@aDC⟩
theorem aDU (p0 p1 r) (h:mI p0 p1=some r):Sc 365 [aX (M.aD.en p0),aS p1] [rI r.1,rB r.2]:=by unfold mI at h;exact sgo 18 [.tmp 4,.tmp 5] Tryz.func365
instance:bH 365 (type_of% @aDU):=⟨@aDU⟩
theorem aBu (p0 r) (h:xZ p0=some r):Sc 247 [aX (M.Key.en p0)] [rW 5 1 enB r]:=by
 have i1:=inv λm s=>∃v4:Int,∃aa:List Int,∃ae:Nat,(s.t 1=vP 1 1 0/\s.t 3=vR 100012 ae/\s.t 4=vI v4/\s.h 1=(1,oX 209 (M.Key.en p0))/\s.h 100012=(ae,oW 5 1 enB aa))/\fT p0 m v4 aa=some r
 have e1:=@fT.eq_2
 unfold xZ at h
 exact sgo 34 [.tmp 2] Tryz.func247
instance:bH 247 (type_of% @aBu):=⟨@aBu⟩
theorem aDD (p0 p1 r) (h:uX p0 p1=some r):Sc 324 [aL enB p0,aL enB p1] [rW 5 1 enB r]:=by unfold uX at h;exact sgo 11 [.tmp 4] Tryz.func324
instance:bH 324 (type_of% @aDD):=⟨@aDD⟩
theorem aCo (p0 r) (h:wE p0=some r):Sc 149 [aS p0] [rB r]:=by unfold wE at h;exact sgo 5 [.tmp 2] Tryz.func149
instance:bH 149 (type_of% @aCo):=⟨@aCo⟩
theorem aBs (p0 p1 p2 r) (h:A9 p0 p1 p2=some r):Sc 173 [aX (M.World.en p0),aS p1,aS p2] [(true,M.aJ.ra r.1),rB r.2]:=by unfold A9 at h;exact sgo 23 [.cell 6 49,.tmp 7] Tryz.func173
instance:bH 173 (type_of% @aBs):=⟨@aBs⟩
theorem aDY (p0 p1 r) (h:Cs p0 p1=some r):Sc 176 [aX (M.World.en p0),aS p1] [(true,M.aFD.ra r)]:=by unfold Cs at h;exact sgo 23 [.cell 4 85] Tryz.func176
instance:bH 176 (type_of% @aDY):=⟨@aDY⟩
theorem aBS (p0 p1 p2 p3 r) (h:xC p0 p1 p2 p3=some r):Sc 108 [aX (M.aE.en p0),aI p1,aS p2,aS p3] [(true,M.aE9.rs r.1),rB r.2]:=by unfold xC at h;exact sgo 40 [.cell 8 105,.tmp 9] Tryz.func108
instance:bH 108 (type_of% @aBS):=⟨@aBS⟩
theorem aCx (p0 p1 r) (h:Ay p0 p1=some r):Sc 337 [aX (M.aFD.en p0),aS p1] [rB r]:=by unfold Ay at h;exact sgo 9 [.tmp 4] Tryz.func337
instance:bH 337 (type_of% @aCx):=⟨@aCx⟩
theorem aAY (p0 r) (h:CM p0=some r):Sc 273 [aL enI p0] [rI r]:=by
 have i1:=inv λm s=>∃v3:Int,∃v8:Int,(s.t 3=vI v3/\s.t 6=vL enI p0/\s.t 7=vI (List.length p0:Int)/\s.t 8=vI v8)/\vW p0 m v3 v8=some r
 have e1:=@vW.eq_2
 unfold CM at h
 exact sgo 21 [.tmp 2] Tryz.func273
instance:bH 273 (type_of% @aAY):=⟨@aAY⟩
theorem aB0 (p0 p1 r) (h:oT p0 p1=some r):Sc 371 [aX (M.aE9.en p0),aX (M.aE9.en p1)] [rB r]:=by unfold oT at h;exact sgo 38 [.tmp 4] Tryz.func371
instance:bH 371 (type_of% @aB0):=⟨@aB0⟩
theorem aEz (p0 p1 r) (h:sI p0 p1=some r):Sc 263 [aX (M.aFP.en p0),aX (M.aFP.en p1)] [rB r]:=by unfold sI at h;exact sgo 17 [.tmp 4] Tryz.func263
theorem aAg (p0 p1 r) (h:xB p0 p1=some r):Sc 242 [aX (M.aFS.en p0),aX (M.aFS.en p1)] [rB r]:=by unfold xB at h;exact sgo 24 [.tmp 4] Tryz.func242
instance:bH 242 (type_of% @aAg):=⟨@aAg⟩
theorem c90 (p0 p1 r) (h:gC p0 p1=some r):Sc 90 [aX (M.bC.en p0),aX (M.bC.en p1)] [rB r]:=by unfold gC at h;exact sgo 45 [.tmp 4] Tryz.func90
theorem c34 (p0 p1 p2 r) (h:At p0 p1 p2=some r):Sc 34 [aX (M.World.en p0),aS p1,aS p2] [rW 96 11 M.bC.en r]:=by
 have i1:=inv λm s=>∃aa:Int,∃ae:List M.bC,∃af:Nat,(s.t 1=vS p1/\s.t 2=vS p2/\s.t 7=vR 100010 af/\s.t 12=vL M.bC.en p0.aFF/\s.t 13=vI (List.length p0.aFF:Int)/\s.t 14=vI aa/\s.h 100010=(af,oW 96 11 M.bC.en ae))/\iP p0 p1 p2 m aa ae=some r
 have e1:=@iP.eq_2
 unfold At at h
 exact sgo 35 [.tmp 6] Tryz.func34
end Go.Proofs.YtipmihbgjolaaaaGreat.gen
