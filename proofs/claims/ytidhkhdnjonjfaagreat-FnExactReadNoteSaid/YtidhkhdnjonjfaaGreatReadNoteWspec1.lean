/-
  Helper text. No conditions.
-/
import Derived.Test.YtidhkhdnjonjfaaGreatReadNoteTi
import Derived.Test.YtidhkhdnjonjfaaGreatReadNoteWspec0
set_option linter.unusedVariables false
set_option linter.unusedSimpArgs false
namespace Go.Proofs.YtidhkhdnjonjfaaGreat.gen
open Go Go.Sh
set_option maxRecDepth 20000
set_option maxHeartbeats 4000000
theorem aQr (p0 p1 r) (h:yE p0 p1=some r):Sc 516 [aL enB p0,aI p1] [(true,M.aA.rs r.1),rI r.2.1,rB r.2.2]:=by
 have i1:=fun (x1:(Int×Int×Bool))=>aHv [.b 10 0 7050000 267 2] fun m s=>∃v8:Int,∃v11:Int,∃r50000:List M.Field,∃u50000:Nat,(s.t 0=vL enB p0∧s.t 4=vP 4 1 0∧s.t 7=vI x1.1∧s.t 8=vI v8∧s.t 10=vP 10 1 0∧s.t 11=vI v11∧s.h 4=(1,oB 148 [.nil])∧s.h 10=(1,oB 148 [.row 7050000 u50000])∧s.h 7050000=(u50000,oW 267 2 M.Field.en r50000))∧iN p0 x1 m v8 v11 r50000=some r
 have e1:=@iN.eq_2
 unfold yE at h
 exact sgo 72 [.cell 4 148,.tmp 5,.tmp 6] Tryz.func516
instance:bC 516 (type_of% @aQr):=⟨@aQr⟩
theorem aPd (p0 r) (h:gS p0=some r):Sc 487 [aL enB p0] [(true,M.aA.rs r.1),rB r.2]:=by
 unfold gS at h
 exact sgo 23 [.cell 2 148,.tmp 3] Tryz.func487
instance:bC 487 (type_of% @aPd):=⟨@aPd⟩
theorem aQb (p0 p1 r) (h:vM p0 p1=some r):Sc 427 [aL enB p0,aI p1] [(true,M.Op.rs r.1),rI r.2.1,rB r.2.2]:=by
 unfold vM at h
 exact sgo 103 [.cell 4 332,.tmp 5,.tmp 6] Tryz.func427
instance:bC 427 (type_of% @aQb):=⟨@aQb⟩
theorem aOM (p0 p1 r) (h:bZ p0 p1=some r):Sc 273 [aL enB p0,aI p1] [rW 5 1 enB r]:=by
 have i1:=inv fun m s=>∃v1:Int,∃r6:List Int,∃u6:Nat,(s.t 1=vI v1∧s.t 5=vR 100006 u6∧s.h 100006=(u6,oW 5 1 enB r6))∧dG m v1 r6=some r
 have e1:=@dG.eq_2
 unfold bZ at h
 exact sgo 29 [.tmp 4] Tryz.func273
instance:bC 273 (type_of% @aOM):=⟨@aOM⟩
theorem aOA (p0 r) (h:xH p0=some r):Sc 462 [aX (M.Op.en p0)] [rB r]:=by
 unfold xH at h
 exact sgo 46 [.tmp 2] Tryz.func462
instance:bC 462 (type_of% @aOA):=⟨@aOA⟩
theorem aO7 (p0 p1 r) (h:bQ p0 p1=some r):Sc 274 [aL enB p0,aL enB p1] [rW 5 1 enB r]:=by
 unfold bQ at h
 exact sgo 11 [.tmp 4] Tryz.func274
instance:bC 274 (type_of% @aO7):=⟨@aO7⟩
theorem aQo (p0 r) (h:kB p0=some r):Sc 311 [aX (M.Key.en p0)] [rW 5 1 enB r]:=by
 have i1:=inv fun m s=>∃v4:Int,∃r12:List Int,∃u12:Nat,(s.t 1=vP 1 1 0∧s.t 3=vR 100012 u12∧s.t 4=vI v4∧s.h 1=(1,oX 225 (M.Key.en p0))∧s.h 100012=(u12,oW 5 1 enB r12))∧bX p0 m v4 r12=some r
 have e1:=@bX.eq_2
 unfold kB at h
 exact sgo 38 [.tmp 2] Tryz.func311
instance:bC 311 (type_of% @aQo):=⟨@aQo⟩
theorem aP6 (p0 r) (h:gT p0=some r):Sc 312 [aX (M.aA.en p0)] [rW 5 1 enB r]:=by
 have i1:=aHv [.t 3 7050000 5 1] fun m s=>∃v4:Int,∃r50000:List Int,∃u50000:Nat,(s.t 1=vP 1 1 0∧s.t 3=vR 7050000 u50000∧s.t 4=vI v4∧s.h 1=(1,oX 148 (M.aA.en p0))∧s.h 7050000=(u50000,oW 5 1 enB r50000))∧dN p0 m v4 r50000=some r
 have e1:=@dN.eq_2
 unfold gT at h
 exact sgo 38 [.tmp 2] Tryz.func312
instance:bC 312 (type_of% @aP6):=⟨@aP6⟩
theorem aQL (p0 r) (h:nI p0=some r):Sc 383 [aL M.Op.en p0] [rW 5 1 enB r]:=by
 have i1:=aHv [.t 3 7050000 5 1] fun m s=>∃v4:Int,∃r50000:List Int,∃u50000:Nat,(s.t 0=vL M.Op.en p0∧s.t 3=vR 7050000 u50000∧s.t 4=vI v4∧s.h 7050000=(u50000,oW 5 1 enB r50000))∧gL p0 m v4 r50000=some r
 have e1:=@gL.eq_2
 unfold nI at h
 exact sgo 64 [.tmp 2] Tryz.func383
instance:bC 383 (type_of% @aQL):=⟨@aQL⟩
theorem aOb (p0 p1 r) (h:mB p0 p1=some r):Sc 428 [aL enB p0,aL enB p1] [rB r]:=by
 unfold mB at h
 exact sgo 10 [.tmp 4] Tryz.func428
instance:bC 428 (type_of% @aOb):=⟨@aOb⟩
theorem aPM (p0 r) (h:jZ p0=some r):Sc 321 [aL enB p0] [rW 332 7 M.Op.en r.1,rB r.2]:=by
 have i1:=fun (x1:(Int×Int×Bool))=>inv fun m s=>∃v5:Int,∃v8:Int,∃r25:List M.Op,∃u25:Nat,(s.t 0=vL enB p0∧s.t 4=vI x1.1∧s.t 5=vI v5∧s.t 7=vR 100025 u25∧s.t 8=vI v8∧s.h 100025=(u25,oW 332 7 M.Op.en r25))∧eU p0 x1 m v5 v8 r25=some r
 have e1:=@eU.eq_2
 unfold jZ at h
 exact sgo 53 [.tmp 2,.tmp 3] Tryz.func321
instance:bC 321 (type_of% @aPM):=⟨@aPM⟩
theorem aPe (p0 p1 r) (h:sB p0 p1=some r):Sc 417 [aB p0,aB p1] [rI r]:=by
 unfold sB at h
 exact sgo 7 [.tmp 4] Tryz.func417
instance:bC 417 (type_of% @aPe):=⟨@aPe⟩
theorem aQv (p0 p1 r) (h:aW p0 p1=some r):Sc 306 [aX (M.Key.en p0),aX (M.Key.en p1)] [rI r]:=by
 unfold aW at h
 exact sgo 46 [.tmp 4] Tryz.func306
instance:bC 306 (type_of% @aQv):=⟨@aQv⟩
theorem aQn (p0 r) (h:lN p0=some r):Sc 159 [aX (M.aC.en p0)] [rB r]:=by
 have i1:=inv fun m s=>∃v3:Int,(s.t 1=vP 1 1 0∧s.t 3=vI v3∧s.h 1=(1,oX 37 (M.aC.en p0)))∧eD p0 m v3=some r
 have e1:=@eD.eq_2
 unfold lN at h
 exact sgo 64 [.tmp 2] Tryz.func159
instance:bC 159 (type_of% @aQn):=⟨@aQn⟩
theorem aOr (p0 p1 r) (h:fR p0 p1=some r):Sc 160 [aX (M.Database.en p0),aS p1] [rI r]:=by
 have i1:=inv fun m s=>∃v5:Int,(s.t 1=vS p1∧s.t 2=vP 2 1 0∧s.t 5=vI v5∧s.h 2=(1,oX 32 (M.Database.en p0)))∧eV p0 p1 m v5=some r
 have e1:=@eV.eq_2
 unfold fR at h
 exact sgo 22 [.tmp 4] Tryz.func160
instance:bC 160 (type_of% @aOr):=⟨@aOr⟩
theorem c72 (p0 p1 r) (h:dU p0 p1=some r):Sc 72 [aX (M.aA.en p0),aS p1] [rI r.1,rB r.2]:=by
 have i1:=inv fun m s=>∃v6:Int,(s.t 1=vS p1∧s.t 2=vP 2 1 0∧s.t 6=vI v6∧s.h 2=(1,oX 148 (M.aA.en p0)))∧iB p0 p1 m v6=some r
 have e1:=@iB.eq_2
 unfold dU at h
 exact sgo 28 [.tmp 4,.tmp 5] Tryz.func72
instance:bC 72 (type_of% @c72):=⟨@c72⟩
theorem aOJ (p0 p1 p2 r) (h:wR p0 p1 p2=some r):Sc 418 [aX (M.Item.en p0),aX (M.Item.en p1),aS p2] [rB r]:=by
 unfold wR at h
 exact sgo 41 [.tmp 6] Tryz.func418
instance:bC 418 (type_of% @aOJ):=⟨@aOJ⟩
theorem aOw (p0 p1 r) (h:uB p0 p1=some r):Sc 307 [aX (M.aC.en p0),aS p1] [rW 227 4 M.Item.en r]:=by
 have i1:=aHv [.t 5 7050000 227 4] fun m s=>∃v6:Int,∃r50000:List M.Item,∃u50000:Nat,(s.t 1=vS p1∧s.t 2=vP 2 1 0∧s.t 5=vR 7050000 u50000∧s.t 6=vI v6∧s.h 2=(1,oX 37 (M.aC.en p0))∧s.h 7050000=(u50000,oW 227 4 M.Item.en r50000))∧fA p0 p1 m v6 r50000=some r
 have e1:=@fA.eq_2
 have i2:=fun (v6:Int) (r50000:List M.Item) (x15:M.Item) (k24:Int→Option (List M.Item)) (u50000:Nat)=>inv fun m s=>∃v9_L2:Int,(s.t 1=vS p1∧s.t 2=vP 2 1 0∧s.t 5=vR 7050000 u50000∧s.t 6=vI v6∧s.t 9=vI v9_L2∧s.h 2=(1,oX 37 (M.aC.en p0))∧s.h 7050000=(u50000,oW 227 4 M.Item.en r50000))∧fZ p1 r50000 x15 k24 m v9_L2=some r
 have e2:=@fZ.eq_2
 unfold uB at h
 exact sgo 72 [.tmp 4] Tryz.func307
instance:bC 307 (type_of% @aOw):=⟨@aOw⟩
end Go.Proofs.YtidhkhdnjonjfaaGreat.gen
