/-
  Helper text. No conditions.
-/
import Derived.Test.YtidhkhdnjonjfaaGreatReadNoteTi
import Derived.Test.YtidhkhdnjonjfaaGreatReadNoteWspec0
import Derived.Test.YtidhkhdnjonjfaaGreatReadNoteWspec1
set_option linter.unusedVariables false
set_option linter.unusedSimpArgs false
namespace Go.Proofs.YtidhkhdnjonjfaaGreat.gen
open Go Go.Sh
set_option maxRecDepth 20000
set_option maxHeartbeats 4000000
theorem aOG (p0 p1 r) (h:kP p0 p1=some r):Sc 161 [aX (M.aC.en p0),aS p1] [(true,M.Key.rs r.1),(true,M.Key.rs r.2.1),rB r.2.2]:=by
 have i1:=fun (x1:(List M.Item))=>inv fun m s=>∃v8:Int,(s.t 1=vS p1∧s.t 4=vP 4 1 0∧s.t 5=vP 5 1 0∧s.t 7=vR 100015 1∧s.t 8=vI v8∧s.h 4=(1,oB 225 [cI 0,cI 0,cS (⟨#[]⟩:ByteArray)])∧s.h 5=(1,oB 225 [cI 0,cI 0,cS (⟨#[]⟩:ByteArray)])∧s.h 100015=(1,oW 227 4 M.Item.en x1))∧fC p1 x1 m v8=some r
 have e1:=@fC.eq_2
 unfold kP at h
 exact sgo 59 [.cell 4 225,.cell 5 225,.tmp 6] Tryz.func161
instance:bC 161 (type_of% @aOG):=⟨@aOG⟩
theorem c58 (p0 r) (h:gD p0=some r):Sc 58 [aX (M.Database.en p0)] [rB r]:=by
 have i1:=inv fun m s=>∃v3:Int,(s.t 1=vP 1 1 0∧s.t 3=vI v3∧s.h 1=(1,oX 32 (M.Database.en p0)))∧cT p0 m v3=some r
 have e1:=@cT.eq_2
 have i2:=inv fun m s=>∃v4:Int,(s.t 1=vP 1 1 0∧s.t 4=vI v4∧s.h 1=(1,oX 32 (M.Database.en p0)))∧cU p0 m v4=some r
 have e2:=@cU.eq_2
 have i3:=fun (v4:Int) (x26:M.aE) (k46:Int→Option Bool)=>inv fun m s=>∃v9_L3:Int,(s.t 1=vP 1 1 0∧s.t 4=vI v4∧s.t 9=vI v9_L3∧s.h 1=(1,oX 32 (M.Database.en p0)))∧dJ p0 v4 x26 k46 m v9_L3=some r
 have e3:=@dJ.eq_2
 unfold gD at h
 exact sgo 124 [.tmp 2] Tryz.func58
instance:bC 58 (type_of% @c58):=⟨@c58⟩
theorem aOL (p0 p1 r) (h:eM p0 p1=some r):Sc 175 [aX (M.aC.en p0),aX (M.Key.en p1)] [rI r]:=by
 have i1:=inv fun m s=>∃v5:Int,(s.t 2=vP 2 1 0∧s.t 3=vP 3 1 0∧s.t 5=vI v5∧s.h 2=(1,oX 37 (M.aC.en p0))∧s.h 3=(1,oX 225 (M.Key.en p1)))∧fN p0 p1 m v5=some r
 have e1:=@fN.eq_2
 unfold eM at h
 exact sgo 22 [.tmp 4] Tryz.func175
instance:bC 175 (type_of% @aOL):=⟨@aOL⟩
theorem aQw (p0 p1 p2 r) (h:iW p0 p1 p2=some r):Sc 463 [aX (M.aC.en p0),aX (M.Key.en p1),aX (M.aA.en p2)] [(true,M.aC.rs r.1),rB r.2]:=by
 have i1:=fun (x16:M.aC)=>inv fun m s=>∃v10:Int,(s.t 3=vP 3 1 0∧s.t 4=vP 4 1 0∧s.t 5=vP 5 1 0∧s.t 6=vP 6 1 0∧s.t 8=vP 8 1 0∧s.t 10=vI v10∧s.h 3=(1,oX 37 (M.aC.en p0))∧s.h 4=(1,oX 225 (M.Key.en p1))∧s.h 5=(1,oX 148 (M.aA.en p2))∧s.h 6=(1,oB 37 [cS (⟨#[]⟩:ByteArray),.nil,cI 0])∧s.h 8=(1,oB 37 [cS x16.Name,.row 200028 1,cI x16.Auto])∧s.h 200028=(1,oW 227 4 M.Item.en x16.Items))∧gR p0 p1 p2 x16 m v10=some r
 have e1:=@gR.eq_2
 unfold iW at h
 exact sgo 100 [.cell 6 37,.tmp 7] Tryz.func463
instance:bC 463 (type_of% @aQw):=⟨@aQw⟩
theorem aPs (p0 p1 p2 r) (h:tQ p0 p1 p2=some r):Sc 470 [aX (M.aC.en p0),aX (M.Key.en p1),aX (M.aA.en p2)] [(true,M.aC.rs r.1),rB r.2]:=by
 unfold tQ at h
 exact sgo 20 [.cell 6 37,.tmp 7] Tryz.func470
instance:bC 470 (type_of% @aPs):=⟨@aPs⟩
theorem aP3 (p0 p1 r) (h:oA p0 p1=some r):Sc 539 [aX (M.Key.en p0),aX (M.bU.en p1)] [rB r]:=by
 unfold oA at h
 exact sgo 50 [.tmp 4] Tryz.func539
instance:bC 539 (type_of% @aP3):=⟨@aP3⟩
theorem aOX (p0 p1 r) (h:iL p0 p1=some r):Sc 517 [aX (M.aC.en p0),aX (M.bU.en p1)] [(true,M.aC.rs r.1),rI r.2]:=by
 have i1:=aHv [.b 6 1 7050000 227 4] fun m s=>∃v7:Int,∃r50000:List M.Item,∃u50000:Nat,(s.t 2=vP 2 1 0∧s.t 3=vP 3 1 0∧s.t 4=vP 4 1 0∧s.t 6=vP 6 1 0∧s.t 7=vI v7∧s.h 2=(1,oX 37 (M.aC.en p0))∧s.h 3=(1,oX 547 (M.bU.en p1))∧s.h 4=(1,oB 37 [cS (⟨#[]⟩:ByteArray),.nil,cI 0])∧s.h 6=(1,oB 37 [cS p0.Name,.row 7050000 u50000,cI p0.Auto])∧s.h 7050000=(u50000,oW 227 4 M.Item.en r50000))∧dS p0 p1 m v7 r50000=some r
 have e1:=@dS.eq_2
 unfold iL at h
 exact sgo 53 [.cell 4 37,.tmp 5] Tryz.func517
instance:bC 517 (type_of% @aOX):=⟨@aOX⟩
theorem aQR (p0 p1 p2 r) (h:mP p0 p1 p2=some r):Sc 384 [aX (M.aA.en p0),aS p1,aI p2] [(true,M.aA.rs r.1),rB r.2]:=by
 have i1:=fun (x1:M.aA)=>inv fun m s=>∃v9:Int,(s.t 1=vS p1∧s.t 2=vI p2∧s.t 3=vP 3 1 0∧s.t 6=vP 6 1 0∧s.t 8=vP 8 1 0∧s.t 9=vI v9∧s.h 3=(1,oX 148 (M.aA.en p0))∧s.h 6=(1,oB 148 [.nil])∧s.h 8=(1,oB 148 [.row 100011 1])∧s.h 100011=(1,oW 267 2 M.Field.en x1.Fields))∧fG p0 p1 p2 x1 m v9=some r
 have e1:=@fG.eq_2
 unfold mP at h
 exact sgo 78 [.cell 6 148,.tmp 7] Tryz.func384
instance:bC 384 (type_of% @aQR):=⟨@aQR⟩
theorem aPU (p0 p1 p2 r) (h:xR p0 p1 p2=some r):Sc 518 [aX (M.aC.en p0),aX (M.Key.en p1),aS p2] [(true,M.aC.rs r.1),rI r.2.1,rB r.2.2]:=by
 unfold xR at h
 exact sgo 57 [.cell 6 37,.tmp 7,.tmp 8] Tryz.func518
instance:bC 518 (type_of% @aPU):=⟨@aPU⟩
theorem aQD (p0 p1 r) (h:uA p0 p1=some r):Sc 488 [aX (M.aC.en p0),aX (M.Op.en p1)] [(true,M.aC.rs r.1),rI r.2.1,rB r.2.2]:=by
 unfold uA at h
 exact sgo 97 [.cell 4 37,.tmp 5,.tmp 6] Tryz.func488
instance:bC 488 (type_of% @aQD):=⟨@aQD⟩
theorem aQC (p0 p1 r) (h:uX p0 p1=some r):Sc 429 [aX (M.Database.en p0),aX (M.Op.en p1)] [(true,M.Database.rs r.1),rI r.2.1,rB r.2.2]:=by
 unfold uX at h
 exact sgo 58 [.cell 4 32,.tmp 5,.tmp 6] Tryz.func429
instance:bC 429 (type_of% @aQC):=⟨@aQC⟩
theorem aPw (p0 p1 r) (h:sS p0 p1=some r):Sc 322 [aX (M.Database.en p0),aL M.Op.en p1] [(true,M.Database.rs r.1),rW 3 1 enI r.2.1,rB r.2.2]:=by
 have i1:=aHv [.b 7 2 7050000 37 3,.b 7 3 7050001 239 2] fun m s=>∃v9:Int,∃w7_0:ByteArray,∃w7_1:Int,∃r15:List Int,∃r50000:List M.aC,∃r50001:List M.aE,∃u15:Nat,∃u50000:Nat,∃u50001:Nat,(s.t 1=vL M.Op.en p1∧s.t 2=vP 2 1 0∧s.t 4=vP 4 1 0∧s.t 7=vP 7 1 0∧s.t 8=vR 100015 u15∧s.t 9=vI v9∧s.h 2=(1,oX 32 (M.Database.en p0))∧s.h 4=(1,aJh)∧s.h 7=(1,oB 32 [cS w7_0,cI w7_1,.row 7050000 u50000,.row 7050001 u50001])∧s.h 100015=(u15,oW 3 1 enI r15)∧s.h 7050000=(u50000,oW 37 3 M.aC.en r50000)∧s.h 7050001=(u50001,oW 239 2 M.aE.en r50001))∧kC p0 p1 m v9 w7_0 w7_1 r15 r50000 r50001=some r
 have e1:=@kC.eq_2
 unfold sS at h
 exact sgo 54 [.cell 4 32,.tmp 5,.tmp 6] Tryz.func322
instance:bC 322 (type_of% @aPw):=⟨@aPw⟩
theorem aOE (p0 r) (h:pZ p0=some r):Sc 174 [aX (M.fQ.en p0)] [(true,M.Database.rs r.1),rI r.2]:=by
 have i1:=fun (x3:((List (List Int))×Int))=>aHv [.b 4 2 7050000 37 3,.b 4 3 7050001 239 2] fun m s=>∃v7:Int,∃w4_0:ByteArray,∃w4_1:Int,∃r50000:List M.aC,∃r50001:List M.aE,∃u50000:Nat,∃u50001:Nat,(s.t 2=vP 2 1 0∧s.t 4=vP 4 1 0∧s.t 5=vR 100019 1∧s.t 7=vI v7∧s.h 2=(1,aJh)∧s.h 4=(1,oB 32 [cS w4_0,cI w4_1,.row 7050000 u50000,.row 7050001 u50001])∧s.h 100019=(1,oW 22 1 (enL enB) x3.1)∧s.h 7050000=(u50000,oW 37 3 M.aC.en r50000)∧s.h 7050001=(u50001,oW 239 2 M.aE.en r50001))∧iI x3 m v7 w4_0 w4_1 r50000 r50001=some r
 have e1:=@iI.eq_2
 unfold pZ at h
 exact sgo 51 [.cell 2 32,.tmp 3] Tryz.func174
instance:bC 174 (type_of% @aOE):=⟨@aOE⟩
theorem aQz (p0 r) (h:yF p0=some r):Sc 176 [aI p0] [(true,M.Key.rs r)]:=by
 unfold yF at h
 exact sgo 5 [.cell 2 225] Tryz.func176
instance:bC 176 (type_of% @aQz):=⟨@aQz⟩
theorem c71 (p0 p1 r) (h:oJ p0 p1=some r):Sc 71 [aX (M.Bucket.en p0),aI p1] [(true,M.aA.rs r.1),rB r.2]:=by
 unfold oJ at h
 exact sgo 43 [.cell 4 148,.tmp 5] Tryz.func71
instance:bC 71 (type_of% @c71):=⟨@c71⟩
theorem c73 (p0 p1 r) (h:aA0 p0 p1=some r):Sc 73 [aI p0,aI p1] [rI r]:=by
 unfold aA0 at h
 exact sgo 10 [.tmp 4] Tryz.func73
instance:bC 73 (type_of% @c73):=⟨@c73⟩
theorem c21 (p0 p1 p2 p3 r) (h:pT p0 p1 p2 p3=some r):Sc 21 [aX (M.World.en p0),aX (M.gX.en p1),aI p2,aS p3] [rI r]:=by
 unfold pT at h
 exact sgo 44 [.tmp 8] Tryz.func21
instance:bC 21 (type_of% @c21):=⟨@c21⟩
end Go.Proofs.YtidhkhdnjonjfaaGreat.gen
