/-
  Helper text. No conditions.
-/
import Derived.Test.YtidhkhdnjonjfaaGreatReadNoteTi
set_option linter.unusedVariables false
set_option linter.unusedSimpArgs false
namespace Go.Proofs.YtidhkhdnjonjfaaGreat.gen
open Go Go.Sh
set_option maxRecDepth 20000
set_option maxHeartbeats 4000000
theorem c70 (p0 p1 p2 r) (h:mM p0 p1 p2=some r):Sc 70 [aX (M.aM.en p0),aS p1,aS p2] [rI r]:=by
 have i1:=inv fun m s=>∃v7:Int,(s.t 1=vS p1∧s.t 2=vS p2∧s.t 3=vP 3 1 0∧s.t 7=vI v7∧s.h 3=(1,oX 85 (M.aM.en p0)))∧dK p0 p1 p2 m v7=some r
 have e1:=@dK.eq_2
 unfold mM at h
 exact sgo 34 [.tmp 6] Tryz.func70
instance:bC 70 (type_of% @c70):=⟨@c70⟩
theorem aPY (p0 r) (h:bK p0=some r):Sc 177 [aX (M.aA.en p0)] [(true,M.aA.rs r)]:=by
 unfold bK at h
 exact sgo 8 [.cell 2 148] Tryz.func177
instance:bC 177 (type_of% @aPY):=⟨@aPY⟩
theorem aPb (p0 r) (h:mY p0=some r):Sc 405 [aX (M.Item.en p0)] [(true,M.Item.rs r)]:=by
 unfold mY at h
 exact sgo 9 [.cell 2 227] Tryz.func405
instance:bC 405 (type_of% @aPb):=⟨@aPb⟩
theorem aPT (p0 r) (h:eB p0=some r):Sc 278 [aX (M.aC.en p0)] [(true,M.aC.rs r)]:=by
 have i1:=aHv [.b 3 1 7050000 227 4] fun m s=>∃v4:Int,∃r50000:List M.Item,∃u50000:Nat,(s.t 1=vP 1 1 0∧s.t 2=vP 2 1 0∧s.t 3=vP 3 1 0∧s.t 4=vI v4∧s.h 1=(1,oX 37 (M.aC.en p0))∧s.h 2=(1,oB 37 [cS (⟨#[]⟩:ByteArray),.nil,cI 0])∧s.h 3=(1,oB 37 [cS p0.Name,.row 7050000 u50000,cI p0.Auto])∧s.h 7050000=(u50000,oW 227 4 M.Item.en r50000))∧iP p0 m v4 r50000=some r
 have e1:=@iP.eq_2
 unfold eB at h
 exact sgo 29 [.cell 2 37] Tryz.func278
instance:bC 278 (type_of% @aPT):=⟨@aPT⟩
theorem aQN (p0 r) (h:gU p0=some r):Sc 134 [aX (M.Database.en p0)] [(true,M.Database.rs r)]:=by
 have i1:=aHv [.b 3 2 7050000 37 3] fun m s=>∃v4:Int,∃r50000:List M.aC,∃u50000:Nat,(s.t 1=vP 1 1 0∧s.t 2=vP 2 1 0∧s.t 3=vP 3 1 0∧s.t 4=vI v4∧s.h 1=(1,oX 32 (M.Database.en p0))∧s.h 2=(1,aJh)∧s.h 3=(1,oB 32 [cS p0.Name,cI p0.Version,.row 7050000 u50000,.row 100009 2])∧s.h 100009=(2,oW 239 2 M.aE.en p0.Unique)∧s.h 7050000=(u50000,oW 37 3 M.aC.en r50000))∧iQ p0 m v4 r50000=some r
 have e1:=@iQ.eq_2
 unfold gU at h
 exact sgo 33 [.cell 2 32] Tryz.func134
instance:bC 134 (type_of% @aQN):=⟨@aQN⟩
theorem aPX (p0 p1 r) (h:cY p0 p1=some r):Sc 426 [aL enB p0,aI p1] [rI r.1,rI r.2.1,rB r.2.2]:=by
 have i1:=inv fun m s=>∃v7:Int,∃v8:Int,(s.t 0=vL enB p0∧s.t 1=vI p1∧s.t 7=vI v7∧s.t 8=vI v8)∧cG p0 p1 m v7 v8=some r
 have e1:=@cG.eq_2
 unfold cY at h
 exact sgo 55 [.tmp 4,.tmp 5,.tmp 6] Tryz.func426
instance:bC 426 (type_of% @aPX):=⟨@aPX⟩
theorem aQ6 (p0 p1 p2 r) (h:cE p0 p1 p2=some r):Sc 425 [aL enB p0,aI p1,aI p2] [rW 5 1 enB r.1,rI r.2.1,rB r.2.2]:=by
 unfold cE at h
 exact sgo 46 [.tmp 6,.tmp 7,.tmp 8] Tryz.func425
instance:bC 425 (type_of% @aQ6):=⟨@aQ6⟩
theorem aQx (p0 r) (h:lH p0=some r):Sc 402 [aL enB p0] [rW 3 1 enI r]:=by
 have i1:=inv fun m s=>∃v4:Int,∃r7:List Int,∃u7:Nat,(s.t 0=vL enB p0∧s.t 3=vR 100007 u7∧s.t 4=vI v4∧s.h 100007=(u7,oW 3 1 enI r7))∧dR p0 m v4 r7=some r
 have e1:=@dR.eq_2
 unfold lH at h
 exact sgo 23 [.tmp 2] Tryz.func402
instance:bC 402 (type_of% @aQx):=⟨@aQx⟩
theorem c60 (p0 p1 p2 r) (h:dW p0 p1 p2=some r):Sc 60 [aI p0,aI p1,aI p2] [rB r]:=by
 unfold dW at h
 exact sgo 15 [.tmp 6] Tryz.func60
instance:bC 60 (type_of% @c60):=⟨@c60⟩
theorem aOm (p0 p1 r) (h:zM p0 p1=some r):Sc 473 [aI p0,aI p1] [rI r]:=by
 unfold zM at h
 exact sgo 15 [.tmp 4] Tryz.func473
instance:bC 473 (type_of% @aOm):=⟨@aOm⟩
theorem aPD (p0 r) (h:yS p0=some r):Sc 401 [aL enI p0] [rI r]:=by
 have i1:=inv fun m s=>∃v3:Int,∃v4:Int,(s.t 0=vL enI p0∧s.t 3=vI v3∧s.t 4=vI v4)∧lL p0 m v3 v4=some r
 have e1:=@lL.eq_2
 unfold yS at h
 exact sgo 22 [.tmp 2] Tryz.func401
instance:bC 401 (type_of% @aPD):=⟨@aPD⟩
theorem aQP (p0 p1 r) (h:pP p0 p1=some r):Sc 275 [aI p0,aL enB p1] [rI r]:=by
 unfold pP at h
 exact sgo 11 [.tmp 4] Tryz.func275
instance:bC 275 (type_of% @aQP):=⟨@aQP⟩
theorem aPj (p0 r) (h:tE p0=some r):Sc 320 [aL enB p0] [rW 22 1 (enL enB) r.1,rI r.2]:=by
 have i1:=inv fun m s=>∃v5:Int,∃r12:List (List Int),∃u12:Nat,(s.t 0=vL enB p0∧s.t 4=vR 100012 u12∧s.t 5=vI v5∧s.h 100012=(u12,oW 22 1 (enL enB) r12))∧jK p0 m v5 r12=some r
 have e1:=@jK.eq_2
 unfold tE at h
 exact sgo 50 [.tmp 2,.tmp 3] Tryz.func320
instance:bC 320 (type_of% @aPj):=⟨@aPj⟩
theorem aQM (p0 r) (h:sA p0=some r):Sc 416 [aS p0] [rB r]:=by
 have i1:=inv fun m s=>∃v3:Int,(s.t 0=vS p0∧s.t 3=vI v3)∧dY p0 m v3=some r
 have e1:=@dY.eq_2
 unfold sA at h
 exact sgo 35 [.tmp 2] Tryz.func416
instance:bC 416 (type_of% @aQM):=⟨@aQM⟩
theorem aOV (p0 r) (h:dI p0=some r):Sc 304 [aX (M.Key.en p0)] [rB r]:=by
 unfold dI at h
 exact sgo 36 [.tmp 2] Tryz.func304
instance:bC 304 (type_of% @aOV):=⟨@aOV⟩
theorem aO8 (p0 r) (h:kA p0=some r):Sc 486 [aL enB p0] [(true,M.Key.rs r.1),rB r.2]:=by
 have i1:=fun (x2:Int)=>inv fun m s=>∃v6:Int,∃v7:Int,(s.t 0=vL enB p0∧s.t 2=vP 2 1 0∧s.t 4=vP 4 1 0∧s.t 6=vI v6∧s.t 7=vI v7∧s.h 2=(1,oB 225 [cI 0,cI 0,cS (⟨#[]⟩:ByteArray)])∧s.h 4=(1,oB 225 [cI (IntKind.i64.wrap x2),cI 0,cS (⟨#[]⟩:ByteArray)]))∧eR p0 x2 m v6 v7=some r
 have e1:=@eR.eq_2
 unfold kA at h
 exact sgo 49 [.cell 2 225,.tmp 3] Tryz.func486
instance:bC 486 (type_of% @aO8):=⟨@aO8⟩
theorem c55 (p0 r) (h:fL p0=some r):Sc 55 [aS p0] [rB r]:=by
 have i1:=inv fun m s=>∃v3:Int,(s.t 0=vS p0∧s.t 3=vI v3)∧fT p0 m v3=some r
 have e1:=@fT.eq_2
 unfold fL at h
 exact sgo 23 [.tmp 2] Tryz.func55
instance:bC 55 (type_of% @c55):=⟨@c55⟩
theorem aOk (p0 r) (h:bB p0=some r):Sc 305 [aX (M.aA.en p0)] [rB r]:=by
 have i1:=inv fun m s=>∃v3:Int,(s.t 1=vP 1 1 0∧s.t 3=vI v3∧s.h 1=(1,oX 148 (M.aA.en p0)))∧dP p0 m v3=some r
 have e1:=@dP.eq_2
 unfold bB at h
 exact sgo 53 [.tmp 2] Tryz.func305
instance:bC 305 (type_of% @aOk):=⟨@aOk⟩
end Go.Proofs.YtidhkhdnjonjfaaGreat.gen
