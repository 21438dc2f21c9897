/-
  Helper text. No conditions.
-/
import Derived.Test.YtidhkhdnjonjfaaGreatBucketsTi
import Derived.Test.YtidhkhdnjonjfaaGreatBucketsWspec0
import Derived.Test.YtidhkhdnjonjfaaGreatBucketsWspec1
import Derived.Test.YtidhkhdnjonjfaaGreatBucketsWspec2
set_option linter.unusedVariables false
set_option linter.unusedSimpArgs false
namespace Go.Proofs.YtidhkhdnjonjfaaGreat.gen
open Go Go.Sh
set_option maxRecDepth 20000
set_option maxHeartbeats 4000000
theorem aSh (p0 r) (h:eW p0=some r):Sc 162 [aX (M.aG.en p0)] [rB r]:=by
 have i1:=inv fun m s=>∃v4:Int,(s.t 1=vP 1 1 0∧s.t 3=vI (List.length p0.Writes:Int)∧s.t 4=vI v4∧s.h 1=(1,oX 40 (M.aG.en p0)))∧iJ p0 m v4=some r
 have e1:=@iJ.eq_2
 unfold eW at h
 exact sgo 60 [.tmp 2] Tryz.func162
instance:bP 162 (type_of% @aSh):=⟨@aSh⟩
theorem aQ8 (p0 p1 p2 r) (h:uN p0 p1 p2=some r):Sc 418 [aX (M.Item.en p0),aX (M.Item.en p1),aS p2] [rB r]:=by
 unfold uN at h
 exact sgo 41 [.tmp 6] Tryz.func418
instance:bP 418 (type_of% @aQ8):=⟨@aQ8⟩
theorem aST (p0 r) (h:eB p0=some r):Sc 312 [aX (M.aC.en p0)] [rW 5 1 enB r]:=by
 have i1:=aBx [.t 3 7050000 5 1] fun m s=>∃v4:Int,∃r50000:List Int,∃u50000:Nat,(s.t 1=vP 1 1 0∧s.t 3=vR 7050000 u50000∧s.t 4=vI v4∧s.h 1=(1,oX 148 (M.aC.en p0))∧s.h 7050000=(u50000,oW 5 1 enB r50000))∧bW p0 m v4 r50000=some r
 have e1:=@bW.eq_2
 unfold eB at h
 exact sgo 38 [.tmp 2] Tryz.func312
instance:bP 312 (type_of% @aST):=⟨@aST⟩
theorem aOb (p0 r) (h:dG p0=some r):Sc 134 [aX (M.Database.en p0)] [(true,M.Database.rs r)]:=by
 have i1:=aBx [.b 3 2 7050000 37 3] fun m s=>∃v4:Int,∃r50000:List M.aA,∃u50000:Nat,(s.t 1=vP 1 1 0∧s.t 2=vP 2 1 0∧s.t 3=vP 3 1 0∧s.t 4=vI v4∧s.h 1=(1,oX 32 (M.Database.en p0))∧s.h 2=(1,aEy)∧s.h 3=(1,oB 32 [cS p0.Name,cI p0.Version,.row 7050000 u50000,.row 100009 2])∧s.h 100009=(2,oW 239 2 M.aH.en p0.Unique)∧s.h 7050000=(u50000,oW 37 3 M.aA.en r50000))∧lA p0 m v4 r50000=some r
 have e1:=@lA.eq_2
 unfold dG at h
 exact sgo 33 [.cell 2 32] Tryz.func134
instance:bP 134 (type_of% @aOb):=⟨@aOb⟩
theorem aS8 (p0 p1 r) (h:wT p0 p1=some r):Sc 516 [aL enB p0,aI p1] [(true,M.aC.rs r.1),rI r.2.1,rB r.2.2]:=by
 have i1:=fun (x1:(Int×Int×Bool))=>aBx [.b 10 0 7050000 267 2] fun m s=>∃v8:Int,∃v11:Int,∃r50000:List M.Field,∃u50000:Nat,(s.t 0=vL enB p0∧s.t 4=vP 4 1 0∧s.t 7=vI x1.1∧s.t 8=vI v8∧s.t 10=vP 10 1 0∧s.t 11=vI v11∧s.h 4=(1,oB 148 [.nil])∧s.h 10=(1,oB 148 [.row 7050000 u50000])∧s.h 7050000=(u50000,oW 267 2 M.Field.en r50000))∧kY p0 x1 m v8 v11 r50000=some r
 have e1:=@kY.eq_2
 unfold wT at h
 exact sgo 72 [.cell 4 148,.tmp 5,.tmp 6] Tryz.func516
instance:bP 516 (type_of% @aS8):=⟨@aS8⟩
theorem aQ2 (p0 r) (h:uT p0=some r):Sc 462 [aX (M.Op.en p0)] [rB r]:=by
 unfold uT at h
 exact sgo 46 [.tmp 2] Tryz.func462
instance:bP 462 (type_of% @aQ2):=⟨@aQ2⟩
theorem aSQ (p0 p1 r) (h:pN p0 p1=some r):Sc 539 [aX (M.Key.en p0),aX (M.eG.en p1)] [rB r]:=by
 unfold pN at h
 exact sgo 50 [.tmp 4] Tryz.func539
instance:bP 539 (type_of% @aSQ):=⟨@aSQ⟩
theorem aSI (p0 r) (h:sY p0=some r):Sc 292 [(false,[.ptr [.sl (List.map enB p0.b),.int .i64 p0.i,.int .i64 p0.h]])] [(false,[.edit (.lend 199 [.int .i64 r.1,.int .i64 r.2.1])]),rS r.2.2]:=by
 unfold sY at h
 simp only [EN]
 refine sgB 6 [.tmp 2] Tryz.func292 fun base wd B0 u0 hw0 => ?_
 refine gB (J:=fun s=>s.t 0=vP 7059000 1 0∧s.h 7059000=(1,oB 199 [.old B0 (.sl (List.map enB p0.b)) (some u0),cI p0.i,cI p0.h])∧True) ?_ ?_
 ·refine ⟨?_,?_,trivial⟩<;>(try simp only [LN,List.map_cons,List.map_nil])<;>rfl
 rintro s1 ⟨f2,f3,_⟩
 exact sgX
instance:bP 292 (type_of% @aSI):=⟨@aSI⟩
theorem aQu (p0 r) (h:kO p0=some r):Sc 146 [(false,[.ptr [.sl (List.map enB p0.b),.int .i64 p0.i,.int .i64 p0.h]])] [(false,[.edit (.lend 199 [.int .i64 r.1,.int .i64 r.2.1])]),(true,M.Response.rs r.2.2)]:=by
 unfold kO at h
 simp only [EN]
 refine sgB 40 [.cell 2 219] Tryz.func146 fun base wd B0 u0 hw0 => ?_
 refine gB (J:=fun s=>s.t 0=vP 7059000 1 0∧s.h 7059000=(1,oB 199 [.old B0 (.sl (List.map enB p0.b)) (some u0),cI p0.i,cI p0.h])∧True) ?_ ?_
 ·refine ⟨?_,?_,trivial⟩<;>(try simp only [LN,List.map_cons,List.map_nil])<;>rfl
 rintro s1 ⟨f2,f3,_⟩
 exact sgX
instance:bP 146 (type_of% @aQu):=⟨@aQu⟩
theorem aRY (p0 r) (h:oH p0=some r):Sc 508 [(false,[.ptr [.sl (List.map enB p0.b),.int .i64 p0.i,.int .i64 p0.h]])] [(false,[.edit (.lend 199 [.int .i64 r.1,.int .i64 r.2.1])]),rI r.2.2]:=by
 unfold oH at h
 simp only [EN]
 refine sgB 8 [.tmp 2] Tryz.func508 fun base wd B0 u0 hw0 => ?_
 refine gB (J:=fun s=>s.t 0=vP 7059000 1 0∧s.h 7059000=(1,oB 199 [.old B0 (.sl (List.map enB p0.b)) (some u0),cI p0.i,cI p0.h])∧True) ?_ ?_
 ·refine ⟨?_,?_,trivial⟩<;>(try simp only [LN,List.map_cons,List.map_nil])<;>rfl
 rintro s1 ⟨f2,f3,_⟩
 exact sgX
instance:bP 508 (type_of% @aRY):=⟨@aRY⟩
theorem aP7 (p0 p1 r) (h:zT p0 p1=some r):Sc 472 [aX (M.Database.en p0),aS p1] [(true,M.Database.rs r)]:=by
 have i1:=aBx [.b 5 2 7050000 37 3] fun m s=>∃v6:Int,∃r50000:List M.aA,∃u50000:Nat,(s.t 1=vS p1∧s.t 2=vP 2 1 0∧s.t 4=vP 4 1 0∧s.t 5=vP 5 1 0∧s.t 6=vI v6∧s.h 2=(1,oX 32 (M.Database.en p0))∧s.h 4=(1,aEy)∧s.h 5=(1,oB 32 [cS p0.Name,cI p0.Version,.row 7050000 u50000,.nil])∧s.h 7050000=(u50000,oW 37 3 M.aA.en r50000))∧pR p0 p1 m v6 r50000=some r
 have e1:=@pR.eq_2
 have i2:=fun (r50000:List M.aA) (u50000:Nat)=>aBx [.b 5 3 7050100 239 2] fun m s=>∃v7:Int,∃r50100:List M.aH,∃u50100:Nat,(s.t 1=vS p1∧s.t 2=vP 2 1 0∧s.t 4=vP 4 1 0∧s.t 5=vP 5 1 0∧s.t 7=vI v7∧s.h 2=(1,oX 32 (M.Database.en p0))∧s.h 4=(1,aEy)∧s.h 5=(1,oB 32 [cS p0.Name,cI p0.Version,.row 7050000 u50000,.row 7050100 u50100])∧s.h 7050000=(u50000,oW 37 3 M.aA.en r50000)∧s.h 7050100=(u50100,oW 239 2 M.aH.en r50100))∧pJ p0 p1 r50000 m v7 r50100=some r
 have e2:=@pJ.eq_2
 unfold zT at h
 exact sgo 65 [.cell 4 32] Tryz.func472
instance:bP 472 (type_of% @aP7):=⟨@aP7⟩
theorem aSc (p0 r) (h:iE p0=some r):Sc 213 [aX (M.Server.en p0)] [(true,M.Server.rs r)]:=by
 unfold iE at h
 exact sgo 15 [.cell 2 274] Tryz.func213
instance:bP 213 (type_of% @aSc):=⟨@aSc⟩
end Go.Proofs.YtidhkhdnjonjfaaGreat.gen
