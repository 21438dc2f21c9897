/-
  Helper text. No conditions.
-/
import Derived.Test.YtidhkhdnjonjfaaGreatBucketsTi
import Derived.Test.YtidhkhdnjonjfaaGreatBucketsWspec0
import Derived.Test.YtidhkhdnjonjfaaGreatBucketsWspec1
import Derived.Test.YtidhkhdnjonjfaaGreatBucketsWspec2
import Derived.Test.YtidhkhdnjonjfaaGreatBucketsWspec3
import Derived.Test.YtidhkhdnjonjfaaGreatBucketsWspec4
set_option linter.unusedVariables false
set_option linter.unusedSimpArgs false
namespace Go.Proofs.YtidhkhdnjonjfaaGreat.gen
open Go Go.Sh
open Go.IntKind (i64)
set_option maxRecDepth 20000
set_option maxHeartbeats 4000000
theorem aRa (p0 p1 r) (h:tB p0 p1=some r):Sc 307 [aX (M.aA.en p0),aS p1] [rW 227 4 M.Item.en r]:=by
 have i1:=aBx [.t 5 7050000 227 4] fun m s=>∃v6:Int,∃r50000:List M.Item,∃u50000:Nat,(s.t 1=vS p1∧s.t 2=vP 2 1 0∧s.t 5=vR 7050000 u50000∧s.t 6=vI v6∧s.h 2=(1,oX 37 (M.aA.en p0))∧s.h 7050000=(u50000,oW 227 4 M.Item.en r50000))∧gY p0 p1 m v6 r50000=some r
 have e1:=@gY.eq_2
 have i2:=fun (v6:Int) (r50000:List M.Item) (x15:M.Item) (k24:Int→Option (List M.Item)) (u50000:Nat)=>inv fun m s=>∃v9_L2:Int,(s.t 1=vS p1∧s.t 2=vP 2 1 0∧s.t 5=vR 7050000 u50000∧s.t 6=vI v6∧s.t 9=vI v9_L2∧s.h 2=(1,oX 37 (M.aA.en p0))∧s.h 7050000=(u50000,oW 227 4 M.Item.en r50000))∧jK p1 r50000 x15 k24 m v9_L2=some r
 have e2:=@jK.eq_2
 unfold tB at h
 exact sgo 72 [.tmp 4] Tryz.func307
instance:bP 307 (type_of% @aRa):=⟨@aRa⟩
theorem aPl (p0 r) (h:fX p0=some r):Sc 264 [(false,[.ptr [.sl (List.map enB p0.b),.int .i64 p0.i,.int .i64 p0.h]])] [(false,[.edit (.lend 199 [.int .i64 r.1,.int .i64 r.2.1])]),(true,M.aC.rs r.2.2)]:=by
 unfold fX at h
 simp only [EN]
 refine sgB 22 [.cell 2 148] Tryz.func264 fun base wd B0 u0 hw0 => ?_
 refine gB (J:=fun s=>s.t 0=vP 7059000 1 0∧s.h 7059000=(1,oB 199 [.old B0 (.sl (List.map enB p0.b)) (some u0),cI p0.i,cI p0.h])∧True) ?_ ?_
 ·refine ⟨?_,?_,trivial⟩<;>(try simp only [LN,List.map_cons,List.map_nil])<;>rfl
 rintro s1 ⟨f2,f3,_⟩
 have i1:=aBx [.b 3 0 7050000 267 2] fun m s=>∃v4:Int,∃w7059000_1:Int,∃w7059000_2:Int,∃r50000:List M.Field,∃u50000:Nat,(s.t 0=vP 7059000 1 0∧s.t 2=vP 2 ((s1.h 2).1+1) 0∧s.t 3=vP 3 ((s1.h 3).1+1) 0∧s.t 4=vI v4∧s.h 2=(((s1.h 2).1+1),oB 148 [.nil])∧s.h 3=(((s1.h 3).1+1),oB 148 [.row 7050000 u50000])∧s.h 7050000=(u50000,oW 267 2 M.Field.en r50000)∧s.h 7059000=(1,oB 199 [.old B0 (.sl (List.map enB p0.b)) (some u0),cI w7059000_1,cI w7059000_2]))∧iO p0 m v4 w7059000_1 w7059000_2 r50000=some r
 have e1:=@iO.eq_2
 exact sgX
instance:bP 264 (type_of% @aPl):=⟨@aPl⟩
theorem c36 (p0 r) (h:nQ p0=some r):Sc 36 [aX (M.bF.en p0)] [(true,M.bF.rs r)]:=by
 unfold nQ at h
 exact sgo 13 [.cell 2 34] Tryz.func36
instance:bP 36 (type_of% @c36):=⟨@c36⟩
theorem aSE (p0 r) (h:sS p0=some r):Sc 320 [aL enB p0] [rW 22 1 (enL enB) r.1,rI r.2]:=by
 have i1:=inv fun m s=>∃v5:Int,∃r12:List (List Int),∃u12:Nat,(s.t 0=vL enB p0∧s.t 4=vR 100012 u12∧s.t 5=vI v5∧s.h 100012=(u12,oW 22 1 (enL enB) r12))∧mA p0 m v5 r12=some r
 have e1:=@mA.eq_2
 unfold sS at h
 exact sgo 50 [.tmp 2,.tmp 3] Tryz.func320
instance:bP 320 (type_of% @aSE):=⟨@aSE⟩
theorem aR8 (p0 r) (h:jV p0=some r):Sc 487 [aL enB p0] [(true,M.aC.rs r.1),rB r.2]:=by
 unfold jV at h
 exact sgo 23 [.cell 2 148,.tmp 3] Tryz.func487
instance:bP 487 (type_of% @aR8):=⟨@aR8⟩
theorem aSm (p0 r) (h:mT p0=some r):Sc 383 [aL M.Op.en p0] [rW 5 1 enB r]:=by
 have i1:=aBx [.t 3 7050000 5 1] fun m s=>∃v4:Int,∃r50000:List Int,∃u50000:Nat,(s.t 0=vL M.Op.en p0∧s.t 3=vR 7050000 u50000∧s.t 4=vI v4∧s.h 7050000=(u50000,oW 5 1 enB r50000))∧jP p0 m v4 r50000=some r
 have e1:=@jP.eq_2
 unfold mT at h
 exact sgo 64 [.tmp 2] Tryz.func383
instance:bP 383 (type_of% @aSm):=⟨@aSm⟩
theorem aTD (p0 p1 p2 r) (h:cZ p0 p1 p2=some r):Sc 463 [aX (M.aA.en p0),aX (M.Key.en p1),aX (M.aC.en p2)] [(true,M.aA.rs r.1),rB r.2]:=by
 have i1:=fun (x16:M.aA)=>inv fun m s=>∃v10:Int,(s.t 3=vP 3 1 0∧s.t 4=vP 4 1 0∧s.t 5=vP 5 1 0∧s.t 6=vP 6 1 0∧s.t 8=vP 8 1 0∧s.t 10=vI v10∧s.h 3=(1,oX 37 (M.aA.en p0))∧s.h 4=(1,oX 225 (M.Key.en p1))∧s.h 5=(1,oX 148 (M.aC.en p2))∧s.h 6=(1,oB 37 [cS (⟨#[]⟩:ByteArray),.nil,cI 0])∧s.h 8=(1,oB 37 [cS x16.Name,.row 200028 1,cI x16.Auto])∧s.h 200028=(1,oW 227 4 M.Item.en x16.Items))∧jU p0 p1 p2 x16 m v10=some r
 have e1:=@jU.eq_2
 unfold cZ at h
 exact sgo 100 [.cell 6 37,.tmp 7] Tryz.func463
instance:bP 463 (type_of% @aTD):=⟨@aTD⟩
theorem aRI (p0 p1 r) (h:kT p0 p1=some r):Sc 517 [aX (M.aA.en p0),aX (M.eG.en p1)] [(true,M.aA.rs r.1),rI r.2]:=by
 have i1:=aBx [.b 6 1 7050000 227 4] fun m s=>∃v7:Int,∃r50000:List M.Item,∃u50000:Nat,(s.t 2=vP 2 1 0∧s.t 3=vP 3 1 0∧s.t 4=vP 4 1 0∧s.t 6=vP 6 1 0∧s.t 7=vI v7∧s.h 2=(1,oX 37 (M.aA.en p0))∧s.h 3=(1,oX 547 (M.eG.en p1))∧s.h 4=(1,oB 37 [cS (⟨#[]⟩:ByteArray),.nil,cI 0])∧s.h 6=(1,oB 37 [cS p0.Name,.row 7050000 u50000,cI p0.Auto])∧s.h 7050000=(u50000,oW 227 4 M.Item.en r50000))∧eU p0 p1 m v7 r50000=some r
 have e1:=@eU.eq_2
 unfold kT at h
 exact sgo 53 [.cell 4 37,.tmp 5] Tryz.func517
instance:bP 517 (type_of% @aRI):=⟨@aRI⟩
theorem aS7 (p0 p1 p2 p3 r) (h:eV p0 p1 p2 p3=some r):Sc 385 [aX (M.aG.en p0),aX (M.Key.en p1),aS p2,aI p3] [(true,M.aG.rs r.1),rB r.2]:=by
 unfold eV at h
 exact sgo 40 [.cell 8 40,.tmp 9] Tryz.func385
instance:bP 385 (type_of% @aS7):=⟨@aS7⟩
theorem aPp (p0 p1 r) (h:jD p0 p1=some r):Sc 147 [aX (M.aE.en p0),aI p1] [(true,M.aE.rs r.1),rB r.2]:=by
 have i1:=fun (x1:M.aE)=>inv fun m s=>∃v7:Int,(s.t 1=vI p1∧s.t 2=vP 2 1 0∧s.t 4=vP 4 1 0∧s.t 6=vP 6 1 0∧s.t 7=vI v7∧s.h 2=(1,oX 28 (M.aE.en p0))∧s.h 4=(1,oB 28 [.nil])∧s.h 6=(1,oB 28 [.row 100010 1])∧s.h 100010=(1,oW 212 2 M.Cache.en x1.Caches))∧gW p0 p1 x1 m v7=some r
 have e1:=@gW.eq_2
 unfold jD at h
 exact sgo 57 [.cell 4 28,.tmp 5] Tryz.func147
instance:bP 147 (type_of% @aPp):=⟨@aPp⟩
theorem aR6 (p0 r) (h:tV p0=some r):Sc 469 [(false,[.ptr [.sl (List.map enB p0.b),.int .i64 p0.i,.int .i64 p0.h]])] [(false,[.edit (.lend 199 [.int .i64 r.1,.int .i64 r.2.1])]),(true,M.Key.rs r.2.2)]:=by
 unfold tV at h
 simp only [EN]
 refine sgB 22 [.cell 2 225] Tryz.func469 fun base wd B0 u0 hw0 => ?_
 refine gB (J:=fun s=>s.t 0=vP 7059000 1 0∧s.h 7059000=(1,oB 199 [.old B0 (.sl (List.map enB p0.b)) (some u0),cI p0.i,cI p0.h])∧True) ?_ ?_
 ·refine ⟨?_,?_,trivial⟩<;>(try simp only [LN,List.map_cons,List.map_nil])<;>rfl
 rintro s1 ⟨f2,f3,_⟩
 exact sgX
instance:bP 469 (type_of% @aR6):=⟨@aR6⟩
theorem aRR (p0 r) (h:mK p0=some r):Sc 204 [aX (M.Server.en p0)] [rB r]:=by
 have i1:=inv fun m s=>∃v3:Int,(s.t 1=vP 1 1 0∧s.t 3=vI v3∧s.h 1=(1,oX 274 (M.Server.en p0)))∧eQ p0 m v3=some r
 have e1:=@eQ.eq_2
 have i2:=inv fun m s=>∃v4:Int,(s.t 1=vP 1 1 0∧s.t 4=vI v4∧s.h 1=(1,oX 274 (M.Server.en p0)))∧fR p0 m v4=some r
 have e2:=@fR.eq_2
 unfold mK at h
 exact sgo 79 [.tmp 2] Tryz.func204
instance:bP 204 (type_of% @aRR):=⟨@aRR⟩
theorem aSy (p0 p1 r) (h:cA p0 p1=some r):Sc 466 [aX (M.aG.en p0),aI p1] [(true,M.aG.rs r.1),rI r.2]:=by
 have i1:=fun (x1:M.aG)=>inv fun m s=>∃v7:Int,(s.t 1=vI p1∧s.t 2=vP 2 1 0∧s.t 4=vP 4 1 0∧s.t 6=vP 6 1 0∧s.t 7=vI v7∧s.h 2=(1,oX 40 (M.aG.en p0))∧s.h 4=(1,oB 40 [cI 0,cI 0,.nil])∧s.h 6=(1,oB 40 [cI x1.Device,cI x1.Next,.row 300009 1])∧s.h 300009=(1,oW 359 7 M.aT.en x1.Writes))∧jL p0 p1 x1 m v7=some r
 have e1:=@jL.eq_2
 unfold cA at h
 exact sgo 40 [.cell 4 40,.tmp 5] Tryz.func466
instance:bP 466 (type_of% @aSy):=⟨@aSy⟩
theorem c45 (p0 r) (h:uJ p0=some r):Sc 45 [(false,[.ptr [.sl (List.map enB p0.b),.int .i64 p0.i,.int .i64 p0.h]])] [(false,[.edit (.lend 199 [.int .i64 r.1,.int .i64 r.2.1])]),(true,M.Registration.rs r.2.2)]:=by
 unfold uJ at h
 simp only [EN]
 refine sgB 47 [.cell 2 25] Tryz.func45 fun base wd B0 u0 hw0 => ?_
 refine gB (J:=fun s=>s.t 0=vP 7059000 1 0∧s.h 7059000=(1,oB 199 [.old B0 (.sl (List.map enB p0.b)) (some u0),cI p0.i,cI p0.h])∧True) ?_ ?_
 ·refine ⟨?_,?_,trivial⟩<;>(try simp only [LN,List.map_cons,List.map_nil])<;>rfl
 rintro s1 ⟨f2,f3,_⟩
 refine sq (rn ?_)
 refine an (sq ?_)
 obtain ⟨x4,h5,h⟩:=bind_some h
 refine rn1 (aO8 _ _ h5) ?_
 refine an (sq ?_)
 refine cu (fun s=>s.t 0=vP 7059000 1 0∧s.t 2=vP 2 ((s1.h 2).1+1) 0∧s.t 3=vP 3 ((s1.h 3).1+1) 0∧s.h 2=(((s1.h 2).1+1),aJw)∧s.h 3=(((s1.h 3).1+1),oB 25 [cS x4.2.2,cI 0,cI 0,cI 0])∧s.h 7059000=(1,oB 199 [.old B0 (.sl (List.map enB p0.b)) (some u0),cI x4.1,cI x4.2.1])∧True) ?_
 rintro s6 ⟨f7,f8,f9,f10,f11,f12,_⟩
 refine rn ?_
 refine an ?_
 obtain ⟨x13,h14,h⟩:=bind_some h
 refine rV (fun s=>s.t 0=vP 7059000 1 0∧s.t 2=vP 2 ((s1.h 2).1+1) 0∧s.t 3=vP 3 ((s1.h 3).1+1) 0∧s.t 4=vI x13.1∧s.h 2=(((s1.h 2).1+1),aJw)∧s.h 3=(((s1.h 3).1+1),oB 25 [cS x4.2.2,cI 0,cI 0,cI x13.2.1])∧s.h 7059000=(1,oB 199 [.old B0 (.sl (List.map enB p0.b)) (some u0),cI x13.2.2.1,cI x13.2.2.2])∧True) ?_ ?_
 ·replace h:=h14
  clear h14
  refine sq ?_
  obtain ⟨x23,h24,h⟩:=bind_some h
  refine rn1 (c46 _ _ _ h24) ?_
  refine an ?_
  refine cu (fun s=>s.t 0=vP 7059000 1 0∧s.t 2=vP 2 ((s1.h 2).1+1) 0∧s.t 3=vP 3 ((s1.h 3).1+1) 0∧s.t 4=vI 0∧s.t 9=vB x23.2.2∧s.h 2=(((s1.h 2).1+1),aJw)∧s.h 3=(((s1.h 3).1+1),oB 25 [cS x4.2.2,cI 0,cI 0,cI 0])∧s.h 7059000=(1,oB 199 [.old B0 (.sl (List.map enB p0.b)) (some u0),cI x23.1,cI x23.2.1])∧True) ?_
  rintro s25 ⟨f26,f27,f28,f29,f30,f31,f32,f33,_⟩
  rcases wF x23.2.2 with b34 | b34
  ·replace h:=bY b34 h
   refine cf (sk ?_)
   cases h
   refine iB ⟨?_,?_,?_,?_,?_,?_,?_,trivial⟩<;>(try simp +decide only [F,reduceIte,Nat.reduceAdd,qB,qC,EN, *,-h])
  replace h:=cD b34 h
  refine ct (sq ?_)
  obtain ⟨x35,h36,h⟩:=bind_some h
  refine rn1 (aGI _ _ _ h36) ?_
  refine an ?_
  refine cu (fun s=>s.t 0=vP 7059000 1 0∧s.t 2=vP 2 ((s1.h 2).1+1) 0∧s.t 3=vP 3 ((s1.h 3).1+1) 0∧s.t 4=vI (i64.wrap ((i64.wrap (0+1))+x35.2.2))∧s.h 2=(((s1.h 2).1+1),aJw)∧s.h 3=(((s1.h 3).1+1),oB 25 [cS x4.2.2,cI 0,cI 0,cI 0])∧s.h 7059000=(1,oB 199 [.old B0 (.sl (List.map enB p0.b)) (some u0),cI x35.1,cI x35.2.1])∧True) ?_
  rintro s37 ⟨f38,f39,f40,f41,f42,f43,f44,_⟩
  refine rn ?_
  cases h
  refine iB ⟨?_,?_,?_,?_,?_,?_,?_,trivial⟩<;>(try simp +decide only [F,reduceIte,Nat.reduceAdd,qB,qC,EN, *,-h])
 clear h14
 rintro s15 ⟨f16,f17,f18,f19,f20,f21,f22,_⟩
 obtain ⟨x45,h46,h⟩:=bind_some h
 refine rV (fun s=>s.t 0=vP 7059000 1 0∧s.t 2=vP 2 ((s1.h 2).1+1) 0∧s.t 3=vP 3 ((s1.h 3).1+1) 0∧s.t 4=vI x45.1∧s.h 2=(((s1.h 2).1+1),aJw)∧s.h 3=(((s1.h 3).1+1),oB 25 [cS x4.2.2,cI 0,cI x45.2.1,cI x13.2.1])∧s.h 7059000=(1,oB 199 [.old B0 (.sl (List.map enB p0.b)) (some u0),cI x45.2.2.1,cI x45.2.2.2])∧True) ?_ ?_
 ·replace h:=h46
  clear h46
  refine sq ?_
  obtain ⟨x55,h56,h⟩:=bind_some h
  refine rn1 (c46 _ _ _ h56) ?_
  refine an ?_
  refine cu (fun s=>s.t 0=vP 7059000 1 0∧s.t 2=vP 2 ((s1.h 2).1+1) 0∧s.t 3=vP 3 ((s1.h 3).1+1) 0∧s.t 4=vI x13.1∧s.t 18=vB x55.2.2∧s.h 2=(((s1.h 2).1+1),aJw)∧s.h 3=(((s1.h 3).1+1),oB 25 [cS x4.2.2,cI 0,cI 0,cI x13.2.1])∧s.h 7059000=(1,oB 199 [.old B0 (.sl (List.map enB p0.b)) (some u0),cI x55.1,cI x55.2.1])∧True) ?_
  rintro s57 ⟨f58,f59,f60,f61,f62,f63,f64,f65,_⟩
  rcases wF x55.2.2 with b66 | b66
  ·replace h:=bY b66 h
   refine cf (sk ?_)
   cases h
   refine iB ⟨?_,?_,?_,?_,?_,?_,?_,trivial⟩<;>(try simp +decide only [F,reduceIte,Nat.reduceAdd,qB,qC,EN, *,-h])
  replace h:=cD b66 h
  refine ct (sq ?_)
  obtain ⟨x67,h68,h⟩:=bind_some h
  refine rn1 (aGI _ _ _ h68) ?_
  refine an ?_
  refine cu (fun s=>s.t 0=vP 7059000 1 0∧s.t 2=vP 2 ((s1.h 2).1+1) 0∧s.t 3=vP 3 ((s1.h 3).1+1) 0∧s.t 4=vI (i64.wrap ((i64.wrap (x13.1+1))+x67.2.2))∧s.h 2=(((s1.h 2).1+1),aJw)∧s.h 3=(((s1.h 3).1+1),oB 25 [cS x4.2.2,cI 0,cI 0,cI x13.2.1])∧s.h 7059000=(1,oB 199 [.old B0 (.sl (List.map enB p0.b)) (some u0),cI x67.1,cI x67.2.1])∧True) ?_
  rintro s69 ⟨f70,f71,f72,f73,f74,f75,f76,_⟩
  refine rn ?_
  cases h
  refine iB ⟨?_,?_,?_,?_,?_,?_,?_,trivial⟩<;>(try simp +decide only [F,reduceIte,Nat.reduceAdd,qB,qC,EN, *,-h])
 clear h46
 rintro s47 ⟨f48,f49,f50,f51,f52,f53,f54,_⟩
 obtain ⟨x77,h78,h⟩:=bind_some h
 refine rV (fun s=>s.t 0=vP 7059000 1 0∧s.t 2=vP 2 ((s1.h 2).1+1) 0∧s.t 3=vP 3 ((s1.h 3).1+1) 0∧s.h 2=(((s1.h 2).1+1),aJw)∧s.h 3=(((s1.h 3).1+1),oB 25 [cS x4.2.2,cI x77.1,cI x45.2.1,cI x13.2.1])∧s.h 7059000=(1,oB 199 [.old B0 (.sl (List.map enB p0.b)) (some u0),cI x77.2.1,cI x77.2.2])∧True) ?_ ?_
 ·replace h:=h78
  clear h78
  refine sq ?_
  obtain ⟨x86,h87,h⟩:=bind_some h
  refine rn1 (c46 _ _ _ h87) ?_
  refine an ?_
  refine cu (fun s=>s.t 0=vP 7059000 1 0∧s.t 2=vP 2 ((s1.h 2).1+1) 0∧s.t 3=vP 3 ((s1.h 3).1+1) 0∧s.t 4=vI x45.1∧s.t 27=vB x86.2.2∧s.h 2=(((s1.h 2).1+1),aJw)∧s.h 3=(((s1.h 3).1+1),oB 25 [cS x4.2.2,cI 0,cI x45.2.1,cI x13.2.1])∧s.h 7059000=(1,oB 199 [.old B0 (.sl (List.map enB p0.b)) (some u0),cI x86.1,cI x86.2.1])∧True) ?_
  rintro s88 ⟨f89,f90,f91,f92,f93,f94,f95,f96,_⟩
  rcases wF x86.2.2 with b97 | b97
  ·replace h:=bY b97 h
   refine cf (sk ?_)
   cases h
   refine iB ⟨?_,?_,?_,?_,?_,?_,trivial⟩<;>(try simp +decide only [F,reduceIte,Nat.reduceAdd,qB,qC,EN, *,-h])
  replace h:=cD b97 h
  refine ct (sq ?_)
  obtain ⟨x98,h99,h⟩:=bind_some h
  refine rn1 (aGI _ _ _ h99) ?_
  refine an ?_
  refine cu (fun s=>s.t 0=vP 7059000 1 0∧s.t 2=vP 2 ((s1.h 2).1+1) 0∧s.t 3=vP 3 ((s1.h 3).1+1) 0∧s.t 4=vI (i64.wrap ((i64.wrap (x45.1+1))+x98.2.2))∧s.h 2=(((s1.h 2).1+1),aJw)∧s.h 3=(((s1.h 3).1+1),oB 25 [cS x4.2.2,cI 0,cI x45.2.1,cI x13.2.1])∧s.h 7059000=(1,oB 199 [.old B0 (.sl (List.map enB p0.b)) (some u0),cI x98.1,cI x98.2.1])∧True) ?_
  rintro s100 ⟨f101,f102,f103,f104,f105,f106,f107,_⟩
  refine rn ?_
  cases h
  refine iB ⟨?_,?_,?_,?_,?_,?_,trivial⟩<;>(try simp +decide only [F,reduceIte,Nat.reduceAdd,qB,qC,EN, *,-h])
 clear h78
 rintro s79 ⟨f80,f81,f82,f83,f84,f85,_⟩
 obtain ⟨x108,h109,h⟩:=bind_some h
 refine rV (fun s=>s.t 0=vP 7059000 1 0∧s.t 2=vP 2 ((s1.h 2).1+1) 0∧s.t 3=vP 3 ((s1.h 3).1+1) 0∧s.h 2=(((s1.h 2).1+1),aJw)∧s.h 3=(((s1.h 3).1+1),oB 25 [cS x108.1,cI x77.1,cI x108.2.1,cI x13.2.1])∧s.h 7059000=(1,oB 199 [.old B0 (.sl (List.map enB p0.b)) (some u0),cI x108.2.2.1,cI x108.2.2.2])∧True) ?_ ?_
 ·replace h:=h109
  clear h109
  refine sq ?_
  obtain ⟨x117,h118,h⟩:=bind_some h
  refine rn1 (aGI _ _ _ h118) ?_
  refine an (bk (sq ?_))
  refine cu (fun s=>s.t 0=vP 7059000 1 0∧s.t 2=vP 2 ((s1.h 2).1+1) 0∧s.t 3=vP 3 ((s1.h 3).1+1) 0∧s.t 36=vI x117.2.2∧s.h 2=(((s1.h 2).1+1),aJw)∧s.h 3=(((s1.h 3).1+1),oB 25 [cS x4.2.2,cI x77.1,cI x45.2.1,cI x13.2.1])∧s.h 7059000=(1,oB 199 [.old B0 (.sl (List.map enB p0.b)) (some u0),cI x117.1,cI x117.2.1])∧True) ?_
  rintro s119 ⟨f120,f121,f122,f123,f124,f125,f126,_⟩
  refine rn ?_
  refine an ?_
  rcases lN (x117.2.2==0) with b127 | b127
  ·replace h:=cD b127 h
   refine ct (rn ?_)
   refine ab ?_
   cases h
   refine iB ⟨?_,?_,?_,?_,?_,?_,trivial⟩<;>(try simp +decide only [F,reduceIte,Nat.reduceAdd,qB,qC,EN, *,-h])
  replace h:=bY b127 h
  refine cf (sq (rn ?_))
  refine an ?_
  rcases wF (x117.2.2==1) with b128 | b128
  ·replace h:=bY b128 h
   refine cf (sk (ab ?_))
   cases h
   refine iB ⟨?_,?_,?_,?_,?_,?_,trivial⟩<;>(try simp +decide only [F,reduceIte,Nat.reduceAdd,qB,qC,EN, *,-h])
  replace h:=cD b128 h
  refine ct ?_
  obtain ⟨x129,h130,h⟩:=bind_some h
  refine rn1 (aOz _ _ _ h130) ?_
  refine ab ?_
  cases h
  refine iB ⟨?_,?_,?_,?_,?_,?_,trivial⟩<;>(try simp +decide only [F,reduceIte,Nat.reduceAdd,qB,qC,EN, *,-h])
 clear h109
 rintro s110 ⟨f111,f112,f113,f114,f115,f116,_⟩
 refine sq (rn ?_)
 refine an (rt ?_)
 cases h
 simp [aFF,Ret,TB,EN, *]
instance:bP 45 (type_of% @c45):=⟨@c45⟩
end Go.Proofs.YtidhkhdnjonjfaaGreat.gen
