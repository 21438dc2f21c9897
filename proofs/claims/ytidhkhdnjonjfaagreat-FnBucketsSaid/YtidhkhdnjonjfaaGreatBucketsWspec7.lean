/-
  Helper text. No conditions.
-/
import Derived.Test.YtidhkhdnjonjfaaGreatBucketsTi
import Derived.Test.YtidhkhdnjonjfaaGreatBucketsWspec0
import Derived.Test.YtidhkhdnjonjfaaGreatBucketsWspec1
import Derived.Test.YtidhkhdnjonjfaaGreatBucketsWspec2
import Derived.Test.YtidhkhdnjonjfaaGreatBucketsWspec3
import Derived.Test.YtidhkhdnjonjfaaGreatBucketsWspec4
import Derived.Test.YtidhkhdnjonjfaaGreatBucketsWspec5
import Derived.Test.YtidhkhdnjonjfaaGreatBucketsWspec6
set_option linter.unusedVariables false
set_option linter.unusedSimpArgs false
namespace Go.Proofs.YtidhkhdnjonjfaaGreat.gen
open Go Go.Sh
set_option maxRecDepth 20000
set_option maxHeartbeats 4000000
theorem aQ6 (p0 p1 r) (h:nA p0 p1=some r):Sc 161 [aX (M.aA.en p0),aS p1] [(true,M.Key.rs r.1),(true,M.Key.rs r.2.1),rB r.2.2]:=by
 have i1:=fun (x1:(List M.Item))=>inv fun m s=>∃v8:Int,(s.t 1=vS p1∧s.t 4=vP 4 1 0∧s.t 5=vP 5 1 0∧s.t 7=vR 100015 1∧s.t 8=vI v8∧s.h 4=(1,oB 225 [cI 0,cI 0,cS (⟨#[]⟩:ByteArray)])∧s.h 5=(1,oB 225 [cI 0,cI 0,cS (⟨#[]⟩:ByteArray)])∧s.h 100015=(1,oW 227 4 M.Item.en x1))∧hP p1 x1 m v8=some r
 have e1:=@hP.eq_2
 unfold nA at h
 exact sgo 59 [.cell 4 225,.cell 5 225,.tmp 6] Tryz.func161
instance:bP 161 (type_of% @aQ6):=⟨@aQ6⟩
theorem aTO (p0 r) (h:mJ p0=some r):Sc 310 [aX (M.Database.en p0)] [rI r]:=by
 have i1:=inv fun m s=>∃v3:Int,∃v4:Int,(s.t 1=vP 1 1 0∧s.t 3=vI v3∧s.t 4=vI v4∧s.h 1=(1,oX 32 (M.Database.en p0)))∧eN p0 m v3 v4=some r
 have e1:=@eN.eq_2
 unfold mJ at h
 exact sgo 21 [.tmp 2] Tryz.func310
instance:bP 310 (type_of% @aTO):=⟨@aTO⟩
theorem aSv (p0 p1 r) (h:tX p0 p1=some r):Sc 427 [aL enB p0,aI p1] [(true,M.Op.rs r.1),rI r.2.1,rB r.2.2]:=by
 unfold tX at h
 exact sgo 103 [.cell 4 332,.tmp 5,.tmp 6] Tryz.func427
instance:bP 427 (type_of% @aSv):=⟨@aSv⟩
theorem aSK (p0 p1 p2 r) (h:pW p0 p1 p2=some r):Sc 470 [aX (M.aA.en p0),aX (M.Key.en p1),aX (M.aC.en p2)] [(true,M.aA.rs r.1),rB r.2]:=by
 unfold pW at h
 exact sgo 20 [.cell 6 37,.tmp 7] Tryz.func470
instance:bP 470 (type_of% @aSK):=⟨@aSK⟩
theorem aRu (p0 p1 p2 r) (h:vM p0 p1 p2=some r):Sc 518 [aX (M.aA.en p0),aX (M.Key.en p1),aS p2] [(true,M.aA.rs r.1),rI r.2.1,rB r.2.2]:=by
 unfold vM at h
 exact sgo 57 [.cell 6 37,.tmp 7,.tmp 8] Tryz.func518
instance:bP 518 (type_of% @aRu):=⟨@aRu⟩
theorem aRo (p0 p1 r) (h:gI p0 p1=some r):Sc 386 [aX (M.aA.en p0),aX (M.aT.en p1)] [(true,M.aA.rs r.1),rB r.2]:=by
 unfold gI at h
 exact sgo 43 [.cell 4 37,.tmp 5] Tryz.func386
instance:bP 386 (type_of% @aRo):=⟨@aRo⟩
theorem aQb (p0 r) (h:uB p0=some r):Sc 145 [(false,[.ptr [.sl (List.map enB p0.b),.int .i64 p0.i,.int .i64 p0.h]])] [(false,[.edit (.lend 199 [.int .i64 r.1,.int .i64 r.2.1])]),(true,M.aE.rs r.2.2)]:=by
 unfold uB at h
 simp only [EN]
 refine sgB 42 [.cell 2 28] Tryz.func145 fun base wd B0 u0 hw0 => ?_
 refine gB (J:=fun s=>s.t 0=vP 7059000 1 0∧s.h 7059000=(1,oB 199 [.old B0 (.sl (List.map enB p0.b)) (some u0),cI p0.i,cI p0.h])∧True) ?_ ?_
 ·refine ⟨?_,?_,trivial⟩<;>(try simp only [LN,List.map_cons,List.map_nil])<;>rfl
 rintro s1 ⟨f2,f3,_⟩
 have i1:=aBx [.b 3 0 7050000 212 2] fun m s=>∃v4:Int,∃w7059000_1:Int,∃w7059000_2:Int,∃r50000:List M.Cache,∃u50000:Nat,(s.t 0=vP 7059000 1 0∧s.t 2=vP 2 ((s1.h 2).1+1) 0∧s.t 3=vP 3 ((s1.h 3).1+1) 0∧s.t 4=vI v4∧s.h 2=(((s1.h 2).1+1),oB 28 [.nil])∧s.h 3=(((s1.h 3).1+1),oB 28 [.row 7050000 u50000])∧s.h 7050000=(u50000,oW 212 2 M.Cache.en r50000)∧s.h 7059000=(1,oB 199 [.old B0 (.sl (List.map enB p0.b)) (some u0),cI w7059000_1,cI w7059000_2]))∧kW p0 m v4 w7059000_1 w7059000_2 r50000=some r
 have e1:=@kW.eq_2
 have i2:=aBx [.b 3 0 7050100 212 2] fun m s=>∃v5_L2:Int,∃w7059000_1_L2:Int,∃w7059000_2_L2:Int,∃r50100_L2:List M.Cache,∃u50100_L2:Nat,(s.t 0=vP 7059000 1 0∧s.t 2=vP 2 ((s1.h 2).1+1) 0∧s.t 3=vP 3 ((s1.h 3).1+1) 0∧s.t 5=vI v5_L2∧s.h 2=(((s1.h 2).1+1),oB 28 [.nil])∧s.h 3=(((s1.h 3).1+1),oB 28 [.row 7050100 u50100_L2])∧s.h 7050100=(u50100_L2,oW 212 2 M.Cache.en r50100_L2)∧s.h 7059000=(1,oB 199 [.old B0 (.sl (List.map enB p0.b)) (some u0),cI w7059000_1_L2,cI w7059000_2_L2]))∧iY p0 m v5_L2 w7059000_1_L2 w7059000_2_L2 r50100_L2=some r
 have e2:=@iY.eq_2
 exact sgX
instance:bP 145 (type_of% @aQb):=⟨@aQb⟩
theorem aRQ (p0 p1 r) (h:kB p0 p1=some r):Sc 394 [(false,[.ptr [.sl (List.map enB p0.b),.int .i64 p0.i,.int .i64 p0.h]]),aS p1] [(false,[.edit (.lend 199 [.int .i64 r.1,.int .i64 r.2.1])]),(true,M.aA.rs r.2.2)]:=by
 unfold kB at h
 simp only [EN]
 refine sgB 37 [.cell 4 37] Tryz.func394 fun base wd B0 u0 hw0 => ?_
 refine gB (J:=fun s=>s.t 0=vP 7059000 1 0∧s.t 1=vS p1∧s.h 7059000=(1,oB 199 [.old B0 (.sl (List.map enB p0.b)) (some u0),cI p0.i,cI p0.h])∧True) ?_ ?_
 ·refine ⟨?_,?_,?_,trivial⟩<;>(try simp only [LN,List.map_cons,List.map_nil])<;>rfl
 rintro s1 ⟨f2,f3,f4,_⟩
 have i1:=aBx [.b 5 1 7050000 227 4] fun m s=>∃v6:Int,∃w5_0:ByteArray,∃w5_2:Int,∃w7059000_1:Int,∃w7059000_2:Int,∃r50000:List M.Item,∃u50000:Nat,(s.t 0=vP 7059000 1 0∧s.t 4=vP 4 ((s1.h 4).1+1) 0∧s.t 5=vP 5 ((s1.h 5).1+1) 0∧s.t 6=vI v6∧s.h 4=(((s1.h 4).1+1),oB 37 [cS (⟨#[]⟩:ByteArray),.nil,cI 0])∧s.h 5=(((s1.h 5).1+1),oB 37 [cS w5_0,.row 7050000 u50000,cI w5_2])∧s.h 7050000=(u50000,oW 227 4 M.Item.en r50000)∧s.h 7059000=(1,oB 199 [.old B0 (.sl (List.map enB p0.b)) (some u0),cI w7059000_1,cI w7059000_2]))∧jQ p0 m v6 w5_0 w5_2 w7059000_1 w7059000_2 r50000=some r
 have e1:=@jQ.eq_2
 exact sgX
instance:bP 394 (type_of% @aRQ):=⟨@aRQ⟩
theorem aR3 (p0 r) (h:xL p0=some r):Sc 400 [(false,[.ptr [.sl (List.map enB p0.b),.int .i64 p0.i,.int .i64 p0.h]])] [(false,[.edit (.lend 199 [.int .i64 r.1,.int .i64 r.2.1])]),(true,M.Op.rs r.2.2)]:=by
 unfold xL at h
 simp only [EN]
 refine sgB 37 [.cell 2 332] Tryz.func400 fun base wd B0 u0 hw0 => ?_
 refine gB (J:=fun s=>s.t 0=vP 7059000 1 0∧s.h 7059000=(1,oB 199 [.old B0 (.sl (List.map enB p0.b)) (some u0),cI p0.i,cI p0.h])∧True) ?_ ?_
 ·refine ⟨?_,?_,trivial⟩<;>(try simp only [LN,List.map_cons,List.map_nil])<;>rfl
 rintro s1 ⟨f2,f3,_⟩
 exact sgX
instance:bP 400 (type_of% @aR3):=⟨@aR3⟩
theorem aRm (p0 p1 r) (h:oK p0 p1=some r):Sc 389 [aX (M.Server.en p0),aI p1] [(true,M.aD.rs r.1),rB r.2]:=by
 unfold oK at h
 exact sgo 37 [.cell 4 44,.tmp 5] Tryz.func389
instance:bP 389 (type_of% @aRm):=⟨@aRm⟩
theorem aSb (p0 r) (h:tR p0=some r):Sc 395 [(false,[.ptr [.sl (List.map enB p0.b),.int .i64 p0.i,.int .i64 p0.h]])] [(false,[.edit (.lend 199 [.int .i64 r.1,.int .i64 r.2.1])]),(true,M.Key.rs r.2.2)]:=by
 unfold tR at h
 simp only [EN]
 refine sgB 26 [.cell 2 225] Tryz.func395 fun base wd B0 u0 hw0 => ?_
 refine gB (J:=fun s=>s.t 0=vP 7059000 1 0∧s.h 7059000=(1,oB 199 [.old B0 (.sl (List.map enB p0.b)) (some u0),cI p0.i,cI p0.h])∧True) ?_ ?_
 ·refine ⟨?_,?_,trivial⟩<;>(try simp only [LN,List.map_cons,List.map_nil])<;>rfl
 rintro s1 ⟨f2,f3,_⟩
 exact sgX
instance:bP 395 (type_of% @aSb):=⟨@aSb⟩
theorem aTP (p0 r) (h:vX p0=some r):Sc 396 [(false,[.ptr [.sl (List.map enB p0.b),.int .i64 p0.i,.int .i64 p0.h]])] [(false,[.edit (.lend 199 [.int .i64 r.1,.int .i64 r.2.1])]),(true,M.aC.rs r.2.2)]:=by
 unfold vX at h
 simp only [EN]
 refine sgB 40 [.cell 2 148] Tryz.func396 fun base wd B0 u0 hw0 => ?_
 refine gB (J:=fun s=>s.t 0=vP 7059000 1 0∧s.h 7059000=(1,oB 199 [.old B0 (.sl (List.map enB p0.b)) (some u0),cI p0.i,cI p0.h])∧True) ?_ ?_
 ·refine ⟨?_,?_,trivial⟩<;>(try simp only [LN,List.map_cons,List.map_nil])<;>rfl
 rintro s1 ⟨f2,f3,_⟩
 refine sq (rn ?_)
 refine an (sq ?_)
 obtain ⟨x4,h5,h⟩:=bind_some h
 refine rn1 (aPl _ _ h5) ?_
 refine an (sq (sq ?_))
 refine cu (fun s=>s.t 0=vP 7059000 1 0∧s.t 2=vP 2 ((s1.h 2).1+1) 0∧s.t 3=vP 3 ((s1.h 3).1+1) 0∧s.h 2=(((s1.h 2).1+1),oB 148 [.nil])∧s.h 3=(((s1.h 3).1+1),oB 148 [.row 100007 ((s1.h 100007).1+1)])∧s.h 100007=(((s1.h 100007).1+1),oW 267 2 M.Field.en x4.2.2.Fields)∧s.h 7059000=(1,oB 199 [.old B0 (.sl (List.map enB p0.b)) (some u0),cI x4.1,cI x4.2.1])∧True) ?_
 rintro s6 ⟨f7,f8,f9,f10,f11,f12,f13,_⟩
 obtain ⟨x14,h15,h⟩:=bind_some h
 refine rn1 (aGI _ _ _ h15) ?_
 refine an (bk (sq ?_))
 refine cu (fun s=>s.t 0=vP 7059000 1 0∧s.t 2=vP 2 ((s1.h 2).1+1) 0∧s.t 3=vP 3 ((s1.h 3).1+1) 0∧s.t 9=vI x14.2.2∧s.h 2=(((s1.h 2).1+1),oB 148 [.nil])∧s.h 3=(((s1.h 3).1+1),oB 148 [.row 100007 ((s1.h 100007).1+1)])∧s.h 100007=(((s1.h 100007).1+1),oW 267 2 M.Field.en x4.2.2.Fields)∧s.h 7059000=(1,oB 199 [.old B0 (.sl (List.map enB p0.b)) (some u0),cI x14.1,cI x14.2.1])∧True) ?_
 rintro s16 ⟨f17,f18,f19,f20,f21,f22,f23,f24,_⟩
 refine rn ?_
 refine an ?_
 rcases lN (x14.2.2==0) with b25 | b25
 ·replace h:=cD b25 h
  refine ct ?_
  obtain ⟨x26,h27,h⟩:=bind_some h
  obtain ⟨x28,h29,h⟩:=bind_some h
  obtain ⟨x30,h31,h⟩:=bind_some h
  refine rd3 mixed (aPk _ _ _ h27) (aOz _ _ _ h29) h31 ?_
  refine ab (an (sq (rn ?_)))
  refine an (rt ?_)
  cases h
  simp [aFF,Ret,TB,EN, *]
 replace h:=bY b25 h
 refine cf (sq (rn ?_))
 refine an ?_
 rcases wF (x14.2.2==1) with b32 | b32
 ·replace h:=bY b32 h
  refine cf (sk (ab (an (sq (rn ?_)))))
  refine an (rt ?_)
  cases h
  simp [aFF,Ret,TB,EN, *]
 replace h:=cD b32 h
 refine ct (sq (rn ?_))
 refine an (bk ?_)
 refine cu (fun s=>s.t 0=vP 7059000 1 0∧s.t 2=vP 2 ((s1.h 2).1+1) 0∧s.t 3=vP 3 ((s1.h 3).1+1) 0∧s.t 26=vR 100026 ((s16.h 100026).1+1)∧s.t 27=vI ((6:Nat):Int)∧s.t 28=vI 0∧s.h 2=(((s1.h 2).1+1),oB 148 [.nil])∧s.h 3=(((s1.h 3).1+1),oB 148 [.row 100007 ((s1.h 100007).1+1)])∧s.h 100007=(((s1.h 100007).1+1),oW 267 2 M.Field.en x4.2.2.Fields)∧s.h 100026=(((s16.h 100026).1+1),oW 9 1 enS ([(⟨#[100]⟩:ByteArray),(⟨#[101]⟩:ByteArray),(⟨#[102]⟩:ByteArray),(⟨#[103]⟩:ByteArray),(⟨#[104]⟩:ByteArray),(⟨#[105]⟩:ByteArray)]))∧s.h 7059000=s16.h 7059000∧True) ?_
 rintro s33 ⟨f34,f35,f36,f37,f38,f39,f40,f41,f42,f43,f44,_⟩
 replace f44:=f44.trans f24
 refine aER ((ghB 3 0 7050000 100007)) ?_
 refine aCC (fun m s=>∃v28:Int,∃r50000:List M.Field,∃u50000:Nat,s.t 0=vP 7059000 1 0∧s.t 2=vP 2 ((s1.h 2).1+1) 0∧s.t 3=vP 3 ((s1.h 3).1+1) 0∧s.t 26=vR 100026 ((s16.h 100026).1+1)∧s.t 27=vI ((6:Nat):Int)∧s.t 28=vI v28∧s.h 2=(((s1.h 2).1+1),oB 148 [.nil])∧s.h 3=(((s1.h 3).1+1),oB 148 [.row 7050000 u50000])∧s.h 100026=s33.h 100026∧s.h 7050000=(u50000,oW 267 2 M.Field.en r50000)∧s.h 7059000=s33.h 7059000∧mB x14 m v28 r50000=some r) fuel ?_ ?_
 ·refine ⟨0,x4.2.2.Fields,((s33.h 7050000).1+1),?_,?_,?_,?_,?_,?_,?_,?_,?_,?_,?_,h⟩
  all_goals simp +decide only [F,reduceIte,Nat.reduceAdd,qB,qC,EN, *,-h]
 rintro mL1 s45 ⟨v28,r50000,u50000,f46,f47,f48,f49,f50,f51,f52,f53,f54,f55,f56,h⟩
 replace f54:=f54.trans f43
 replace f56:=f56.trans f44
 rcases mL1 with _ | mL1
 ·exact absurd h (by simp [mB])
 simp only [mB] at h
 refine sq (rn ?_)
 refine an (sq ?_)
 rcases wF (decide (v28<((6:Nat):Int))) with b57 | b57
 ·replace h:=bY b57 h
  refine cf (xt (wD (vT (aAi (ab (an (sq (rn ?_))))))))
  refine an (rt ?_)
  cases h
  simp [aFF,Ret,TB,EN, *]
 replace h:=cD b57 h
 refine ct (sk (an (sq (bk (sq ?_)))))
 obtain ⟨x58,h59,h⟩:=bind_some h
 obtain ⟨q60,q61,q62⟩:=jG h59
 have q60m:=congrArg (Option.map enS) (show ([(⟨#[100]⟩:ByteArray),(⟨#[101]⟩:ByteArray),(⟨#[102]⟩:ByteArray),(⟨#[103]⟩:ByteArray),(⟨#[104]⟩:ByteArray),(⟨#[105]⟩:ByteArray)])[v28.toNat]? = some x58 by assumption)
 simp only [←List.getElem?_map,List.map_cons,List.map_nil,Option.map_some,EN] at q60m
 simp only [qJ,qK,Nat.reduceAdd] at q62
 refine rn ?_
 refine an ?_
 obtain ⟨x63,h64,h⟩:=bind_some h
 refine rn1 (aQZ _ _ _ _ h64) ?_
 refine ab (an (rn ?_))
 refine iB ⟨_,(ghB 3 0 7050000 100035),mL1,by omega,(IntKind.i64.wrap (v28+1)),x63.1.Fields,(u50000+1),?_,?_,?_,?_,?_,?_,?_,?_,?_,?_,?_,h⟩
 all_goals simp +decide only [F,reduceIte,Nat.reduceAdd,qB,qC,EN, *,-h]
instance:bP 396 (type_of% @aTP):=⟨@aTP⟩
theorem aRO (p0 p1 r) (h:pS p0 p1=some r):Sc 398 [(false,[.ptr [.sl (List.map enB p0.b),.int .i64 p0.i,.int .i64 p0.h]]),aI p1] [(false,[.edit (.lend 199 [.int .i64 r.1,.int .i64 r.2.1])]),(true,M.aG.rs r.2.2)]:=by
 unfold pS at h
 simp only [EN]
 refine sgB 41 [.cell 4 40] Tryz.func398 fun base wd B0 u0 hw0 => ?_
 refine gB (J:=fun s=>s.t 0=vP 7059000 1 0∧s.t 1=vI p1∧s.h 7059000=(1,oB 199 [.old B0 (.sl (List.map enB p0.b)) (some u0),cI p0.i,cI p0.h])∧True) ?_ ?_
 ·refine ⟨?_,?_,?_,trivial⟩<;>(try simp only [LN,List.map_cons,List.map_nil])<;>rfl
 rintro s1 ⟨f2,f3,f4,_⟩
 have i1:=aBx [.b 5 2 7050000 359 7] fun m s=>∃v7:Int,∃w5_0:Int,∃w5_1:Int,∃w7059000_1:Int,∃w7059000_2:Int,∃r50000:List M.aT,∃u50000:Nat,(s.t 0=vP 7059000 1 0∧s.t 4=vP 4 ((s1.h 4).1+1) 0∧s.t 5=vP 5 ((s1.h 5).1+1) 0∧s.t 7=vI v7∧s.h 4=(((s1.h 4).1+1),oB 40 [cI 0,cI 0,.nil])∧s.h 5=(((s1.h 5).1+1),oB 40 [cI w5_0,cI w5_1,.row 7050000 u50000])∧s.h 7050000=(u50000,oW 359 7 M.aT.en r50000)∧s.h 7059000=(1,oB 199 [.old B0 (.sl (List.map enB p0.b)) (some u0),cI w7059000_1,cI w7059000_2]))∧gO p0 m v7 w5_0 w5_1 w7059000_1 w7059000_2 r50000=some r
 have e1:=@gO.eq_2
 exact sgX
instance:bP 398 (type_of% @aRO):=⟨@aRO⟩
theorem c35 (p0 r) (h:lP p0=some r):Sc 35 [aX (M.Bucket.en p0)] [(true,M.Bucket.rs r)]:=by
 unfold lP at h
 exact sgo 18 [.cell 2 46] Tryz.func35
instance:bP 35 (type_of% @c35):=⟨@c35⟩
end Go.Proofs.YtidhkhdnjonjfaaGreat.gen
