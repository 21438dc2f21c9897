/-
  Helper text. No conditions.
-/
import Derived.Test.YtidhkhdnjonjfaaGreatBucketsTi
import Derived.Test.YtidhkhdnjonjfaaGreatBucketsWspec0
import Derived.Test.YtidhkhdnjonjfaaGreatBucketsWspec1
import Derived.Test.YtidhkhdnjonjfaaGreatBucketsWspec2
import Derived.Test.YtidhkhdnjonjfaaGreatBucketsWspec3
import Derived.Test.YtidhkhdnjonjfaaGreatBucketsWspec4
import Derived.Test.YtidhkhdnjonjfaaGreatBucketsWspec5
import Derived.Test.YtidhkhdnjonjfaaGreatBucketsWspec6
import Derived.Test.YtidhkhdnjonjfaaGreatBucketsWspec7
import Derived.Test.YtidhkhdnjonjfaaGreatBucketsWspec8
import Derived.Test.YtidhkhdnjonjfaaGreatBucketsWspec9
set_option linter.unusedVariables false
set_option linter.unusedSimpArgs false
namespace Go.Proofs.YtidhkhdnjonjfaaGreat.gen
open Go Go.Sh
set_option maxRecDepth 20000
set_option maxHeartbeats 4000000
theorem c18 (p0 r) (h:iQ p0=some r):Sc 18 [aX (M.Bucket.en p0)] [rB r]:=by
 unfold iQ at h
 exact sgo 50 [.tmp 2] Tryz.func18
instance:bP 18 (type_of% @c18):=⟨@c18⟩
theorem aQL (p0 p1 p2 r) (h:mQ p0 p1 p2=some r):Sc 261 [aS p0,aS p1,aI p2] [(true,M.Bucket.rs r.1),rB r.2]:=by
 unfold mQ at h
 exact sgo 42 [.cell 6 46,.tmp 7] Tryz.func261
instance:bP 261 (type_of% @aQL):=⟨@aQL⟩
theorem aSO (p0 p1 r) (h:pE p0 p1=some r):Sc 322 [aX (M.Database.en p0),aL M.Op.en p1] [(true,M.Database.rs r.1),rW 3 1 enI r.2.1,rB r.2.2]:=by
 have i1:=aBx [.b 7 2 7050000 37 3,.b 7 3 7050001 239 2] fun m s=>∃v9:Int,∃w7_0:ByteArray,∃w7_1:Int,∃r15:List Int,∃r50000:List M.aA,∃r50001:List M.aH,∃u15:Nat,∃u50000:Nat,∃u50001:Nat,(s.t 1=vL M.Op.en p1∧s.t 2=vP 2 1 0∧s.t 4=vP 4 1 0∧s.t 7=vP 7 1 0∧s.t 8=vR 100015 u15∧s.t 9=vI v9∧s.h 2=(1,oX 32 (M.Database.en p0))∧s.h 4=(1,aEy)∧s.h 7=(1,oB 32 [cS w7_0,cI w7_1,.row 7050000 u50000,.row 7050001 u50001])∧s.h 100015=(u15,oW 3 1 enI r15)∧s.h 7050000=(u50000,oW 37 3 M.aA.en r50000)∧s.h 7050001=(u50001,oW 239 2 M.aH.en r50001))∧mU p0 p1 m v9 w7_0 w7_1 r15 r50000 r50001=some r
 have e1:=@mU.eq_2
 unfold pE at h
 exact sgo 54 [.cell 4 32,.tmp 5,.tmp 6] Tryz.func322
instance:bP 322 (type_of% @aSO):=⟨@aSO⟩
theorem aQ5 (p0 r) (h:rO p0=some r):Sc 174 [aX (M.bF.en p0)] [(true,M.Database.rs r.1),rI r.2]:=by
 have i1:=fun (x3:((List (List Int))×Int))=>aBx [.b 4 2 7050000 37 3,.b 4 3 7050001 239 2] fun m s=>∃v7:Int,∃w4_0:ByteArray,∃w4_1:Int,∃r50000:List M.aA,∃r50001:List M.aH,∃u50000:Nat,∃u50001:Nat,(s.t 2=vP 2 1 0∧s.t 4=vP 4 1 0∧s.t 5=vR 100019 1∧s.t 7=vI v7∧s.h 2=(1,aEy)∧s.h 4=(1,oB 32 [cS w4_0,cI w4_1,.row 7050000 u50000,.row 7050001 u50001])∧s.h 100019=(1,oW 22 1 (enL enB) x3.1)∧s.h 7050000=(u50000,oW 37 3 M.aA.en r50000)∧s.h 7050001=(u50001,oW 239 2 M.aH.en r50001))∧kP x3 m v7 w4_0 w4_1 r50000 r50001=some r
 have e1:=@kP.eq_2
 unfold rO at h
 exact sgo 51 [.cell 2 32,.tmp 3] Tryz.func174
instance:bP 174 (type_of% @aQ5):=⟨@aQ5⟩
theorem aQH (p0 p1 r) (h:jM p0 p1=some r):Sc 262 [aX (M.bF.en p0),aL M.Op.en p1] [(true,M.bF.rs r.1),rB r.2]:=by
 unfold jM at h
 exact sgo 64 [.cell 4 34,.tmp 5] Tryz.func262
instance:bP 262 (type_of% @aQH):=⟨@aQH⟩
theorem aP1 (p0 p1 p2 p3 r) (h:hJ p0 p1 p2 p3=some r):Sc 265 [aX (M.aD.en p0),aX (M.Key.en p1),aS p2,aI p3] [(true,M.aD.rs r.1),rB r.2]:=by
 unfold hJ at h
 exact sgo 53 [.cell 8 44,.tmp 9] Tryz.func265
instance:bP 265 (type_of% @aP1):=⟨@aP1⟩
theorem aS0 (p0 r) (h:uK p0=some r):Sc 271 [(false,[.ptr [.sl (List.map enB p0.b),.int .i64 p0.i,.int .i64 p0.h]])] [(false,[.edit (.lend 199 [.int .i64 r.1,.int .i64 r.2.1])]),(true,M.Database.rs r.2.2)]:=by
 unfold uK at h
 simp only [EN]
 refine sgB 34 [.cell 2 32] Tryz.func271 fun base wd B0 u0 hw0 => ?_
 refine gB (J:=fun s=>s.t 0=vP 7059000 1 0∧s.h 7059000=(1,oB 199 [.old B0 (.sl (List.map enB p0.b)) (some u0),cI p0.i,cI p0.h])∧True) ?_ ?_
 ·refine ⟨?_,?_,trivial⟩<;>(try simp only [LN,List.map_cons,List.map_nil])<;>rfl
 rintro s1 ⟨f2,f3,_⟩
 exact sgX
instance:bP 271 (type_of% @aS0):=⟨@aS0⟩
theorem aSa (p0 r) (h:tH p0=some r):Sc 268 [(false,[.ptr [.sl (List.map enB p0.b),.int .i64 p0.i,.int .i64 p0.h]])] [(false,[.edit (.lend 199 [.int .i64 r.1,.int .i64 r.2.1])]),(true,M.aD.rs r.2.2.1),(true,M.Server.rs r.2.2.2)]:=by
 unfold tH at h
 simp only [EN]
 refine sgB 89 [.cell 2 44,.cell 3 274] Tryz.func268 fun base wd B0 u0 hw0 => ?_
 refine gB (J:=fun s=>s.t 0=vP 7059000 1 0∧s.h 7059000=(1,oB 199 [.old B0 (.sl (List.map enB p0.b)) (some u0),cI p0.i,cI p0.h])∧True) ?_ ?_
 ·refine ⟨?_,?_,trivial⟩<;>(try simp only [LN,List.map_cons,List.map_nil])<;>rfl
 rintro s1 ⟨f2,f3,_⟩
 have i1:=fun (s6:St)=>aBx [.b 5 1 7050000 227 4,.b 5 6 7050001 359 7,.b 4 1 7050002 227 4,.b 4 3 7050003 431 2,.b 4 4 7050004 359 7] fun m s=>∃v7:Int,∃w5_0:ByteArray,∃w5_2:Int,∃w5_3:Int,∃w5_4:Int,∃w5_5:Int,∃w5_7:Int,∃w5_8:Int,∃w7059000_1:Int,∃w7059000_2:Int,∃w4_0:ByteArray,∃w4_2:Int,∃r50000:List M.Item,∃r50001:List M.aT,∃r50002:List M.Item,∃r50003:List M.aP,∃r50004:List M.aT,∃u50002:Nat,∃u50003:Nat,∃u50004:Nat,∃u50000:Nat,∃u50001:Nat,(s.t 0=vP 7059000 1 0∧s.t 2=vP 2 ((s1.h 2).1+1) 0∧s.t 3=vP 3 ((s1.h 3).1+1) 0∧s.t 4=vP 4 ((s1.h 4).1+1) 0∧s.t 5=vP 5 ((s6.h 5).1+1) 0∧s.t 7=vI v7∧s.h 2=(((s1.h 2).1+1),aRH)∧s.h 3=(((s1.h 3).1+1),aOf)∧s.h 4=(((s1.h 4).1+1),oB 274 [cS w4_0,.row 7050002 u50002,cI w4_2,.row 7050003 u50003,.row 7050004 u50004])∧s.h 5=(((s6.h 5).1+1),oB 44 [cS w5_0,.row 7050000 u50000,cI w5_2,cI w5_3,cI w5_4,cI w5_5,.row 7050001 u50001,cI w5_7,cI w5_8])∧s.h 7050000=(u50000,oW 227 4 M.Item.en r50000)∧s.h 7050001=(u50001,oW 359 7 M.aT.en r50001)∧s.h 7050002=(u50002,oW 227 4 M.Item.en r50002)∧s.h 7050003=(u50003,oW 431 2 M.aP.en r50003)∧s.h 7050004=(u50004,oW 359 7 M.aT.en r50004)∧s.h 7059000=(1,oB 199 [.old B0 (.sl (List.map enB p0.b)) (some u0),cI w7059000_1,cI w7059000_2]))∧dR p0 m v7 w5_0 w5_2 w5_3 w5_4 w5_5 w5_7 w5_8 w7059000_1 w7059000_2 w4_0 w4_2 r50000 r50001 r50002 r50003 r50004=some r
 have e1:=@dR.eq_2
 exact sgX
instance:bP 268 (type_of% @aSa):=⟨@aSa⟩
theorem aTH (p0 r) (h:uH p0=some r):Sc 127 [(false,[.ptr [.sl (List.map enB p0.b),.int .i64 p0.i,.int .i64 p0.h]])] [(false,[.edit (.lend 199 [.int .i64 r.1,.int .i64 r.2.1])]),(true,M.aD.rs r.2.2)]:=by
 unfold uH at h
 simp only [EN]
 refine sgB 30 [.cell 2 44] Tryz.func127 fun base wd B0 u0 hw0 => ?_
 refine gB (J:=fun s=>s.t 0=vP 7059000 1 0∧s.h 7059000=(1,oB 199 [.old B0 (.sl (List.map enB p0.b)) (some u0),cI p0.i,cI p0.h])∧True) ?_ ?_
 ·refine ⟨?_,?_,trivial⟩<;>(try simp only [LN,List.map_cons,List.map_nil])<;>rfl
 rintro s1 ⟨f2,f3,_⟩
 exact sgX
instance:bP 127 (type_of% @aTH):=⟨@aTH⟩
theorem aRr (p0 p1:M.Bucket) (r:(M.Bucket×Bool)) (h:jA p0 p1=some r) (h2:r.2=false):jJ Tryz.prog 37 [(true,M.Bucket.en p0),(true,M.Bucket.en p1)] [(true,[.ro (.str r.1.Site),.ro (.str r.1.Top),.ro (.str r.1.Registration.Site),.ro (.int .i64 r.1.Registration.Installing),.ro (.int .i64 r.1.Registration.Waiting),.ro (.int .i64 r.1.Registration.Active),.own 212 2 (List.map M.Cache.en r.1.Caches.Caches),.ro (.str r.1.bF.Base.Name),.ro (.int .i64 r.1.bF.Base.Version),.own 37 3 (List.map M.aA.en r.1.bF.Base.Stores),.own 239 2 (List.map M.aH.en r.1.bF.Base.Unique),.own 5 1 (List.map enB r.1.bF.Log),.ro (.int .i64 r.1.bF.Count),.ro (.str r.1.aD.Base.Name),.own 227 4 (List.map M.Item.en r.1.aD.Base.Items),.ro (.int .i64 r.1.aD.Base.Auto),.ro (.int .i64 r.1.aD.Seen),.ro (.int .i64 r.1.aD.Sync.aG.Device),.ro (.int .i64 r.1.aD.Sync.aG.Next),.own 359 7 (List.map M.aT.en r.1.aD.Sync.aG.Writes),.ro (.int .i64 r.1.aD.Sync.Tries),.ro (.int .i64 r.1.aD.Sync.WaitUntil),.ro (.int .i64 r.1.LastUsed),.ro (.bool r.1.Persistent)]),(false,[.ro (.bool r.2)])]:=by
 unfold jA at h
 simp only [M.Bucket.en]
 refine aF4 (N:=17) (vars:=[.cell 4 46,.tmp 5]) Tryz.func37 rfl rfl rfl (by decide +kernel) (Nat.le_of_ble_eq_true rfl) fun base wd => ?_
 refine sq ?_
 apply eD
 ·simp +decide only [E,reduceIte,Nat.reduceAdd,Nat.reduceMul,qB,qC,L,aAO,EN]
  exact Is.mk _
 refine an (sq (sq ?_))
 obtain ⟨x1,h2,h⟩:=bind_some h
 rcases lN (!x1) with b3 | b3
 ·replace h:=cD b3 h
  apply eD
  ·simp +decide only [E,reduceIte,Nat.reduceAdd,Nat.reduceMul,qB,qC,L,aAO,EN,b3]
   refine ⟨_,c18 _ _ h2,?_⟩
   try simp +decide only [E,reduceIte,Nat.reduceAdd,Nat.reduceMul,qB,qC,L,aAO,EN,b3]
   exact Is.mk _
  refine an ?_
  refine aBC (by simp +decide only [F,reduceIte,Nat.reduceAdd,qB,qC,b3]) ?_
  refine sq ?_
  obtain ⟨x4,h5,h⟩:=bind_some h
  apply eD
  ·simp +decide only [E,reduceIte,Nat.reduceAdd,Nat.reduceMul,qB,qC,L,aAO,EN,b3]
   refine ⟨_,c35 _ _ h5,?_⟩
   try simp +decide only [E,reduceIte,Nat.reduceAdd,Nat.reduceMul,qB,qC,L,aAO,EN,b3]
   exact Is.mk _
  refine an (rt ?_)
  cases h
  simp [Ret,EN,aAO,M.Cache.en,M.aH.en,M.Item.en,M.aA.en,M.aT.en,enB,b3]
 replace h:=bY b3 h
 obtain ⟨x6,h7,h⟩:=bind_some h
 apply eD
 ·simp +decide only [E,reduceIte,Nat.reduceAdd,Nat.reduceMul,qB,qC,L,aAO,EN,b3]
  refine ⟨_,c18 _ _ h2,?_⟩
  try simp +decide only [E,reduceIte,Nat.reduceAdd,Nat.reduceMul,qB,qC,L,aAO,EN,b3]
  refine ⟨_,c18 _ _ h7,?_⟩
  try simp +decide only [E,reduceIte,Nat.reduceAdd,Nat.reduceMul,qB,qC,L,aAO,EN,b3]
  exact Is.mk _
 refine an ?_
 rcases wF (!x6) with b8 | b8
 ·replace h:=bY b8 h
  refine aDp (by simp +decide only [F,reduceIte,Nat.reduceAdd,qB,qC,b3,b8]) ?_
  refine sk (an (sq ?_))
  apply eD
  ·simp +decide only [E,reduceIte,Nat.reduceAdd,Nat.reduceMul,qB,qC,L,aAO,EN,b3,b8]
   exact Is.mk _
  refine an (rt ?_)
  cases h
  exact absurd h2 (by simp)
 replace h:=cD b8 h
 refine aBC (by simp +decide only [F,reduceIte,Nat.reduceAdd,qB,qC,b3,b8]) ?_
 refine sq ?_
 obtain ⟨x9,h10,h⟩:=bind_some h
 apply eD
 ·simp +decide only [E,reduceIte,Nat.reduceAdd,Nat.reduceMul,qB,qC,L,aAO,EN,b3,b8]
  refine ⟨_,c35 _ _ h10,?_⟩
  try simp +decide only [E,reduceIte,Nat.reduceAdd,Nat.reduceMul,qB,qC,L,aAO,EN,b3,b8]
  exact Is.mk _
 refine an (rt ?_)
 cases h
 simp [Ret,EN,aAO,M.Cache.en,M.aH.en,M.Item.en,M.aA.en,M.aT.en,enB,b3,b8]
theorem aSf (p0 p1:M.Bucket) (r:(M.Bucket×Bool)) (h:jA p0 p1=some r) (h2:r.2=true):jJ Tryz.prog 37 [(true,M.Bucket.en p0),(true,M.Bucket.en p1)] [(false,[.edit .pass])]:=by
 unfold jA at h
 simp only [M.Bucket.en]
 refine aN6 (N:=17) (vars:=[.cell 4 46,.tmp 5]) Tryz.func37 rfl rfl rfl (by decide +kernel) (by decide) fun base wd us => ?_
 refine sq ?_
 apply eD
 ·simp +decide only [LP,E,reduceIte,Nat.reduceAdd,Nat.reduceMul,qB,qC,L,aAO,EN]
  exact Is.mk _
 refine an (sq (sq ?_))
 obtain ⟨x1,h2,h⟩:=bind_some h
 rcases lN (!x1) with b3 | b3
 ·replace h:=cD b3 h
  apply eD
  ·simp +decide only [LP,E,reduceIte,Nat.reduceAdd,Nat.reduceMul,qB,qC,L,aAO,EN,b3]
   refine ⟨_,c18 _ _ h2,?_⟩
   try simp +decide only [LP,E,reduceIte,Nat.reduceAdd,Nat.reduceMul,qB,qC,L,aAO,EN,b3]
   exact Is.mk _
  refine an ?_
  refine aBC (by simp +decide only [LP,F,reduceIte,Nat.reduceAdd,qB,qC,b3]) ?_
  refine sq ?_
  obtain ⟨x4,h5,h⟩:=bind_some h
  apply eD
  ·simp +decide only [LP,E,reduceIte,Nat.reduceAdd,Nat.reduceMul,qB,qC,L,aAO,EN,b3]
   refine ⟨_,c35 _ _ h5,?_⟩
   try simp +decide only [LP,E,reduceIte,Nat.reduceAdd,Nat.reduceMul,qB,qC,L,aAO,EN,b3]
   exact Is.mk _
  refine an (rt ?_)
  cases h
  exact absurd h2 (by simp)
 replace h:=bY b3 h
 obtain ⟨x6,h7,h⟩:=bind_some h
 apply eD
 ·simp +decide only [LP,E,reduceIte,Nat.reduceAdd,Nat.reduceMul,qB,qC,L,aAO,EN,b3]
  refine ⟨_,c18 _ _ h2,?_⟩
  try simp +decide only [LP,E,reduceIte,Nat.reduceAdd,Nat.reduceMul,qB,qC,L,aAO,EN,b3]
  refine ⟨_,c18 _ _ h7,?_⟩
  try simp +decide only [LP,E,reduceIte,Nat.reduceAdd,Nat.reduceMul,qB,qC,L,aAO,EN,b3]
  exact Is.mk _
 refine an ?_
 rcases wF (!x6) with b8 | b8
 ·replace h:=bY b8 h
  refine aDp (by simp +decide only [LP,F,reduceIte,Nat.reduceAdd,qB,qC,b3,b8]) ?_
  refine sk (an (sq ?_))
  apply eD
  ·simp +decide only [LP,E,reduceIte,Nat.reduceAdd,Nat.reduceMul,qB,qC,L,aAO,EN,b3,b8]
   exact Is.mk _
  refine an (rt ?_)
  cases h
  simp [aQl,LP,M.Bucket.en,aAO,b3,b8]
 replace h:=cD b8 h
 refine aBC (by simp +decide only [LP,F,reduceIte,Nat.reduceAdd,qB,qC,b3,b8]) ?_
 refine sq ?_
 obtain ⟨x9,h10,h⟩:=bind_some h
 apply eD
 ·simp +decide only [LP,E,reduceIte,Nat.reduceAdd,Nat.reduceMul,qB,qC,L,aAO,EN,b3,b8]
  refine ⟨_,c35 _ _ h10,?_⟩
  try simp +decide only [LP,E,reduceIte,Nat.reduceAdd,Nat.reduceMul,qB,qC,L,aAO,EN,b3,b8]
  exact Is.mk _
 refine an (rt ?_)
 cases h
 exact absurd h2 (by simp)
theorem c9 (p0 p1 r) (h:nJ p0 p1=some r):Sc 9 [aX (M.Bucket.en p0),aX (M.bF.en p1)] [(true,M.Bucket.rs r.1),rB r.2]:=by
 unfold nJ at h
 simp only [EN]
 refine sgn 17 [.cell 4 46,.tmp 5] Tryz.func9 fun base wd => ?_
 refine sq (rn ?_)
 refine an (sq ?_)
 obtain ⟨x1,h2,h⟩:=bind_some h
 refine rn1 (c35 _ _ h2) ?_
 refine an (sq ?_)
 obtain ⟨x3,h4,h⟩:=bind_some h
 refine rn1 (c36 _ _ h4) ?_
 refine an (sq ?_)
 obtain ⟨x5,h6,h⟩:=bind_some h
 rcases lN x5.2 with b7 | b7
 ·replace h:=cD b7 h
  refine rn1 (aSf _ _ _ h6 b7) ?_
  refine an (rt ?_)
  cases h
  simp [Ret,TB,EN, *]
 replace h:=bY b7 h
 refine rn1 (aRr _ _ _ h6 b7) ?_
 refine an (rt ?_)
 cases h
 simp [Ret,TB,EN, *]
instance:bP 9 (type_of% @c9):=⟨@c9⟩
theorem c14 (p0 p1 p2 r) (h:lH p0 p1 p2=some r):Sc 14 [aX (M.Bucket.en p0),aX (M.aE.en p1),aX (M.Registration.en p2)] [(true,M.Bucket.rs r.1),rB r.2]:=by
 unfold lH at h
 simp only [EN]
 refine sgn 21 [.cell 6 46,.tmp 7] Tryz.func14 fun base wd => ?_
 refine sq (rn ?_)
 refine an (sq ?_)
 obtain ⟨x1,h2,h⟩:=bind_some h
 refine rn1 (c35 _ _ h2) ?_
 refine an (sq ?_)
 obtain ⟨x3,h4,h⟩:=bind_some h
 refine rn1 (c47 _ _ h4) ?_
 refine an (sq (rn ?_))
 refine an (sq ?_)
 obtain ⟨x5,h6,h⟩:=bind_some h
 rcases lN x5.2 with b7 | b7
 ·replace h:=cD b7 h
  refine rn1 (aSf _ _ _ h6 b7) ?_
  refine an (rt ?_)
  cases h
  simp [Ret,TB,EN, *]
 replace h:=bY b7 h
 refine rn1 (aRr _ _ _ h6 b7) ?_
 refine an (rt ?_)
 cases h
 simp [Ret,TB,EN, *]
instance:bP 14 (type_of% @c14):=⟨@c14⟩
end Go.Proofs.YtidhkhdnjonjfaaGreat.gen
