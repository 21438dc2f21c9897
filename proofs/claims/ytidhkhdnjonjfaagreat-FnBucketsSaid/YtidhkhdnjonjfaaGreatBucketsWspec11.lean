/-
  Helper text. No conditions.
-/
import Derived.Test.YtidhkhdnjonjfaaGreatBucketsTi
import Derived.Test.YtidhkhdnjonjfaaGreatBucketsWspec1
import Derived.Test.YtidhkhdnjonjfaaGreatBucketsWspec10
import Derived.Test.YtidhkhdnjonjfaaGreatBucketsWspec2
import Derived.Test.YtidhkhdnjonjfaaGreatBucketsWspec3
import Derived.Test.YtidhkhdnjonjfaaGreatBucketsWspec5
import Derived.Test.YtidhkhdnjonjfaaGreatBucketsWspec6
import Derived.Test.YtidhkhdnjonjfaaGreatBucketsWspec8
set_option linter.unusedVariables false
set_option linter.unusedSimpArgs false
namespace Go.Proofs.YtidhkhdnjonjfaaGreat.gen
open Go Go.Sh
set_option maxRecDepth 20000
set_option maxHeartbeats 4000000
theorem aSg (p0 r) (h:pP p0=some r):Sc 124 [(false,[.ptr [.sl (List.map enB p0.b),.int .i64 p0.i,.int .i64 p0.h]])] [(false,[.edit (.lend 199 [.int .i64 r.1,.int .i64 r.2.1])]),(true,M.Bucket.rs r.2.2)]:=by
 unfold pP at h
 simp only [EN]
 refine sgB 90 [.cell 2 46] Tryz.func124 fun base wd B0 u0 hw0 => ?_
 refine gB (J:=fun s=>s.t 0=vP 7059000 1 0∧s.h 7059000=(1,oB 199 [.old B0 (.sl (List.map enB p0.b)) (some u0),cI p0.i,cI p0.h])∧True) ?_ ?_
 ·refine ⟨?_,?_,trivial⟩<;>(try simp only [LN,List.map_cons,List.map_nil])<;>rfl
 rintro s1 ⟨f2,f3,_⟩
 refine sq (rn ?_)
 refine an (sq ?_)
 obtain ⟨x4,h5,h⟩:=bind_some h
 refine rn1 (aO8 _ _ h5) ?_
 refine an (sq ?_)
 refine cu (fun s=>s.t 0=vP 7059000 1 0∧s.t 2=vP 2 ((s1.h 2).1+1) 0∧s.t 3=vS x4.2.2∧s.h 2=(((s1.h 2).1+1),aHk)∧s.h 7059000=(1,oB 199 [.old B0 (.sl (List.map enB p0.b)) (some u0),cI x4.1,cI x4.2.1])∧True) ?_
 rintro s6 ⟨f7,f8,f9,f10,f11,_⟩
 refine rn ?_
 refine an ?_
 obtain ⟨x12,h13,h⟩:=bind_some h
 refine rV (fun s=>s.t 0=vP 7059000 1 0∧s.t 2=vP 2 ((s1.h 2).1+1) 0∧s.t 3=vS x4.2.2∧s.t 4=vS x12.1∧s.h 2=(((s1.h 2).1+1),aHk)∧s.h 7059000=(1,oB 199 [.old B0 (.sl (List.map enB p0.b)) (some u0),cI x12.2.1,cI x12.2.2])∧True) ?_ ?_
 ·replace h:=h13
  clear h13
  refine sq ?_
  obtain ⟨x21,h22,h⟩:=bind_some h
  refine rn1 (c46 _ _ _ h22) ?_
  refine an ?_
  refine cu (fun s=>s.t 0=vP 7059000 1 0∧s.t 2=vP 2 ((s1.h 2).1+1) 0∧s.t 3=vS x4.2.2∧s.t 4=vS x4.2.2∧s.t 15=vB x21.2.2∧s.h 2=(((s1.h 2).1+1),aHk)∧s.h 7059000=(1,oB 199 [.old B0 (.sl (List.map enB p0.b)) (some u0),cI x21.1,cI x21.2.1])∧True) ?_
  rintro s23 ⟨f24,f25,f26,f27,f28,f29,f30,_⟩
  rcases wF x21.2.2 with b31 | b31
  ·replace h:=bY b31 h
   refine cf (sk ?_)
   cases h
   refine iB ⟨?_,?_,?_,?_,?_,?_,trivial⟩<;>(try simp +decide only [F,reduceIte,Nat.reduceAdd,qB,qC,EN, *,-h])
  replace h:=cD b31 h
  refine ct ?_
  obtain ⟨x32,h33,h⟩:=bind_some h
  refine rn1 (aO8 _ _ h33) ?_
  cases h
  refine iB ⟨?_,?_,?_,?_,?_,?_,trivial⟩<;>(try simp +decide only [F,reduceIte,Nat.reduceAdd,qB,qC,EN, *,-h])
 clear h13
 rintro s14 ⟨f15,f16,f17,f18,f19,f20,_⟩
 refine sq ?_
 obtain ⟨x34,h35,h⟩:=bind_some h
 obtain ⟨x36,h37,h⟩:=bind_some h
 refine rn2 (aGI _ _ _ h35) (aQL _ _ _ _ h37) ?_
 refine an (sq (sq ?_))
 refine cu (fun s=>s.t 0=vP 7059000 1 0∧s.t 2=vP 2 ((s1.h 2).1+1) 0∧s.t 5=vP 5 ((s14.h 5).1+1) 0∧s.h 2=(((s1.h 2).1+1),aHk)∧s.h 5=(((s14.h 5).1+1),oB 46 [cS x36.1.Site,cS x36.1.Top,cS x36.1.Registration.Site,cI x36.1.Registration.Installing,cI x36.1.Registration.Waiting,cI x36.1.Registration.Active,.row 700024 ((s14.h 700024).1+1),cS x36.1.bF.Base.Name,cI x36.1.bF.Base.Version,.row 1000024 ((s14.h 1000024).1+1),.row 1100024 ((s14.h 1100024).1+1),.row 1200024 ((s14.h 1200024).1+1),cI x36.1.bF.Count,cS x36.1.aD.Base.Name,.row 1500024 ((s14.h 1500024).1+1),cI x36.1.aD.Base.Auto,cI x36.1.aD.Seen,cI x36.1.aD.Sync.aG.Device,cI x36.1.aD.Sync.aG.Next,.row 2000024 ((s14.h 2000024).1+1),cI x36.1.aD.Sync.Tries,cI x36.1.aD.Sync.WaitUntil,cI x36.1.LastUsed,cB x36.1.Persistent])∧s.h 700024=(((s14.h 700024).1+1),oW 212 2 M.Cache.en x36.1.Caches.Caches)∧s.h 1000024=(((s14.h 1000024).1+1),oW 37 3 M.aA.en x36.1.bF.Base.Stores)∧s.h 1100024=(((s14.h 1100024).1+1),oW 239 2 M.aH.en x36.1.bF.Base.Unique)∧s.h 1200024=(((s14.h 1200024).1+1),oW 5 1 enB x36.1.bF.Log)∧s.h 1500024=(((s14.h 1500024).1+1),oW 227 4 M.Item.en x36.1.aD.Base.Items)∧s.h 2000024=(((s14.h 2000024).1+1),oW 359 7 M.aT.en x36.1.aD.Sync.aG.Writes)∧s.h 7059000=(1,oB 199 [.old B0 (.sl (List.map enB p0.b)) (some u0),cI x34.1,cI x34.2.1])∧True) ?_
 rintro s38 ⟨f39,f40,f41,f42,f43,f44,f45,f46,f47,f48,f49,f50,_⟩
 obtain ⟨x51,h52,h⟩:=bind_some h
 refine rn1 (aGI _ _ _ h52) ?_
 refine an (bk ?_)
 refine cu (fun s=>s.t 0=vP 7059000 1 0∧s.t 2=vP 2 ((s1.h 2).1+1) 0∧s.t 5=vP 5 ((s14.h 5).1+1) 0∧s.t 7=vI x51.2.2∧s.h 2=(((s1.h 2).1+1),aHk)∧s.h 5=s38.h 5∧s.h 700024=(((s14.h 700024).1+1),oW 212 2 M.Cache.en x36.1.Caches.Caches)∧s.h 1000024=(((s14.h 1000024).1+1),oW 37 3 M.aA.en x36.1.bF.Base.Stores)∧s.h 1100024=(((s14.h 1100024).1+1),oW 239 2 M.aH.en x36.1.bF.Base.Unique)∧s.h 1200024=(((s14.h 1200024).1+1),oW 5 1 enB x36.1.bF.Log)∧s.h 1500024=(((s14.h 1500024).1+1),oW 227 4 M.Item.en x36.1.aD.Base.Items)∧s.h 2000024=s38.h 2000024∧s.h 7059000=(1,oB 199 [.old B0 (.sl (List.map enB p0.b)) (some u0),cI x51.1,cI x51.2.1])∧True) ?_
 rintro s53 ⟨f54,f55,f56,f57,f58,f59,f60,f61,f62,f63,f64,f65,f66,_⟩
 replace f59:=f59.trans f43
 replace f65:=f65.trans f49
 refine aER ((Gho.trans (Gho.trans (ghB 5 9 7050000 1000024) (ghB 5 10 7050001 1100024)) (ghB 5 11 7050002 1200024))) ?_
 refine aCC (fun m s=>∃v7:Int,∃w5_7:ByteArray,∃w5_8:Int,∃w5_12:Int,∃w7059000_1:Int,∃w7059000_2:Int,∃r50000:List M.aA,∃r50001:List M.aH,∃r50002:List Int,∃u50000:Nat,∃u50001:Nat,∃u50002:Nat,s.t 0=vP 7059000 1 0∧s.t 2=vP 2 ((s1.h 2).1+1) 0∧s.t 5=vP 5 ((s14.h 5).1+1) 0∧s.t 7=vI v7∧s.h 2=(((s1.h 2).1+1),aHk)∧s.h 5=(((s14.h 5).1+1),oB 46 [cS x36.1.Site,cS x36.1.Top,cS x36.1.Registration.Site,cI x36.1.Registration.Installing,cI x36.1.Registration.Waiting,cI x36.1.Registration.Active,.row 700024 ((s14.h 700024).1+1),cS w5_7,cI w5_8,.row 7050000 u50000,.row 7050001 u50001,.row 7050002 u50002,cI w5_12,cS x36.1.aD.Base.Name,.row 1500024 ((s14.h 1500024).1+1),cI x36.1.aD.Base.Auto,cI x36.1.aD.Seen,cI x36.1.aD.Sync.aG.Device,cI x36.1.aD.Sync.aG.Next,.row 2000024 ((s14.h 2000024).1+1),cI x36.1.aD.Sync.Tries,cI x36.1.aD.Sync.WaitUntil,cI x36.1.LastUsed,cB x36.1.Persistent])∧s.h 700024=(((s14.h 700024).1+1),oW 212 2 M.Cache.en x36.1.Caches.Caches)∧s.h 1500024=(((s14.h 1500024).1+1),oW 227 4 M.Item.en x36.1.aD.Base.Items)∧s.h 2000024=s53.h 2000024∧s.h 7050000=(u50000,oW 37 3 M.aA.en r50000)∧s.h 7050001=(u50001,oW 239 2 M.aH.en r50001)∧s.h 7050002=(u50002,oW 5 1 enB r50002)∧s.h 7059000=(1,oB 199 [.old B0 (.sl (List.map enB p0.b)) (some u0),cI w7059000_1,cI w7059000_2])∧dZ p0 x36 m v7 w5_7 w5_8 w5_12 w7059000_1 w7059000_2 r50000 r50001 r50002=some r) fuel ?_ ?_
 ·refine ⟨x51.2.2,x36.1.bF.Base.Name,x36.1.bF.Base.Version,x36.1.bF.Count,x51.1,x51.2.1,x36.1.bF.Base.Stores,x36.1.bF.Base.Unique,x36.1.bF.Log,((s53.h 7050000).1+1),((s53.h 7050001).1+1),((s53.h 7050002).1+1),?_,?_,?_,?_,?_,?_,?_,?_,?_,?_,?_,?_,?_,h⟩
  all_goals simp +decide only [F,reduceIte,Nat.reduceAdd,qB,qC,EN, *,-h]
 rintro mL1 s67 ⟨v7,w5_7,w5_8,w5_12,w7059000_1,w7059000_2,r50000,r50001,r50002,u50000,u50001,u50002,f68,f69,f70,f71,f72,f73,f74,f75,f76,f77,f78,f79,f80,h⟩
 replace f76:=f76.trans f65
 rcases mL1 with _ | mL1
 ·exact absurd h (by simp [dZ])
 simp only [dZ] at h
 refine sq (sq (rn ?_))
 refine an ?_
 rcases lN (decide (v7>0)) with b81 | b81
 ·replace h:=cD b81 h
  refine ct (sk (an (sq (bk (sq ?_)))))
  obtain ⟨x82,h83,h⟩:=bind_some h
  obtain ⟨x84,h85,h⟩:=bind_some h
  obtain ⟨x86,h87,h⟩:=bind_some h
  refine rd3 mixed (aPs _ _ h83) (aPl _ _ h85) (aQH _ _ _ h87) ?_
  refine an ?_
  refine cu (fun s=>s.t 0=vP 7059000 1 0∧s.t 2=vP 2 ((s1.h 2).1+1) 0∧s.t 5=vP 5 ((s14.h 5).1+1) 0∧s.t 7=vI v7∧s.t 8=vP 8 ((s67.h 8).1+1) 0∧s.h 2=(((s1.h 2).1+1),aHk)∧s.h 5=s67.h 5∧s.h 8=(((s67.h 8).1+1),oB 34 [cS x86.1.Base.Name,cI x86.1.Base.Version,.row 300042 ((s67.h 300042).1+1),.row 400042 ((s67.h 400042).1+1),.row 500042 ((s67.h 500042).1+1),cI x86.1.Count])∧s.h 300042=(((s67.h 300042).1+1),oW 37 3 M.aA.en x86.1.Base.Stores)∧s.h 400042=(((s67.h 400042).1+1),oW 239 2 M.aH.en x86.1.Base.Unique)∧s.h 500042=(((s67.h 500042).1+1),oW 5 1 enB x86.1.Log)∧s.h 700024=(((s14.h 700024).1+1),oW 212 2 M.Cache.en x36.1.Caches.Caches)∧s.h 1500024=(((s14.h 1500024).1+1),oW 227 4 M.Item.en x36.1.aD.Base.Items)∧s.h 2000024=s67.h 2000024∧s.h 7050000=(u50000,oW 37 3 M.aA.en r50000)∧s.h 7050001=(u50001,oW 239 2 M.aH.en r50001)∧s.h 7050002=(u50002,oW 5 1 enB r50002)∧s.h 7059000=(1,oB 199 [.old B0 (.sl (List.map enB p0.b)) (some u0),cI x84.1,cI x84.2.1])∧True) ?_
  rintro s88 ⟨f89,f90,f91,f92,f93,f94,f95,f96,f97,f98,f99,f100,f101,f102,f103,f104,f105,f106,_⟩
  replace f95:=f95.trans f73
  replace f102:=f102.trans f76
  refine rn ?_
  refine ab (an (rn ?_))
  refine iB ⟨_,(Gho.trans (Gho.trans (ghB 5 9 7050000 300042) (ghB 5 10 7050001 400042)) (ghB 5 11 7050002 500042)),mL1,by omega,(IntKind.i64.wrap (v7-1)),x86.1.Base.Name,x86.1.Base.Version,x86.1.Count,x84.1,x84.2.1,x86.1.Base.Stores,x86.1.Base.Unique,x86.1.Log,(u50000+1),(u50001+1),(u50002+1),?_,?_,?_,?_,?_,?_,?_,?_,?_,?_,?_,?_,?_,h⟩
  all_goals simp +decide only [F,reduceIte,Nat.reduceAdd,qB,qC,EN, *,-h]
 replace h:=bY b81 h
 refine cf (xt (wD (vT (aAi (an (sq (sq ?_)))))))
 obtain ⟨x107,h108,h⟩:=bind_some h
 refine rn1 (aGI _ _ _ h108) ?_
 refine an (bk ?_)
 refine cu (fun s=>s.t 0=vP 7059000 1 0∧s.t 2=vP 2 ((s1.h 2).1+1) 0∧s.t 5=vP 5 ((s14.h 5).1+1) 0∧s.t 10=vI x107.2.2∧s.h 2=(((s1.h 2).1+1),aHk)∧s.h 5=s67.h 5∧s.h 700024=(((s14.h 700024).1+1),oW 212 2 M.Cache.en x36.1.Caches.Caches)∧s.h 1500024=(((s14.h 1500024).1+1),oW 227 4 M.Item.en x36.1.aD.Base.Items)∧s.h 2000024=s67.h 2000024∧s.h 7050000=(u50000,oW 37 3 M.aA.en r50000)∧s.h 7050001=(u50001,oW 239 2 M.aH.en r50001)∧s.h 7050002=(u50002,oW 5 1 enB r50002)∧s.h 7059000=(1,oB 199 [.old B0 (.sl (List.map enB p0.b)) (some u0),cI x107.1,cI x107.2.1])∧True) ?_
 rintro s109 ⟨f110,f111,f112,f113,f114,f115,f116,f117,f118,f119,f120,f121,f122,_⟩
 replace f115:=f115.trans f73
 replace f118:=f118.trans f76
 refine aER ((Gho.trans (ghB 5 14 7050100 1500024) (ghB 5 19 7050101 2000024))) ?_
 refine aCC (fun m s=>∃v10_L2:Int,∃w5_13_L2:ByteArray,∃w5_15_L2:Int,∃w5_16_L2:Int,∃w5_17_L2:Int,∃w5_18_L2:Int,∃w5_20_L2:Int,∃w5_21_L2:Int,∃w7059000_1_L2:Int,∃w7059000_2_L2:Int,∃r50100_L2:List M.Item,∃r50101_L2:List M.aT,∃u50100_L2:Nat,∃u50101_L2:Nat,s.t 0=vP 7059000 1 0∧s.t 2=vP 2 ((s1.h 2).1+1) 0∧s.t 5=vP 5 ((s14.h 5).1+1) 0∧s.t 10=vI v10_L2∧s.h 2=(((s1.h 2).1+1),aHk)∧s.h 5=(((s14.h 5).1+1),oB 46 [cS x36.1.Site,cS x36.1.Top,cS x36.1.Registration.Site,cI x36.1.Registration.Installing,cI x36.1.Registration.Waiting,cI x36.1.Registration.Active,.row 700024 ((s14.h 700024).1+1),cS w5_7,cI w5_8,.row 7050000 u50000,.row 7050001 u50001,.row 7050002 u50002,cI w5_12,cS w5_13_L2,.row 7050100 u50100_L2,cI w5_15_L2,cI w5_16_L2,cI w5_17_L2,cI w5_18_L2,.row 7050101 u50101_L2,cI w5_20_L2,cI w5_21_L2,cI x36.1.LastUsed,cB x36.1.Persistent])∧s.h 700024=(((s14.h 700024).1+1),oW 212 2 M.Cache.en x36.1.Caches.Caches)∧s.h 7050000=(u50000,oW 37 3 M.aA.en r50000)∧s.h 7050001=(u50001,oW 239 2 M.aH.en r50001)∧s.h 7050002=(u50002,oW 5 1 enB r50002)∧s.h 7050100=(u50100_L2,oW 227 4 M.Item.en r50100_L2)∧s.h 7050101=(u50101_L2,oW 359 7 M.aT.en r50101_L2)∧s.h 7059000=(1,oB 199 [.old B0 (.sl (List.map enB p0.b)) (some u0),cI w7059000_1_L2,cI w7059000_2_L2])∧dX p0 x36 w5_7 w5_8 w5_12 r50000 r50001 r50002 m v10_L2 w5_13_L2 w5_15_L2 w5_16_L2 w5_17_L2 w5_18_L2 w5_20_L2 w5_21_L2 w7059000_1_L2 w7059000_2_L2 r50100_L2 r50101_L2=some r) fuel ?_ ?_
 ·refine ⟨x107.2.2,x36.1.aD.Base.Name,x36.1.aD.Base.Auto,x36.1.aD.Seen,x36.1.aD.Sync.aG.Device,x36.1.aD.Sync.aG.Next,x36.1.aD.Sync.Tries,x36.1.aD.Sync.WaitUntil,x107.1,x107.2.1,x36.1.aD.Base.Items,x36.1.aD.Sync.aG.Writes,((s109.h 7050100).1+1),((s109.h 7050101).1+1),?_,?_,?_,?_,?_,?_,?_,?_,?_,?_,?_,?_,?_,h⟩
  all_goals simp +decide only [F,reduceIte,Nat.reduceAdd,qB,qC,EN, *,-h]
 rintro mL2 s123 ⟨v10_L2,w5_13_L2,w5_15_L2,w5_16_L2,w5_17_L2,w5_18_L2,w5_20_L2,w5_21_L2,w7059000_1_L2,w7059000_2_L2,r50100_L2,r50101_L2,u50100_L2,u50101_L2,f124,f125,f126,f127,f128,f129,f130,f131,f132,f133,f134,f135,f136,h⟩
 rcases mL2 with _ | mL2
 ·exact absurd h (by simp [dX])
 simp only [dX] at h
 refine sq (sq (rn ?_))
 refine an ?_
 rcases lN (decide (v10_L2>0)) with b137 | b137
 ·replace h:=cD b137 h
  refine ct (sk (an (sq (bk ?_))))
  obtain ⟨x138,h139,h⟩:=bind_some h
  obtain ⟨x140,h141,h⟩:=bind_some h
  obtain ⟨x142,h143,h⟩:=bind_some h
  obtain ⟨x144,h145,h⟩:=bind_some h
  apply xG mixed
  ·simp +decide only [E,reduceIte,Nat.reduceAdd,Nat.reduceMul,qB,qC,L,aO1,aAO,EN,b81,f124,f125,f126,f127,f128,f129,f130,f131,f132,f133,f134,f135,f136,b137]
   refine ⟨_,aPs _ _ h139,?_⟩
   try simp +decide only [E,reduceIte,Nat.reduceAdd,Nat.reduceMul,qB,qC,L,aO1,aAO,EN,b81,f124,f125,f126,f127,f128,f129,f130,f131,f132,f133,f134,f135,f136,b137]
   refine ⟨_,aQt _ _ h141,?_⟩
   try simp +decide only [E,reduceIte,Nat.reduceAdd,Nat.reduceMul,qB,qC,L,aO1,aAO,EN,b81,f124,f125,f126,f127,f128,f129,f130,f131,f132,f133,f134,f135,f136,b137]
   refine ⟨_,aGI _ _ _ h143,?_⟩
   try simp +decide only [E,reduceIte,Nat.reduceAdd,Nat.reduceMul,qB,qC,L,aO1,aAO,EN,b81,f124,f125,f126,f127,f128,f129,f130,f131,f132,f133,f134,f135,f136,b137]
   refine ⟨_,aP1 _ _ _ _ _ h145,?_⟩
   try simp +decide only [E,reduceIte,Nat.reduceAdd,Nat.reduceMul,qB,qC,L,aO1,aAO,EN,b81,f124,f125,f126,f127,f128,f129,f130,f131,f132,f133,f134,f135,f136,b137]
   exact ⟨.mk (by decide +kernel),Is.mk _⟩
  refine ab (an ?_)
  refine cu (fun s=>s.t 0=vP 7059000 1 0∧s.t 2=vP 2 ((s1.h 2).1+1) 0∧s.t 5=vP 5 ((s14.h 5).1+1) 0∧s.t 10=vI v10_L2∧s.h 2=(((s1.h 2).1+1),aHk)∧s.h 5=(((s14.h 5).1+1),oB 46 [cS x36.1.Site,cS x36.1.Top,cS x36.1.Registration.Site,cI x36.1.Registration.Installing,cI x36.1.Registration.Waiting,cI x36.1.Registration.Active,.row 700024 ((s14.h 700024).1+1),cS w5_7,cI w5_8,.row 7050000 u50000,.row 7050001 u50001,.row 7050002 u50002,cI w5_12,cS x144.1.Base.Name,.row 200062 ((s123.h 200062).1+1),cI x144.1.Base.Auto,cI x144.1.Seen,cI x144.1.Sync.aG.Device,cI x144.1.Sync.aG.Next,.row 700062 ((s123.h 700062).1+1),cI x144.1.Sync.Tries,cI x144.1.Sync.WaitUntil,cI x36.1.LastUsed,cB x36.1.Persistent])∧s.h 200062=(((s123.h 200062).1+1),oW 227 4 M.Item.en x144.1.Base.Items)∧s.h 700024=(((s14.h 700024).1+1),oW 212 2 M.Cache.en x36.1.Caches.Caches)∧s.h 700062=(((s123.h 700062).1+1),oW 359 7 M.aT.en x144.1.Sync.aG.Writes)∧s.h 7050000=(u50000,oW 37 3 M.aA.en r50000)∧s.h 7050001=(u50001,oW 239 2 M.aH.en r50001)∧s.h 7050002=(u50002,oW 5 1 enB r50002)∧s.h 7059000=(1,oB 199 [.old B0 (.sl (List.map enB p0.b)) (some u0),cI x142.1,cI x142.2.1])∧True) ?_
  rintro s146 ⟨f147,f148,f149,f150,f151,f152,f153,f154,f155,f156,f157,f158,f159,_⟩
  refine rn ?_
  refine iB ⟨_,(Gho.trans (ghB 5 14 7050100 200062) (ghB 5 19 7050101 700062)),mL2,by omega,(IntKind.i64.wrap (v10_L2-1)),x144.1.Base.Name,x144.1.Base.Auto,x144.1.Seen,x144.1.Sync.aG.Device,x144.1.Sync.aG.Next,x144.1.Sync.Tries,x144.1.Sync.WaitUntil,x142.1,x142.2.1,x144.1.Base.Items,x144.1.Sync.aG.Writes,((s146.h 7050100).1+1),((s146.h 7050101).1+1),?_,?_,?_,?_,?_,?_,?_,?_,?_,?_,?_,?_,?_,h⟩
  all_goals simp +decide only [F,reduceIte,Nat.reduceAdd,qB,qC,EN, *,-h]
 replace h:=bY b137 h
 refine cf (xt (wD (vT (aAi (an (sq (sq ?_)))))))
 obtain ⟨x160,h161,h⟩:=bind_some h
 refine rn1 (c46 _ _ _ h161) ?_
 refine an ?_
 refine cu (fun s=>s.t 0=vP 7059000 1 0∧s.t 2=vP 2 ((s1.h 2).1+1) 0∧s.t 5=vP 5 ((s14.h 5).1+1) 0∧s.t 67=vB x160.2.2∧s.h 2=(((s1.h 2).1+1),aHk)∧s.h 5=s123.h 5∧s.h 700024=(((s14.h 700024).1+1),oW 212 2 M.Cache.en x36.1.Caches.Caches)∧s.h 7050000=(u50000,oW 37 3 M.aA.en r50000)∧s.h 7050001=(u50001,oW 239 2 M.aH.en r50001)∧s.h 7050002=(u50002,oW 5 1 enB r50002)∧s.h 7050100=(u50100_L2,oW 227 4 M.Item.en r50100_L2)∧s.h 7050101=(u50101_L2,oW 359 7 M.aT.en r50101_L2)∧s.h 7059000=(1,oB 199 [.old B0 (.sl (List.map enB p0.b)) (some u0),cI x160.1,cI x160.2.1])∧True) ?_
 rintro s162 ⟨f163,f164,f165,f166,f167,f168,f169,f170,f171,f172,f173,f174,f175,_⟩
 replace f168:=f168.trans f129
 rcases wF x160.2.2 with b176 | b176
 ·replace h:=bY b176 h
  refine cf (sk (an (sq ?_)))
  obtain ⟨x211,h212,h⟩:=bind_some h
  refine rn1 (aGI _ _ _ h212) ?_
  refine an (sq ?_)
  refine cu (fun s=>s.t 0=vP 7059000 1 0∧s.t 2=vP 2 ((s1.h 2).1+1) 0∧s.t 5=vP 5 ((s14.h 5).1+1) 0∧s.h 2=(((s1.h 2).1+1),aHk)∧s.h 5=(((s14.h 5).1+1),oB 46 [cS x36.1.Site,cS x36.1.Top,cS x36.1.Registration.Site,cI x36.1.Registration.Installing,cI x36.1.Registration.Waiting,cI x36.1.Registration.Active,.row 700024 ((s14.h 700024).1+1),cS w5_7,cI w5_8,.row 7050000 u50000,.row 7050001 u50001,.row 7050002 u50002,cI w5_12,cS w5_13_L2,.row 7050100 u50100_L2,cI w5_15_L2,cI w5_16_L2,cI w5_17_L2,cI w5_18_L2,.row 7050101 u50101_L2,cI w5_20_L2,cI w5_21_L2,cI x211.2.2,cB x36.1.Persistent])∧s.h 700024=(((s14.h 700024).1+1),oW 212 2 M.Cache.en x36.1.Caches.Caches)∧s.h 7050000=(u50000,oW 37 3 M.aA.en r50000)∧s.h 7050001=(u50001,oW 239 2 M.aH.en r50001)∧s.h 7050002=(u50002,oW 5 1 enB r50002)∧s.h 7050100=(u50100_L2,oW 227 4 M.Item.en r50100_L2)∧s.h 7050101=(u50101_L2,oW 359 7 M.aT.en r50101_L2)∧s.h 7059000=(1,oB 199 [.old B0 (.sl (List.map enB p0.b)) (some u0),cI x211.1,cI x211.2.1])∧True) ?_
  rintro s213 ⟨f214,f215,f216,f217,f218,f219,f220,f221,f222,f223,f224,f225,_⟩
  obtain ⟨x226,h227,h⟩:=bind_some h
  refine rn1 (c46 _ _ _ h227) ?_
  refine an (sq (rn ?_))
  refine an (rt ?_)
  cases h
  simp [aFF,Ret,TB,EN, *]
 replace h:=cD b176 h
 refine ct (sq ?_)
 obtain ⟨x177,h178,h⟩:=bind_some h
 refine rn1 (aGI _ _ _ h178) ?_
 refine an ?_
 refine cu (fun s=>s.t 0=vP 7059000 1 0∧s.t 2=vP 2 ((s1.h 2).1+1) 0∧s.t 5=vP 5 ((s14.h 5).1+1) 0∧s.h 2=(((s1.h 2).1+1),aHk)∧s.h 5=(((s14.h 5).1+1),oB 46 [cS x36.1.Site,cS x36.1.Top,cS x36.1.Registration.Site,cI x36.1.Registration.Installing,cI x36.1.Registration.Waiting,cI (IntKind.i64.wrap (1+x177.2.2)),.row 700024 ((s14.h 700024).1+1),cS w5_7,cI w5_8,.row 7050000 u50000,.row 7050001 u50001,.row 7050002 u50002,cI w5_12,cS w5_13_L2,.row 7050100 u50100_L2,cI w5_15_L2,cI w5_16_L2,cI w5_17_L2,cI w5_18_L2,.row 7050101 u50101_L2,cI w5_20_L2,cI w5_21_L2,cI x36.1.LastUsed,cB x36.1.Persistent])∧s.h 700024=(((s14.h 700024).1+1),oW 212 2 M.Cache.en x36.1.Caches.Caches)∧s.h 7050000=(u50000,oW 37 3 M.aA.en r50000)∧s.h 7050001=(u50001,oW 239 2 M.aH.en r50001)∧s.h 7050002=(u50002,oW 5 1 enB r50002)∧s.h 7050100=(u50100_L2,oW 227 4 M.Item.en r50100_L2)∧s.h 7050101=(u50101_L2,oW 359 7 M.aT.en r50101_L2)∧s.h 7059000=(1,oB 199 [.old B0 (.sl (List.map enB p0.b)) (some u0),cI x177.1,cI x177.2.1])∧True) ?_
 rintro s179 ⟨f180,f181,f182,f183,f184,f185,f186,f187,f188,f189,f190,f191,_⟩
 obtain ⟨x192,h193,h⟩:=bind_some h
 refine rn1 (aPp _ _ _ h193) ?_
 refine an (sq ?_)
 obtain ⟨x194,h195,h⟩:=bind_some h
 refine rn1 (aGI _ _ _ h195) ?_
 refine an (sq ?_)
 refine cu (fun s=>s.t 0=vP 7059000 1 0∧s.t 2=vP 2 ((s1.h 2).1+1) 0∧s.t 5=vP 5 ((s14.h 5).1+1) 0∧s.h 2=(((s1.h 2).1+1),aHk)∧s.h 5=(((s14.h 5).1+1),oB 46 [cS x36.1.Site,cS x36.1.Top,cS x36.1.Registration.Site,cI x36.1.Registration.Installing,cI x36.1.Registration.Waiting,cI (IntKind.i64.wrap (1+x177.2.2)),.row 100079 ((s179.h 100079).1+1),cS w5_7,cI w5_8,.row 7050000 u50000,.row 7050001 u50001,.row 7050002 u50002,cI w5_12,cS w5_13_L2,.row 7050100 u50100_L2,cI w5_15_L2,cI w5_16_L2,cI w5_17_L2,cI w5_18_L2,.row 7050101 u50101_L2,cI w5_20_L2,cI w5_21_L2,cI x194.2.2,cB x36.1.Persistent])∧s.h 100079=(((s179.h 100079).1+1),oW 212 2 M.Cache.en x192.1.Caches)∧s.h 7050000=(u50000,oW 37 3 M.aA.en r50000)∧s.h 7050001=(u50001,oW 239 2 M.aH.en r50001)∧s.h 7050002=(u50002,oW 5 1 enB r50002)∧s.h 7050100=(u50100_L2,oW 227 4 M.Item.en r50100_L2)∧s.h 7050101=(u50101_L2,oW 359 7 M.aT.en r50101_L2)∧s.h 7059000=(1,oB 199 [.old B0 (.sl (List.map enB p0.b)) (some u0),cI x194.1,cI x194.2.1])∧True) ?_
 rintro s196 ⟨f197,f198,f199,f200,f201,f202,f203,f204,f205,f206,f207,f208,_⟩
 obtain ⟨x209,h210,h⟩:=bind_some h
 refine rn1 (c46 _ _ _ h210) ?_
 refine an (sq (rn ?_))
 refine an (rt ?_)
 cases h
 simp [aFF,Ret,TB,EN, *]
instance:bP 124 (type_of% @aSg):=⟨@aSg⟩
theorem aRV (p0 r) (h:sX p0=some r):Sc 129 [(false,[.ptr [.sl (List.map enB p0.b),.int .i64 p0.i,.int .i64 p0.h]])] [(false,[.edit (.lend 199 [.int .i64 r.1,.int .i64 r.2.1])]),(true,M.bF.rs r.2.2)]:=by
 unfold sX at h
 simp only [EN]
 refine sgB 22 [.cell 2 34] Tryz.func129 fun base wd B0 u0 hw0 => ?_
 refine gB (J:=fun s=>s.t 0=vP 7059000 1 0∧s.h 7059000=(1,oB 199 [.old B0 (.sl (List.map enB p0.b)) (some u0),cI p0.i,cI p0.h])∧True) ?_ ?_
 ·refine ⟨?_,?_,trivial⟩<;>(try simp only [LN,List.map_cons,List.map_nil])<;>rfl
 rintro s1 ⟨f2,f3,_⟩
 have i1:=aBx [.b 3 2 7050000 37 3,.b 3 3 7050001 239 2,.b 3 4 7050002 5 1] fun m s=>∃v4:Int,∃w3_0:ByteArray,∃w3_1:Int,∃w3_5:Int,∃w7059000_1:Int,∃w7059000_2:Int,∃r50000:List M.aA,∃r50001:List M.aH,∃r50002:List Int,∃u50000:Nat,∃u50001:Nat,∃u50002:Nat,(s.t 0=vP 7059000 1 0∧s.t 2=vP 2 ((s1.h 2).1+1) 0∧s.t 3=vP 3 ((s1.h 3).1+1) 0∧s.t 4=vI v4∧s.h 2=(((s1.h 2).1+1),aRv)∧s.h 3=(((s1.h 3).1+1),oB 34 [cS w3_0,cI w3_1,.row 7050000 u50000,.row 7050001 u50001,.row 7050002 u50002,cI w3_5])∧s.h 7050000=(u50000,oW 37 3 M.aA.en r50000)∧s.h 7050001=(u50001,oW 239 2 M.aH.en r50001)∧s.h 7050002=(u50002,oW 5 1 enB r50002)∧s.h 7059000=(1,oB 199 [.old B0 (.sl (List.map enB p0.b)) (some u0),cI w7059000_1,cI w7059000_2]))∧jY p0 m v4 w3_0 w3_1 w3_5 w7059000_1 w7059000_2 r50000 r50001 r50002=some r
 have e1:=@jY.eq_2
 exact sgX
instance:bP 129 (type_of% @aRV):=⟨@aRV⟩
theorem c33 (p0 r) (h:sD p0=some r):Sc 33 [(false,[.ptr [.sl (List.map enB p0.b),.int .i64 p0.i,.int .i64 p0.h]])] [(false,[.edit (.lend 199 [.int .i64 r.1,.int .i64 r.2.1])]),(true,M.bF.rs r.2.2)]:=by
 unfold sD at h
 simp only [EN]
 refine sgB 38 [.cell 2 34] Tryz.func33 fun base wd B0 u0 hw0 => ?_
 refine gB (J:=fun s=>s.t 0=vP 7059000 1 0∧s.h 7059000=(1,oB 199 [.old B0 (.sl (List.map enB p0.b)) (some u0),cI p0.i,cI p0.h])∧True) ?_ ?_
 ·refine ⟨?_,?_,trivial⟩<;>(try simp only [LN,List.map_cons,List.map_nil])<;>rfl
 rintro s1 ⟨f2,f3,_⟩
 exact sgX
instance:bP 33 (type_of% @c33):=⟨@c33⟩
theorem c32 (p0 r) (h:sE p0=some r):Sc 32 [(false,[.ptr [.sl (List.map enB p0.b),.int .i64 p0.i,.int .i64 p0.h]])] [(false,[.edit (.lend 199 [.int .i64 r.1,.int .i64 r.2.1])]),(true,M.Bucket.rs r.2.2)]:=by
 unfold sE at h
 simp only [EN]
 refine sgB 50 [.cell 2 46] Tryz.func32 fun base wd B0 u0 hw0 => ?_
 refine gB (J:=fun s=>s.t 0=vP 7059000 1 0∧s.h 7059000=(1,oB 199 [.old B0 (.sl (List.map enB p0.b)) (some u0),cI p0.i,cI p0.h])∧True) ?_ ?_
 ·refine ⟨?_,?_,trivial⟩<;>(try simp only [LN,List.map_cons,List.map_nil])<;>rfl
 rintro s1 ⟨f2,f3,_⟩
 have i1:=fun (x4:(Int×Int×M.Bucket)) (x19:(Int×Int×Int)) (s21:St)=>inv fun m s=>∃r5:List Int,∃u5:Nat,(s.t 0=vP 7059000 1 0∧s.t 2=vP 2 ((s1.h 2).1+1) 0∧s.t 3=vP 3 ((s1.h 3).1+1) 0∧s.h 2=(((s1.h 2).1+1),aHk)∧s.h 3=(((s1.h 3).1+1),oB 46 [cS x4.2.2.Site,cS x4.2.2.Top,cS x4.2.2.Registration.Site,cI x4.2.2.Registration.Installing,cI x4.2.2.Registration.Waiting,cI x4.2.2.Registration.Active,.row 700005 ((s1.h 700005).1+1),cS x4.2.2.bF.Base.Name,cI x4.2.2.bF.Base.Version,.row 1000005 ((s1.h 1000005).1+1),.row 1100005 ((s1.h 1100005).1+1),.row 1200005 u5,cI x4.2.2.bF.Count,cS x4.2.2.aD.Base.Name,.row 1500005 ((s1.h 1500005).1+1),cI x4.2.2.aD.Base.Auto,cI x4.2.2.aD.Seen,cI x4.2.2.aD.Sync.aG.Device,cI x4.2.2.aD.Sync.aG.Next,.row 2000005 ((s1.h 2000005).1+1),cI x4.2.2.aD.Sync.Tries,cI x4.2.2.aD.Sync.WaitUntil,cI x4.2.2.LastUsed,cB x4.2.2.Persistent])∧s.h 700005=(((s1.h 700005).1+1),oW 212 2 M.Cache.en x4.2.2.Caches.Caches)∧s.h 1000005=(((s1.h 1000005).1+1),oW 37 3 M.aA.en x4.2.2.bF.Base.Stores)∧s.h 1100005=(((s1.h 1100005).1+1),oW 239 2 M.aH.en x4.2.2.bF.Base.Unique)∧s.h 1200005=(u5,oW 5 1 enB r5)∧s.h 1500005=(((s1.h 1500005).1+1),oW 227 4 M.Item.en x4.2.2.aD.Base.Items)∧s.h 2000005=s21.h 2000005∧s.h 7059000=s21.h 7059000)∧jC x4 x19 m r5=some r
 have e1:=@jC.eq_2
 exact sgX
instance:bP 32 (type_of% @c32):=⟨@c32⟩
theorem c7 (p0 r) (h:jH p0=some r):Sc 7 [aL enB p0] [(true,M.Bucket.rs r.1),(true,M.bF.rs r.2)]:=by
 unfold jH at h
 exact sgo 13 [.cell 2 46,.cell 3 34] Tryz.func7
instance:bP 7 (type_of% @c7):=⟨@c7⟩
theorem c12 (p0 r) (h:gZ p0=some r):Sc 12 [aL enB p0] [(true,M.Bucket.rs r.1),(true,M.aE.rs r.2.1),(true,M.Registration.rs r.2.2)]:=by
 unfold gZ at h
 exact sgo 25 [.cell 2 46,.cell 3 28,.cell 4 25] Tryz.func12
instance:bP 12 (type_of% @c12):=⟨@c12⟩
end Go.Proofs.YtidhkhdnjonjfaaGreat.gen
