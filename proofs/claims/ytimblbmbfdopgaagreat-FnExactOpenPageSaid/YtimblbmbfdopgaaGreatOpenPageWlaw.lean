/-
  Helper text. No conditions.
-/
import Derived.Test.YtimblbmbfdopgaaGreatOpenPageTi
import Derived.Test.YtimblbmbfdopgaaGreatOpenPageWeq
import Derived.Test.YtimblbmbfdopgaaGreatOpenPageWheld
import Derived.Test.YtimblbmbfdopgaaGreatOpenPageWimpl2
import Derived.Test.YtimblbmbfdopgaaGreatOpenPageWmark1
import Derived.Test.YtimblbmbfdopgaaGreatOpenPageWmark2
import Derived.Test.YtimblbmbfdopgaaGreatOpenPageWspec1
import Derived.Test.YtimblbmbfdopgaaGreatOpenPageWsz
import Derived.Test.YtimblbmbfdopgaaGreatOpenPageWto
set_option linter.unusedVariables false
set_option linter.unusedSimpArgs false
namespace Go.Proofs.YtimblbmbfdopgaaGreat.gen
open Go Go.Sh
set_option maxRecDepth 20000
set_option maxHeartbeats 4000000
theorem aEU (p0:M.World) (p1:ByteArray) (p2:ByteArray) (p3:List M.Instr) (r:Bool) (h:oK p0 p1 p2 p3=some r):mY Tryz.prog 9 [(true,M.World.en p0),(false,[.str p1]),(false,[.str p2]),(false,[.sl (List.map M.Instr.en p3)])] [(false,[.ro (.bool r)])]:=by
 unfold oK at h
 simp only [M.World.en]
 refine aQ3 (N:=156) (vars:=[.tmp 8]) Tryz.func9 rfl rfl rfl (by decide +kernel) (Nat.le_of_ble_eq_true rfl) fun base wd => ?_
 refine sq (ln ?_)
 refine an (sq (sq (ln ?_)))
 refine an ?_
 rcases bS (decide ((p1.size:Int)>1048576)) with b1 | b1
 ·replace h:=bJ b1 h
  refine lct (sq (ln ?_))
  refine an (rt ?_)
  cases h
  simp [Ret,TB,EN, *]
 replace h:=bI b1 h
 refine lcf (sk (an (sq (sq (ln ?_)))))
 refine an ?_
 rcases bS (decide ((p2.size:Int)>1048576)) with b2 | b2
 ·replace h:=bJ b2 h
  refine lct (sq (ln ?_))
  refine an (rt ?_)
  cases h
  simp [Ret,TB,EN, *]
 replace h:=bI b2 h
 refine lcf (sk (an (sq (ln ?_))))
 refine an (sq ?_)
 obtain ⟨x3,h4,h⟩:=bind_some h
 refine ln1 (c10 _ _ _ h4) ?_
 refine an (sq (sq (ln ?_)))
 refine an ?_
 rcases bS (decide (x3<0)) with b5 | b5
 ·replace h:=bJ b5 h
  refine lct (sq (ln ?_))
  refine an (rt ?_)
  cases h
  simp [Ret,TB,EN, *]
 replace h:=bI b5 h
 refine lcf (sk (an (sq ?_)))
 obtain ⟨x6,h7,h⟩:=bind_some h
 refine ln1 (c59 _ _ _ h7) ?_
 refine an (sq (sq (ln ?_)))
 refine an ?_
 rcases bS (decide (x6<0)) with b8 | b8
 ·replace h:=bJ b8 h
  refine lct (sq (ln ?_))
  refine an (rt ?_)
  cases h
  simp [Ret,TB,EN, *]
 replace h:=bI b8 h
 refine lcf (sk (an (sq ?_)))
 obtain ⟨x9,h10,h⟩:=bind_some h
 obtain ⟨x11,h12,h⟩:=bind_some h
 obtain ⟨x13,h14,h⟩:=bind_some h
 apply aBR
 ·simp +decide only [LX,E,reduceIte,Nat.reduceAdd,Nat.reduceMul,qB,qC,L,aPt,aLs,EN,b1,b2,b5,b8]
  refine ⟨_,c13 _ _ h10,?_⟩
  try simp +decide only [LX,E,reduceIte,Nat.reduceAdd,Nat.reduceMul,qB,qC,L,aPt,aLs,EN,b1,b2,b5,b8]
  refine ⟨_,c61 _ _ h12,?_⟩
  try simp +decide only [LX,E,reduceIte,Nat.reduceAdd,Nat.reduceMul,qB,qC,L,aPt,aLs,EN,b1,b2,b5,b8]
  refine ⟨_,c60 _ _ _ _ _ h14,?_⟩
  try simp +decide only [LX,E,reduceIte,Nat.reduceAdd,Nat.reduceMul,qB,qC,L,aPt,aLs,EN,b1,b2,b5,b8]
  exact Is.mk _
 refine an (sq ?_)
 obtain ⟨x15,h16,h⟩:=bind_some h
 refine ln1 (c13 _ _ h16) ?_
 refine an (sq ?_)
 obtain ⟨x17,h18,h⟩:=bind_some h
 refine ln1 (c61 _ _ h18) ?_
 refine an (sq ?_)
 obtain ⟨x19,h20,h⟩:=bind_some h
 refine ln1 (c62 _ _ _ _ _ h20) ?_
 refine an (sq (sq ?_))
 obtain ⟨x21,h22,h⟩:=bind_some h
 rcases bS (!x21) with b23 | b23
 ·replace h:=bJ b23 h
  refine ln1 (c16 _ _ _ h22) ?_
  refine an (lct (sq (ln ?_)))
  refine an (rt ?_)
  cases h
  simp [Ret,TB,EN, *]
 replace h:=bI b23 h
 rcases bS (x19.2.1 != x13.2.1) with b24 | b24
 ·replace h:=bJ b24 h
  refine ln1 (c16 _ _ _ h22) ?_
  refine an (lct (sq (ln ?_)))
  refine an (rt ?_)
  cases h
  simp [Ret,TB,EN, *]
 replace h:=bI b24 h
 refine ln1 (c16 _ _ _ h22) ?_
 refine an ?_
 rcases bS (!(x19.2.2==x13.2.2)) with b25 | b25
 ·replace h:=bJ b25 h
  refine lct (sq (ln ?_))
  refine an (rt ?_)
  cases h
  simp [Ret,TB,EN, *]
 replace h:=bI b25 h
 refine lcf (sk (an (sq (sq ?_))))
 refine lcu (fun s=>s.t 1 = .v false [.dat (.str p1)]∧s.t 2 = .v false [.dat (.str p2)]∧s.t 3 = .v false [.old base (.sl (List.map M.Instr.en p3)) none]∧s.t 4 = .v false [.bp 4 1 0]∧s.t 10 = .v false [.bp 10 1 0]∧s.t 11 = .v false [.dat (.int .i64 x13.2.1)]∧s.t 12 = .v false [.dat (.bool x13.2.2)]∧s.t 13 = .v false [.bp 13 1 0]∧s.t 14 = .v false [.row 100054 1]∧s.t 15 = .v false [.bp 15 1 0]∧s.t 16 = .v false [.dat (.int .i64 x19.2.1)]∧s.t 17 = .v false [.dat (.bool x19.2.2)]∧s.h 4=(1,.box 35 [.dat (.int .i64 p0.Now),.dat (.bool p0.Online),.dat (.int .i64 p0.Device),.old base (.sl (List.map M.aC.en p0.aA.Buckets)) none,.old base (.sl (List.map M.bH.en p0.Pages)) none,.dat (.int .i64 p0.NextPage),.old base (.sl (List.map M.cJ.en p0.Locks.Locks)) none,.old base (.sl (List.map M.eU.en p0.Channel.Mails)) none,.old base (.sl (List.map M.Site.en p0.Sites)) none,.old base (.sl (List.map M.Server.en p0.Servers)) none])∧s.h 10=(1,.box 58 [.dat (.int .i64 x13.1.Now),.dat (.bool x13.1.Online),.dat (.int .i64 x13.1.Device),.row 400047 1,.row 500047 1,.dat (.int .i64 x13.1.NextPage),.row 700047 1,.row 800047 1,.row 900047 1,.row 1000047 1])∧s.h 13=(1,.box 58 [.dat (.int .i64 x15.Now),.dat (.bool x15.Online),.dat (.int .i64 x15.Device),.row 400052 1,.row 500052 1,.dat (.int .i64 x15.NextPage),.row 700052 1,.row 800052 1,.row 900052 1,.row 1000052 1])∧s.h 15=(1,.box 58 [.dat (.int .i64 x19.1.Now),.dat (.bool x19.1.Online),.dat (.int .i64 x19.1.Device),.row 400060 1,.row 500060 1,.dat (.int .i64 x19.1.NextPage),.row 700060 1,.row 800060 1,.row 900060 1,.row 1000060 1])∧s.h 100054=(1,.row 279 4 (List.map M.Instr.en x17) true)∧s.h 400047=(1,.row 98 24 (List.map M.aC.en x13.1.aA.Buckets) true)∧s.h 400052=(1,.row 98 24 (List.map M.aC.en x15.aA.Buckets) true)∧s.h 400060=(1,.row 98 24 (List.map M.aC.en x19.1.aA.Buckets) true)∧s.h 500047=(1,.row 67 11 (List.map M.bH.en x13.1.Pages) true)∧s.h 500052=(1,.row 67 11 (List.map M.bH.en x15.Pages) true)∧s.h 500060=(1,.row 67 11 (List.map M.bH.en x19.1.Pages) true)∧s.h 700047=(1,.row 249 4 (List.map M.cJ.en x13.1.Locks.Locks) true)∧s.h 700052=(1,.row 249 4 (List.map M.cJ.en x15.Locks.Locks) true)∧s.h 700060=(1,.row 249 4 (List.map M.cJ.en x19.1.Locks.Locks) true)∧s.h 800047=(1,.row 252 3 (List.map M.eU.en x13.1.Channel.Mails) true)∧s.h 800052=(1,.row 252 3 (List.map M.eU.en x15.Channel.Mails) true)∧s.h 800060=(1,.row 252 3 (List.map M.eU.en x19.1.Channel.Mails) true)∧s.h 900047=(1,.row 131 4 (List.map M.Site.en x13.1.Sites) true)∧s.h 900052=(1,.row 131 4 (List.map M.Site.en x15.Sites) true)∧s.h 900060=(1,.row 131 4 (List.map M.Site.en x19.1.Sites) true)∧s.h 1000047=(1,.row 234 5 (List.map M.Server.en x13.1.Servers) true)∧s.h 1000052=(1,.row 234 5 (List.map M.Server.en x15.Servers) true)∧s.h 1000060=(1,.row 234 5 (List.map M.Server.en x19.1.Servers) true)∧True) ?_
 rintro s26 ⟨f27,f28,f29,f30,f31,f32,f33,f34,f35,f36,f37,f38,f39,f40,f41,f42,f43,f44,f45,f46,f47,f48,f49,f50,f51,f52,f53,f54,f55,f56,f57,f58,f59,f60,f61,_⟩
 obtain ⟨x62,h63,h⟩:=bind_some h
 obtain ⟨x64,h65,h⟩:=bind_some h
 refine ld2 mixed (c13 _ _ h63) (c16 _ _ _ h65) ?_
 refine an ?_
 rcases bS (!x64) with b66 | b66
 ·replace h:=bJ b66 h
  refine lct (sq (ln ?_))
  refine an (rt ?_)
  cases h
  simp [Ret,TB,EN, *]
 replace h:=bI b66 h
 refine lcf (sk (an (sq (sq ?_))))
 obtain ⟨x67,h68,h⟩:=bind_some h
 obtain ⟨x69,h70,h⟩:=bind_some h
 refine ln2 (c61 _ _ h68) (c63 _ _ _ h70) ?_
 refine an ?_
 rcases bS (!x69) with b71 | b71
 ·replace h:=bJ b71 h
  refine lct (sq (ln ?_))
  refine an (rt ?_)
  cases h
  simp [Ret,TB,EN, *]
 replace h:=bI b71 h
 refine lcf (sk (an (sq (ln ?_))))
 refine an (sq ?_)
 obtain ⟨x72,h73,h⟩:=bind_some h
 refine aLr (n:=2) (x:=88) (y:=89) (d:=90) (ag:=true) (cs:=[.dat (.int .i64 x15.Now),.dat (.bool x15.Online),.dat (.int .i64 x15.Device),.row 400052 1,.row 500052 1,.dat (.int .i64 x15.NextPage),.row 700052 1,.row 800052 1,.row 900052 1,.row 1000052 1]) (k:=1) [1,2,3,4,10,11,12,14,15,16,17,18] [4,10,15,100054,400047,400060,500047,500060,700047,700060,800047,800060,900047,900060,1000047,1000060] rfl rfl rfl rfl rfl (by decide) ?_ ?_ ?_ (aEI x15 1 x72 h73) ?_ (by simp +decide [aBN]) ?_ ?_ ?_ ?_ (s1 := ?S186) (s3 := ?S187)
 rotate_left 2
 ·simp +decide only [LX,E,reduceIte,Nat.reduceAdd,Nat.reduceMul,Int.reduceEq,Int.reduceLT,qB,qC,L,TB,EN, *,-h]
  exact Is.mk _
 ·simp +decide only [LX,F,reduceIte,Nat.reduceAdd,qB,qC,EN, *,-h]
 ·simp +decide only [LX,F,reduceIte,Nat.reduceAdd,qB,qC,EN, *,-h]
 ·refine ⟨_,_,rfl,rfl,rfl,?_⟩
  refine ⟨_,_,rfl,rfl,rfl,?_⟩
  refine ⟨_,_,rfl,rfl,rfl,?_⟩
  refine ⟨98,24,List.map M.aC.en x15.aA.Buckets,List.map M.aC.en x72.1,_,_,by simp +decide only [LX,F,reduceIte,Nat.reduceAdd,qB,qC,EN, *,-h],aDp (f:=M.aC.en) (fun _=>rfl) _,rfl,rfl,?_⟩
  refine ⟨67,11,List.map M.bH.en x15.Pages,List.map M.bH.en x72.2.1,_,_,by simp +decide only [LX,F,reduceIte,Nat.reduceAdd,qB,qC,EN, *,-h],aDp (f:=M.bH.en) (fun _=>rfl) _,rfl,rfl,?_⟩
  refine ⟨_,_,rfl,rfl,rfl,?_⟩
  refine ⟨249,4,List.map M.cJ.en x15.Locks.Locks,List.map M.cJ.en x72.2.2.1,_,_,by simp +decide only [LX,F,reduceIte,Nat.reduceAdd,qB,qC,EN, *,-h],aDp (f:=M.cJ.en) (fun _=>rfl) _,rfl,rfl,?_⟩
  refine ⟨252,3,List.map M.eU.en x15.Channel.Mails,List.map M.eU.en x72.2.2.2.1,_,_,by simp +decide only [LX,F,reduceIte,Nat.reduceAdd,qB,qC,EN, *,-h],aDp (f:=M.eU.en) (fun _=>rfl) _,rfl,rfl,?_⟩
  refine ⟨131,4,List.map M.Site.en x15.Sites,List.map M.Site.en x72.2.2.2.2.1,_,_,by simp +decide only [LX,F,reduceIte,Nat.reduceAdd,qB,qC,EN, *,-h],aDp (f:=M.Site.en) (fun _=>rfl) _,rfl,rfl,?_⟩
  refine ⟨234,5,List.map M.Server.en x15.Servers,List.map M.Server.en x72.2.2.2.2.2.1,_,_,by simp +decide only [LX,F,reduceIte,Nat.reduceAdd,qB,qC,EN, *,-h],aDp (f:=M.Server.en) (fun _=>rfl) _,rfl,rfl,?_⟩
  exact ⟨rfl,rfl⟩
 ·simp +decide only [LC,LX,F,reduceIte,Nat.reduceAdd,qB,qC,EN, *,-h]
 ·simp +decide only [LC,LX,F,reduceIte,Nat.reduceAdd,qB,qC,EN, *,-h]
 ·simp +decide only [LX,E,reduceIte,Nat.reduceAdd,Nat.reduceMul,Int.reduceEq,Int.reduceLT,qB,qC,L,TB,EN, *,-h]
  exact Is.mk _
 refine an (sq ?_)
 refine lcu (fun s=>s.t 1 = .v false [.dat (.str p1)]∧s.t 2 = .v false [.dat (.str p2)]∧s.t 3 = .v false [.old base (.sl (List.map M.Instr.en p3)) none]∧s.t 4 = .v false [.bp 4 1 0]∧s.t 10 = .v false [.bp 10 1 0]∧s.t 11 = .v false [.dat (.int .i64 x13.2.1)]∧s.t 12 = .v false [.dat (.bool x13.2.2)]∧s.t 14 = .v false [.row 100054 1]∧s.t 15 = .v false [.bp 15 1 0]∧s.t 16 = .v false [.dat (.int .i64 x19.2.1)]∧s.t 17 = .v false [.dat (.bool x19.2.2)]∧s.t 18 = .v false [.dat (.int .i64 x72.2.2.2.2.2.2)]∧s.h 4=(1,.box 35 [.dat (.int .i64 p0.Now),.dat (.bool p0.Online),.dat (.int .i64 p0.Device),.old base (.sl (List.map M.aC.en p0.aA.Buckets)) none,.old base (.sl (List.map M.bH.en p0.Pages)) none,.dat (.int .i64 p0.NextPage),.old base (.sl (List.map M.cJ.en p0.Locks.Locks)) none,.old base (.sl (List.map M.eU.en p0.Channel.Mails)) none,.old base (.sl (List.map M.Site.en p0.Sites)) none,.old base (.sl (List.map M.Server.en p0.Servers)) none])∧s.h 10=(1,.box 58 [.dat (.int .i64 x13.1.Now),.dat (.bool x13.1.Online),.dat (.int .i64 x13.1.Device),.row 400047 1,.row 500047 1,.dat (.int .i64 x13.1.NextPage),.row 700047 1,.row 800047 1,.row 900047 1,.row 1000047 1])∧s.h 15=(1,.box 58 [.dat (.int .i64 x19.1.Now),.dat (.bool x19.1.Online),.dat (.int .i64 x19.1.Device),.row 400060 1,.row 500060 1,.dat (.int .i64 x19.1.NextPage),.row 700060 1,.row 800060 1,.row 900060 1,.row 1000060 1])∧s.h 100054=(1,.row 279 4 (List.map M.Instr.en x17) true)∧s.h 400047=(1,.row 98 24 (List.map M.aC.en x13.1.aA.Buckets) true)∧s.h 400060=(1,.row 98 24 (List.map M.aC.en x19.1.aA.Buckets) true)∧s.h 500047=(1,.row 67 11 (List.map M.bH.en x13.1.Pages) true)∧s.h 500060=(1,.row 67 11 (List.map M.bH.en x19.1.Pages) true)∧s.h 700047=(1,.row 249 4 (List.map M.cJ.en x13.1.Locks.Locks) true)∧s.h 700060=(1,.row 249 4 (List.map M.cJ.en x19.1.Locks.Locks) true)∧s.h 800047=(1,.row 252 3 (List.map M.eU.en x13.1.Channel.Mails) true)∧s.h 800060=(1,.row 252 3 (List.map M.eU.en x19.1.Channel.Mails) true)∧s.h 900047=(1,.row 131 4 (List.map M.Site.en x13.1.Sites) true)∧s.h 900060=(1,.row 131 4 (List.map M.Site.en x19.1.Sites) true)∧s.h 1000047=(1,.row 234 5 (List.map M.Server.en x13.1.Servers) true)∧s.h 1000060=(1,.row 234 5 (List.map M.Server.en x19.1.Servers) true)∧True) ?_
 rintro s74 ⟨f75,f76,f77,f78,f79,f80,f81,f82,f83,f84,f85,f86,f87,f88,f89,f90,f91,f92,f93,f94,f95,f96,f97,f98,f99,f100,f101,f102,_⟩
 obtain ⟨x103,h104,h⟩:=bind_some h
 refine aLr (n:=2) (x:=91) (y:=92) (d:=93) (ag:=false) (cs:=[.row 100054 1]) (k:=x72.2.2.2.2.2.2) [1,2,3,4,10,11,12,15,16,17,18] [4,10,15,400047,400060,500047,500060,700047,700060,800047,800060,900047,900060,1000047,1000060] rfl rfl rfl rfl rfl (by decide) ?_ ?_ ?_ (aDm x17 x72.2.2.2.2.2.2 x103 h104) ?_ (by simp +decide [aBN]) ?_ ?_ ?_ ?_ (s1 := ?S184) (s3 := ?S185)
 rotate_left 2
 ·simp +decide only [LX,E,reduceIte,Nat.reduceAdd,Nat.reduceMul,Int.reduceEq,Int.reduceLT,qB,qC,L,TB,EN, *,-h]
  exact Is.mk _
 ·simp +decide only [LX,F,reduceIte,Nat.reduceAdd,qB,qC,EN, *,-h]
 ·simp +decide only [LX,F,reduceIte,Nat.reduceAdd,qB,qC,EN, *,-h]
 ·refine ⟨279,4,List.map M.Instr.en x17,List.map M.Instr.en x103.1,_,_,by simp +decide only [LX,F,reduceIte,Nat.reduceAdd,qB,qC,EN, *,-h],aDp (f:=M.Instr.en) (fun _=>rfl) _,rfl,rfl,?_⟩
  exact ⟨rfl,rfl⟩
 ·simp +decide only [LC,LX,F,reduceIte,Nat.reduceAdd,qB,qC,EN, *,-h]
 ·simp +decide only [LC,LX,F,reduceIte,Nat.reduceAdd,qB,qC,EN, *,-h]
 ·simp +decide only [LX,E,reduceIte,Nat.reduceAdd,Nat.reduceMul,Int.reduceEq,Int.reduceLT,qB,qC,L,TB,EN, *,-h]
  exact Is.mk _
 refine an (sq (sq ?_))
 refine lcu (fun s=>s.t 1 = .v false [.dat (.str p1)]∧s.t 2 = .v false [.dat (.str p2)]∧s.t 3 = .v false [.old base (.sl (List.map M.Instr.en p3)) none]∧s.t 4 = .v false [.bp 4 1 0]∧s.t 10 = .v false [.bp 10 1 0]∧s.t 11 = .v false [.dat (.int .i64 x13.2.1)]∧s.t 12 = .v false [.dat (.bool x13.2.2)]∧s.t 15 = .v false [.bp 15 1 0]∧s.t 16 = .v false [.dat (.int .i64 x19.2.1)]∧s.t 17 = .v false [.dat (.bool x19.2.2)]∧s.t 18 = .v false [.dat (.int .i64 x103.2)]∧s.h 4=(1,.box 35 [.dat (.int .i64 p0.Now),.dat (.bool p0.Online),.dat (.int .i64 p0.Device),.old base (.sl (List.map M.aC.en p0.aA.Buckets)) none,.old base (.sl (List.map M.bH.en p0.Pages)) none,.dat (.int .i64 p0.NextPage),.old base (.sl (List.map M.cJ.en p0.Locks.Locks)) none,.old base (.sl (List.map M.eU.en p0.Channel.Mails)) none,.old base (.sl (List.map M.Site.en p0.Sites)) none,.old base (.sl (List.map M.Server.en p0.Servers)) none])∧s.h 10=(1,.box 58 [.dat (.int .i64 x13.1.Now),.dat (.bool x13.1.Online),.dat (.int .i64 x13.1.Device),.row 400047 1,.row 500047 1,.dat (.int .i64 x13.1.NextPage),.row 700047 1,.row 800047 1,.row 900047 1,.row 1000047 1])∧s.h 15=(1,.box 58 [.dat (.int .i64 x19.1.Now),.dat (.bool x19.1.Online),.dat (.int .i64 x19.1.Device),.row 400060 1,.row 500060 1,.dat (.int .i64 x19.1.NextPage),.row 700060 1,.row 800060 1,.row 900060 1,.row 1000060 1])∧s.h 400047=(1,.row 98 24 (List.map M.aC.en x13.1.aA.Buckets) true)∧s.h 400060=(1,.row 98 24 (List.map M.aC.en x19.1.aA.Buckets) true)∧s.h 500047=(1,.row 67 11 (List.map M.bH.en x13.1.Pages) true)∧s.h 500060=(1,.row 67 11 (List.map M.bH.en x19.1.Pages) true)∧s.h 700047=(1,.row 249 4 (List.map M.cJ.en x13.1.Locks.Locks) true)∧s.h 700060=(1,.row 249 4 (List.map M.cJ.en x19.1.Locks.Locks) true)∧s.h 800047=(1,.row 252 3 (List.map M.eU.en x13.1.Channel.Mails) true)∧s.h 800060=(1,.row 252 3 (List.map M.eU.en x19.1.Channel.Mails) true)∧s.h 900047=(1,.row 131 4 (List.map M.Site.en x13.1.Sites) true)∧s.h 900060=(1,.row 131 4 (List.map M.Site.en x19.1.Sites) true)∧s.h 1000047=(1,.row 234 5 (List.map M.Server.en x13.1.Servers) true)∧s.h 1000060=(1,.row 234 5 (List.map M.Server.en x19.1.Servers) true)∧True) ?_
 rintro s105 ⟨f106,f107,f108,f109,f110,f111,f112,f113,f114,f115,f116,f117,f118,f119,f120,f121,f122,f123,f124,f125,f126,f127,f128,f129,f130,f131,_⟩
 rcases bS (decide (x103.2<0)) with b132 | b132
 ·replace h:=bJ b132 h
  refine ln ?_
  refine an (lct (sq (ln ?_)))
  refine an (rt ?_)
  cases h
  simp [Ret,TB,EN, *]
 replace h:=bI b132 h
 obtain ⟨x133,h134,h⟩:=bind_some h
 rcases bS (!x133) with b135 | b135
 ·replace h:=bJ b135 h
  refine ln1 (c16 _ _ _ h134) ?_
  refine an (lct (sq (ln ?_)))
  refine an (rt ?_)
  cases h
  simp [Ret,TB,EN, *]
 replace h:=bI b135 h
 refine ln1 (c16 _ _ _ h134) ?_
 refine an (lcf (sk (an (sq (ln ?_)))))
 refine an (sq ?_)
 obtain ⟨x136,h137,h⟩:=bind_some h
 refine aLr (n:=2) (x:=112) (y:=113) (d:=114) (ag:=true) (cs:=[.dat (.int .i64 x19.1.Now),.dat (.bool x19.1.Online),.dat (.int .i64 x19.1.Device),.row 400060 1,.row 500060 1,.dat (.int .i64 x19.1.NextPage),.row 700060 1,.row 800060 1,.row 900060 1,.row 1000060 1]) (k:=1) [1,2,3,4,10,11,12,15,19] [4,10,15,400047,400060,500047,500060,700047,700060,800047,800060,900047,900060,1000047,1000060] rfl rfl rfl rfl rfl (by decide) ?_ ?_ ?_ (aEI x19.1 1 x136 h137) ?_ (by simp +decide [aBN]) ?_ ?_ ?_ ?_ (s1 := ?S182) (s3 := ?S183)
 rotate_left 2
 ·simp +decide only [LX,E,reduceIte,Nat.reduceAdd,Nat.reduceMul,Int.reduceEq,Int.reduceLT,qB,qC,L,TB,EN, *,-h]
  exact Is.mk _
 ·simp +decide only [LX,F,reduceIte,Nat.reduceAdd,qB,qC,EN, *,-h]
 ·simp +decide only [LX,F,reduceIte,Nat.reduceAdd,qB,qC,EN, *,-h]
 ·refine ⟨_,_,rfl,rfl,rfl,?_⟩
  refine ⟨_,_,rfl,rfl,rfl,?_⟩
  refine ⟨_,_,rfl,rfl,rfl,?_⟩
  refine ⟨98,24,List.map M.aC.en x19.1.aA.Buckets,List.map M.aC.en x136.1,_,_,by simp +decide only [LX,F,reduceIte,Nat.reduceAdd,qB,qC,EN, *,-h],aDp (f:=M.aC.en) (fun _=>rfl) _,rfl,rfl,?_⟩
  refine ⟨67,11,List.map M.bH.en x19.1.Pages,List.map M.bH.en x136.2.1,_,_,by simp +decide only [LX,F,reduceIte,Nat.reduceAdd,qB,qC,EN, *,-h],aDp (f:=M.bH.en) (fun _=>rfl) _,rfl,rfl,?_⟩
  refine ⟨_,_,rfl,rfl,rfl,?_⟩
  refine ⟨249,4,List.map M.cJ.en x19.1.Locks.Locks,List.map M.cJ.en x136.2.2.1,_,_,by simp +decide only [LX,F,reduceIte,Nat.reduceAdd,qB,qC,EN, *,-h],aDp (f:=M.cJ.en) (fun _=>rfl) _,rfl,rfl,?_⟩
  refine ⟨252,3,List.map M.eU.en x19.1.Channel.Mails,List.map M.eU.en x136.2.2.2.1,_,_,by simp +decide only [LX,F,reduceIte,Nat.reduceAdd,qB,qC,EN, *,-h],aDp (f:=M.eU.en) (fun _=>rfl) _,rfl,rfl,?_⟩
  refine ⟨131,4,List.map M.Site.en x19.1.Sites,List.map M.Site.en x136.2.2.2.2.1,_,_,by simp +decide only [LX,F,reduceIte,Nat.reduceAdd,qB,qC,EN, *,-h],aDp (f:=M.Site.en) (fun _=>rfl) _,rfl,rfl,?_⟩
  refine ⟨234,5,List.map M.Server.en x19.1.Servers,List.map M.Server.en x136.2.2.2.2.2.1,_,_,by simp +decide only [LX,F,reduceIte,Nat.reduceAdd,qB,qC,EN, *,-h],aDp (f:=M.Server.en) (fun _=>rfl) _,rfl,rfl,?_⟩
  exact ⟨rfl,rfl⟩
 ·simp +decide only [LC,LX,F,reduceIte,Nat.reduceAdd,qB,qC,EN, *,-h]
 ·simp +decide only [LC,LX,F,reduceIte,Nat.reduceAdd,qB,qC,EN, *,-h]
 ·simp +decide only [LX,E,reduceIte,Nat.reduceAdd,Nat.reduceMul,Int.reduceEq,Int.reduceLT,qB,qC,L,TB,EN, *,-h]
  exact Is.mk _
 refine an (sq ?_)
 refine lcu (fun s=>s.t 1 = .v false [.dat (.str p1)]∧s.t 2 = .v false [.dat (.str p2)]∧s.t 3 = .v false [.old base (.sl (List.map M.Instr.en p3)) none]∧s.t 4 = .v false [.bp 4 1 0]∧s.t 10 = .v false [.bp 10 1 0]∧s.t 11 = .v false [.dat (.int .i64 x13.2.1)]∧s.t 12 = .v false [.dat (.bool x13.2.2)]∧s.t 15 = .v false [.bp 15 1 0]∧s.t 19 = .v false [.dat (.int .i64 x136.2.2.2.2.2.2)]∧s.h 4=(1,.box 35 [.dat (.int .i64 p0.Now),.dat (.bool p0.Online),.dat (.int .i64 p0.Device),.old base (.sl (List.map M.aC.en p0.aA.Buckets)) none,.old base (.sl (List.map M.bH.en p0.Pages)) none,.dat (.int .i64 p0.NextPage),.old base (.sl (List.map M.cJ.en p0.Locks.Locks)) none,.old base (.sl (List.map M.eU.en p0.Channel.Mails)) none,.old base (.sl (List.map M.Site.en p0.Sites)) none,.old base (.sl (List.map M.Server.en p0.Servers)) none])∧s.h 10=(1,.box 58 [.dat (.int .i64 x13.1.Now),.dat (.bool x13.1.Online),.dat (.int .i64 x13.1.Device),.row 400047 1,.row 500047 1,.dat (.int .i64 x13.1.NextPage),.row 700047 1,.row 800047 1,.row 900047 1,.row 1000047 1])∧s.h 15=(1,.box 58 [.dat (.int .i64 x19.1.Now),.dat (.bool x19.1.Online),.dat (.int .i64 x19.1.Device),.row 400060 1,.row 500060 1,.dat (.int .i64 x19.1.NextPage),.row 700060 1,.row 800060 1,.row 900060 1,.row 1000060 1])∧s.h 400047=(1,.row 98 24 (List.map M.aC.en x13.1.aA.Buckets) true)∧s.h 400060=(1,.row 98 24 (List.map M.aC.en x136.1) true)∧s.h 500047=(1,.row 67 11 (List.map M.bH.en x13.1.Pages) true)∧s.h 500060=(1,.row 67 11 (List.map M.bH.en x136.2.1) true)∧s.h 700047=(1,.row 249 4 (List.map M.cJ.en x13.1.Locks.Locks) true)∧s.h 700060=(1,.row 249 4 (List.map M.cJ.en x136.2.2.1) true)∧s.h 800047=(1,.row 252 3 (List.map M.eU.en x13.1.Channel.Mails) true)∧s.h 800060=(1,.row 252 3 (List.map M.eU.en x136.2.2.2.1) true)∧s.h 900047=(1,.row 131 4 (List.map M.Site.en x13.1.Sites) true)∧s.h 900060=(1,.row 131 4 (List.map M.Site.en x136.2.2.2.2.1) true)∧s.h 1000047=(1,.row 234 5 (List.map M.Server.en x13.1.Servers) true)∧s.h 1000060=(1,.row 234 5 (List.map M.Server.en x136.2.2.2.2.2.1) true)∧True) ?_
 rintro s138 ⟨f139,f140,f141,f142,f143,f144,f145,f146,f147,f148,f149,f150,f151,f152,f153,f154,f155,f156,f157,f158,f159,f160,f161,f162,_⟩
 refine ln ?_
 refine an (sq ?_)
 obtain ⟨x163,h164,h⟩:=bind_some h
 refine ln1 (c20 _ _ _ h164) ?_
 refine an (sq (sq (ln ?_)))
 refine an ?_
 rcases bS (decide (x163<0)) with b165 | b165
 ·replace h:=bJ b165 h
  refine lct (sq (ln ?_))
  refine an (rt ?_)
  cases h
  simp [Ret,TB,EN, *]
 replace h:=bI b165 h
 refine lcf (sk (an (sq (sq (ln ?_)))))
 refine an ?_
 rcases bS (x163 != x136.2.2.2.2.2.2) with b166 | b166
 ·replace h:=bJ b166 h
  refine lct (sq (ln ?_))
  refine an (rt ?_)
  cases h
  simp [Ret,TB,EN, *]
 replace h:=bI b166 h
 refine lcf (sk (an (sq ?_)))
 obtain ⟨x167,h168,h⟩:=bind_some h
 obtain ⟨x169,h170,h⟩:=bind_some h
 obtain ⟨x171,h172,h⟩:=bind_some h
 apply aBR
 ·simp +decide only [LX,E,reduceIte,Nat.reduceAdd,Nat.reduceMul,qB,qC,L,aPt,aLs,EN,b1,b2,b5,b8,b23,b24,b25,b66,b71,b132,b135,f139,f140,f141,f142,f143,f144,f145,f146,f147,f148,f149,f150,f151,f152,f153,f154,f155,f156,f157,f158,f159,f160,f161,f162,b165,b166]
  refine ⟨_,c13 _ _ h168,?_⟩
  try simp +decide only [LX,E,reduceIte,Nat.reduceAdd,Nat.reduceMul,qB,qC,L,aPt,aLs,EN,b1,b2,b5,b8,b23,b24,b25,b66,b71,b132,b135,f139,f140,f141,f142,f143,f144,f145,f146,f147,f148,f149,f150,f151,f152,f153,f154,f155,f156,f157,f158,f159,f160,f161,f162,b165,b166]
  refine ⟨_,c61 _ _ h170,?_⟩
  try simp +decide only [LX,E,reduceIte,Nat.reduceAdd,Nat.reduceMul,qB,qC,L,aPt,aLs,EN,b1,b2,b5,b8,b23,b24,b25,b66,b71,b132,b135,f139,f140,f141,f142,f143,f144,f145,f146,f147,f148,f149,f150,f151,f152,f153,f154,f155,f156,f157,f158,f159,f160,f161,f162,b165,b166]
  refine ⟨_,c62 _ _ _ _ _ h172,?_⟩
  try simp +decide only [LX,E,reduceIte,Nat.reduceAdd,Nat.reduceMul,qB,qC,L,aPt,aLs,EN,b1,b2,b5,b8,b23,b24,b25,b66,b71,b132,b135,f139,f140,f141,f142,f143,f144,f145,f146,f147,f148,f149,f150,f151,f152,f153,f154,f155,f156,f157,f158,f159,f160,f161,f162,b165,b166]
  exact Is.mk _
 refine an (sq (sq ?_))
 obtain ⟨x173,h174,h⟩:=bind_some h
 rcases bS (!x173) with b175 | b175
 ·replace h:=bJ b175 h
  refine ln1 (c16 _ _ _ h174) ?_
  refine an (lct (sq (ln ?_)))
  refine an (rt ?_)
  cases h
  simp [Ret,TB,EN, *]
 replace h:=bI b175 h
 rcases bS (x171.2.1 != x13.2.1) with b176 | b176
 ·replace h:=bJ b176 h
  refine ln1 (c16 _ _ _ h174) ?_
  refine an (lct (sq (ln ?_)))
  refine an (rt ?_)
  cases h
  simp [Ret,TB,EN, *]
 replace h:=bI b176 h
 refine ln1 (c16 _ _ _ h174) ?_
 refine an ?_
 rcases bS (!(x171.2.2==x13.2.2)) with b177 | b177
 ·replace h:=bJ b177 h
  refine lct (sq (ln ?_))
  refine an (rt ?_)
  cases h
  simp [Ret,TB,EN, *]
 replace h:=bI b177 h
 refine lcf (sk (an (sq (ln ?_))))
 refine an (sq ?_)
 obtain ⟨x178,h179,h⟩:=bind_some h
 refine ln1 (c20 _ _ _ h179) ?_
 refine an (sq (sq (ln ?_)))
 refine an ?_
 rcases bS (decide (x178<0)) with b180 | b180
 ·replace h:=bJ b180 h
  refine lct (sq (ln ?_))
  refine an (rt ?_)
  cases h
  simp [Ret,TB,EN, *]
 replace h:=bI b180 h
 refine lcf (sk (an (sq (sq (ln ?_)))))
 refine an ?_
 rcases bS (x178 != x136.2.2.2.2.2.2) with b181 | b181
 ·replace h:=bJ b181 h
  refine lct (sq (ln ?_))
  refine an (rt ?_)
  cases h
  simp [Ret,TB,EN, *]
 replace h:=bI b181 h
 refine lcf (sk (an (sq (ln ?_))))
 refine an (rt ?_)
 cases h
 simp [Ret,TB,EN, *]
end Go.Proofs.YtimblbmbfdopgaaGreat.gen
