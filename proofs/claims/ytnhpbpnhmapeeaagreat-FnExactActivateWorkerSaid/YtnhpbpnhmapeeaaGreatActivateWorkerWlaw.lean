/-
  Helper text. No conditions.
-/
import Derived.Test.YtnhpbpnhmapeeaaGreatActivateWorkerTi
import Derived.Test.YtnhpbpnhmapeeaaGreatActivateWorkerWeq
import Derived.Test.YtnhpbpnhmapeeaaGreatActivateWorkerWheld
import Derived.Test.YtnhpbpnhmapeeaaGreatActivateWorkerWimpl2
import Derived.Test.YtnhpbpnhmapeeaaGreatActivateWorkerWmark2
import Derived.Test.YtnhpbpnhmapeeaaGreatActivateWorkerWspec2
import Derived.Test.YtnhpbpnhmapeeaaGreatActivateWorkerWsz
import Derived.Test.YtnhpbpnhmapeeaaGreatActivateWorkerWto
namespace Go.Proofs.YtnhpbpnhmapeeaaGreat.gen
open Go Go.Sh
set_option linter.unusedVariables false
set_option linter.unusedSimpArgs false
set_option maxRecDepth 20000
set_option maxHeartbeats 4000000
theorem aBw (p0:M.World) (p1:ByteArray) (p2:ByteArray) (r:Bool) (h:iU p0 p1 p2=some r):nH Tryz.prog 6 [(true,M.World.en p0),(false,[.str p1]),(false,[.str p2])] [(false,[.ro (.bool r)])]:=by
 unfold iU at h
 simp only [M.World.en]
 refine aOp (N:=112) (vars:=[.tmp 6]) Tryz.func6 rfl rfl rfl (by decide +kernel) (Nat.le_of_ble_eq_true rfl) fun base wd => ?_
 refine sq (ln ?_)
 refine an (sq (sq (ln ?_)))
 refine an ?_
 rcases cF (decide ((p1.size:Int)>1048576)) with b1 | b1
 ·replace h:=bH b1 h
  refine lct (sq (ln ?_))
  refine an (rt ?_)
  cases h
  simp [Ret,TB,EN, *]
 replace h:=bG b1 h
 refine lcf (sk (an (sq (sq (ln ?_)))))
 refine an ?_
 rcases cF (decide ((p2.size:Int)>1048576)) with b2 | b2
 ·replace h:=bH b2 h
  refine lct (sq (ln ?_))
  refine an (rt ?_)
  cases h
  simp [Ret,TB,EN, *]
 replace h:=bG b2 h
 refine lcf (sk (an (sq (ln ?_))))
 refine an (sq ?_)
 obtain ⟨x3,h4,h⟩:=bind_some h
 refine ln1 (c15 _ _ _ h4) ?_
 refine an (sq (sq (ln ?_)))
 refine an ?_
 rcases cF (decide (x3<0)) with b5 | b5
 ·replace h:=bH b5 h
  refine lct (sq (ln ?_))
  refine an (rt ?_)
  cases h
  simp [Ret,TB,EN, *]
 replace h:=bG b5 h
 refine lcf (sk (an (sq ?_)))
 obtain ⟨x6,h7,h⟩:=bind_some h
 obtain ⟨x8,h9,h⟩:=bind_some h
 refine ln2 (c17 _ _ h7) (c27 _ _ _ _ h9) ?_
 refine an (sq ?_)
 obtain ⟨x10,h11,h⟩:=bind_some h
 refine ln1 (c17 _ _ h11) ?_
 refine an (sq ?_)
 obtain ⟨x12,h13,h⟩:=bind_some h
 refine ln1 (c28 _ _ _ _ h13) ?_
 refine an (sq (sq ?_))
 obtain ⟨x14,h15,h⟩:=bind_some h
 rcases cF (!x14) with b16 | b16
 ·replace h:=bH b16 h
  refine ln1 (c18 _ _ _ h15) ?_
  refine an (lct (sq (ln ?_)))
  refine an (rt ?_)
  cases h
  simp [Ret,TB,EN, *]
 replace h:=bG b16 h
 refine ln1 (c18 _ _ _ h15) ?_
 refine an ?_
 rcases cF (!(x12.2==x8.2)) with b17 | b17
 ·replace h:=bH b17 h
  refine lct (sq (ln ?_))
  refine an (rt ?_)
  cases h
  simp [Ret,TB,EN, *]
 replace h:=bG b17 h
 refine lcf (sk (an (sq (sq ?_))))
 obtain ⟨x18,h19,h⟩:=bind_some h
 obtain ⟨x20,h21,h⟩:=bind_some h
 refine ld2 mixed (c17 _ _ h19) (c18 _ _ _ h21) ?_
 refine an ?_
 rcases cF (!x20) with b22 | b22
 ·replace h:=bH b22 h
  refine lct (sq (ln ?_))
  refine an (rt ?_)
  cases h
  simp [Ret,TB,EN, *]
 replace h:=bG b22 h
 refine lcf (sk (an (sq (ln ?_))))
 refine an (sq ?_)
 obtain ⟨x23,h24,h⟩:=bind_some h
 refine aM7 (n:=2) (x:=60) (y:=61) (d:=62) (ag:=true) (cs:=[.dat (.int .i64 x10.Now),.dat (.bool x10.Online),.dat (.int .i64 x10.Device),.row 400038 1,.row 500038 1,.dat (.int .i64 x10.NextPage),.row 700038 1,.row 800038 1,.row 900038 1,.row 1000038 1]) (k:=1) [1,2,3,8,9,11,12,13] [3,8,11,400034,400043,500034,500043,700034,700043,800034,800043,900034,900043,1000034,1000043] rfl rfl rfl rfl rfl (by decide) ?_ ?_ ?_ (aCv x10 1 x23 h24) ?_ (by simp +decide [aAT]) ?_ ?_ ?_ ?_ (s1 := ?S96) (s3 := ?S97)
 rotate_left 2
 ·simp +decide only [LX,E,reduceIte,Nat.reduceAdd,Nat.reduceMul,Int.reduceEq,Int.reduceLT,Bool.not_true,Bool.not_false,L,TB,EN, *,-h]
  exact Is.mk _
 ·simp +decide only [LX,F,reduceIte,Nat.reduceAdd,Bool.not_true,Bool.not_false,EN, *,-h]
 ·simp +decide only [LX,F,reduceIte,Nat.reduceAdd,Bool.not_true,Bool.not_false,EN, *,-h]
 ·refine ⟨_,_,rfl,rfl,rfl,?_⟩
  refine ⟨_,_,rfl,rfl,rfl,?_⟩
  refine ⟨_,_,rfl,rfl,rfl,?_⟩
  refine ⟨124,24,List.map M.aA.en x10.aC.Buckets,List.map M.aA.en x23.1,_,_,by simp +decide only [LX,F,reduceIte,Nat.reduceAdd,Bool.not_true,Bool.not_false,EN, *,-h],aC1 (f:=M.aA.en) (fun _=>rfl) _,rfl,rfl,?_⟩
  refine ⟨80,11,List.map M.bI.en x10.Pages,List.map M.bI.en x23.2.1,_,_,by simp +decide only [LX,F,reduceIte,Nat.reduceAdd,Bool.not_true,Bool.not_false,EN, *,-h],aC1 (f:=M.bI.en) (fun _=>rfl) _,rfl,rfl,?_⟩
  refine ⟨_,_,rfl,rfl,rfl,?_⟩
  refine ⟨144,4,List.map M.cG.en x10.Locks.Locks,List.map M.cG.en x23.2.2.1,_,_,by simp +decide only [LX,F,reduceIte,Nat.reduceAdd,Bool.not_true,Bool.not_false,EN, *,-h],aC1 (f:=M.cG.en) (fun _=>rfl) _,rfl,rfl,?_⟩
  refine ⟨232,3,List.map M.fK.en x10.Channel.Mails,List.map M.fK.en x23.2.2.2.1,_,_,by simp +decide only [LX,F,reduceIte,Nat.reduceAdd,Bool.not_true,Bool.not_false,EN, *,-h],aC1 (f:=M.fK.en) (fun _=>rfl) _,rfl,rfl,?_⟩
  refine ⟨95,4,List.map M.Site.en x10.Sites,List.map M.Site.en x23.2.2.2.2.1,_,_,by simp +decide only [LX,F,reduceIte,Nat.reduceAdd,Bool.not_true,Bool.not_false,EN, *,-h],aC1 (f:=M.Site.en) (fun _=>rfl) _,rfl,rfl,?_⟩
  refine ⟨102,5,List.map M.Server.en x10.Servers,List.map M.Server.en x23.2.2.2.2.2.1,_,_,by simp +decide only [LX,F,reduceIte,Nat.reduceAdd,Bool.not_true,Bool.not_false,EN, *,-h],aC1 (f:=M.Server.en) (fun _=>rfl) _,rfl,rfl,?_⟩
  exact ⟨rfl,rfl⟩
 ·simp +decide only [LC,LX,F,reduceIte,Nat.reduceAdd,Bool.not_true,Bool.not_false,EN, *,-h]
 ·simp +decide only [LC,LX,F,reduceIte,Nat.reduceAdd,Bool.not_true,Bool.not_false,EN, *,-h]
 ·simp +decide only [LX,E,reduceIte,Nat.reduceAdd,Nat.reduceMul,Int.reduceEq,Int.reduceLT,Bool.not_true,Bool.not_false,L,TB,EN, *,-h]
  exact Is.mk _
 refine an (sq (sq ?_))
 refine lcu (fun s=>s.t 1 = .v false [.dat (.str p1)]∧s.t 2 = .v false [.dat (.str p2)]∧s.t 3 = .v false [.bp 3 1 0]∧s.t 8 = .v false [.bp 8 1 0]∧s.t 9 = .v false [.dat (.bool x8.2)]∧s.t 11 = .v false [.bp 11 1 0]∧s.t 12 = .v false [.dat (.bool x12.2)]∧s.t 13 = .v false [.dat (.int .i64 x23.2.2.2.2.2.2)]∧s.h 3=(1,.box 61 [.dat (.int .i64 p0.Now),.dat (.bool p0.Online),.dat (.int .i64 p0.Device),.old base (.sl (List.map M.aA.en p0.aC.Buckets)) none,.old base (.sl (List.map M.bI.en p0.Pages)) none,.dat (.int .i64 p0.NextPage),.old base (.sl (List.map M.cG.en p0.Locks.Locks)) none,.old base (.sl (List.map M.fK.en p0.Channel.Mails)) none,.old base (.sl (List.map M.Site.en p0.Sites)) none,.old base (.sl (List.map M.Server.en p0.Servers)) none])∧s.h 8=(1,.box 37 [.dat (.int .i64 x8.1.Now),.dat (.bool x8.1.Online),.dat (.int .i64 x8.1.Device),.row 400034 1,.row 500034 1,.dat (.int .i64 x8.1.NextPage),.row 700034 1,.row 800034 1,.row 900034 1,.row 1000034 1])∧s.h 11=(1,.box 37 [.dat (.int .i64 x12.1.Now),.dat (.bool x12.1.Online),.dat (.int .i64 x12.1.Device),.row 400043 1,.row 500043 1,.dat (.int .i64 x12.1.NextPage),.row 700043 1,.row 800043 1,.row 900043 1,.row 1000043 1])∧s.h 400034=(1,.row 124 24 (List.map M.aA.en x8.1.aC.Buckets) true)∧s.h 400043=(1,.row 124 24 (List.map M.aA.en x12.1.aC.Buckets) true)∧s.h 500034=(1,.row 80 11 (List.map M.bI.en x8.1.Pages) true)∧s.h 500043=(1,.row 80 11 (List.map M.bI.en x12.1.Pages) true)∧s.h 700034=(1,.row 144 4 (List.map M.cG.en x8.1.Locks.Locks) true)∧s.h 700043=(1,.row 144 4 (List.map M.cG.en x12.1.Locks.Locks) true)∧s.h 800034=(1,.row 232 3 (List.map M.fK.en x8.1.Channel.Mails) true)∧s.h 800043=(1,.row 232 3 (List.map M.fK.en x12.1.Channel.Mails) true)∧s.h 900034=(1,.row 95 4 (List.map M.Site.en x8.1.Sites) true)∧s.h 900043=(1,.row 95 4 (List.map M.Site.en x12.1.Sites) true)∧s.h 1000034=(1,.row 102 5 (List.map M.Server.en x8.1.Servers) true)∧s.h 1000043=(1,.row 102 5 (List.map M.Server.en x12.1.Servers) true)∧True) ?_
 rintro s25 ⟨f26,f27,f28,f29,f30,f31,f32,f33,f34,f35,f36,f37,f38,f39,f40,f41,f42,f43,f44,f45,f46,f47,f48,_⟩
 rcases cF (decide (x23.2.2.2.2.2.2<0)) with b49 | b49
 ·replace h:=bH b49 h
  refine ln ?_
  refine an (lct (sq (ln ?_)))
  refine an (rt ?_)
  cases h
  simp [Ret,TB,EN, *]
 replace h:=bG b49 h
 obtain ⟨x50,h51,h⟩:=bind_some h
 rcases cF (!x50) with b52 | b52
 ·replace h:=bH b52 h
  refine ln1 (c18 _ _ _ h51) ?_
  refine an (lct (sq (ln ?_)))
  refine an (rt ?_)
  cases h
  simp [Ret,TB,EN, *]
 replace h:=bG b52 h
 refine ln1 (c18 _ _ _ h51) ?_
 refine an (lcf (sk (an (sq (ln ?_)))))
 refine an (sq ?_)
 obtain ⟨x53,h54,h⟩:=bind_some h
 refine aM7 (n:=2) (x:=76) (y:=77) (d:=78) (ag:=true) (cs:=[.dat (.int .i64 x12.1.Now),.dat (.bool x12.1.Online),.dat (.int .i64 x12.1.Device),.row 400043 1,.row 500043 1,.dat (.int .i64 x12.1.NextPage),.row 700043 1,.row 800043 1,.row 900043 1,.row 1000043 1]) (k:=1) [1,2,3,8,9,11,14] [3,8,11,400034,400043,500034,500043,700034,700043,800034,800043,900034,900043,1000034,1000043] rfl rfl rfl rfl rfl (by decide) ?_ ?_ ?_ (aCv x12.1 1 x53 h54) ?_ (by simp +decide [aAT]) ?_ ?_ ?_ ?_ (s1 := ?S94) (s3 := ?S95)
 rotate_left 2
 ·simp +decide only [LX,E,reduceIte,Nat.reduceAdd,Nat.reduceMul,Int.reduceEq,Int.reduceLT,Bool.not_true,Bool.not_false,L,TB,EN, *,-h]
  exact Is.mk _
 ·simp +decide only [LX,F,reduceIte,Nat.reduceAdd,Bool.not_true,Bool.not_false,EN, *,-h]
 ·simp +decide only [LX,F,reduceIte,Nat.reduceAdd,Bool.not_true,Bool.not_false,EN, *,-h]
 ·refine ⟨_,_,rfl,rfl,rfl,?_⟩
  refine ⟨_,_,rfl,rfl,rfl,?_⟩
  refine ⟨_,_,rfl,rfl,rfl,?_⟩
  refine ⟨124,24,List.map M.aA.en x12.1.aC.Buckets,List.map M.aA.en x53.1,_,_,by simp +decide only [LX,F,reduceIte,Nat.reduceAdd,Bool.not_true,Bool.not_false,EN, *,-h],aC1 (f:=M.aA.en) (fun _=>rfl) _,rfl,rfl,?_⟩
  refine ⟨80,11,List.map M.bI.en x12.1.Pages,List.map M.bI.en x53.2.1,_,_,by simp +decide only [LX,F,reduceIte,Nat.reduceAdd,Bool.not_true,Bool.not_false,EN, *,-h],aC1 (f:=M.bI.en) (fun _=>rfl) _,rfl,rfl,?_⟩
  refine ⟨_,_,rfl,rfl,rfl,?_⟩
  refine ⟨144,4,List.map M.cG.en x12.1.Locks.Locks,List.map M.cG.en x53.2.2.1,_,_,by simp +decide only [LX,F,reduceIte,Nat.reduceAdd,Bool.not_true,Bool.not_false,EN, *,-h],aC1 (f:=M.cG.en) (fun _=>rfl) _,rfl,rfl,?_⟩
  refine ⟨232,3,List.map M.fK.en x12.1.Channel.Mails,List.map M.fK.en x53.2.2.2.1,_,_,by simp +decide only [LX,F,reduceIte,Nat.reduceAdd,Bool.not_true,Bool.not_false,EN, *,-h],aC1 (f:=M.fK.en) (fun _=>rfl) _,rfl,rfl,?_⟩
  refine ⟨95,4,List.map M.Site.en x12.1.Sites,List.map M.Site.en x53.2.2.2.2.1,_,_,by simp +decide only [LX,F,reduceIte,Nat.reduceAdd,Bool.not_true,Bool.not_false,EN, *,-h],aC1 (f:=M.Site.en) (fun _=>rfl) _,rfl,rfl,?_⟩
  refine ⟨102,5,List.map M.Server.en x12.1.Servers,List.map M.Server.en x53.2.2.2.2.2.1,_,_,by simp +decide only [LX,F,reduceIte,Nat.reduceAdd,Bool.not_true,Bool.not_false,EN, *,-h],aC1 (f:=M.Server.en) (fun _=>rfl) _,rfl,rfl,?_⟩
  exact ⟨rfl,rfl⟩
 ·simp +decide only [LC,LX,F,reduceIte,Nat.reduceAdd,Bool.not_true,Bool.not_false,EN, *,-h]
 ·simp +decide only [LC,LX,F,reduceIte,Nat.reduceAdd,Bool.not_true,Bool.not_false,EN, *,-h]
 ·simp +decide only [LX,E,reduceIte,Nat.reduceAdd,Nat.reduceMul,Int.reduceEq,Int.reduceLT,Bool.not_true,Bool.not_false,L,TB,EN, *,-h]
  exact Is.mk _
 refine an (sq ?_)
 refine lcu (fun s=>s.t 1 = .v false [.dat (.str p1)]∧s.t 2 = .v false [.dat (.str p2)]∧s.t 3 = .v false [.bp 3 1 0]∧s.t 8 = .v false [.bp 8 1 0]∧s.t 9 = .v false [.dat (.bool x8.2)]∧s.t 11 = .v false [.bp 11 1 0]∧s.t 14 = .v false [.dat (.int .i64 x53.2.2.2.2.2.2)]∧s.h 3=(1,.box 61 [.dat (.int .i64 p0.Now),.dat (.bool p0.Online),.dat (.int .i64 p0.Device),.old base (.sl (List.map M.aA.en p0.aC.Buckets)) none,.old base (.sl (List.map M.bI.en p0.Pages)) none,.dat (.int .i64 p0.NextPage),.old base (.sl (List.map M.cG.en p0.Locks.Locks)) none,.old base (.sl (List.map M.fK.en p0.Channel.Mails)) none,.old base (.sl (List.map M.Site.en p0.Sites)) none,.old base (.sl (List.map M.Server.en p0.Servers)) none])∧s.h 8=(1,.box 37 [.dat (.int .i64 x8.1.Now),.dat (.bool x8.1.Online),.dat (.int .i64 x8.1.Device),.row 400034 1,.row 500034 1,.dat (.int .i64 x8.1.NextPage),.row 700034 1,.row 800034 1,.row 900034 1,.row 1000034 1])∧s.h 11=(1,.box 37 [.dat (.int .i64 x12.1.Now),.dat (.bool x12.1.Online),.dat (.int .i64 x12.1.Device),.row 400043 1,.row 500043 1,.dat (.int .i64 x12.1.NextPage),.row 700043 1,.row 800043 1,.row 900043 1,.row 1000043 1])∧s.h 400034=(1,.row 124 24 (List.map M.aA.en x8.1.aC.Buckets) true)∧s.h 400043=(1,.row 124 24 (List.map M.aA.en x53.1) true)∧s.h 500034=(1,.row 80 11 (List.map M.bI.en x8.1.Pages) true)∧s.h 500043=(1,.row 80 11 (List.map M.bI.en x53.2.1) true)∧s.h 700034=(1,.row 144 4 (List.map M.cG.en x8.1.Locks.Locks) true)∧s.h 700043=(1,.row 144 4 (List.map M.cG.en x53.2.2.1) true)∧s.h 800034=(1,.row 232 3 (List.map M.fK.en x8.1.Channel.Mails) true)∧s.h 800043=(1,.row 232 3 (List.map M.fK.en x53.2.2.2.1) true)∧s.h 900034=(1,.row 95 4 (List.map M.Site.en x8.1.Sites) true)∧s.h 900043=(1,.row 95 4 (List.map M.Site.en x53.2.2.2.2.1) true)∧s.h 1000034=(1,.row 102 5 (List.map M.Server.en x8.1.Servers) true)∧s.h 1000043=(1,.row 102 5 (List.map M.Server.en x53.2.2.2.2.2.1) true)∧True) ?_
 rintro s55 ⟨f56,f57,f58,f59,f60,f61,f62,f63,f64,f65,f66,f67,f68,f69,f70,f71,f72,f73,f74,f75,f76,f77,_⟩
 refine ln ?_
 refine an (sq ?_)
 obtain ⟨x78,h79,h⟩:=bind_some h
 refine ln1 (c20 _ _ _ h79) ?_
 refine an (sq (sq (ln ?_)))
 refine an ?_
 rcases cF (decide (x78<0)) with b80 | b80
 ·replace h:=bH b80 h
  refine lct (sq (ln ?_))
  refine an (rt ?_)
  cases h
  simp [Ret,TB,EN, *]
 replace h:=bG b80 h
 refine lcf (sk (an (sq (sq (ln ?_)))))
 refine an ?_
 rcases cF (x78 != x53.2.2.2.2.2.2) with b81 | b81
 ·replace h:=bH b81 h
  refine lct (sq (ln ?_))
  refine an (rt ?_)
  cases h
  simp [Ret,TB,EN, *]
 replace h:=bG b81 h
 refine lcf (sk (an (sq ?_)))
 obtain ⟨x82,h83,h⟩:=bind_some h
 obtain ⟨x84,h85,h⟩:=bind_some h
 refine ln2 (c17 _ _ h83) (c28 _ _ _ _ h85) ?_
 refine an (sq (sq ?_))
 obtain ⟨x86,h87,h⟩:=bind_some h
 rcases cF (!x86) with b88 | b88
 ·replace h:=bH b88 h
  refine ln1 (c18 _ _ _ h87) ?_
  refine an (lct (sq (ln ?_)))
  refine an (rt ?_)
  cases h
  simp [Ret,TB,EN, *]
 replace h:=bG b88 h
 refine ln1 (c18 _ _ _ h87) ?_
 refine an ?_
 rcases cF (!(x84.2==x8.2)) with b89 | b89
 ·replace h:=bH b89 h
  refine lct (sq (ln ?_))
  refine an (rt ?_)
  cases h
  simp [Ret,TB,EN, *]
 replace h:=bG b89 h
 refine lcf (sk (an (sq (ln ?_))))
 refine an (sq ?_)
 obtain ⟨x90,h91,h⟩:=bind_some h
 refine ln1 (c20 _ _ _ h91) ?_
 refine an (sq (sq (ln ?_)))
 refine an ?_
 rcases cF (decide (x90<0)) with b92 | b92
 ·replace h:=bH b92 h
  refine lct (sq (ln ?_))
  refine an (rt ?_)
  cases h
  simp [Ret,TB,EN, *]
 replace h:=bG b92 h
 refine lcf (sk (an (sq (sq (ln ?_)))))
 refine an ?_
 rcases cF (x90 != x53.2.2.2.2.2.2) with b93 | b93
 ·replace h:=bH b93 h
  refine lct (sq (ln ?_))
  refine an (rt ?_)
  cases h
  simp [Ret,TB,EN, *]
 replace h:=bG b93 h
 refine lcf (sk (an (sq (ln ?_))))
 refine an (rt ?_)
 cases h
 simp [Ret,TB,EN, *]
end Go.Proofs.YtnhpbpnhmapeeaaGreat.gen
