/-
  Helper text. No conditions.
-/
import Derived.Test.YtidhkhdnjonjfaaGreatUpdateWorkerTi
import Derived.Test.YtidhkhdnjonjfaaGreatUpdateWorkerWeq
import Derived.Test.YtidhkhdnjonjfaaGreatUpdateWorkerWheld
import Derived.Test.YtidhkhdnjonjfaaGreatUpdateWorkerWimpl2
import Derived.Test.YtidhkhdnjonjfaaGreatUpdateWorkerWmark2
import Derived.Test.YtidhkhdnjonjfaaGreatUpdateWorkerWspec1
import Derived.Test.YtidhkhdnjonjfaaGreatUpdateWorkerWsz
import Derived.Test.YtidhkhdnjonjfaaGreatUpdateWorkerWto
set_option linter.unusedVariables false
set_option linter.unusedSimpArgs false
namespace Go.Proofs.YtidhkhdnjonjfaaGreat.gen
open Go Go.Sh
set_option maxRecDepth 20000
set_option maxHeartbeats 4000000
theorem aDI (p0:M.World) (p1:ByteArray) (p2:ByteArray) (r:Bool) (h:kG p0 p1 p2=some r):lD Tryz.prog 5 [(true,M.World.en p0),(false,[.str p1]),(false,[.str p2])] [(false,[.ro (.bool r)])]:=by
 unfold kG at h
 simp only [M.World.en]
 refine aRb (N:=112) (vars:=[.tmp 6]) Tryz.func5 rfl rfl rfl (by decide +kernel) (Nat.le_of_ble_eq_true rfl) fun base wd => ?_
 refine sq (ln ?_)
 refine an (sq (sq (ln ?_)))
 refine an ?_
 rcases gO (decide ((p1.size:Int)>1048576)) with b1 | b1
 ·replace h:=bT b1 h
  refine lct (sq (ln ?_))
  refine an (rt ?_)
  cases h
  simp [Ret,TB,EN, *]
 replace h:=bR b1 h
 refine lcf (sk (an (sq (sq (ln ?_)))))
 refine an ?_
 rcases gO (decide ((p2.size:Int)>1048576)) with b2 | b2
 ·replace h:=bT b2 h
  refine lct (sq (ln ?_))
  refine an (rt ?_)
  cases h
  simp [Ret,TB,EN, *]
 replace h:=bR b2 h
 refine lcf (sk (an (sq (ln ?_))))
 refine an (sq ?_)
 obtain ⟨x3,h4,h⟩:=bind_some h
 refine ln1 (c19 _ _ _ h4) ?_
 refine an (sq (sq (ln ?_)))
 refine an ?_
 rcases gO (decide (x3<0)) with b5 | b5
 ·replace h:=bT b5 h
  refine lct (sq (ln ?_))
  refine an (rt ?_)
  cases h
  simp [Ret,TB,EN, *]
 replace h:=bR b5 h
 refine lcf (sk (an (sq ?_)))
 obtain ⟨x6,h7,h⟩:=bind_some h
 obtain ⟨x8,h9,h⟩:=bind_some h
 refine ln2 (c22 _ _ h7) (c27 _ _ _ _ h9) ?_
 refine an (sq ?_)
 obtain ⟨x10,h11,h⟩:=bind_some h
 refine ln1 (c22 _ _ h11) ?_
 refine an (sq ?_)
 obtain ⟨x12,h13,h⟩:=bind_some h
 refine ln1 (c28 _ _ _ _ h13) ?_
 refine an (sq (sq ?_))
 obtain ⟨x14,h15,h⟩:=bind_some h
 rcases gO (!x14) with b16 | b16
 ·replace h:=bT b16 h
  refine ln1 (c25 _ _ _ h15) ?_
  refine an (lct (sq (ln ?_)))
  refine an (rt ?_)
  cases h
  simp [Ret,TB,EN, *]
 replace h:=bR b16 h
 refine ln1 (c25 _ _ _ h15) ?_
 refine an ?_
 rcases gO (!(x12.2==x8.2)) with b17 | b17
 ·replace h:=bT b17 h
  refine lct (sq (ln ?_))
  refine an (rt ?_)
  cases h
  simp [Ret,TB,EN, *]
 replace h:=bR b17 h
 refine lcf (sk (an (sq (sq ?_))))
 obtain ⟨x18,h19,h⟩:=bind_some h
 obtain ⟨x20,h21,h⟩:=bind_some h
 refine ld2 mixed (c22 _ _ h19) (c25 _ _ _ h21) ?_
 refine an ?_
 rcases gO (!x20) with b22 | b22
 ·replace h:=bT b22 h
  refine lct (sq (ln ?_))
  refine an (rt ?_)
  cases h
  simp [Ret,TB,EN, *]
 replace h:=bR b22 h
 refine lcf (sk (an (sq (ln ?_))))
 refine an (sq ?_)
 obtain ⟨x23,h24,h⟩:=bind_some h
 refine aPQ (n:=2) (x:=60) (y:=61) (d:=62) (ag:=true) (cs:=[.dat (.int .i64 x10.Now),.dat (.bool x10.Online),.dat (.int .i64 x10.Device),.row 400038 1,.row 500038 1,.dat (.int .i64 x10.NextPage),.row 700038 1,.row 800038 1,.row 900038 1,.row 1000038 1]) (k:=1) [1,2,3,8,9,11,12,13] [3,8,11,400034,400043,500034,500043,700034,700043,800034,800043,900034,900043,1000034,1000043] rfl rfl rfl rfl rfl (by decide) ?_ ?_ ?_ (aEN x10 1 x23 h24) ?_ (by simp +decide [aBZ]) ?_ ?_ ?_ ?_ (s1 := ?S96) (s3 := ?S97)
 rotate_left 2
 ·simp +decide only [LX,E,reduceIte,Nat.reduceAdd,Nat.reduceMul,Int.reduceEq,Int.reduceLT,qB,qC,L,TB,EN, *,-h]
  exact Is.mk _
 ·simp +decide only [LX,F,reduceIte,Nat.reduceAdd,qB,qC,EN, *,-h]
 ·simp +decide only [LX,F,reduceIte,Nat.reduceAdd,qB,qC,EN, *,-h]
 ·refine ⟨_,_,rfl,rfl,rfl,?_⟩
  refine ⟨_,_,rfl,rfl,rfl,?_⟩
  refine ⟨_,_,rfl,rfl,rfl,?_⟩
  refine ⟨46,24,List.map M.Bucket.en x10.aC.Buckets,List.map M.Bucket.en x23.1,_,_,by simp +decide only [LX,F,reduceIte,Nat.reduceAdd,qB,qC,EN, *,-h],aET (f:=M.Bucket.en) (fun _=>rfl) _,rfl,rfl,?_⟩
  refine ⟨103,11,List.map M.bJ.en x10.Pages,List.map M.bJ.en x23.2.1,_,_,by simp +decide only [LX,F,reduceIte,Nat.reduceAdd,qB,qC,EN, *,-h],aET (f:=M.bJ.en) (fun _=>rfl) _,rfl,rfl,?_⟩
  refine ⟨_,_,rfl,rfl,rfl,?_⟩
  refine ⟨396,4,List.map M.dA.en x10.Locks.Locks,List.map M.dA.en x23.2.2.1,_,_,by simp +decide only [LX,F,reduceIte,Nat.reduceAdd,qB,qC,EN, *,-h],aET (f:=M.dA.en) (fun _=>rfl) _,rfl,rfl,?_⟩
  refine ⟨399,3,List.map M.fW.en x10.Channel.Mails,List.map M.fW.en x23.2.2.2.1,_,_,by simp +decide only [LX,F,reduceIte,Nat.reduceAdd,qB,qC,EN, *,-h],aET (f:=M.fW.en) (fun _=>rfl) _,rfl,rfl,?_⟩
  refine ⟨180,4,List.map M.Site.en x10.Sites,List.map M.Site.en x23.2.2.2.2.1,_,_,by simp +decide only [LX,F,reduceIte,Nat.reduceAdd,qB,qC,EN, *,-h],aET (f:=M.Site.en) (fun _=>rfl) _,rfl,rfl,?_⟩
  refine ⟨274,5,List.map M.Server.en x10.Servers,List.map M.Server.en x23.2.2.2.2.2.1,_,_,by simp +decide only [LX,F,reduceIte,Nat.reduceAdd,qB,qC,EN, *,-h],aET (f:=M.Server.en) (fun _=>rfl) _,rfl,rfl,?_⟩
  exact ⟨rfl,rfl⟩
 ·simp +decide only [LC,LX,F,reduceIte,Nat.reduceAdd,qB,qC,EN, *,-h]
 ·simp +decide only [LC,LX,F,reduceIte,Nat.reduceAdd,qB,qC,EN, *,-h]
 ·simp +decide only [LX,E,reduceIte,Nat.reduceAdd,Nat.reduceMul,Int.reduceEq,Int.reduceLT,qB,qC,L,TB,EN, *,-h]
  exact Is.mk _
 refine an (sq (sq ?_))
 refine lcu (fun s=>s.t 1 = .v false [.dat (.str p1)]∧s.t 2 = .v false [.dat (.str p2)]∧s.t 3 = .v false [.bp 3 1 0]∧s.t 8 = .v false [.bp 8 1 0]∧s.t 9 = .v false [.dat (.bool x8.2)]∧s.t 11 = .v false [.bp 11 1 0]∧s.t 12 = .v false [.dat (.bool x12.2)]∧s.t 13 = .v false [.dat (.int .i64 x23.2.2.2.2.2.2)]∧s.h 3=(1,.box 72 [.dat (.int .i64 p0.Now),.dat (.bool p0.Online),.dat (.int .i64 p0.Device),.old base (.sl (List.map M.Bucket.en p0.aC.Buckets)) none,.old base (.sl (List.map M.bJ.en p0.Pages)) none,.dat (.int .i64 p0.NextPage),.old base (.sl (List.map M.dA.en p0.Locks.Locks)) none,.old base (.sl (List.map M.fW.en p0.Channel.Mails)) none,.old base (.sl (List.map M.Site.en p0.Sites)) none,.old base (.sl (List.map M.Server.en p0.Servers)) none])∧s.h 8=(1,.box 96 [.dat (.int .i64 x8.1.Now),.dat (.bool x8.1.Online),.dat (.int .i64 x8.1.Device),.row 400034 1,.row 500034 1,.dat (.int .i64 x8.1.NextPage),.row 700034 1,.row 800034 1,.row 900034 1,.row 1000034 1])∧s.h 11=(1,.box 96 [.dat (.int .i64 x12.1.Now),.dat (.bool x12.1.Online),.dat (.int .i64 x12.1.Device),.row 400043 1,.row 500043 1,.dat (.int .i64 x12.1.NextPage),.row 700043 1,.row 800043 1,.row 900043 1,.row 1000043 1])∧s.h 400034=(1,.row 46 24 (List.map M.Bucket.en x8.1.aC.Buckets) true)∧s.h 400043=(1,.row 46 24 (List.map M.Bucket.en x12.1.aC.Buckets) true)∧s.h 500034=(1,.row 103 11 (List.map M.bJ.en x8.1.Pages) true)∧s.h 500043=(1,.row 103 11 (List.map M.bJ.en x12.1.Pages) true)∧s.h 700034=(1,.row 396 4 (List.map M.dA.en x8.1.Locks.Locks) true)∧s.h 700043=(1,.row 396 4 (List.map M.dA.en x12.1.Locks.Locks) true)∧s.h 800034=(1,.row 399 3 (List.map M.fW.en x8.1.Channel.Mails) true)∧s.h 800043=(1,.row 399 3 (List.map M.fW.en x12.1.Channel.Mails) true)∧s.h 900034=(1,.row 180 4 (List.map M.Site.en x8.1.Sites) true)∧s.h 900043=(1,.row 180 4 (List.map M.Site.en x12.1.Sites) true)∧s.h 1000034=(1,.row 274 5 (List.map M.Server.en x8.1.Servers) true)∧s.h 1000043=(1,.row 274 5 (List.map M.Server.en x12.1.Servers) true)∧True) ?_
 rintro s25 ⟨f26,f27,f28,f29,f30,f31,f32,f33,f34,f35,f36,f37,f38,f39,f40,f41,f42,f43,f44,f45,f46,f47,f48,_⟩
 rcases gO (decide (x23.2.2.2.2.2.2<0)) with b49 | b49
 ·replace h:=bT b49 h
  refine ln ?_
  refine an (lct (sq (ln ?_)))
  refine an (rt ?_)
  cases h
  simp [Ret,TB,EN, *]
 replace h:=bR b49 h
 obtain ⟨x50,h51,h⟩:=bind_some h
 rcases gO (!x50) with b52 | b52
 ·replace h:=bT b52 h
  refine ln1 (c25 _ _ _ h51) ?_
  refine an (lct (sq (ln ?_)))
  refine an (rt ?_)
  cases h
  simp [Ret,TB,EN, *]
 replace h:=bR b52 h
 refine ln1 (c25 _ _ _ h51) ?_
 refine an (lcf (sk (an (sq (ln ?_)))))
 refine an (sq ?_)
 obtain ⟨x53,h54,h⟩:=bind_some h
 refine aPQ (n:=2) (x:=76) (y:=77) (d:=78) (ag:=true) (cs:=[.dat (.int .i64 x12.1.Now),.dat (.bool x12.1.Online),.dat (.int .i64 x12.1.Device),.row 400043 1,.row 500043 1,.dat (.int .i64 x12.1.NextPage),.row 700043 1,.row 800043 1,.row 900043 1,.row 1000043 1]) (k:=1) [1,2,3,8,9,11,14] [3,8,11,400034,400043,500034,500043,700034,700043,800034,800043,900034,900043,1000034,1000043] rfl rfl rfl rfl rfl (by decide) ?_ ?_ ?_ (aEN x12.1 1 x53 h54) ?_ (by simp +decide [aBZ]) ?_ ?_ ?_ ?_ (s1 := ?S94) (s3 := ?S95)
 rotate_left 2
 ·simp +decide only [LX,E,reduceIte,Nat.reduceAdd,Nat.reduceMul,Int.reduceEq,Int.reduceLT,qB,qC,L,TB,EN, *,-h]
  exact Is.mk _
 ·simp +decide only [LX,F,reduceIte,Nat.reduceAdd,qB,qC,EN, *,-h]
 ·simp +decide only [LX,F,reduceIte,Nat.reduceAdd,qB,qC,EN, *,-h]
 ·refine ⟨_,_,rfl,rfl,rfl,?_⟩
  refine ⟨_,_,rfl,rfl,rfl,?_⟩
  refine ⟨_,_,rfl,rfl,rfl,?_⟩
  refine ⟨46,24,List.map M.Bucket.en x12.1.aC.Buckets,List.map M.Bucket.en x53.1,_,_,by simp +decide only [LX,F,reduceIte,Nat.reduceAdd,qB,qC,EN, *,-h],aET (f:=M.Bucket.en) (fun _=>rfl) _,rfl,rfl,?_⟩
  refine ⟨103,11,List.map M.bJ.en x12.1.Pages,List.map M.bJ.en x53.2.1,_,_,by simp +decide only [LX,F,reduceIte,Nat.reduceAdd,qB,qC,EN, *,-h],aET (f:=M.bJ.en) (fun _=>rfl) _,rfl,rfl,?_⟩
  refine ⟨_,_,rfl,rfl,rfl,?_⟩
  refine ⟨396,4,List.map M.dA.en x12.1.Locks.Locks,List.map M.dA.en x53.2.2.1,_,_,by simp +decide only [LX,F,reduceIte,Nat.reduceAdd,qB,qC,EN, *,-h],aET (f:=M.dA.en) (fun _=>rfl) _,rfl,rfl,?_⟩
  refine ⟨399,3,List.map M.fW.en x12.1.Channel.Mails,List.map M.fW.en x53.2.2.2.1,_,_,by simp +decide only [LX,F,reduceIte,Nat.reduceAdd,qB,qC,EN, *,-h],aET (f:=M.fW.en) (fun _=>rfl) _,rfl,rfl,?_⟩
  refine ⟨180,4,List.map M.Site.en x12.1.Sites,List.map M.Site.en x53.2.2.2.2.1,_,_,by simp +decide only [LX,F,reduceIte,Nat.reduceAdd,qB,qC,EN, *,-h],aET (f:=M.Site.en) (fun _=>rfl) _,rfl,rfl,?_⟩
  refine ⟨274,5,List.map M.Server.en x12.1.Servers,List.map M.Server.en x53.2.2.2.2.2.1,_,_,by simp +decide only [LX,F,reduceIte,Nat.reduceAdd,qB,qC,EN, *,-h],aET (f:=M.Server.en) (fun _=>rfl) _,rfl,rfl,?_⟩
  exact ⟨rfl,rfl⟩
 ·simp +decide only [LC,LX,F,reduceIte,Nat.reduceAdd,qB,qC,EN, *,-h]
 ·simp +decide only [LC,LX,F,reduceIte,Nat.reduceAdd,qB,qC,EN, *,-h]
 ·simp +decide only [LX,E,reduceIte,Nat.reduceAdd,Nat.reduceMul,Int.reduceEq,Int.reduceLT,qB,qC,L,TB,EN, *,-h]
  exact Is.mk _
 refine an (sq ?_)
 refine lcu (fun s=>s.t 1 = .v false [.dat (.str p1)]∧s.t 2 = .v false [.dat (.str p2)]∧s.t 3 = .v false [.bp 3 1 0]∧s.t 8 = .v false [.bp 8 1 0]∧s.t 9 = .v false [.dat (.bool x8.2)]∧s.t 11 = .v false [.bp 11 1 0]∧s.t 14 = .v false [.dat (.int .i64 x53.2.2.2.2.2.2)]∧s.h 3=(1,.box 72 [.dat (.int .i64 p0.Now),.dat (.bool p0.Online),.dat (.int .i64 p0.Device),.old base (.sl (List.map M.Bucket.en p0.aC.Buckets)) none,.old base (.sl (List.map M.bJ.en p0.Pages)) none,.dat (.int .i64 p0.NextPage),.old base (.sl (List.map M.dA.en p0.Locks.Locks)) none,.old base (.sl (List.map M.fW.en p0.Channel.Mails)) none,.old base (.sl (List.map M.Site.en p0.Sites)) none,.old base (.sl (List.map M.Server.en p0.Servers)) none])∧s.h 8=(1,.box 96 [.dat (.int .i64 x8.1.Now),.dat (.bool x8.1.Online),.dat (.int .i64 x8.1.Device),.row 400034 1,.row 500034 1,.dat (.int .i64 x8.1.NextPage),.row 700034 1,.row 800034 1,.row 900034 1,.row 1000034 1])∧s.h 11=(1,.box 96 [.dat (.int .i64 x12.1.Now),.dat (.bool x12.1.Online),.dat (.int .i64 x12.1.Device),.row 400043 1,.row 500043 1,.dat (.int .i64 x12.1.NextPage),.row 700043 1,.row 800043 1,.row 900043 1,.row 1000043 1])∧s.h 400034=(1,.row 46 24 (List.map M.Bucket.en x8.1.aC.Buckets) true)∧s.h 400043=(1,.row 46 24 (List.map M.Bucket.en x53.1) true)∧s.h 500034=(1,.row 103 11 (List.map M.bJ.en x8.1.Pages) true)∧s.h 500043=(1,.row 103 11 (List.map M.bJ.en x53.2.1) true)∧s.h 700034=(1,.row 396 4 (List.map M.dA.en x8.1.Locks.Locks) true)∧s.h 700043=(1,.row 396 4 (List.map M.dA.en x53.2.2.1) true)∧s.h 800034=(1,.row 399 3 (List.map M.fW.en x8.1.Channel.Mails) true)∧s.h 800043=(1,.row 399 3 (List.map M.fW.en x53.2.2.2.1) true)∧s.h 900034=(1,.row 180 4 (List.map M.Site.en x8.1.Sites) true)∧s.h 900043=(1,.row 180 4 (List.map M.Site.en x53.2.2.2.2.1) true)∧s.h 1000034=(1,.row 274 5 (List.map M.Server.en x8.1.Servers) true)∧s.h 1000043=(1,.row 274 5 (List.map M.Server.en x53.2.2.2.2.2.1) true)∧True) ?_
 rintro s55 ⟨f56,f57,f58,f59,f60,f61,f62,f63,f64,f65,f66,f67,f68,f69,f70,f71,f72,f73,f74,f75,f76,f77,_⟩
 refine ln ?_
 refine an (sq ?_)
 obtain ⟨x78,h79,h⟩:=bind_some h
 refine ln1 (c30 _ _ _ h79) ?_
 refine an (sq (sq (ln ?_)))
 refine an ?_
 rcases gO (decide (x78<0)) with b80 | b80
 ·replace h:=bT b80 h
  refine lct (sq (ln ?_))
  refine an (rt ?_)
  cases h
  simp [Ret,TB,EN, *]
 replace h:=bR b80 h
 refine lcf (sk (an (sq (sq (ln ?_)))))
 refine an ?_
 rcases gO (x78 != x53.2.2.2.2.2.2) with b81 | b81
 ·replace h:=bT b81 h
  refine lct (sq (ln ?_))
  refine an (rt ?_)
  cases h
  simp [Ret,TB,EN, *]
 replace h:=bR b81 h
 refine lcf (sk (an (sq ?_)))
 obtain ⟨x82,h83,h⟩:=bind_some h
 obtain ⟨x84,h85,h⟩:=bind_some h
 refine ln2 (c22 _ _ h83) (c28 _ _ _ _ h85) ?_
 refine an (sq (sq ?_))
 obtain ⟨x86,h87,h⟩:=bind_some h
 rcases gO (!x86) with b88 | b88
 ·replace h:=bT b88 h
  refine ln1 (c25 _ _ _ h87) ?_
  refine an (lct (sq (ln ?_)))
  refine an (rt ?_)
  cases h
  simp [Ret,TB,EN, *]
 replace h:=bR b88 h
 refine ln1 (c25 _ _ _ h87) ?_
 refine an ?_
 rcases gO (!(x84.2==x8.2)) with b89 | b89
 ·replace h:=bT b89 h
  refine lct (sq (ln ?_))
  refine an (rt ?_)
  cases h
  simp [Ret,TB,EN, *]
 replace h:=bR b89 h
 refine lcf (sk (an (sq (ln ?_))))
 refine an (sq ?_)
 obtain ⟨x90,h91,h⟩:=bind_some h
 refine ln1 (c30 _ _ _ h91) ?_
 refine an (sq (sq (ln ?_)))
 refine an ?_
 rcases gO (decide (x90<0)) with b92 | b92
 ·replace h:=bT b92 h
  refine lct (sq (ln ?_))
  refine an (rt ?_)
  cases h
  simp [Ret,TB,EN, *]
 replace h:=bR b92 h
 refine lcf (sk (an (sq (sq (ln ?_)))))
 refine an ?_
 rcases gO (x90 != x53.2.2.2.2.2.2) with b93 | b93
 ·replace h:=bT b93 h
  refine lct (sq (ln ?_))
  refine an (rt ?_)
  cases h
  simp [Ret,TB,EN, *]
 replace h:=bR b93 h
 refine lcf (sk (an (sq (ln ?_))))
 refine an (rt ?_)
 cases h
 simp [Ret,TB,EN, *]
end Go.Proofs.YtidhkhdnjonjfaaGreat.gen
