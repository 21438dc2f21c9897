/-
  Helper text. No conditions.
-/
import Derived.Test.YtnhpbpnhmapeeaaGreatClosePageTi
import Derived.Test.YtnhpbpnhmapeeaaGreatClosePageWeq
import Derived.Test.YtnhpbpnhmapeeaaGreatClosePageWheld
import Derived.Test.YtnhpbpnhmapeeaaGreatClosePageWimpl2
import Derived.Test.YtnhpbpnhmapeeaaGreatClosePageWmark2
import Derived.Test.YtnhpbpnhmapeeaaGreatClosePageWspec1
import Derived.Test.YtnhpbpnhmapeeaaGreatClosePageWsz
import Derived.Test.YtnhpbpnhmapeeaaGreatClosePageWto
namespace Go.Proofs.YtnhpbpnhmapeeaaGreat.gen
open Go Go.Sh
set_option linter.unusedVariables false
set_option linter.unusedSimpArgs false
set_option maxRecDepth 20000
set_option maxHeartbeats 4000000
theorem aCN (p0:M.World) (p1:Int) (r:Bool) (h:lK p0 p1=some r):lH Tryz.prog 4 [(true,M.World.en p0),(false,[.int .i64 p1])] [(false,[.ro (.bool r)])]:=by
 unfold lK at h
 simp only [M.World.en]
 refine aN2 (N:=101) (vars:=[.tmp 4]) Tryz.func4 rfl rfl rfl (by decide +kernel) (Nat.le_of_ble_eq_true rfl) fun base wd => ?_
 refine sq (ln ?_)
 refine an (sq (ln ?_))
 refine an (sq ?_)
 obtain ⟨x1,h2,h⟩:=bind_some h
 refine ln1 (c15 _ _ _ h2) ?_
 refine an (sq (sq (ln ?_)))
 refine an ?_
 rcases cU (decide (x1<0)) with b3 | b3
 ·replace h:=bI b3 h
  refine lct (sq (ln ?_))
  refine an (rt ?_)
  cases h
  simp [Ret,TB,EN, *]
 replace h:=bH b3 h
 refine lcf (sk (an (sq ?_)))
 obtain ⟨x4,h5,h⟩:=bind_some h
 obtain ⟨x6,h7,h⟩:=bind_some h
 refine ln2 (c17 _ _ h5) (c16 _ _ _ h7) ?_
 refine an (sq ?_)
 obtain ⟨x8,h9,h⟩:=bind_some h
 refine ln1 (c17 _ _ h9) ?_
 refine an (sq ?_)
 obtain ⟨x10,h11,h⟩:=bind_some h
 refine ln1 (c13 _ _ _ h11) ?_
 refine an (sq (sq ?_))
 obtain ⟨x12,h13,h⟩:=bind_some h
 rcases cU (!x12) with b14 | b14
 ·replace h:=bI b14 h
  refine ln1 (c18 _ _ _ h13) ?_
  refine an (lct (sq (ln ?_)))
  refine an (rt ?_)
  cases h
  simp [Ret,TB,EN, *]
 replace h:=bH b14 h
 refine ln1 (c18 _ _ _ h13) ?_
 refine an ?_
 rcases cU (!(x10.2==x6.2)) with b15 | b15
 ·replace h:=bI b15 h
  refine lct (sq (ln ?_))
  refine an (rt ?_)
  cases h
  simp [Ret,TB,EN, *]
 replace h:=bH b15 h
 refine lcf (sk (an (sq (sq ?_))))
 obtain ⟨x16,h17,h⟩:=bind_some h
 obtain ⟨x18,h19,h⟩:=bind_some h
 refine ld2 mixed (c17 _ _ h17) (c18 _ _ _ h19) ?_
 refine an ?_
 rcases cU (!x18) with b20 | b20
 ·replace h:=bI b20 h
  refine lct (sq (ln ?_))
  refine an (rt ?_)
  cases h
  simp [Ret,TB,EN, *]
 replace h:=bH b20 h
 refine lcf (sk (an (sq (ln ?_))))
 refine an (sq ?_)
 obtain ⟨x21,h22,h⟩:=bind_some h
 refine aMS (n:=2) (x:=50) (y:=51) (d:=52) (ag:=true) (cs:=[.dat (.int .i64 x8.Now),.dat (.bool x8.Online),.dat (.int .i64 x8.Device),.row 400029 1,.row 500029 1,.dat (.int .i64 x8.NextPage),.row 700029 1,.row 800029 1,.row 900029 1,.row 1000029 1]) (k:=1) [1,2,6,7,9,10,11] [2,6,9,400025,400033,500025,500033,700025,700033,800025,800033,900025,900033,1000025,1000033] rfl rfl rfl rfl rfl (by decide) ?_ ?_ ?_ (aCT x8 1 x21 h22) ?_ (by simp +decide [aAD]) ?_ ?_ ?_ ?_ (s1 := ?S92) (s3 := ?S93)
 rotate_left 2
 ·simp +decide only [LX,E,reduceIte,Nat.reduceAdd,Nat.reduceMul,Int.reduceEq,Int.reduceLT,Bool.not_true,Bool.not_false,L,TB,EN, *,-h]
  exact Is.mk _
 ·simp +decide only [LX,F,reduceIte,Nat.reduceAdd,Bool.not_true,Bool.not_false,EN, *,-h]
 ·simp +decide only [LX,F,reduceIte,Nat.reduceAdd,Bool.not_true,Bool.not_false,EN, *,-h]
 ·refine ⟨_,_,rfl,rfl,rfl,?_⟩
  refine ⟨_,_,rfl,rfl,rfl,?_⟩
  refine ⟨_,_,rfl,rfl,rfl,?_⟩
  refine ⟨124,24,List.map M.aF.en x8.aM.Buckets,List.map M.aF.en x21.1,_,_,by simp +decide only [LX,F,reduceIte,Nat.reduceAdd,Bool.not_true,Bool.not_false,EN, *,-h],aCZ (f:=M.aF.en) (fun _=>rfl) _,rfl,rfl,?_⟩
  refine ⟨80,11,List.map M.bG.en x8.Pages,List.map M.bG.en x21.2.1,_,_,by simp +decide only [LX,F,reduceIte,Nat.reduceAdd,Bool.not_true,Bool.not_false,EN, *,-h],aCZ (f:=M.bG.en) (fun _=>rfl) _,rfl,rfl,?_⟩
  refine ⟨_,_,rfl,rfl,rfl,?_⟩
  refine ⟨144,4,List.map M.bF.en x8.Locks.Locks,List.map M.bF.en x21.2.2.1,_,_,by simp +decide only [LX,F,reduceIte,Nat.reduceAdd,Bool.not_true,Bool.not_false,EN, *,-h],aCZ (f:=M.bF.en) (fun _=>rfl) _,rfl,rfl,?_⟩
  refine ⟨232,3,List.map M.bU.en x8.Channel.Mails,List.map M.bU.en x21.2.2.2.1,_,_,by simp +decide only [LX,F,reduceIte,Nat.reduceAdd,Bool.not_true,Bool.not_false,EN, *,-h],aCZ (f:=M.bU.en) (fun _=>rfl) _,rfl,rfl,?_⟩
  refine ⟨95,4,List.map M.Site.en x8.Sites,List.map M.Site.en x21.2.2.2.2.1,_,_,by simp +decide only [LX,F,reduceIte,Nat.reduceAdd,Bool.not_true,Bool.not_false,EN, *,-h],aCZ (f:=M.Site.en) (fun _=>rfl) _,rfl,rfl,?_⟩
  refine ⟨102,5,List.map M.Server.en x8.Servers,List.map M.Server.en x21.2.2.2.2.2.1,_,_,by simp +decide only [LX,F,reduceIte,Nat.reduceAdd,Bool.not_true,Bool.not_false,EN, *,-h],aCZ (f:=M.Server.en) (fun _=>rfl) _,rfl,rfl,?_⟩
  exact ⟨rfl,rfl⟩
 ·simp +decide only [LC,LX,F,reduceIte,Nat.reduceAdd,Bool.not_true,Bool.not_false,EN, *,-h]
 ·simp +decide only [LC,LX,F,reduceIte,Nat.reduceAdd,Bool.not_true,Bool.not_false,EN, *,-h]
 ·simp +decide only [LX,E,reduceIte,Nat.reduceAdd,Nat.reduceMul,Int.reduceEq,Int.reduceLT,Bool.not_true,Bool.not_false,L,TB,EN, *,-h]
  exact Is.mk _
 refine an (sq (sq ?_))
 refine lcu (fun s=>s.t 1 = .v false [.dat (.int .i64 p1)]∧s.t 2 = .v false [.bp 2 1 0]∧s.t 6 = .v false [.bp 6 1 0]∧s.t 7 = .v false [.dat (.bool x6.2)]∧s.t 9 = .v false [.bp 9 1 0]∧s.t 10 = .v false [.dat (.bool x10.2)]∧s.t 11 = .v false [.dat (.int .i64 x21.2.2.2.2.2.2)]∧s.h 2=(1,.box 61 [.dat (.int .i64 p0.Now),.dat (.bool p0.Online),.dat (.int .i64 p0.Device),.old base (.sl (List.map M.aF.en p0.aM.Buckets)) none,.old base (.sl (List.map M.bG.en p0.Pages)) none,.dat (.int .i64 p0.NextPage),.old base (.sl (List.map M.bF.en p0.Locks.Locks)) none,.old base (.sl (List.map M.bU.en p0.Channel.Mails)) none,.old base (.sl (List.map M.Site.en p0.Sites)) none,.old base (.sl (List.map M.Server.en p0.Servers)) none])∧s.h 6=(1,.box 37 [.dat (.int .i64 x6.1.Now),.dat (.bool x6.1.Online),.dat (.int .i64 x6.1.Device),.row 400025 1,.row 500025 1,.dat (.int .i64 x6.1.NextPage),.row 700025 1,.row 800025 1,.row 900025 1,.row 1000025 1])∧s.h 9=(1,.box 37 [.dat (.int .i64 x10.1.Now),.dat (.bool x10.1.Online),.dat (.int .i64 x10.1.Device),.row 400033 1,.row 500033 1,.dat (.int .i64 x10.1.NextPage),.row 700033 1,.row 800033 1,.row 900033 1,.row 1000033 1])∧s.h 400025=(1,.row 124 24 (List.map M.aF.en x6.1.aM.Buckets) true)∧s.h 400033=(1,.row 124 24 (List.map M.aF.en x10.1.aM.Buckets) true)∧s.h 500025=(1,.row 80 11 (List.map M.bG.en x6.1.Pages) true)∧s.h 500033=(1,.row 80 11 (List.map M.bG.en x10.1.Pages) true)∧s.h 700025=(1,.row 144 4 (List.map M.bF.en x6.1.Locks.Locks) true)∧s.h 700033=(1,.row 144 4 (List.map M.bF.en x10.1.Locks.Locks) true)∧s.h 800025=(1,.row 232 3 (List.map M.bU.en x6.1.Channel.Mails) true)∧s.h 800033=(1,.row 232 3 (List.map M.bU.en x10.1.Channel.Mails) true)∧s.h 900025=(1,.row 95 4 (List.map M.Site.en x6.1.Sites) true)∧s.h 900033=(1,.row 95 4 (List.map M.Site.en x10.1.Sites) true)∧s.h 1000025=(1,.row 102 5 (List.map M.Server.en x6.1.Servers) true)∧s.h 1000033=(1,.row 102 5 (List.map M.Server.en x10.1.Servers) true)∧True) ?_
 rintro s23 ⟨f24,f25,f26,f27,f28,f29,f30,f31,f32,f33,f34,f35,f36,f37,f38,f39,f40,f41,f42,f43,f44,f45,_⟩
 rcases cU (decide (x21.2.2.2.2.2.2<0)) with b46 | b46
 ·replace h:=bI b46 h
  refine ln ?_
  refine an (lct (sq (ln ?_)))
  refine an (rt ?_)
  cases h
  simp [Ret,TB,EN, *]
 replace h:=bH b46 h
 obtain ⟨x47,h48,h⟩:=bind_some h
 rcases cU (!x47) with b49 | b49
 ·replace h:=bI b49 h
  refine ln1 (c18 _ _ _ h48) ?_
  refine an (lct (sq (ln ?_)))
  refine an (rt ?_)
  cases h
  simp [Ret,TB,EN, *]
 replace h:=bH b49 h
 refine ln1 (c18 _ _ _ h48) ?_
 refine an (lcf (sk (an (sq (ln ?_)))))
 refine an (sq ?_)
 obtain ⟨x50,h51,h⟩:=bind_some h
 refine aMS (n:=2) (x:=66) (y:=67) (d:=68) (ag:=true) (cs:=[.dat (.int .i64 x10.1.Now),.dat (.bool x10.1.Online),.dat (.int .i64 x10.1.Device),.row 400033 1,.row 500033 1,.dat (.int .i64 x10.1.NextPage),.row 700033 1,.row 800033 1,.row 900033 1,.row 1000033 1]) (k:=1) [1,2,6,7,9,12] [2,6,9,400025,400033,500025,500033,700025,700033,800025,800033,900025,900033,1000025,1000033] rfl rfl rfl rfl rfl (by decide) ?_ ?_ ?_ (aCT x10.1 1 x50 h51) ?_ (by simp +decide [aAD]) ?_ ?_ ?_ ?_ (s1 := ?S90) (s3 := ?S91)
 rotate_left 2
 ·simp +decide only [LX,E,reduceIte,Nat.reduceAdd,Nat.reduceMul,Int.reduceEq,Int.reduceLT,Bool.not_true,Bool.not_false,L,TB,EN, *,-h]
  exact Is.mk _
 ·simp +decide only [LX,F,reduceIte,Nat.reduceAdd,Bool.not_true,Bool.not_false,EN, *,-h]
 ·simp +decide only [LX,F,reduceIte,Nat.reduceAdd,Bool.not_true,Bool.not_false,EN, *,-h]
 ·refine ⟨_,_,rfl,rfl,rfl,?_⟩
  refine ⟨_,_,rfl,rfl,rfl,?_⟩
  refine ⟨_,_,rfl,rfl,rfl,?_⟩
  refine ⟨124,24,List.map M.aF.en x10.1.aM.Buckets,List.map M.aF.en x50.1,_,_,by simp +decide only [LX,F,reduceIte,Nat.reduceAdd,Bool.not_true,Bool.not_false,EN, *,-h],aCZ (f:=M.aF.en) (fun _=>rfl) _,rfl,rfl,?_⟩
  refine ⟨80,11,List.map M.bG.en x10.1.Pages,List.map M.bG.en x50.2.1,_,_,by simp +decide only [LX,F,reduceIte,Nat.reduceAdd,Bool.not_true,Bool.not_false,EN, *,-h],aCZ (f:=M.bG.en) (fun _=>rfl) _,rfl,rfl,?_⟩
  refine ⟨_,_,rfl,rfl,rfl,?_⟩
  refine ⟨144,4,List.map M.bF.en x10.1.Locks.Locks,List.map M.bF.en x50.2.2.1,_,_,by simp +decide only [LX,F,reduceIte,Nat.reduceAdd,Bool.not_true,Bool.not_false,EN, *,-h],aCZ (f:=M.bF.en) (fun _=>rfl) _,rfl,rfl,?_⟩
  refine ⟨232,3,List.map M.bU.en x10.1.Channel.Mails,List.map M.bU.en x50.2.2.2.1,_,_,by simp +decide only [LX,F,reduceIte,Nat.reduceAdd,Bool.not_true,Bool.not_false,EN, *,-h],aCZ (f:=M.bU.en) (fun _=>rfl) _,rfl,rfl,?_⟩
  refine ⟨95,4,List.map M.Site.en x10.1.Sites,List.map M.Site.en x50.2.2.2.2.1,_,_,by simp +decide only [LX,F,reduceIte,Nat.reduceAdd,Bool.not_true,Bool.not_false,EN, *,-h],aCZ (f:=M.Site.en) (fun _=>rfl) _,rfl,rfl,?_⟩
  refine ⟨102,5,List.map M.Server.en x10.1.Servers,List.map M.Server.en x50.2.2.2.2.2.1,_,_,by simp +decide only [LX,F,reduceIte,Nat.reduceAdd,Bool.not_true,Bool.not_false,EN, *,-h],aCZ (f:=M.Server.en) (fun _=>rfl) _,rfl,rfl,?_⟩
  exact ⟨rfl,rfl⟩
 ·simp +decide only [LC,LX,F,reduceIte,Nat.reduceAdd,Bool.not_true,Bool.not_false,EN, *,-h]
 ·simp +decide only [LC,LX,F,reduceIte,Nat.reduceAdd,Bool.not_true,Bool.not_false,EN, *,-h]
 ·simp +decide only [LX,E,reduceIte,Nat.reduceAdd,Nat.reduceMul,Int.reduceEq,Int.reduceLT,Bool.not_true,Bool.not_false,L,TB,EN, *,-h]
  exact Is.mk _
 refine an (sq ?_)
 refine lcu (fun s=>s.t 1 = .v false [.dat (.int .i64 p1)]∧s.t 2 = .v false [.bp 2 1 0]∧s.t 6 = .v false [.bp 6 1 0]∧s.t 7 = .v false [.dat (.bool x6.2)]∧s.t 9 = .v false [.bp 9 1 0]∧s.t 12 = .v false [.dat (.int .i64 x50.2.2.2.2.2.2)]∧s.h 2=(1,.box 61 [.dat (.int .i64 p0.Now),.dat (.bool p0.Online),.dat (.int .i64 p0.Device),.old base (.sl (List.map M.aF.en p0.aM.Buckets)) none,.old base (.sl (List.map M.bG.en p0.Pages)) none,.dat (.int .i64 p0.NextPage),.old base (.sl (List.map M.bF.en p0.Locks.Locks)) none,.old base (.sl (List.map M.bU.en p0.Channel.Mails)) none,.old base (.sl (List.map M.Site.en p0.Sites)) none,.old base (.sl (List.map M.Server.en p0.Servers)) none])∧s.h 6=(1,.box 37 [.dat (.int .i64 x6.1.Now),.dat (.bool x6.1.Online),.dat (.int .i64 x6.1.Device),.row 400025 1,.row 500025 1,.dat (.int .i64 x6.1.NextPage),.row 700025 1,.row 800025 1,.row 900025 1,.row 1000025 1])∧s.h 9=(1,.box 37 [.dat (.int .i64 x10.1.Now),.dat (.bool x10.1.Online),.dat (.int .i64 x10.1.Device),.row 400033 1,.row 500033 1,.dat (.int .i64 x10.1.NextPage),.row 700033 1,.row 800033 1,.row 900033 1,.row 1000033 1])∧s.h 400025=(1,.row 124 24 (List.map M.aF.en x6.1.aM.Buckets) true)∧s.h 400033=(1,.row 124 24 (List.map M.aF.en x50.1) true)∧s.h 500025=(1,.row 80 11 (List.map M.bG.en x6.1.Pages) true)∧s.h 500033=(1,.row 80 11 (List.map M.bG.en x50.2.1) true)∧s.h 700025=(1,.row 144 4 (List.map M.bF.en x6.1.Locks.Locks) true)∧s.h 700033=(1,.row 144 4 (List.map M.bF.en x50.2.2.1) true)∧s.h 800025=(1,.row 232 3 (List.map M.bU.en x6.1.Channel.Mails) true)∧s.h 800033=(1,.row 232 3 (List.map M.bU.en x50.2.2.2.1) true)∧s.h 900025=(1,.row 95 4 (List.map M.Site.en x6.1.Sites) true)∧s.h 900033=(1,.row 95 4 (List.map M.Site.en x50.2.2.2.2.1) true)∧s.h 1000025=(1,.row 102 5 (List.map M.Server.en x6.1.Servers) true)∧s.h 1000033=(1,.row 102 5 (List.map M.Server.en x50.2.2.2.2.2.1) true)∧True) ?_
 rintro s52 ⟨f53,f54,f55,f56,f57,f58,f59,f60,f61,f62,f63,f64,f65,f66,f67,f68,f69,f70,f71,f72,f73,_⟩
 refine ln ?_
 refine an (sq ?_)
 obtain ⟨x74,h75,h⟩:=bind_some h
 refine ln1 (c20 _ _ _ h75) ?_
 refine an (sq (sq (ln ?_)))
 refine an ?_
 rcases cU (decide (x74<0)) with b76 | b76
 ·replace h:=bI b76 h
  refine lct (sq (ln ?_))
  refine an (rt ?_)
  cases h
  simp [Ret,TB,EN, *]
 replace h:=bH b76 h
 refine lcf (sk (an (sq (sq (ln ?_)))))
 refine an ?_
 rcases cU (x74 != x50.2.2.2.2.2.2) with b77 | b77
 ·replace h:=bI b77 h
  refine lct (sq (ln ?_))
  refine an (rt ?_)
  cases h
  simp [Ret,TB,EN, *]
 replace h:=bH b77 h
 refine lcf (sk (an (sq ?_)))
 obtain ⟨x78,h79,h⟩:=bind_some h
 obtain ⟨x80,h81,h⟩:=bind_some h
 refine ln2 (c17 _ _ h79) (c13 _ _ _ h81) ?_
 refine an (sq (sq ?_))
 obtain ⟨x82,h83,h⟩:=bind_some h
 rcases cU (!x82) with b84 | b84
 ·replace h:=bI b84 h
  refine ln1 (c18 _ _ _ h83) ?_
  refine an (lct (sq (ln ?_)))
  refine an (rt ?_)
  cases h
  simp [Ret,TB,EN, *]
 replace h:=bH b84 h
 refine ln1 (c18 _ _ _ h83) ?_
 refine an ?_
 rcases cU (!(x80.2==x6.2)) with b85 | b85
 ·replace h:=bI b85 h
  refine lct (sq (ln ?_))
  refine an (rt ?_)
  cases h
  simp [Ret,TB,EN, *]
 replace h:=bH b85 h
 refine lcf (sk (an (sq (ln ?_))))
 refine an (sq ?_)
 obtain ⟨x86,h87,h⟩:=bind_some h
 refine ln1 (c20 _ _ _ h87) ?_
 refine an (sq (sq (ln ?_)))
 refine an ?_
 rcases cU (decide (x86<0)) with b88 | b88
 ·replace h:=bI b88 h
  refine lct (sq (ln ?_))
  refine an (rt ?_)
  cases h
  simp [Ret,TB,EN, *]
 replace h:=bH b88 h
 refine lcf (sk (an (sq (sq (ln ?_)))))
 refine an ?_
 rcases cU (x86 != x50.2.2.2.2.2.2) with b89 | b89
 ·replace h:=bI b89 h
  refine lct (sq (ln ?_))
  refine an (rt ?_)
  cases h
  simp [Ret,TB,EN, *]
 replace h:=bH b89 h
 refine lcf (sk (an (sq (ln ?_))))
 refine an (rt ?_)
 cases h
 simp [Ret,TB,EN, *]
end Go.Proofs.YtnhpbpnhmapeeaaGreat.gen
