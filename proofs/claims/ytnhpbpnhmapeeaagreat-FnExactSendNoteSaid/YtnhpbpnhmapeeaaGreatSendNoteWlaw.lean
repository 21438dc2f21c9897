/-
  Helper text. No conditions.
-/
import Derived.Test.YtnhpbpnhmapeeaaGreatSendNoteTi
import Derived.Test.YtnhpbpnhmapeeaaGreatSendNoteWeq
import Derived.Test.YtnhpbpnhmapeeaaGreatSendNoteWheld
import Derived.Test.YtnhpbpnhmapeeaaGreatSendNoteWimpl3
import Derived.Test.YtnhpbpnhmapeeaaGreatSendNoteWmark2
import Derived.Test.YtnhpbpnhmapeeaaGreatSendNoteWspec2
import Derived.Test.YtnhpbpnhmapeeaaGreatSendNoteWsz
import Derived.Test.YtnhpbpnhmapeeaaGreatSendNoteWto
namespace Go.Proofs.YtnhpbpnhmapeeaaGreat.gen
open Go Go.Sh
set_option linter.unusedVariables false
set_option linter.unusedSimpArgs false
set_option maxRecDepth 20000
set_option maxHeartbeats 4000000
theorem aC0 (p0:M.World) (p1:M.bJ) (p2:Int) (p3:ByteArray) (p4:Int) (r:Bool) (h:nO p0 p1 p2 p3 p4=some r):nM Tryz.prog 5 [(true,M.World.en p0),(true,M.bJ.en p1),(false,[.int .i64 p2]),(false,[.str p3]),(false,[.int .i64 p4])] [(false,[.ro (.bool r)])]:=by
 unfold nO at h
 simp only [M.bJ.en,M.World.en]
 refine aOa (N:=137) (vars:=[.tmp 10]) Tryz.func5 rfl rfl rfl (by decide +kernel) (Nat.le_of_ble_eq_true rfl) fun base wd => ?_
 refine sq (ln ?_)
 refine an (sq (sq (ln ?_)))
 refine an ?_
 rcases bO (decide ((p3.size:Int)>1048576)) with b1 | b1
 ·replace h:=bB b1 h
  refine lct (sq (ln ?_))
  refine an (rt ?_)
  cases h
  simp [Ret,TB,EN, *]
 replace h:=bA b1 h
 refine lcf (sk (an (sq (ln ?_))))
 refine an (sq ?_)
 obtain ⟨x2,h3,h⟩:=bind_some h
 refine ln1 (c15 _ _ _ h3) ?_
 refine an (sq (sq (ln ?_)))
 refine an ?_
 rcases bO (decide (x2<0)) with b4 | b4
 ·replace h:=bB b4 h
  refine lct (sq (ln ?_))
  refine an (rt ?_)
  cases h
  simp [Ret,TB,EN, *]
 replace h:=bA b4 h
 refine lcf (sk (an (sq ?_)))
 obtain ⟨x5,h6,h⟩:=bind_some h
 refine ln1 (c21 _ _ _ h6) ?_
 refine an (sq (sq (ln ?_)))
 refine an ?_
 rcases bO (decide (x5<0)) with b7 | b7
 ·replace h:=bB b7 h
  refine lct (sq (ln ?_))
  refine an (rt ?_)
  cases h
  simp [Ret,TB,EN, *]
 replace h:=bA b7 h
 refine lcf (sk (an (sq ?_)))
 obtain ⟨x8,h9,h⟩:=bind_some h
 obtain ⟨x10,h11,h⟩:=bind_some h
 obtain ⟨x12,h13,h⟩:=bind_some h
 apply aBC mixed
 ·simp +decide only [LX,E,reduceIte,Nat.reduceAdd,Nat.reduceMul,Bool.not_true,Bool.not_false,L,aNA,aNB,aM8,EN,b1,b4,b7]
  refine ⟨_,c17 _ _ h9,?_⟩
  try simp +decide only [LX,E,reduceIte,Nat.reduceAdd,Nat.reduceMul,Bool.not_true,Bool.not_false,L,aNA,aNB,aM8,EN,b1,b4,b7]
  refine ⟨_,c23 _ _ h11,?_⟩
  try simp +decide only [LX,E,reduceIte,Nat.reduceAdd,Nat.reduceMul,Bool.not_true,Bool.not_false,L,aNA,aNB,aM8,EN,b1,b4,b7]
  refine ⟨_,c22 _ _ _ _ _ _ h13,?_⟩
  try simp +decide only [LX,E,reduceIte,Nat.reduceAdd,Nat.reduceMul,Bool.not_true,Bool.not_false,L,aNA,aNB,aM8,EN,b1,b4,b7]
  exact ⟨.mk (by decide +kernel),Is.mk _⟩
 refine an (sq ?_)
 obtain ⟨x14,h15,h⟩:=bind_some h
 refine ln1 (c17 _ _ h15) ?_
 refine an (sq ?_)
 obtain ⟨x16,h17,h⟩:=bind_some h
 refine ln1 (c23 _ _ h17) ?_
 refine an (sq ?_)
 obtain ⟨x18,h19,h⟩:=bind_some h
 refine ln1 (c24 _ _ _ _ _ _ h19) ?_
 refine an (sq (sq ?_))
 obtain ⟨x20,h21,h⟩:=bind_some h
 rcases bO (!x20) with b22 | b22
 ·replace h:=bB b22 h
  refine ln1 (c18 _ _ _ h21) ?_
  refine an (lct (sq (ln ?_)))
  refine an (rt ?_)
  cases h
  simp [Ret,TB,EN, *]
 replace h:=bA b22 h
 refine ln1 (c18 _ _ _ h21) ?_
 refine an ?_
 rcases bO (!(x18.2==x12.2)) with b23 | b23
 ·replace h:=bB b23 h
  refine lct (sq (ln ?_))
  refine an (rt ?_)
  cases h
  simp [Ret,TB,EN, *]
 replace h:=bA b23 h
 refine lcf (sk (an (sq (sq ?_))))
 refine lcu (fun s=>s.t 2 = .v false [.dat (.int .i64 p2)]∧s.t 3 = .v false [.dat (.str p3)]∧s.t 4 = .v false [.dat (.int .i64 p4)]∧s.t 5 = .v false [.bp 5 1 0]∧s.t 6 = .v false [.bp 6 1 0]∧s.t 12 = .v false [.bp 12 1 0]∧s.t 13 = .v false [.dat (.bool x12.2)]∧s.t 14 = .v false [.bp 14 1 0]∧s.t 15 = .v false [.bp 15 1 0]∧s.t 16 = .v false [.bp 16 1 0]∧s.t 17 = .v false [.dat (.bool x18.2)]∧s.h 5=(1,.box 61 [.dat (.int .i64 p0.Now),.dat (.bool p0.Online),.dat (.int .i64 p0.Device),.old base (.sl (List.map M.aA.en p0.aF.Buckets)) none,.old base (.sl (List.map M.bJ.en p0.Pages)) none,.dat (.int .i64 p0.NextPage),.old base (.sl (List.map M.cT.en p0.Locks.Locks)) none,.old base (.sl (List.map M.eO.en p0.Channel.Mails)) none,.old base (.sl (List.map M.Site.en p0.Sites)) none,.old base (.sl (List.map M.Server.en p0.Servers)) none])∧s.h 6=(1,.box 73 [.dat (.int .i64 p1.Id),.dat (.str p1.Site),.dat (.str p1.Top),.dat (.int .i64 p1.Version),.old base (.sl (List.map M.aM.en p1.aM)) none,.old base (.sl (List.map M.Instr.en p1.Machine.Script)) none,.dat (.int .i64 p1.Machine.Pc),.old base (.sl (List.map enI p1.Machine.Regs)) none,.dat (.int .i64 p1.Machine.Steps),.dat (.bool p1.Machine.Done),.dat (.bool p1.Machine.Wait)])∧s.h 12=(1,.box 37 [.dat (.int .i64 x12.1.Now),.dat (.bool x12.1.Online),.dat (.int .i64 x12.1.Device),.row 400044 1,.row 500044 1,.dat (.int .i64 x12.1.NextPage),.row 700044 1,.row 800044 1,.row 900044 1,.row 1000044 1])∧s.h 14=(1,.box 37 [.dat (.int .i64 x14.Now),.dat (.bool x14.Online),.dat (.int .i64 x14.Device),.row 400048 1,.row 500048 1,.dat (.int .i64 x14.NextPage),.row 700048 1,.row 800048 1,.row 900048 1,.row 1000048 1])∧s.h 15=(1,.box 80 [.dat (.int .i64 x16.Id),.dat (.str x16.Site),.dat (.str x16.Top),.dat (.int .i64 x16.Version),.row 500050 1,.row 600050 1,.dat (.int .i64 x16.Machine.Pc),.row 800050 1,.dat (.int .i64 x16.Machine.Steps),.dat (.bool x16.Machine.Done),.dat (.bool x16.Machine.Wait)])∧s.h 16=(1,.box 37 [.dat (.int .i64 x18.1.Now),.dat (.bool x18.1.Online),.dat (.int .i64 x18.1.Device),.row 400057 1,.row 500057 1,.dat (.int .i64 x18.1.NextPage),.row 700057 1,.row 800057 1,.row 900057 1,.row 1000057 1])∧s.h 400044=(1,.row 124 24 (List.map M.aA.en x12.1.aF.Buckets) true)∧s.h 400048=(1,.row 124 24 (List.map M.aA.en x14.aF.Buckets) true)∧s.h 400057=(1,.row 124 24 (List.map M.aA.en x18.1.aF.Buckets) true)∧s.h 500044=(1,.row 80 11 (List.map M.bJ.en x12.1.Pages) true)∧s.h 500048=(1,.row 80 11 (List.map M.bJ.en x14.Pages) true)∧s.h 500050=(1,.row 222 2 (List.map M.aM.en x16.aM) true)∧s.h 500057=(1,.row 80 11 (List.map M.bJ.en x18.1.Pages) true)∧s.h 600050=(1,.row 196 4 (List.map M.Instr.en x16.Machine.Script) true)∧s.h 700044=(1,.row 144 4 (List.map M.cT.en x12.1.Locks.Locks) true)∧s.h 700048=(1,.row 144 4 (List.map M.cT.en x14.Locks.Locks) true)∧s.h 700057=(1,.row 144 4 (List.map M.cT.en x18.1.Locks.Locks) true)∧s.h 800044=(1,.row 232 3 (List.map M.eO.en x12.1.Channel.Mails) true)∧s.h 800048=(1,.row 232 3 (List.map M.eO.en x14.Channel.Mails) true)∧s.h 800050=(1,.row 3 1 (List.map enI x16.Machine.Regs) true)∧s.h 800057=(1,.row 232 3 (List.map M.eO.en x18.1.Channel.Mails) true)∧s.h 900044=(1,.row 95 4 (List.map M.Site.en x12.1.Sites) true)∧s.h 900048=(1,.row 95 4 (List.map M.Site.en x14.Sites) true)∧s.h 900057=(1,.row 95 4 (List.map M.Site.en x18.1.Sites) true)∧s.h 1000044=(1,.row 102 5 (List.map M.Server.en x12.1.Servers) true)∧s.h 1000048=(1,.row 102 5 (List.map M.Server.en x14.Servers) true)∧s.h 1000057=(1,.row 102 5 (List.map M.Server.en x18.1.Servers) true)∧True) ?_
 rintro s24 ⟨f25,f26,f27,f28,f29,f30,f31,f32,f33,f34,f35,f36,f37,f38,f39,f40,f41,f42,f43,f44,f45,f46,f47,f48,f49,f50,f51,f52,f53,f54,f55,f56,f57,f58,f59,f60,f61,f62,_⟩
 obtain ⟨x63,h64,h⟩:=bind_some h
 obtain ⟨x65,h66,h⟩:=bind_some h
 refine ld2 mixed (c17 _ _ h64) (c18 _ _ _ h66) ?_
 refine an ?_
 rcases bO (!x65) with b67 | b67
 ·replace h:=bB b67 h
  refine lct (sq (ln ?_))
  refine an (rt ?_)
  cases h
  simp [Ret,TB,EN, *]
 replace h:=bA b67 h
 refine lcf (sk (an (sq (sq ?_))))
 obtain ⟨x68,h69,h⟩:=bind_some h
 obtain ⟨x70,h71,h⟩:=bind_some h
 refine ld2 mixed (c23 _ _ h69) (c25 _ _ _ h71) ?_
 refine an ?_
 rcases bO (!x70) with b72 | b72
 ·replace h:=bB b72 h
  refine lct (sq (ln ?_))
  refine an (rt ?_)
  cases h
  simp [Ret,TB,EN, *]
 replace h:=bA b72 h
 refine lcf (sk (an (sq (ln ?_))))
 refine an (sq ?_)
 obtain ⟨x73,h74,h⟩:=bind_some h
 refine aKJ (n:=2) (x:=79) (y:=80) (d:=81) (ag:=true) (cs:=[.dat (.int .i64 x14.Now),.dat (.bool x14.Online),.dat (.int .i64 x14.Device),.row 400048 1,.row 500048 1,.dat (.int .i64 x14.NextPage),.row 700048 1,.row 800048 1,.row 900048 1,.row 1000048 1]) (k:=1) [2,3,4,5,6,12,13,15,16,17,18] [5,6,12,15,16,400044,400057,500044,500050,500057,600050,700044,700057,800044,800050,800057,900044,900057,1000044,1000057] rfl rfl rfl rfl rfl (by decide) ?_ ?_ ?_ (aCq x14 1 x73 h74) ?_ (by simp +decide [zY]) ?_ ?_ ?_ ?_ (s1 := ?S190) (s3 := ?S191)
 rotate_left 2
 ·simp +decide only [LX,E,reduceIte,Nat.reduceAdd,Nat.reduceMul,Int.reduceEq,Int.reduceLT,Bool.not_true,Bool.not_false,L,TB,EN, *,-h]
  exact Is.mk _
 ·simp +decide only [LX,F,reduceIte,Nat.reduceAdd,Bool.not_true,Bool.not_false,EN, *,-h]
 ·simp +decide only [LX,F,reduceIte,Nat.reduceAdd,Bool.not_true,Bool.not_false,EN, *,-h]
 ·refine ⟨_,_,rfl,rfl,rfl,?_⟩
  refine ⟨_,_,rfl,rfl,rfl,?_⟩
  refine ⟨_,_,rfl,rfl,rfl,?_⟩
  refine ⟨124,24,List.map M.aA.en x14.aF.Buckets,List.map M.aA.en x73.1,_,_,by simp +decide only [LX,F,reduceIte,Nat.reduceAdd,Bool.not_true,Bool.not_false,EN, *,-h],aBw (f:=M.aA.en) (fun _=>rfl) _,rfl,rfl,?_⟩
  refine ⟨80,11,List.map M.bJ.en x14.Pages,List.map M.bJ.en x73.2.1,_,_,by simp +decide only [LX,F,reduceIte,Nat.reduceAdd,Bool.not_true,Bool.not_false,EN, *,-h],aBw (f:=M.bJ.en) (fun _=>rfl) _,rfl,rfl,?_⟩
  refine ⟨_,_,rfl,rfl,rfl,?_⟩
  refine ⟨144,4,List.map M.cT.en x14.Locks.Locks,List.map M.cT.en x73.2.2.1,_,_,by simp +decide only [LX,F,reduceIte,Nat.reduceAdd,Bool.not_true,Bool.not_false,EN, *,-h],aBw (f:=M.cT.en) (fun _=>rfl) _,rfl,rfl,?_⟩
  refine ⟨232,3,List.map M.eO.en x14.Channel.Mails,List.map M.eO.en x73.2.2.2.1,_,_,by simp +decide only [LX,F,reduceIte,Nat.reduceAdd,Bool.not_true,Bool.not_false,EN, *,-h],aBw (f:=M.eO.en) (fun _=>rfl) _,rfl,rfl,?_⟩
  refine ⟨95,4,List.map M.Site.en x14.Sites,List.map M.Site.en x73.2.2.2.2.1,_,_,by simp +decide only [LX,F,reduceIte,Nat.reduceAdd,Bool.not_true,Bool.not_false,EN, *,-h],aBw (f:=M.Site.en) (fun _=>rfl) _,rfl,rfl,?_⟩
  refine ⟨102,5,List.map M.Server.en x14.Servers,List.map M.Server.en x73.2.2.2.2.2.1,_,_,by simp +decide only [LX,F,reduceIte,Nat.reduceAdd,Bool.not_true,Bool.not_false,EN, *,-h],aBw (f:=M.Server.en) (fun _=>rfl) _,rfl,rfl,?_⟩
  exact ⟨rfl,rfl⟩
 ·simp +decide only [LC,LX,F,reduceIte,Nat.reduceAdd,Bool.not_true,Bool.not_false,EN, *,-h]
 ·simp +decide only [LC,LX,F,reduceIte,Nat.reduceAdd,Bool.not_true,Bool.not_false,EN, *,-h]
 ·simp +decide only [LX,E,reduceIte,Nat.reduceAdd,Nat.reduceMul,Int.reduceEq,Int.reduceLT,Bool.not_true,Bool.not_false,L,TB,EN, *,-h]
  exact Is.mk _
 refine an (sq ?_)
 refine lcu (fun s=>s.t 2 = .v false [.dat (.int .i64 p2)]∧s.t 3 = .v false [.dat (.str p3)]∧s.t 4 = .v false [.dat (.int .i64 p4)]∧s.t 5 = .v false [.bp 5 1 0]∧s.t 6 = .v false [.bp 6 1 0]∧s.t 12 = .v false [.bp 12 1 0]∧s.t 13 = .v false [.dat (.bool x12.2)]∧s.t 15 = .v false [.bp 15 1 0]∧s.t 16 = .v false [.bp 16 1 0]∧s.t 17 = .v false [.dat (.bool x18.2)]∧s.t 18 = .v false [.dat (.int .i64 x73.2.2.2.2.2.2)]∧s.h 5=(1,.box 61 [.dat (.int .i64 p0.Now),.dat (.bool p0.Online),.dat (.int .i64 p0.Device),.old base (.sl (List.map M.aA.en p0.aF.Buckets)) none,.old base (.sl (List.map M.bJ.en p0.Pages)) none,.dat (.int .i64 p0.NextPage),.old base (.sl (List.map M.cT.en p0.Locks.Locks)) none,.old base (.sl (List.map M.eO.en p0.Channel.Mails)) none,.old base (.sl (List.map M.Site.en p0.Sites)) none,.old base (.sl (List.map M.Server.en p0.Servers)) none])∧s.h 6=(1,.box 73 [.dat (.int .i64 p1.Id),.dat (.str p1.Site),.dat (.str p1.Top),.dat (.int .i64 p1.Version),.old base (.sl (List.map M.aM.en p1.aM)) none,.old base (.sl (List.map M.Instr.en p1.Machine.Script)) none,.dat (.int .i64 p1.Machine.Pc),.old base (.sl (List.map enI p1.Machine.Regs)) none,.dat (.int .i64 p1.Machine.Steps),.dat (.bool p1.Machine.Done),.dat (.bool p1.Machine.Wait)])∧s.h 12=(1,.box 37 [.dat (.int .i64 x12.1.Now),.dat (.bool x12.1.Online),.dat (.int .i64 x12.1.Device),.row 400044 1,.row 500044 1,.dat (.int .i64 x12.1.NextPage),.row 700044 1,.row 800044 1,.row 900044 1,.row 1000044 1])∧s.h 15=(1,.box 80 [.dat (.int .i64 x16.Id),.dat (.str x16.Site),.dat (.str x16.Top),.dat (.int .i64 x16.Version),.row 500050 1,.row 600050 1,.dat (.int .i64 x16.Machine.Pc),.row 800050 1,.dat (.int .i64 x16.Machine.Steps),.dat (.bool x16.Machine.Done),.dat (.bool x16.Machine.Wait)])∧s.h 16=(1,.box 37 [.dat (.int .i64 x18.1.Now),.dat (.bool x18.1.Online),.dat (.int .i64 x18.1.Device),.row 400057 1,.row 500057 1,.dat (.int .i64 x18.1.NextPage),.row 700057 1,.row 800057 1,.row 900057 1,.row 1000057 1])∧s.h 400044=(1,.row 124 24 (List.map M.aA.en x12.1.aF.Buckets) true)∧s.h 400057=(1,.row 124 24 (List.map M.aA.en x18.1.aF.Buckets) true)∧s.h 500044=(1,.row 80 11 (List.map M.bJ.en x12.1.Pages) true)∧s.h 500050=(1,.row 222 2 (List.map M.aM.en x16.aM) true)∧s.h 500057=(1,.row 80 11 (List.map M.bJ.en x18.1.Pages) true)∧s.h 600050=(1,.row 196 4 (List.map M.Instr.en x16.Machine.Script) true)∧s.h 700044=(1,.row 144 4 (List.map M.cT.en x12.1.Locks.Locks) true)∧s.h 700057=(1,.row 144 4 (List.map M.cT.en x18.1.Locks.Locks) true)∧s.h 800044=(1,.row 232 3 (List.map M.eO.en x12.1.Channel.Mails) true)∧s.h 800050=(1,.row 3 1 (List.map enI x16.Machine.Regs) true)∧s.h 800057=(1,.row 232 3 (List.map M.eO.en x18.1.Channel.Mails) true)∧s.h 900044=(1,.row 95 4 (List.map M.Site.en x12.1.Sites) true)∧s.h 900057=(1,.row 95 4 (List.map M.Site.en x18.1.Sites) true)∧s.h 1000044=(1,.row 102 5 (List.map M.Server.en x12.1.Servers) true)∧s.h 1000057=(1,.row 102 5 (List.map M.Server.en x18.1.Servers) true)∧True) ?_
 rintro s75 ⟨f76,f77,f78,f79,f80,f81,f82,f83,f84,f85,f86,f87,f88,f89,f90,f91,f92,f93,f94,f95,f96,f97,f98,f99,f100,f101,f102,f103,f104,f105,f106,_⟩
 obtain ⟨x107,h108,h⟩:=bind_some h
 refine aKJ (n:=2) (x:=82) (y:=83) (d:=84) (ag:=true) (cs:=[.dat (.int .i64 x16.Id),.dat (.str x16.Site),.dat (.str x16.Top),.dat (.int .i64 x16.Version),.row 500050 1,.row 600050 1,.dat (.int .i64 x16.Machine.Pc),.row 800050 1,.dat (.int .i64 x16.Machine.Steps),.dat (.bool x16.Machine.Done),.dat (.bool x16.Machine.Wait)]) (k:=x73.2.2.2.2.2.2) [2,3,4,5,6,12,13,16,17,18] [5,6,12,16,400044,400057,500044,500057,700044,700057,800044,800057,900044,900057,1000044,1000057] rfl rfl rfl rfl rfl (by decide) ?_ ?_ ?_ (aGl x16 x73.2.2.2.2.2.2 x107 h108) ?_ (by simp +decide [zY]) ?_ ?_ ?_ ?_ (s1 := ?S188) (s3 := ?S189)
 rotate_left 2
 ·simp +decide only [LX,E,reduceIte,Nat.reduceAdd,Nat.reduceMul,Int.reduceEq,Int.reduceLT,Bool.not_true,Bool.not_false,L,TB,EN, *,-h]
  exact Is.mk _
 ·simp +decide only [LX,F,reduceIte,Nat.reduceAdd,Bool.not_true,Bool.not_false,EN, *,-h]
 ·simp +decide only [LX,F,reduceIte,Nat.reduceAdd,Bool.not_true,Bool.not_false,EN, *,-h]
 ·refine ⟨_,_,rfl,rfl,rfl,?_⟩
  refine ⟨_,_,rfl,rfl,rfl,?_⟩
  refine ⟨_,_,rfl,rfl,rfl,?_⟩
  refine ⟨_,_,rfl,rfl,rfl,?_⟩
  refine ⟨222,2,List.map M.aM.en x16.aM,List.map M.aM.en x107.1,_,_,by simp +decide only [LX,F,reduceIte,Nat.reduceAdd,Bool.not_true,Bool.not_false,EN, *,-h],aBw (f:=M.aM.en) (fun _=>rfl) _,rfl,rfl,?_⟩
  refine ⟨196,4,List.map M.Instr.en x16.Machine.Script,List.map M.Instr.en x107.2.1,_,_,by simp +decide only [LX,F,reduceIte,Nat.reduceAdd,Bool.not_true,Bool.not_false,EN, *,-h],aBw (f:=M.Instr.en) (fun _=>rfl) _,rfl,rfl,?_⟩
  refine ⟨_,_,rfl,rfl,rfl,?_⟩
  refine ⟨3,1,List.map enI x16.Machine.Regs,List.map enI x107.2.2.1,_,_,by simp +decide only [LX,F,reduceIte,Nat.reduceAdd,Bool.not_true,Bool.not_false,EN, *,-h],aBw (f:=enI) (fun _=>rfl) _,rfl,rfl,?_⟩
  refine ⟨_,_,rfl,rfl,rfl,?_⟩
  refine ⟨_,_,rfl,rfl,rfl,?_⟩
  refine ⟨_,_,rfl,rfl,rfl,?_⟩
  exact ⟨rfl,rfl⟩
 ·simp +decide only [LC,LX,F,reduceIte,Nat.reduceAdd,Bool.not_true,Bool.not_false,EN, *,-h]
 ·simp +decide only [LC,LX,F,reduceIte,Nat.reduceAdd,Bool.not_true,Bool.not_false,EN, *,-h]
 ·simp +decide only [LX,E,reduceIte,Nat.reduceAdd,Nat.reduceMul,Int.reduceEq,Int.reduceLT,Bool.not_true,Bool.not_false,L,TB,EN, *,-h]
  exact Is.mk _
 refine an (sq (sq ?_))
 refine lcu (fun s=>s.t 2 = .v false [.dat (.int .i64 p2)]∧s.t 3 = .v false [.dat (.str p3)]∧s.t 4 = .v false [.dat (.int .i64 p4)]∧s.t 5 = .v false [.bp 5 1 0]∧s.t 6 = .v false [.bp 6 1 0]∧s.t 12 = .v false [.bp 12 1 0]∧s.t 13 = .v false [.dat (.bool x12.2)]∧s.t 16 = .v false [.bp 16 1 0]∧s.t 17 = .v false [.dat (.bool x18.2)]∧s.t 18 = .v false [.dat (.int .i64 x107.2.2.2)]∧s.h 5=(1,.box 61 [.dat (.int .i64 p0.Now),.dat (.bool p0.Online),.dat (.int .i64 p0.Device),.old base (.sl (List.map M.aA.en p0.aF.Buckets)) none,.old base (.sl (List.map M.bJ.en p0.Pages)) none,.dat (.int .i64 p0.NextPage),.old base (.sl (List.map M.cT.en p0.Locks.Locks)) none,.old base (.sl (List.map M.eO.en p0.Channel.Mails)) none,.old base (.sl (List.map M.Site.en p0.Sites)) none,.old base (.sl (List.map M.Server.en p0.Servers)) none])∧s.h 6=(1,.box 73 [.dat (.int .i64 p1.Id),.dat (.str p1.Site),.dat (.str p1.Top),.dat (.int .i64 p1.Version),.old base (.sl (List.map M.aM.en p1.aM)) none,.old base (.sl (List.map M.Instr.en p1.Machine.Script)) none,.dat (.int .i64 p1.Machine.Pc),.old base (.sl (List.map enI p1.Machine.Regs)) none,.dat (.int .i64 p1.Machine.Steps),.dat (.bool p1.Machine.Done),.dat (.bool p1.Machine.Wait)])∧s.h 12=(1,.box 37 [.dat (.int .i64 x12.1.Now),.dat (.bool x12.1.Online),.dat (.int .i64 x12.1.Device),.row 400044 1,.row 500044 1,.dat (.int .i64 x12.1.NextPage),.row 700044 1,.row 800044 1,.row 900044 1,.row 1000044 1])∧s.h 16=(1,.box 37 [.dat (.int .i64 x18.1.Now),.dat (.bool x18.1.Online),.dat (.int .i64 x18.1.Device),.row 400057 1,.row 500057 1,.dat (.int .i64 x18.1.NextPage),.row 700057 1,.row 800057 1,.row 900057 1,.row 1000057 1])∧s.h 400044=(1,.row 124 24 (List.map M.aA.en x12.1.aF.Buckets) true)∧s.h 400057=(1,.row 124 24 (List.map M.aA.en x18.1.aF.Buckets) true)∧s.h 500044=(1,.row 80 11 (List.map M.bJ.en x12.1.Pages) true)∧s.h 500057=(1,.row 80 11 (List.map M.bJ.en x18.1.Pages) true)∧s.h 700044=(1,.row 144 4 (List.map M.cT.en x12.1.Locks.Locks) true)∧s.h 700057=(1,.row 144 4 (List.map M.cT.en x18.1.Locks.Locks) true)∧s.h 800044=(1,.row 232 3 (List.map M.eO.en x12.1.Channel.Mails) true)∧s.h 800057=(1,.row 232 3 (List.map M.eO.en x18.1.Channel.Mails) true)∧s.h 900044=(1,.row 95 4 (List.map M.Site.en x12.1.Sites) true)∧s.h 900057=(1,.row 95 4 (List.map M.Site.en x18.1.Sites) true)∧s.h 1000044=(1,.row 102 5 (List.map M.Server.en x12.1.Servers) true)∧s.h 1000057=(1,.row 102 5 (List.map M.Server.en x18.1.Servers) true)∧True) ?_
 rintro s109 ⟨f110,f111,f112,f113,f114,f115,f116,f117,f118,f119,f120,f121,f122,f123,f124,f125,f126,f127,f128,f129,f130,f131,f132,f133,f134,f135,_⟩
 rcases bO (decide (x107.2.2.2<0)) with b136 | b136
 ·replace h:=bB b136 h
  refine ln ?_
  refine an (lct (sq (ln ?_)))
  refine an (rt ?_)
  cases h
  simp [Ret,TB,EN, *]
 replace h:=bA b136 h
 obtain ⟨x137,h138,h⟩:=bind_some h
 rcases bO (!x137) with b139 | b139
 ·replace h:=bB b139 h
  refine ln1 (c18 _ _ _ h138) ?_
  refine an (lct (sq (ln ?_)))
  refine an (rt ?_)
  cases h
  simp [Ret,TB,EN, *]
 replace h:=bA b139 h
 refine ln1 (c18 _ _ _ h138) ?_
 refine an (lcf (sk (an (sq (ln ?_)))))
 refine an (sq ?_)
 obtain ⟨x140,h141,h⟩:=bind_some h
 refine aKJ (n:=2) (x:=98) (y:=99) (d:=100) (ag:=true) (cs:=[.dat (.int .i64 x18.1.Now),.dat (.bool x18.1.Online),.dat (.int .i64 x18.1.Device),.row 400057 1,.row 500057 1,.dat (.int .i64 x18.1.NextPage),.row 700057 1,.row 800057 1,.row 900057 1,.row 1000057 1]) (k:=1) [2,3,4,5,6,12,13,16,19] [5,6,12,16,400044,400057,500044,500057,700044,700057,800044,800057,900044,900057,1000044,1000057] rfl rfl rfl rfl rfl (by decide) ?_ ?_ ?_ (aCq x18.1 1 x140 h141) ?_ (by simp +decide [zY]) ?_ ?_ ?_ ?_ (s1 := ?S186) (s3 := ?S187)
 rotate_left 2
 ·simp +decide only [LX,E,reduceIte,Nat.reduceAdd,Nat.reduceMul,Int.reduceEq,Int.reduceLT,Bool.not_true,Bool.not_false,L,TB,EN, *,-h]
  exact Is.mk _
 ·simp +decide only [LX,F,reduceIte,Nat.reduceAdd,Bool.not_true,Bool.not_false,EN, *,-h]
 ·simp +decide only [LX,F,reduceIte,Nat.reduceAdd,Bool.not_true,Bool.not_false,EN, *,-h]
 ·refine ⟨_,_,rfl,rfl,rfl,?_⟩
  refine ⟨_,_,rfl,rfl,rfl,?_⟩
  refine ⟨_,_,rfl,rfl,rfl,?_⟩
  refine ⟨124,24,List.map M.aA.en x18.1.aF.Buckets,List.map M.aA.en x140.1,_,_,by simp +decide only [LX,F,reduceIte,Nat.reduceAdd,Bool.not_true,Bool.not_false,EN, *,-h],aBw (f:=M.aA.en) (fun _=>rfl) _,rfl,rfl,?_⟩
  refine ⟨80,11,List.map M.bJ.en x18.1.Pages,List.map M.bJ.en x140.2.1,_,_,by simp +decide only [LX,F,reduceIte,Nat.reduceAdd,Bool.not_true,Bool.not_false,EN, *,-h],aBw (f:=M.bJ.en) (fun _=>rfl) _,rfl,rfl,?_⟩
  refine ⟨_,_,rfl,rfl,rfl,?_⟩
  refine ⟨144,4,List.map M.cT.en x18.1.Locks.Locks,List.map M.cT.en x140.2.2.1,_,_,by simp +decide only [LX,F,reduceIte,Nat.reduceAdd,Bool.not_true,Bool.not_false,EN, *,-h],aBw (f:=M.cT.en) (fun _=>rfl) _,rfl,rfl,?_⟩
  refine ⟨232,3,List.map M.eO.en x18.1.Channel.Mails,List.map M.eO.en x140.2.2.2.1,_,_,by simp +decide only [LX,F,reduceIte,Nat.reduceAdd,Bool.not_true,Bool.not_false,EN, *,-h],aBw (f:=M.eO.en) (fun _=>rfl) _,rfl,rfl,?_⟩
  refine ⟨95,4,List.map M.Site.en x18.1.Sites,List.map M.Site.en x140.2.2.2.2.1,_,_,by simp +decide only [LX,F,reduceIte,Nat.reduceAdd,Bool.not_true,Bool.not_false,EN, *,-h],aBw (f:=M.Site.en) (fun _=>rfl) _,rfl,rfl,?_⟩
  refine ⟨102,5,List.map M.Server.en x18.1.Servers,List.map M.Server.en x140.2.2.2.2.2.1,_,_,by simp +decide only [LX,F,reduceIte,Nat.reduceAdd,Bool.not_true,Bool.not_false,EN, *,-h],aBw (f:=M.Server.en) (fun _=>rfl) _,rfl,rfl,?_⟩
  exact ⟨rfl,rfl⟩
 ·simp +decide only [LC,LX,F,reduceIte,Nat.reduceAdd,Bool.not_true,Bool.not_false,EN, *,-h]
 ·simp +decide only [LC,LX,F,reduceIte,Nat.reduceAdd,Bool.not_true,Bool.not_false,EN, *,-h]
 ·simp +decide only [LX,E,reduceIte,Nat.reduceAdd,Nat.reduceMul,Int.reduceEq,Int.reduceLT,Bool.not_true,Bool.not_false,L,TB,EN, *,-h]
  exact Is.mk _
 refine an (sq ?_)
 refine lcu (fun s=>s.t 2 = .v false [.dat (.int .i64 p2)]∧s.t 3 = .v false [.dat (.str p3)]∧s.t 4 = .v false [.dat (.int .i64 p4)]∧s.t 5 = .v false [.bp 5 1 0]∧s.t 6 = .v false [.bp 6 1 0]∧s.t 12 = .v false [.bp 12 1 0]∧s.t 13 = .v false [.dat (.bool x12.2)]∧s.t 16 = .v false [.bp 16 1 0]∧s.t 19 = .v false [.dat (.int .i64 x140.2.2.2.2.2.2)]∧s.h 5=(1,.box 61 [.dat (.int .i64 p0.Now),.dat (.bool p0.Online),.dat (.int .i64 p0.Device),.old base (.sl (List.map M.aA.en p0.aF.Buckets)) none,.old base (.sl (List.map M.bJ.en p0.Pages)) none,.dat (.int .i64 p0.NextPage),.old base (.sl (List.map M.cT.en p0.Locks.Locks)) none,.old base (.sl (List.map M.eO.en p0.Channel.Mails)) none,.old base (.sl (List.map M.Site.en p0.Sites)) none,.old base (.sl (List.map M.Server.en p0.Servers)) none])∧s.h 6=(1,.box 73 [.dat (.int .i64 p1.Id),.dat (.str p1.Site),.dat (.str p1.Top),.dat (.int .i64 p1.Version),.old base (.sl (List.map M.aM.en p1.aM)) none,.old base (.sl (List.map M.Instr.en p1.Machine.Script)) none,.dat (.int .i64 p1.Machine.Pc),.old base (.sl (List.map enI p1.Machine.Regs)) none,.dat (.int .i64 p1.Machine.Steps),.dat (.bool p1.Machine.Done),.dat (.bool p1.Machine.Wait)])∧s.h 12=(1,.box 37 [.dat (.int .i64 x12.1.Now),.dat (.bool x12.1.Online),.dat (.int .i64 x12.1.Device),.row 400044 1,.row 500044 1,.dat (.int .i64 x12.1.NextPage),.row 700044 1,.row 800044 1,.row 900044 1,.row 1000044 1])∧s.h 16=(1,.box 37 [.dat (.int .i64 x18.1.Now),.dat (.bool x18.1.Online),.dat (.int .i64 x18.1.Device),.row 400057 1,.row 500057 1,.dat (.int .i64 x18.1.NextPage),.row 700057 1,.row 800057 1,.row 900057 1,.row 1000057 1])∧s.h 400044=(1,.row 124 24 (List.map M.aA.en x12.1.aF.Buckets) true)∧s.h 400057=(1,.row 124 24 (List.map M.aA.en x140.1) true)∧s.h 500044=(1,.row 80 11 (List.map M.bJ.en x12.1.Pages) true)∧s.h 500057=(1,.row 80 11 (List.map M.bJ.en x140.2.1) true)∧s.h 700044=(1,.row 144 4 (List.map M.cT.en x12.1.Locks.Locks) true)∧s.h 700057=(1,.row 144 4 (List.map M.cT.en x140.2.2.1) true)∧s.h 800044=(1,.row 232 3 (List.map M.eO.en x12.1.Channel.Mails) true)∧s.h 800057=(1,.row 232 3 (List.map M.eO.en x140.2.2.2.1) true)∧s.h 900044=(1,.row 95 4 (List.map M.Site.en x12.1.Sites) true)∧s.h 900057=(1,.row 95 4 (List.map M.Site.en x140.2.2.2.2.1) true)∧s.h 1000044=(1,.row 102 5 (List.map M.Server.en x12.1.Servers) true)∧s.h 1000057=(1,.row 102 5 (List.map M.Server.en x140.2.2.2.2.2.1) true)∧True) ?_
 rintro s142 ⟨f143,f144,f145,f146,f147,f148,f149,f150,f151,f152,f153,f154,f155,f156,f157,f158,f159,f160,f161,f162,f163,f164,f165,f166,f167,_⟩
 refine ln ?_
 refine an (sq ?_)
 obtain ⟨x168,h169,h⟩:=bind_some h
 refine ln1 (c20 _ _ _ h169) ?_
 refine an (sq (sq (ln ?_)))
 refine an ?_
 rcases bO (decide (x168<0)) with b170 | b170
 ·replace h:=bB b170 h
  refine lct (sq (ln ?_))
  refine an (rt ?_)
  cases h
  simp [Ret,TB,EN, *]
 replace h:=bA b170 h
 refine lcf (sk (an (sq (sq (ln ?_)))))
 refine an ?_
 rcases bO (x168 != x140.2.2.2.2.2.2) with b171 | b171
 ·replace h:=bB b171 h
  refine lct (sq (ln ?_))
  refine an (rt ?_)
  cases h
  simp [Ret,TB,EN, *]
 replace h:=bA b171 h
 refine lcf (sk (an (sq ?_)))
 obtain ⟨x172,h173,h⟩:=bind_some h
 obtain ⟨x174,h175,h⟩:=bind_some h
 obtain ⟨x176,h177,h⟩:=bind_some h
 apply aBC mixed
 ·simp +decide only [LX,E,reduceIte,Nat.reduceAdd,Nat.reduceMul,Bool.not_true,Bool.not_false,L,aNA,aNB,aM8,EN,b1,b4,b7,b22,b23,b67,b72,b136,b139,f143,f144,f145,f146,f147,f148,f149,f150,f151,f152,f153,f154,f155,f156,f157,f158,f159,f160,f161,f162,f163,f164,f165,f166,f167,b170,b171]
  refine ⟨_,c17 _ _ h173,?_⟩
  try simp +decide only [LX,E,reduceIte,Nat.reduceAdd,Nat.reduceMul,Bool.not_true,Bool.not_false,L,aNA,aNB,aM8,EN,b1,b4,b7,b22,b23,b67,b72,b136,b139,f143,f144,f145,f146,f147,f148,f149,f150,f151,f152,f153,f154,f155,f156,f157,f158,f159,f160,f161,f162,f163,f164,f165,f166,f167,b170,b171]
  refine ⟨_,c23 _ _ h175,?_⟩
  try simp +decide only [LX,E,reduceIte,Nat.reduceAdd,Nat.reduceMul,Bool.not_true,Bool.not_false,L,aNA,aNB,aM8,EN,b1,b4,b7,b22,b23,b67,b72,b136,b139,f143,f144,f145,f146,f147,f148,f149,f150,f151,f152,f153,f154,f155,f156,f157,f158,f159,f160,f161,f162,f163,f164,f165,f166,f167,b170,b171]
  refine ⟨_,c24 _ _ _ _ _ _ h177,?_⟩
  try simp +decide only [LX,E,reduceIte,Nat.reduceAdd,Nat.reduceMul,Bool.not_true,Bool.not_false,L,aNA,aNB,aM8,EN,b1,b4,b7,b22,b23,b67,b72,b136,b139,f143,f144,f145,f146,f147,f148,f149,f150,f151,f152,f153,f154,f155,f156,f157,f158,f159,f160,f161,f162,f163,f164,f165,f166,f167,b170,b171]
  exact ⟨.mk (by decide +kernel),Is.mk _⟩
 refine an (sq (sq ?_))
 obtain ⟨x178,h179,h⟩:=bind_some h
 rcases bO (!x178) with b180 | b180
 ·replace h:=bB b180 h
  refine ln1 (c18 _ _ _ h179) ?_
  refine an (lct (sq (ln ?_)))
  refine an (rt ?_)
  cases h
  simp [Ret,TB,EN, *]
 replace h:=bA b180 h
 refine ln1 (c18 _ _ _ h179) ?_
 refine an ?_
 rcases bO (!(x176.2==x12.2)) with b181 | b181
 ·replace h:=bB b181 h
  refine lct (sq (ln ?_))
  refine an (rt ?_)
  cases h
  simp [Ret,TB,EN, *]
 replace h:=bA b181 h
 refine lcf (sk (an (sq (ln ?_))))
 refine an (sq ?_)
 obtain ⟨x182,h183,h⟩:=bind_some h
 refine ln1 (c20 _ _ _ h183) ?_
 refine an (sq (sq (ln ?_)))
 refine an ?_
 rcases bO (decide (x182<0)) with b184 | b184
 ·replace h:=bB b184 h
  refine lct (sq (ln ?_))
  refine an (rt ?_)
  cases h
  simp [Ret,TB,EN, *]
 replace h:=bA b184 h
 refine lcf (sk (an (sq (sq (ln ?_)))))
 refine an ?_
 rcases bO (x182 != x140.2.2.2.2.2.2) with b185 | b185
 ·replace h:=bB b185 h
  refine lct (sq (ln ?_))
  refine an (rt ?_)
  cases h
  simp [Ret,TB,EN, *]
 replace h:=bA b185 h
 refine lcf (sk (an (sq (ln ?_))))
 refine an (rt ?_)
 cases h
 simp [Ret,TB,EN, *]
end Go.Proofs.YtnhpbpnhmapeeaaGreat.gen
