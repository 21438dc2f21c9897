/-
  Helper text. No conditions.
-/
import Derived.Test.YtblghjofnielnaaGreatSharedLocksTi
import Derived.Test.YtblghjofnielnaaGreatSharedLocksWimpl2
import Derived.Test.YtblghjofnielnaaGreatSharedLocksWimpl3
import Derived.Test.YtblghjofnielnaaGreatSharedLocksWmark
import Derived.Test.YtblghjofnielnaaGreatSharedLocksWspec0
import Derived.Test.YtblghjofnielnaaGreatSharedLocksWspec2
namespace Go.Proofs.YtblghjofnielnaaGreat.gen
open Go Go.Sh
set_option linter.unusedVariables false
set_option linter.unusedSimpArgs false
set_option maxRecDepth 20000
set_option maxHeartbeats 4000000
theorem jZ (p0 r) (h:dO p0=some r):Sc 3 [aL enB p0] [rB r]:=by
 unfold dO at h
 simp only [EN]
 refine sgn 118 [.tmp 2] Tryz.func3 fun base wd => ?_
 refine sq (rn ?_)
 refine an (sq (sq ?_))
 obtain ⟨x1,h2,h⟩:=bind_some h
 refine rn1 (c9 _ _ h2) ?_
 refine an ?_
 rcases cF x1 with b3 | b3
 ·replace h:=aT b3 h
  refine ct (sq (rn ?_))
  refine an (rt ?_)
  cases h
  simp [Ret,TB,EN, *]
 replace h:=aR b3 h
 refine cf (sk (an (sq ?_)))
 obtain ⟨x4,h5,h⟩:=bind_some h
 refine rn1 (c10 _ _ h5) ?_
 refine an (sq ?_)
 obtain ⟨x6,h7,h⟩:=bind_some h
 refine rn1 (c11 _ _ _ _ _ h7) ?_
 refine an (sq ?_)
 refine cu (fun s=>s.t 0=vL enB p0∧s.t 3=vP 3 1 0∧s.t 4=vI x6.2.1∧s.h 3=(1,oB 37 [cI x6.1.Now,cB x6.1.Online,cI x6.1.Device,.row 400024 1,.row 500024 1,cI x6.1.NextPage,.row 700024 1,.row 800024 1,.row 900024 1,.row 1000024 1])∧s.h 400024=(1,oW 70 24 M.aJ.en x6.1.aF.Buckets)∧s.h 500024=(1,oW 140 11 M.dG.en x6.1.Pages)∧s.h 700024=(1,oW 153 4 M.cA.en x6.1.Locks.Locks)∧s.h 800024=(1,oW 202 3 M.iR.en x6.1.Channel.Mails)∧s.h 900024=(1,oW 102 4 M.Site.en x6.1.Sites)∧s.h 1000024=(1,oW 131 5 M.Server.en x6.1.Servers)∧True) ?_
 rintro s8 ⟨f9,f10,f11,f12,f13,f14,f15,f16,f17,f18,_⟩
 obtain ⟨x19,h20,h⟩:=bind_some h
 refine rn1 (c11 _ _ _ _ _ h20) ?_
 refine an (sq ?_)
 refine cu (fun s=>s.t 0=vL enB p0∧s.t 3=vP 3 1 0∧s.t 4=vI x6.2.1∧s.t 6=vI x19.2.1∧s.h 3=(1,oB 37 [cI x19.1.Now,cB x19.1.Online,cI x19.1.Device,.row 400031 ((s8.h 400031).1+1),.row 500031 ((s8.h 500031).1+1),cI x19.1.NextPage,.row 700031 ((s8.h 700031).1+1),.row 800031 ((s8.h 800031).1+1),.row 900031 ((s8.h 900031).1+1),.row 1000031 ((s8.h 1000031).1+1)])∧s.h 400031=(((s8.h 400031).1+1),oW 70 24 M.aJ.en x19.1.aF.Buckets)∧s.h 500031=(((s8.h 500031).1+1),oW 140 11 M.dG.en x19.1.Pages)∧s.h 700031=(((s8.h 700031).1+1),oW 153 4 M.cA.en x19.1.Locks.Locks)∧s.h 800031=(((s8.h 800031).1+1),oW 202 3 M.iR.en x19.1.Channel.Mails)∧s.h 900031=(((s8.h 900031).1+1),oW 102 4 M.Site.en x19.1.Sites)∧s.h 1000031=(((s8.h 1000031).1+1),oW 131 5 M.Server.en x19.1.Servers)∧True) ?_
 rintro s21 ⟨f22,f23,f24,f25,f26,f27,f28,f29,f30,f31,f32,_⟩
 obtain ⟨x33,h34,h⟩:=bind_some h
 obtain ⟨x35,h36,h⟩:=bind_some h
 obtain ⟨q37,q38,q39⟩:=bK h36
 have q37m:=congrArg (Option.map enS) (show ([(⟨#[110,101,119,115]⟩:ByteArray),(⟨#[98,97,110,107]⟩:ByteArray)])[(Int.tmod x33 2).toNat]? = some x35 by assumption)
 simp only [←List.getElem?_map,List.map_cons,List.map_nil,Option.map_some,EN] at q37m
 simp only [List.length_cons,List.length_nil,Nat.reduceAdd] at q39
 obtain ⟨x40,h41,h⟩:=bind_some h
 refine rd2 mixed (c12 _ _ _ h34) (c11 _ _ _ _ _ h41) ?_
 refine an (sq ?_)
 refine cu (fun s=>s.t 0=vL enB p0∧s.t 3=vP 3 1 0∧s.t 4=vI x6.2.1∧s.t 6=vI x19.2.1∧s.t 8=vI x40.2.1∧s.t 9=vB x40.2.2∧s.h 3=(1,oB 37 [cI x40.1.Now,cB x40.1.Online,cI x40.1.Device,.row 400044 ((s21.h 400044).1+1),.row 500044 ((s21.h 500044).1+1),cI x40.1.NextPage,.row 700044 ((s21.h 700044).1+1),.row 800044 ((s21.h 800044).1+1),.row 900044 ((s21.h 900044).1+1),.row 1000044 ((s21.h 1000044).1+1)])∧s.h 400044=(((s21.h 400044).1+1),oW 70 24 M.aJ.en x40.1.aF.Buckets)∧s.h 500044=(((s21.h 500044).1+1),oW 140 11 M.dG.en x40.1.Pages)∧s.h 700044=(((s21.h 700044).1+1),oW 153 4 M.cA.en x40.1.Locks.Locks)∧s.h 800044=(((s21.h 800044).1+1),oW 202 3 M.iR.en x40.1.Channel.Mails)∧s.h 900044=(((s21.h 900044).1+1),oW 102 4 M.Site.en x40.1.Sites)∧s.h 1000044=(((s21.h 1000044).1+1),oW 131 5 M.Server.en x40.1.Servers)∧True) ?_
 rintro s42 ⟨f43,f44,f45,f46,f47,f48,f49,f50,f51,f52,f53,f54,f55,_⟩
 obtain ⟨x56,h57,h⟩:=bind_some h
 obtain ⟨x58,h59,h⟩:=bind_some h
 refine rd2 mixed (c12 _ _ _ h57) (c13 _ _ _ _ _ h59) ?_
 refine an (sq ?_)
 obtain ⟨x60,h61,h⟩:=bind_some h
 obtain ⟨x62,h63,h⟩:=bind_some h
 refine rd2 mixed (c12 _ _ _ h61) (c13 _ _ _ _ _ h63) ?_
 refine an (sq ?_)
 obtain ⟨x64,h65,h⟩:=bind_some h
 obtain ⟨x66,h67,h⟩:=bind_some h
 refine rd2 mixed (c12 _ _ _ h65) (c13 _ _ _ _ _ h67) ?_
 refine an (sq ?_)
 obtain ⟨x68,h69,h⟩:=bind_some h
 refine rn1 (c14 _ _ _ h69) ?_
 refine an (sq ?_)
 rcases nX x40.2.2 with b70 | b70
 ·replace h:=aR b70 h
  refine rn ?_
  refine an (rt ?_)
  cases h
  simp [Ret,TB,EN, *]
 replace h:=aT b70 h
 rcases nX x58.2 with b71 | b71
 ·replace h:=aR b71 h
  refine rn ?_
  refine an (rt ?_)
  cases h
  simp [Ret,TB,EN, *]
 replace h:=aT b71 h
 obtain ⟨x72,h73,h⟩:=bind_some h
 rcases nX ((Int.tmod x72 2)==0) with b74 | b74
 ·replace h:=aR b74 h
  rcases nX (x62.2==false) with b84 | b84
  ·replace h:=aR b84 h
   refine rn1 (c12 _ _ _ h73) ?_
   refine an (rt ?_)
   cases h
   simp [Ret,TB,EN, *]
  replace h:=aT b84 h
  rcases nX x66.2 with b85 | b85
  ·replace h:=aR b85 h
   refine rn1 (c12 _ _ _ h73) ?_
   refine an (rt ?_)
   cases h
   simp [Ret,TB,EN, *]
  replace h:=aT b85 h
  obtain ⟨x86,h87,h⟩:=bind_some h
  rcases nX x86 with b88 | b88
  ·replace h:=aR b88 h
   refine rn2 (c12 _ _ _ h73) (c15 _ _ _ _ h87) ?_
   refine an (rt ?_)
   cases h
   simp [Ret,TB,EN, *]
  replace h:=aT b88 h
  obtain ⟨x89,h90,h⟩:=bind_some h
  refine rn3 (c12 _ _ _ h73) (c15 _ _ _ _ h87) (c15 _ _ _ _ h90) ?_
  refine an (rt ?_)
  cases h
  simp [Ret,TB,EN, *]
 replace h:=aT b74 h
 obtain ⟨x75,h76,h⟩:=bind_some h
 rcases nX (x62.2==((Int.tmod x75 2)==0)) with b77 | b77
 ·replace h:=aR b77 h
  refine rn2 (c12 _ _ _ h73) (c12 _ _ _ h76) ?_
  refine an (rt ?_)
  cases h
  simp [Ret,TB,EN, *]
 replace h:=aT b77 h
 rcases nX x66.2 with b78 | b78
 ·replace h:=aR b78 h
  refine rn2 (c12 _ _ _ h73) (c12 _ _ _ h76) ?_
  refine an (rt ?_)
  cases h
  simp [Ret,TB,EN, *]
 replace h:=aT b78 h
 obtain ⟨x79,h80,h⟩:=bind_some h
 rcases nX x79 with b81 | b81
 ·replace h:=aR b81 h
  refine rn3 (c12 _ _ _ h73) (c12 _ _ _ h76) (c15 _ _ _ _ h80) ?_
  refine an (rt ?_)
  cases h
  simp [Ret,TB,EN, *]
 replace h:=aT b81 h
 obtain ⟨x82,h83,h⟩:=bind_some h
 refine rn4 (c12 _ _ _ h73) (c12 _ _ _ h76) (c15 _ _ _ _ h80) (c15 _ _ _ _ h83) ?_
 refine an (rt ?_)
 cases h
 simp [Ret,TB,EN, *]
instance:aZ 3 (type_of% @jZ):=⟨@jZ⟩
end Go.Proofs.YtblghjofnielnaaGreat.gen
