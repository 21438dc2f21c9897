/-
  Helper text. No conditions.
-/
import Derived.Test.YtblghjofnielnaaGreatSharedLocksTi
import Derived.Test.YtblghjofnielnaaGreatSharedLocksWimpl0
import Derived.Test.YtblghjofnielnaaGreatSharedLocksWimpl2
namespace Go.Proofs.YtblghjofnielnaaGreat.gen
open Go Go.Sh
set_option linter.unusedVariables false
set_option linter.unusedSimpArgs false
set_option maxRecDepth 20000
set_option maxHeartbeats 4000000
theorem aGE (p0:List M.iR) (p1:M.iR→Option Bool) (f1_:FuncId) (k1_:List D) (hp1 : ∀z0 r,p1 z0=some r→dS Tryz.prog f1_ ((true,M.iR.en z0) ::  k1_.map fun c=>(false,[c])) [(false,[.ro (.bool r)])]) (r:(List M.iR)) (h:gL p0 p1=some r):dS Tryz.prog 222 [(false,[.sl (List.map M.iR.en p0)]),(false,[.fn f1_ k1_])] [(false,[.edit (.dV 202 3 (List.map M.iR.en r))])]:=by
 unfold gL at h
 refine aBd (N:=42) (vars:=[.tmp 4]) Tryz.func222 rfl rfl rfl (by decide +kernel) (by decide) (M.iR.en.fl _) (M.iR.en.fl _) (fun y hy=>by obtain ⟨x,_,rfl⟩:=List.mem_map.1 hy;rfl) fun base wd => ?_
 refine sq ?_
 apply bC
 ·simp +decide only [LQ,E,reduceIte,Nat.reduceAdd,Nat.reduceMul,Bool.not_true,Bool.not_false,L,EN]
  exact Is.mk _
 refine an (sq ?_)
 obtain ⟨x1,h2,h⟩:=bind_some h
 apply bC
 ·simp +decide only [LQ,E,reduceIte,Nat.reduceAdd,Nat.reduceMul,Bool.not_true,Bool.not_false,L,EN]
  refine ⟨_,aD8 p0 p1 f1_ k1_ hp1 x1 h2,?_⟩
  try simp +decide only [LQ,E,reduceIte,Nat.reduceAdd,Nat.reduceMul,Bool.not_true,Bool.not_false,L,EN]
  exact Is.mk _
 refine an (sq (sq ?_))
 apply bC
 ·simp +decide only [LQ,E,reduceIte,Nat.reduceAdd,Nat.reduceMul,Bool.not_true,Bool.not_false,L,EN]
  exact Is.mk _
 refine an ?_
 rcases cF (x1==(-1)) with b3 | b3
 ·replace h:=aT b3 h
  refine xL (by simp +decide only [LQ,F,reduceIte,Nat.reduceAdd,Bool.not_true,Bool.not_false,b3]) ?_
  refine sq ?_
  apply bC
  ·simp +decide only [LQ,E,reduceIte,Nat.reduceAdd,Nat.reduceMul,Bool.not_true,Bool.not_false,L,EN,b3]
   exact Is.mk _
  refine an (rt ?_)
  cases h
  exact ⟨1,List.map M.iR.en p0,true,(by simp +decide only [LQ,F,reduceIte,Nat.reduceAdd,Bool.not_true,Bool.not_false,M.iR.en,b3]),.inl ⟨(by simp +decide [nV,LQ,b3]),rfl⟩⟩
 replace h:=aR b3 h
 refine yX (by simp +decide only [LQ,F,reduceIte,Nat.reduceAdd,Bool.not_true,Bool.not_false,b3]) ?_
 refine sk (an (sq (sq ?_)))
 apply bC
 ·simp +decide only [LQ,E,reduceIte,Nat.reduceAdd,Nat.reduceMul,Bool.not_true,Bool.not_false,L,EN,b3]
  exact Is.mk _
 refine an (bk ?_)
 refine dH (fun m s=>∃v5:Int,∃v6:Int,∃r59000:List M.iR,s.t 0 = .v false [.row 7059000 1]∧s.t 1 = .v false [.dat (.fn f1_ k1_)]∧s.t 5 = .v false [.dat (.int .i64 v5)]∧s.t 6 = .v false [.dat (.int .i64 v6)]∧s.h 7059000=(1,.row 202 3 (List.map M.iR.en r59000) true)∧bH p1 m v5 v6 r59000=some r) fuel ?_ ?_
 ·refine ⟨x1,(IntKind.i64.wrap (x1+1)),p0,?_,?_,?_,?_,?_,h⟩
  all_goals simp +decide only [LQ,F,reduceIte,Nat.reduceAdd,Bool.not_true,Bool.not_false,M.iR.en,b3]
 rintro mL1 s4 ⟨v5,v6,r59000,f5,f6,f7,f8,f9,h⟩
 rcases mL1 with _ | mL1
 ·exact absurd h (by simp [bH])
 simp only [bH] at h
 refine sq (sq ?_)
 apply bC
 ·simp +decide only [LQ,E,reduceIte,Nat.reduceAdd,Nat.reduceMul,Bool.not_true,Bool.not_false,L,aBg,EN,b3,f5,f6,f7,f8,f9]
  exact Is.mk _
 refine an ?_
 rcases nX (decide (v6<(List.length r59000:Int))) with b10 | b10
 ·replace h:=aR b10 h
  refine yX (by simp +decide only [LQ,F,reduceIte,Nat.reduceAdd,Bool.not_true,Bool.not_false,b3,f5,f6,f7,f8,f9,b10]) ?_
  refine xt (eA (eX (kB (an (sq ?_)))))
  obtain ⟨x30,h31,h⟩:=bind_some h
  apply bC
  ·simp +decide only [LQ,E,reduceIte,Nat.reduceAdd,Nat.reduceMul,Bool.not_true,Bool.not_false,←List.map_take,←List.map_drop,L,aBg,vM,M.iR.en,EN,b3,f5,f6,f7,f8,f9,b10]
   refine ⟨by first | exact rO h31 | exact (rO h31).2 | exact (rO h31).2.2,?_⟩
   try simp +decide only [LQ,E,reduceIte,Nat.reduceAdd,Nat.reduceMul,Bool.not_true,Bool.not_false,←List.map_take,←List.map_drop,L,aBg,vM,M.iR.en,EN,b3,f5,f6,f7,f8,f9,b10]
   refine ⟨by first | exact sD h31 | exact (sD h31).2 | exact (sD h31).2.2 | (have hb:=sD h31;simpa using hb),?_⟩
   try simp +decide only [LQ,E,reduceIte,Nat.reduceAdd,Nat.reduceMul,Bool.not_true,Bool.not_false,←List.map_take,←List.map_drop,L,aBg,vM,M.iR.en,EN,b3,f5,f6,f7,f8,f9,b10]
   exact Is.mk _
  refine an (sq ?_)
  apply bC
  ·simp +decide only [LQ,E,reduceIte,Nat.reduceAdd,Nat.reduceMul,Bool.not_true,Bool.not_false,←List.map_take,←List.map_drop,L,aBg,vM,M.iR.en,EN,b3,f5,f6,f7,f8,f9,b10]
   refine ⟨by first | exact sZ (f:=M.iR.en) h31 | exact (sZ (f:=M.iR.en) h31).2 | exact (sZ (f:=M.iR.en) h31).2.2 | (have hb:=sZ (f:=M.iR.en) h31;simpa using hb),?_⟩
   try simp +decide only [LQ,E,reduceIte,Nat.reduceAdd,Nat.reduceMul,Bool.not_true,Bool.not_false,←List.map_take,←List.map_drop,L,aBg,vM,M.iR.en,EN,b3,f5,f6,f7,f8,f9,b10]
   exact Is.mk _
  refine an (rt ?_)
  cases h
  have hb:=sZ (f:=M.iR.en) (r:=[.opq,.opq,.opq]) h31
  exact ⟨1,List.map M.iR.en (List.take v5.toNat r59000)++List.replicate (List.length r59000-v5.toNat) [.opq,.opq,.opq],true,(by simp +decide only [LQ,F,reduceIte,Nat.reduceAdd,Bool.not_true,Bool.not_false,b3,f5,f6,f7,f8,f9,b10]),.inr ⟨v5.toNat,(by simp +decide [nV,LQ,b3,f5,f6,f7,f8,f9,b10]),hb.2,aAS h31⟩⟩
 replace h:=aT b10 h
 refine xL (by simp +decide only [LQ,F,reduceIte,Nat.reduceAdd,Bool.not_true,Bool.not_false,b3,f5,f6,f7,f8,f9,b10]) ?_
 refine sk (an (sq (bk (sq ?_))))
 obtain ⟨x11,h12,h⟩:=bind_some h
 obtain ⟨q13,q14,q15⟩:=bK h12
 apply bC
 ·simp +decide only [LQ,E,reduceIte,Nat.reduceAdd,Nat.reduceMul,Bool.not_true,Bool.not_false,L,aBg,vM,M.iR.en,EN,b3,f5,f6,f7,f8,f9,b10,q13,q14,q15]
  exact Is.mk _
 refine an (sq ?_)
 obtain ⟨x16,h17,h⟩:=bind_some h
 apply bC
 ·simp +decide only [LQ,E,reduceIte,Nat.reduceAdd,Nat.reduceMul,Bool.not_true,Bool.not_false,L,vM,EN,b3,f5,f6,f7,f8,f9,b10,q13,q14,q15]
  refine ⟨_,hp1 x11 x16 h17,?_⟩
  try simp +decide only [LQ,E,reduceIte,Nat.reduceAdd,Nat.reduceMul,Bool.not_true,Bool.not_false,L,vM,EN,b3,f5,f6,f7,f8,f9,b10,q13,q14,q15]
  exact Is.mk _
 refine an ?_
 rcases nX (!x16) with b18 | b18
 ·replace h:=aR b18 h
  refine yX (by simp +decide only [LQ,F,reduceIte,Nat.reduceAdd,Bool.not_true,Bool.not_false,b3,f5,f6,f7,f8,f9,b10,q13,q14,q15,b18]) ?_
  refine sk (ab (an ?_))
  apply bC
  ·simp +decide only [LQ,E,reduceIte,Nat.reduceAdd,Nat.reduceMul,Bool.not_true,Bool.not_false,L,EN,b3,f5,f6,f7,f8,f9,b10,q13,q14,q15,b18]
   exact Is.mk _
  refine cN ⟨mL1,by omega,v5,(IntKind.i64.wrap (v6+1)),r59000,?_,?_,?_,?_,?_,h⟩
  all_goals simp +decide only [LQ,F,reduceIte,Nat.reduceAdd,Bool.not_true,Bool.not_false,M.iR.en,b3,f5,f6,f7,f8,f9,b10,q13,q14,q15,b18]
 replace h:=aT b18 h
 refine xL (by simp +decide only [LQ,F,reduceIte,Nat.reduceAdd,Bool.not_true,Bool.not_false,b3,f5,f6,f7,f8,f9,b10,q13,q14,q15,b18]) ?_
 refine sq ?_
 obtain ⟨x19,h20,h⟩:=bind_some h
 obtain ⟨q21,q22,q23⟩:=bK h20
 apply bC
 ·simp +decide only [LQ,E,reduceIte,Nat.reduceAdd,Nat.reduceMul,Bool.not_true,Bool.not_false,L,aBg,vM,M.iR.en,EN,b3,f5,f6,f7,f8,f9,b10,q13,q14,q15,b18,q21,q22,q23]
  exact Is.mk _
 refine an ?_
 refine aAX (J:=fun s=>s.t 0 = .v false [.row 7059000 1]∧s.t 1 = .v false [.dat (.fn f1_ k1_)]∧s.t 5 = .v false [.dat (.int .i64 v5)]∧s.t 6 = .v false [.dat (.int .i64 v6)]∧s.h 7059000=(1,.row 202 3 (List.map M.iR.en (List.set r59000 v5.toNat x11)) true)∧True) ?_ ?_
 ·refine ⟨?_,?_,?_,?_,?_,trivial⟩<;>(try simp +decide only [LQ,F,reduceIte,Nat.reduceAdd,Bool.not_true,Bool.not_false,M.iR.en,b3,f5,f6,f7,f8,f9,b10,q13,q14,q15,b18,q21,q22,q23])
 rintro s24 ⟨f25,f26,f27,f28,f29,_⟩
 apply bC
 ·simp +decide only [LQ,E,reduceIte,Nat.reduceAdd,Nat.reduceMul,Bool.not_true,Bool.not_false,L,EN,b3,b10,q13,q14,q15,b18,q21,q22,q23,f25,f26,f27,f28,f29]
  exact Is.mk _
 refine ab (an ?_)
 apply bC
 ·simp +decide only [LQ,E,reduceIte,Nat.reduceAdd,Nat.reduceMul,Bool.not_true,Bool.not_false,L,EN,b3,b10,q13,q14,q15,b18,q21,q22,q23,f25,f26,f27,f28,f29]
  exact Is.mk _
 refine cN ⟨mL1,by omega,(IntKind.i64.wrap (v5+1)),(IntKind.i64.wrap (v6+1)),(List.set r59000 v5.toNat x11),?_,?_,?_,?_,?_,h⟩
 all_goals simp +decide only [LQ,F,reduceIte,Nat.reduceAdd,Bool.not_true,Bool.not_false,M.iR.en,b3,b10,q13,q14,q15,b18,q21,q22,q23,f25,f26,f27,f28,f29]
theorem c75 (p0 p1 r) (h:oJ p0 p1=some r):Sc 75 [aX (M.Channel.en p0),aI p1] [(true,M.Channel.rs r)]:=by
 unfold oJ at h
 simp only [EN]
 refine sgn 14 [.cell 4 33] Tryz.func75 fun base wd => ?_
 refine sq (rn ?_)
 refine an (sq ?_)
 obtain ⟨x1,h2,h⟩:=bind_some h
 refine rn1 (aDt _ _ h2) ?_
 refine an (sq ?_)
 obtain ⟨x3,h4,h⟩:=bind_some h
 refine rn1 (aGE x1.Mails (fun z0=>iD z0 p1) 223 [.ptr [.int .i64 p1]] (fun z0 r hr=>aDb z0 p1 r hr) x3 h4) ?_
 refine an (sq (rn ?_))
 refine an (rt ?_)
 cases h
 simp [Ret,TB,EN, *]
instance:aZ 75 (type_of% @c75):=⟨@c75⟩
theorem c14 (p0 p1 r) (h:oG p0 p1=some r):Sc 14 [aX (M.World.en p0),aI p1] [(true,M.World.rs r.1),rB r.2]:=by
 unfold oG at h
 simp only [EN]
 refine sgn 43 [.cell 4 37,.tmp 5] Tryz.func14 fun base wd => ?_
 refine sq (rn ?_)
 refine an (sq ?_)
 obtain ⟨x1,h2,h⟩:=bind_some h
 refine rn1 (c71 _ _ h2) ?_
 refine an (sq ?_)
 obtain ⟨x3,h4,h⟩:=bind_some h
 refine rn1 (c41 _ _ _ h4) ?_
 refine an (sq (sq ?_))
 obtain ⟨x5,h6,h⟩:=bind_some h
 rcases cF (!x5) with b7 | b7
 ·replace h:=aT b7 h
  refine rn1 (c39 _ _ h6) ?_
  refine an (ct (sq (rn ?_)))
  refine an (rt ?_)
  cases h
  simp [Ret,TB,EN, *]
 replace h:=aR b7 h
 refine rn1 (c39 _ _ h6) ?_
 refine an ?_
 rcases cF (decide (x3<0)) with b8 | b8
 ·replace h:=aT b8 h
  refine ct (sq (rn ?_))
  refine an (rt ?_)
  cases h
  simp [Ret,TB,EN, *]
 replace h:=aR b8 h
 refine cf (sk (an (sq ?_)))
 obtain ⟨x9,h10,h⟩:=bind_some h
 obtain ⟨x11,h12,h⟩:=bind_some h
 obtain ⟨x13,h14,h⟩:=bind_some h
 apply uF mixed
 ·simp +decide only [E,reduceIte,Nat.reduceAdd,Nat.reduceMul,Bool.not_true,Bool.not_false,←List.map_take,←List.map_drop,Nat.sub_zero,L,aCn,aCl,aAt,M.dG.en,EN,b7,b8]
  refine ⟨by first | exact dD h10 | exact (dD h10).2 | exact (dD h10).2.2,?_⟩
  try simp +decide only [E,reduceIte,Nat.reduceAdd,Nat.reduceMul,Bool.not_true,Bool.not_false,←List.map_take,←List.map_drop,Nat.sub_zero,L,aCn,aCl,aAt,M.dG.en,EN,b7,b8]
  refine ⟨by first | exact rO h12 | exact (rO h12).2 | exact (rO h12).2.2,?_⟩
  try simp +decide only [E,reduceIte,Nat.reduceAdd,Nat.reduceMul,Bool.not_true,Bool.not_false,←List.map_take,←List.map_drop,Nat.sub_zero,L,aCn,aCl,aAt,M.dG.en,EN,b7,b8]
  refine ⟨by first | exact yT (f:=M.dG.en) (sz:=11) (fun _=>rfl) (by decide) h10 h12 h14 | (have hb:=yT (f:=M.dG.en) (sz:=11) (fun _=>rfl) (by decide) h10 h12 h14;simpa using hb),?_⟩
  try simp +decide only [E,reduceIte,Nat.reduceAdd,Nat.reduceMul,Bool.not_true,Bool.not_false,←List.map_take,←List.map_drop,Nat.sub_zero,L,aCn,aCl,aAt,M.dG.en,EN,b7,b8]
  exact ⟨.mk (by decide +kernel),Is.mk _⟩
 refine an (sq ?_)
 refine cu (fun s=>s.t 1=vI p1∧s.t 4=vP 4 1 0∧s.t 6=vP 6 1 0∧s.h 4=(1,oB 37 [cI 0,cB false,cI 0,.nil,.nil,cI 0,.nil,.nil,.nil,.nil])∧s.h 6=(1,oB 37 [cI x1.Now,cB x1.Online,cI x1.Device,.row 400009 1,.row 500009 2,cI x1.NextPage,.row 700009 1,.row 800009 1,.row 900009 1,.row 1000009 1])∧s.h 400009=(1,oW 70 24 M.aJ.en x1.aF.Buckets)∧s.h 500009=(2,oW 140 11 M.dG.en ((List.take x3.toNat x1.Pages)++(List.drop (IntKind.i64.wrap (x3+1)).toNat x1.Pages)))∧s.h 700009=(1,oW 153 4 M.cA.en x1.Locks.Locks)∧s.h 800009=(1,oW 202 3 M.iR.en x1.Channel.Mails)∧s.h 900009=(1,oW 102 4 M.Site.en x1.Sites)∧s.h 1000009=(1,oW 131 5 M.Server.en x1.Servers)∧True) ?_
 rintro s15 ⟨f16,f17,f18,f19,f20,f21,f22,f23,f24,f25,f26,_⟩
 obtain ⟨x27,h28,h⟩:=bind_some h
 refine rn1 (c74 _ _ _ h28) ?_
 refine an (sq ?_)
 obtain ⟨x29,h30,h⟩:=bind_some h
 refine rn1 (c75 _ _ _ h30) ?_
 refine an (sq (rn ?_))
 refine an (rt ?_)
 cases h
 simp [Ret,TB,EN, *]
instance:aZ 14 (type_of% @c14):=⟨@c14⟩
end Go.Proofs.YtblghjofnielnaaGreat.gen
