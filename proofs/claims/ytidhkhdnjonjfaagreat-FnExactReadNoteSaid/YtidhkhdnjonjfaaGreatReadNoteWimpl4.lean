/-
  Helper text. No conditions.
-/
import Derived.Test.YtidhkhdnjonjfaaGreatReadNoteTi
import Derived.Test.YtidhkhdnjonjfaaGreatReadNoteWimpl0
import Derived.Test.YtidhkhdnjonjfaaGreatReadNoteWimpl1
import Derived.Test.YtidhkhdnjonjfaaGreatReadNoteWimpl3
import Derived.Test.YtidhkhdnjonjfaaGreatReadNoteWlib
set_option linter.unusedVariables false
set_option linter.unusedSimpArgs false
namespace Go.Proofs.YtidhkhdnjonjfaaGreat.gen
open Go Go.Sh
open Go.IntKind (i64)
set_option maxRecDepth 20000
set_option maxHeartbeats 4000000
theorem aMO (p0:List M.Item) (p1:M.Item→Option Bool) (f1_:FuncId) (k1_:List D) (hp1 : ∀z0 r,p1 z0=some r→oM Tryz.prog f1_ ((true,M.Item.en z0) ::  k1_.map fun c=>(false,[c])) [(false,[.ro (.bool r)])]) (r:Int) (h:eC p0 p1=some r):Sc 341 [(false,[.sl (List.map M.Item.en p0)]),(false,[.fn f1_ k1_])] [rI r]:=by
 unfold eC at h
 simp only [EN]
 refine sgn 19 [.tmp 4] Tryz.func341 fun base wd => ?_
 refine sq (rn ?_)
 refine an (sq (sq (rn ?_)))
 refine an (bk ?_)
 refine aAC (fun m s=>∃v8:Int,s.t 0=vL M.Item.en p0∧s.t 1 = .v false [.dat (.fn f1_ k1_)]∧s.t 7=vI (List.length p0:Int)∧s.t 8=vI v8∧bT p0 p1 m v8=some r) fuel ?_ ?_
 ·refine ⟨0,?_,?_,?_,?_,h⟩
  all_goals simp +decide only [F,reduceIte,Nat.reduceAdd,qB,qC,EN, *,-h]
 rintro mL1 s1 ⟨v8,f2,f3,f4,f5,h⟩
 rcases mL1 with _ | mL1
 ·exact absurd h (by simp [bT])
 simp only [bT] at h
 refine sq (rn ?_)
 refine an (sq ?_)
 rcases aGH (decide (v8<(List.length p0:Int))) with b6 | b6
 ·replace h:=jV b6 h
  refine cf (xt (yD (yC (aA4 (an (sq (rn ?_)))))))
  refine an (rt ?_)
  cases h
  simp [Ret,TB,EN, *]
 replace h:=jW b6 h
 refine ct (sk (an (sq (bk (sq (rn ?_))))))
 refine an (sq ?_)
 obtain ⟨x7,h8,h⟩:=bind_some h
 obtain ⟨q9,q10,q11⟩:=mZ h8
 obtain ⟨x12,h13,h⟩:=bind_some h
 refine rn1 (hp1 x7 x12 h13) ?_
 refine an ?_
 rcases wW x12 with b14 | b14
 ·replace h:=jW b14 h
  refine ct (sq (rn ?_))
  refine an (rt ?_)
  cases h
  simp [Ret,TB,EN, *]
 replace h:=jV b14 h
 refine cf (sk (ab (an (rn ?_))))
 refine xS ⟨mL1,by omega,(i64.wrap (v8+1)),?_,?_,?_,?_,h⟩
 all_goals simp +decide only [F,reduceIte,Nat.reduceAdd,qB,qC,EN, *,-h]
instance:bC 341 (type_of% @aMO):=⟨@aMO⟩
theorem aNJ (p0 p1 r) (h:fI p0 p1=some r):Sc 191 [aX (M.aC.en p0),aX (M.Key.en p1)] [rI r]:=by
 unfold fI at h
 simp only [EN]
 refine sgn 9 [.tmp 4] Tryz.func191 fun base wd => ?_
 refine sq (rn ?_)
 refine an (sq ?_)
 obtain ⟨x1,h2,h⟩:=bind_some h
 refine rn1 (aMO p0.Items (fun z0=>mR z0 p1) 342 [.ptr [.int .i64 p1.Kind,.int .i64 p1.N,.str p1.Text]] (fun z0 r hr=>aMk z0 p1 r hr) x1 h2) ?_
 refine an (rt ?_)
 cases h
 simp [Ret,TB,EN, *]
instance:bC 191 (type_of% @aNJ):=⟨@aNJ⟩
theorem aME (p0 p1 p2 r) (h:iY p0 p1 p2=some r):Sc 496 [aX (M.aC.en p0),aX (M.Key.en p1),aX (M.aA.en p2)] [(true,M.aC.rs r.1),rB r.2]:=by
 have i1:=fun (x11:M.aC)=>inv fun m s=>∃v10:Int,(s.t 3=vP 3 1 0∧s.t 4=vP 4 1 0∧s.t 5=vP 5 1 0∧s.t 6=vP 6 1 0∧s.t 8=vP 8 1 0∧s.t 10=vI v10∧s.h 3=(1,oX 37 (M.aC.en p0))∧s.h 4=(1,oX 225 (M.Key.en p1))∧s.h 5=(1,oX 148 (M.aA.en p2))∧s.h 6=(1,oB 37 [cS (⟨#[]⟩:ByteArray),.nil,cI 0])∧s.h 8=(1,oB 37 [cS x11.Name,.row 200022 1,cI x11.Auto])∧s.h 200022=(1,oW 227 4 M.Item.en x11.Items))∧gH p0 p1 p2 x11 m v10=some r
 have e1:=@gH.eq_2
 unfold iY at h
 exact sgo 87 [.cell 6 37,.tmp 7] Tryz.func496
instance:bC 496 (type_of% @aME):=⟨@aME⟩
theorem aNI (p0 p1 p2 r) (h:uJ p0 p1 p2=some r):Sc 497 [aX (M.aC.en p0),aX (M.Key.en p1),aX (M.aA.en p2)] [(true,M.aC.rs r.1),rB r.2]:=by
 unfold uJ at h
 exact sgo 20 [.cell 6 37,.tmp 7] Tryz.func497
instance:bC 497 (type_of% @aNI):=⟨@aNI⟩
theorem aON (p0 p1 r) (h:nJ p0 p1=some r):Sc 526 [aX (M.Key.en p0),aX (M.bU.en p1)] [rB r]:=by
 unfold nJ at h
 exact sgo 50 [.tmp 4] Tryz.func526
instance:bC 526 (type_of% @aON):=⟨@aON⟩
theorem aMP (p0 c0 r) (h:eG p0 c0=some r):Sc 525 [aX (M.Item.en p0),(false,[.ptr [.bool c0.HasLow,.bool c0.HasHigh,.int .i64 c0.Low.Kind,.int .i64 c0.Low.N,.str c0.Low.Text,.int .i64 c0.High.Kind,.int .i64 c0.High.N,.str c0.High.Text]])] [rB r]:=by
 unfold eG at h
 exact sgo 8 [.tmp 3] Tryz.func525
instance:bC 525 (type_of% @aMP):=⟨@aMP⟩
theorem aMR (p0 p1 r) (h:hM p0 p1=some r):Sc 498 [aX (M.aC.en p0),aX (M.bU.en p1)] [(true,M.aC.ra r.1),rI r.2]:=by
 unfold hM at h
 simp only [EN]
 refine sgn 26 [.cell 4 37,.tmp 5] Tryz.func498 fun base wd => ?_
 refine sq ?_
 apply kU
 ·simp +decide only [LN,LI,E,reduceIte,Nat.reduceAdd,Nat.reduceMul,qB,qC,L,aGV,EN]
  exact Is.mk _
 refine an (sq ?_)
 obtain ⟨x1,h2,h⟩:=bind_some h
 apply kU
 ·simp +decide only [LN,LI,E,reduceIte,Nat.reduceAdd,Nat.reduceMul,qB,qC,L,aGV,EN]
  refine ⟨_,aMY _ _ h2,?_⟩
  try simp +decide only [LN,LI,E,reduceIte,Nat.reduceAdd,Nat.reduceMul,qB,qC,L,aGV,EN]
  exact Is.mk _
 refine an (sq (sq ?_))
 obtain ⟨x3,h4,h⟩:=bind_some h
 apply kU
 ·simp +decide only [LN,LI,E,reduceIte,Nat.reduceAdd,Nat.reduceMul,qB,qC,L,aGV,EN]
  refine ⟨_,aNA _ _ h4,?_⟩
  try simp +decide only [LN,LI,E,reduceIte,Nat.reduceAdd,Nat.reduceMul,qB,qC,L,aGV,EN]
  exact Is.mk _
 refine an ?_
 rcases wW (!x3) with b5 | b5
 ·replace h:=jW b5 h
  refine aAF (by simp +decide only [LN,LI,F,reduceIte,Nat.reduceAdd,qB,qC,EN,b5]) ?_
  refine sq ?_
  apply kU
  ·simp +decide only [LN,LI,E,reduceIte,Nat.reduceAdd,Nat.reduceMul,qB,qC,L,aGV,EN,b5]
   exact Is.mk _
  refine an (frb 4 1 200008 ?_)
  refine rt ?_
  cases h
  simp [Ret,EN,aGV,M.Item.en,b5]
 replace h:=jV b5 h
 refine zW (by simp +decide only [LN,LI,F,reduceIte,Nat.reduceAdd,qB,qC,EN,b5]) ?_
 refine sk (an (sq ?_))
 apply aIL (n:=3) (f:=524) (d:=16) (N':=42) (vars:=[.tmp 4]) rfl rfl rfl rfl (by decide) Tryz.func524 rfl rfl rfl (by decide +kernel) (by decide)
 ·simp +decide only [LN,LI,E,reduceIte,Nat.reduceAdd,Nat.reduceMul,qB,qC,L,aHY,aGV,EN,b5]
  exact Is.mk _
 intro fv
 refine aAh (Gho.shallow (i:=200008) (ver:=1) (e:=227) (sz:=4) (xs:=List.map M.Item.en x1.Items) (by first | (simp +decide only [LN,LI,F,reduceIte,Nat.reduceAdd,qB,qC,EN,M.Item.en,b5];done) | (simp +decide only [LN,LI,F,reduceIte,Nat.reduceAdd,qB,qC,EN,M.Item.en,b5];rfl) | rfl)) ?_
 refine vD (J:=fun s=>s.t 0=vR 200008 1∧s.t 1 = .v false [.clo 525 [(3,1,0)]]∧s.fr 2=vP 2 1 0∧s.fr 4=vP 4 1 0∧s.fr 6=vP 6 1 0∧s.h 2=(1,oX 37 (M.aC.en p0))∧s.h 3=(1,oX 547 (M.bU.en p1))∧s.h 4=(1,oB 37 [cS (⟨#[]⟩:ByteArray),.nil,cI 0])∧s.h 6=(1,oB 37 [cS x1.Name,.row 200008 1,cI x1.Auto])∧s.h 200008=(1,.row 227 4 (List.map M.Item.en x1.Items) false)∧True) ?_ ?_
 ·refine ⟨?_,?_,?_,?_,?_,?_,?_,?_,?_,?_,trivial⟩<;>(try first | (simp +decide only [LN,LI,F,reduceIte,Nat.reduceAdd,qB,qC,EN,M.Item.en,b5];done) | (simp +decide only [LN,LI,F,reduceIte,Nat.reduceAdd,qB,qC,EN,M.Item.en,b5];rfl) | rfl)
 rintro s6 ⟨f7,f8,f9,f10,f11,f12,f13,f14,f15,f16,_⟩
 refine sq ?_
 apply kU
 ·simp +decide only [LN,LI,E,reduceIte,Nat.reduceAdd,Nat.reduceMul,qB,qC,L,EN,b5,f7,f8,f9,f10,f11,f12,f13,f14,f15,f16]
  exact Is.mk _
 refine an (sq ?_)
 obtain ⟨x17,h18,h⟩:=bind_some h
 apply kU
 ·simp +decide only [LN,LI,E,reduceIte,Nat.reduceAdd,Nat.reduceMul,qB,qC,L,EN,b5,f7,f8,f9,f10,f11,f12,f13,f14,f15,f16]
  refine ⟨_,aMO x1.Items (fun z0=>eG z0 p1) 525 [.ptr [.bool p1.HasLow,.bool p1.HasHigh,.int .i64 p1.Low.Kind,.int .i64 p1.Low.N,.str p1.Low.Text,.int .i64 p1.High.Kind,.int .i64 p1.High.N,.str p1.High.Text]] (fun z0 r hr=>aMP z0 p1 r hr) x17 h18,?_⟩
  try simp +decide only [LN,LI,E,reduceIte,Nat.reduceAdd,Nat.reduceMul,qB,qC,L,EN,b5,f7,f8,f9,f10,f11,f12,f13,f14,f15,f16]
  exact Is.mk _
 refine an (sq (sq ?_))
 apply kU
 ·simp +decide only [LN,LI,E,reduceIte,Nat.reduceAdd,Nat.reduceMul,qB,qC,L,EN,b5,f7,f8,f9,f10,f11,f12,f13,f14,f15,f16]
  exact Is.mk _
 refine an ?_
 rcases wW (x17==(-1)) with b19 | b19
 ·replace h:=jW b19 h
  refine aAF (by simp +decide only [LN,LI,F,reduceIte,Nat.reduceAdd,qB,qC,EN,b5,f7,f8,f9,f10,f11,f12,f13,f14,f15,f16,b19]) ?_
  refine sq ?_
  apply kU
  ·simp +decide only [LN,LI,E,reduceIte,Nat.reduceAdd,Nat.reduceMul,qB,qC,L,EN,b5,f7,f8,f9,f10,f11,f12,f13,f14,f15,f16,b19]
   exact Is.mk _
  refine an (rt ?_)
  apply aLk.mk (l:=[(false,[.row 200008 1])]) (by simp [LN,LI,EN,b5,f7,f8,f9,f10,f11,f12,f13,f14,f15,f16,b19])
  ·simp +decide only [aIx,LN,LI,E,reduceIte,Nat.reduceAdd,Nat.reduceMul,qB,qC,L,aHY,aGV,EN,b5,f7,f8,f9,f10,f11,f12,f13,f14,f15,f16,b19]
   exact Is.mk _
  refine an (sq ?_)
  refine vD (J:=fun s=>s.t 2=vP 2 1 0∧s.t 4=vP 4 1 0∧s.t 6=vP 6 1 0∧s.h 2=(1,oX 37 (M.aC.en p0))∧s.h 4=(1,oB 37 [cS (⟨#[]⟩:ByteArray),.nil,cI 0])∧s.h 6=(1,oB 37 [cS x1.Name,.row 200008 1,cI x1.Auto])∧s.h 200008=(1,.row 227 4 (List.map M.Item.en x1.Items) false)∧True) ?_ ?_
  ·refine ⟨?_,?_,?_,?_,?_,?_,?_,trivial⟩<;>(try simp +decide only [LN,LI,F,reduceIte,Nat.reduceAdd,qB,qC,EN,M.Item.en,b5,f7,f8,f9,f10,f11,f12,f13,f14,f15,f16,b19])
  rintro s20 ⟨f21,f22,f23,f24,f25,f26,f27,_⟩
  apply aCv mixed
  ·simp +decide only [LN,LI,E,reduceIte,Nat.reduceAdd,Nat.reduceMul,qB,qC,L,aHY,aGV,EN,b5,b19,f21,f22,f23,f24,f25,f26,f27]
   exact ⟨.mk (by decide +kernel),Is.mk _⟩
  refine an (frb 4 1 200008 ?_)
  refine rt ?_
  cases h
  simp [Ret,EN,aGV,M.Item.en,b5,b19,f21,f22,f23,f24,f25,f26,f27]
 replace h:=jV b19 h
 refine zW (by simp +decide only [LN,LI,F,reduceIte,Nat.reduceAdd,qB,qC,EN,b5,f7,f8,f9,f10,f11,f12,f13,f14,f15,f16,b19]) ?_
 refine sk (an (sq (sq ?_)))
 apply kU
 ·simp +decide only [LN,LI,E,reduceIte,Nat.reduceAdd,Nat.reduceMul,qB,qC,L,EN,b5,f7,f8,f9,f10,f11,f12,f13,f14,f15,f16,b19]
  exact Is.mk _
 refine an (bk ?_)
 refine aAC (fun m s=>∃v5:Int,∃v6:Int,∃r8:List M.Item,s.t 0=vR 200008 1∧s.t 1 = .v false [.clo 525 [(3,1,0)]]∧s.t 5=vI v5∧s.t 6=vI v6∧s.fr 2=vP 2 1 0∧s.fr 4=vP 4 1 0∧s.fr 6=vP 6 1 0∧s.h 2=(1,oX 37 (M.aC.en p0))∧s.h 3=(1,oX 547 (M.bU.en p1))∧s.h 4=(1,oB 37 [cS (⟨#[]⟩:ByteArray),.nil,cI 0])∧s.h 6=(1,oB 37 [cS x1.Name,.row 200008 1,cI x1.Auto])∧s.h 200008=(1,.row 227 4 (List.map M.Item.en r8) false)∧cH p0 p1 x1 m v5 v6 r8=some r) fuel ?_ ?_
 ·refine ⟨x17,(i64.wrap (x17+1)),x1.Items,?_,?_,?_,?_,?_,?_,?_,?_,?_,?_,?_,?_,h⟩
  all_goals simp +decide only [LN,LI,F,reduceIte,Nat.reduceAdd,qB,qC,EN,M.Item.en,b5,f7,f8,f9,f10,f11,f12,f13,f14,f15,f16,b19]
 rintro mL1 s28 ⟨v5,v6,r8,f29,f30,f31,f32,f33,f34,f35,f36,f37,f38,f39,f40,h⟩
 rcases mL1 with _ | mL1
 ·exact absurd h (by simp [cH])
 simp only [cH] at h
 refine sq (sq ?_)
 apply kU
 ·simp +decide only [LN,LI,E,reduceIte,Nat.reduceAdd,Nat.reduceMul,qB,qC,L,aHY,EN,b5,b19,f29,f30,f31,f32,f33,f34,f35,f36,f37,f38,f39,f40]
  exact Is.mk _
 refine an ?_
 rcases wW (decide (v6<(List.length r8:Int))) with b41 | b41
 ·replace h:=jW b41 h
  refine aAF (by simp +decide only [LN,LI,F,reduceIte,Nat.reduceAdd,qB,qC,EN,b5,b19,f29,f30,f31,f32,f33,f34,f35,f36,f37,f38,f39,f40,b41]) ?_
  refine sk (an (sq (bk (sq ?_))))
  obtain ⟨x42,h43,h⟩:=bind_some h
  obtain ⟨q44,q45,q46⟩:=mZ h43
  apply kU
  ·simp +decide only [LN,LI,E,reduceIte,Nat.reduceAdd,Nat.reduceMul,qB,qC,L,aHY,aDs,M.Item.en,EN,b5,b19,f29,f30,f31,f32,f33,f34,f35,f36,f37,f38,f39,f40,b41,q44,q45,q46]
   exact Is.mk _
  refine an (sq ?_)
  obtain ⟨x47,h48,h⟩:=bind_some h
  apply kU
  ·simp +decide only [LN,LI,E,reduceIte,Nat.reduceAdd,Nat.reduceMul,qB,qC,L,aDs,EN,b5,b19,f29,f30,f31,f32,f33,f34,f35,f36,f37,f38,f39,f40,b41,q44,q45,q46]
   refine ⟨_,aMP _ _ _ h48,?_⟩
   try simp +decide only [LN,LI,E,reduceIte,Nat.reduceAdd,Nat.reduceMul,qB,qC,L,aDs,EN,b5,b19,f29,f30,f31,f32,f33,f34,f35,f36,f37,f38,f39,f40,b41,q44,q45,q46]
   exact Is.mk _
  refine an ?_
  rcases aGH (!x47) with b49 | b49
  ·replace h:=jV b49 h
   refine zW (by simp +decide only [LN,LI,F,reduceIte,Nat.reduceAdd,qB,qC,EN,b5,b19,f29,f30,f31,f32,f33,f34,f35,f36,f37,f38,f39,f40,b41,q44,q45,q46,b49]) ?_
   refine sk (ab (an ?_))
   apply kU
   ·simp +decide only [LN,LI,E,reduceIte,Nat.reduceAdd,Nat.reduceMul,qB,qC,L,EN,b5,b19,f29,f30,f31,f32,f33,f34,f35,f36,f37,f38,f39,f40,b41,q44,q45,q46,b49]
    exact Is.mk _
   refine xS ⟨mL1,by omega,v5,(i64.wrap (v6+1)),r8,?_,?_,?_,?_,?_,?_,?_,?_,?_,?_,?_,?_,h⟩
   all_goals simp +decide only [LN,LI,F,reduceIte,Nat.reduceAdd,qB,qC,EN,M.Item.en,b5,b19,f29,f30,f31,f32,f33,f34,f35,f36,f37,f38,f39,f40,b41,q44,q45,q46,b49]
  replace h:=jW b49 h
  refine aAF (by simp +decide only [LN,LI,F,reduceIte,Nat.reduceAdd,qB,qC,EN,b5,b19,f29,f30,f31,f32,f33,f34,f35,f36,f37,f38,f39,f40,b41,q44,q45,q46,b49]) ?_
  refine sq ?_
  obtain ⟨x50,h51,h⟩:=bind_some h
  obtain ⟨q52,q53,q54⟩:=mZ h51
  apply kU
  ·simp +decide only [LN,LI,E,reduceIte,Nat.reduceAdd,Nat.reduceMul,qB,qC,L,aHY,aDs,M.Item.en,EN,b5,b19,f29,f30,f31,f32,f33,f34,f35,f36,f37,f38,f39,f40,b41,q44,q45,q46,b49,q52,q53,q54]
   exact Is.mk _
  refine an ?_
  refine vD (J:=fun s=>s.t 0=vR 200008 1∧s.t 1 = .v false [.clo 525 [(3,1,0)]]∧s.t 5=vI v5∧s.t 6=vI v6∧s.fr 2=vP 2 1 0∧s.fr 4=vP 4 1 0∧s.fr 6=vP 6 1 0∧s.h 2=(1,oX 37 (M.aC.en p0))∧s.h 3=(1,oX 547 (M.bU.en p1))∧s.h 4=(1,oB 37 [cS (⟨#[]⟩:ByteArray),.nil,cI 0])∧s.h 6=(1,oB 37 [cS x1.Name,.row 200008 1,cI x1.Auto])∧s.h 200008=(1,.row 227 4 (List.map M.Item.en (List.set r8 v5.toNat x42)) false)∧True) ?_ ?_
  ·refine ⟨?_,?_,?_,?_,?_,?_,?_,?_,?_,?_,?_,?_,trivial⟩<;>(try simp +decide only [LN,LI,F,reduceIte,Nat.reduceAdd,qB,qC,EN,M.Item.en,b5,b19,f29,f30,f31,f32,f33,f34,f35,f36,f37,f38,f39,f40,b41,q44,q45,q46,b49,q52,q53,q54])
  rintro s55 ⟨f56,f57,f58,f59,f60,f61,f62,f63,f64,f65,f66,f67,_⟩
  apply kU
  ·simp +decide only [LN,LI,E,reduceIte,Nat.reduceAdd,Nat.reduceMul,qB,qC,L,EN,b5,b19,b41,q44,q45,q46,b49,q52,q53,q54,f56,f57,f58,f59,f60,f61,f62,f63,f64,f65,f66,f67]
   exact Is.mk _
  refine ab (an ?_)
  apply kU
  ·simp +decide only [LN,LI,E,reduceIte,Nat.reduceAdd,Nat.reduceMul,qB,qC,L,EN,b5,b19,b41,q44,q45,q46,b49,q52,q53,q54,f56,f57,f58,f59,f60,f61,f62,f63,f64,f65,f66,f67]
   exact Is.mk _
  refine xS ⟨mL1,by omega,(i64.wrap (v5+1)),(i64.wrap (v6+1)),(List.set r8 v5.toNat x42),?_,?_,?_,?_,?_,?_,?_,?_,?_,?_,?_,?_,h⟩
  all_goals simp +decide only [LN,LI,F,reduceIte,Nat.reduceAdd,qB,qC,EN,M.Item.en,b5,b19,b41,q44,q45,q46,b49,q52,q53,q54,f56,f57,f58,f59,f60,f61,f62,f63,f64,f65,f66,f67]
 replace h:=jV b41 h
 refine zW (by simp +decide only [LN,LI,F,reduceIte,Nat.reduceAdd,qB,qC,EN,b5,b19,f29,f30,f31,f32,f33,f34,f35,f36,f37,f38,f39,f40,b41]) ?_
 refine xt (yD (yC (aA4 (an (sq ?_)))))
 obtain ⟨x68,h69,h⟩:=bind_some h
 apply kU
 ·simp +decide only [LN,LI,E,reduceIte,Nat.reduceAdd,Nat.reduceMul,qB,qC,←List.map_take,←List.map_drop,L,aHY,aDs,M.Item.en,EN,b5,b19,f29,f30,f31,f32,f33,f34,f35,f36,f37,f38,f39,f40,b41]
  refine ⟨by first | exact aDZ h69 | exact (aDZ h69).2 | exact (aDZ h69).2.2,?_⟩
  try simp +decide only [LN,LI,E,reduceIte,Nat.reduceAdd,Nat.reduceMul,qB,qC,←List.map_take,←List.map_drop,L,aHY,aDs,M.Item.en,EN,b5,b19,f29,f30,f31,f32,f33,f34,f35,f36,f37,f38,f39,f40,b41]
  refine ⟨by first | exact aEb h69 | exact (aEb h69).2 | exact (aEb h69).2.2 | (have hb:=aEb h69;simpa using hb),?_⟩
  try simp +decide only [LN,LI,E,reduceIte,Nat.reduceAdd,Nat.reduceMul,qB,qC,←List.map_take,←List.map_drop,L,aHY,aDs,M.Item.en,EN,b5,b19,f29,f30,f31,f32,f33,f34,f35,f36,f37,f38,f39,f40,b41]
  exact Is.mk _
 refine an (sq ?_)
 refine vD (J:=fun s=>s.t 0=vR 200008 1∧s.t 5=vI v5∧s.fr 2=vP 2 1 0∧s.fr 4=vP 4 1 0∧s.fr 6=vP 6 1 0∧s.h 2=(1,oX 37 (M.aC.en p0))∧s.h 4=(1,oB 37 [cS (⟨#[]⟩:ByteArray),.nil,cI 0])∧s.h 6=(1,oB 37 [cS x1.Name,.row 200008 1,cI x1.Auto])∧s.h 200008=(1,.row 227 4 (List.map M.Item.en (List.take v5.toNat r8)++List.replicate (List.length r8-v5.toNat) [.opq,.opq,.opq,.opq]) false)∧True) ?_ ?_
 ·refine ⟨?_,?_,?_,?_,?_,?_,?_,?_,?_,trivial⟩<;>(try simp +decide only [LN,LI,F,reduceIte,Nat.reduceAdd,qB,qC,EN,b5,b19,f29,f30,f31,f32,f33,f34,f35,f36,f37,f38,f39,f40,b41])
 rintro s70 ⟨f71,f72,f73,f74,f75,f76,f77,f78,f79,_⟩
 apply kU
 ·simp +decide only [LN,LI,E,reduceIte,Nat.reduceAdd,Nat.reduceMul,qB,qC,←List.map_take,←List.map_drop,L,aHY,aDs,M.Item.en,EN,b5,b19,b41,f71,f72,f73,f74,f75,f76,f77,f78,f79]
  refine ⟨by first | exact aF2 (f:=M.Item.en) h69 | exact (aF2 (f:=M.Item.en) h69).2 | exact (aF2 (f:=M.Item.en) h69).2.2 | (have hb:=aF2 (f:=M.Item.en) h69;simpa using hb),?_⟩
  try simp +decide only [LN,LI,E,reduceIte,Nat.reduceAdd,Nat.reduceMul,qB,qC,←List.map_take,←List.map_drop,L,aHY,aDs,M.Item.en,EN,b5,b19,b41,f71,f72,f73,f74,f75,f76,f77,f78,f79]
  exact Is.mk _
 refine an (rt ?_)
 apply aLk.mk (l:=[(false,[.part 200008 1 0 v5.toNat])]) (by simp [LN,LI,EN,b5,b19,b41,f71,f72,f73,f74,f75,f76,f77,f78,f79])
 ·simp +decide only [aIx,LN,LI,E,reduceIte,Nat.reduceAdd,Nat.reduceMul,qB,qC,L,aHY,aGV,EN,b5,b19,b41,f71,f72,f73,f74,f75,f76,f77,f78,f79]
  exact Is.mk _
 refine an (sq ?_)
 refine aAh (Gho.aLc (b:=6) (vb:=1) (t:=37) (cells:=[.dat (.str x1.Name),.part 200008 1 0 v5.toNat,.dat (.int .i64 x1.Auto)]) (c:=1) (j:=200008) (vj:=1) (K:=200008) (n:=v5.toNat) (e:=227) (sz:=4) (dp:=false) (xs:=(List.map M.Item.en (List.take v5.toNat r8)++List.replicate (List.length r8-v5.toNat) [.opq,.opq,.opq,.opq])) (List.map M.Item.en (List.take v5.toNat r8)) (by first | (simp +decide only [LN,LI,F,reduceIte,Nat.reduceAdd,qB,qC,EN,b5,b19,b41,f71,f72,f73,f74,f75,f76,f77,f78,f79];done) | (simp +decide only [LN,LI,F,reduceIte,Nat.reduceAdd,qB,qC,EN,b5,b19,b41,f71,f72,f73,f74,f75,f76,f77,f78,f79];rfl) | rfl) rfl (by first | (simp +decide only [LN,LI,F,reduceIte,Nat.reduceAdd,qB,qC,EN,b5,b19,b41,f71,f72,f73,f74,f75,f76,f77,f78,f79];done) | (simp +decide only [LN,LI,F,reduceIte,Nat.reduceAdd,qB,qC,EN,b5,b19,b41,f71,f72,f73,f74,f75,f76,f77,f78,f79];rfl) | rfl) (by decide) ((aF2 (f:=M.Item.en) h69).2) (aKE h69)) ?_
 refine vD (J:=fun s=>s.t 2=vP 2 1 0∧s.t 4=vP 4 1 0∧s.t 6=vP 6 1 0∧s.h 2=(1,oX 37 (M.aC.en p0))∧s.h 4=(1,oB 37 [cS (⟨#[]⟩:ByteArray),.nil,cI 0])∧s.h 6=(1,oB 37 [cS x1.Name,.row 200008 2,cI x1.Auto])∧s.h 200008=(2,.row 227 4 (List.map M.Item.en (List.take v5.toNat r8)) false)∧True) ?_ ?_
 ·refine ⟨?_,?_,?_,?_,?_,?_,?_,trivial⟩<;>(try simp +decide only [LN,LI,F,reduceIte,Nat.reduceAdd,qB,qC,EN,M.Item.en,b5,b19,b41,f71,f72,f73,f74,f75,f76,f77,f78,f79])
 rintro s80 ⟨f81,f82,f83,f84,f85,f86,f87,_⟩
 apply aCv mixed
 ·simp +decide only [LN,LI,E,reduceIte,Nat.reduceAdd,Nat.reduceMul,qB,qC,L,aHY,aGV,EN,b5,b19,b41,f81,f82,f83,f84,f85,f86,f87]
  exact ⟨.mk (by decide +kernel),Is.mk _⟩
 refine an (frb 4 1 200008 ?_)
 refine rt ?_
 cases h
 simp [Ret,EN,aGV,M.Item.en,b5,b19,b41,f81,f82,f83,f84,f85,f86,f87]
instance:bC 498 (type_of% @aMR):=⟨@aMR⟩
theorem aML (p0 p1 p2 r) (h:lU p0 p1 p2=some r):Sc 499 [aX (M.aA.en p0),aS p1,aI p2] [(true,M.aA.rs r.1),rB r.2]:=by
 have i1:=fun (x1:M.aA)=>inv fun m s=>∃v10:Int,(s.t 1=vS p1∧s.t 2=vI p2∧s.t 3=vP 3 1 0∧s.t 6=vP 6 1 0∧s.t 8=vP 8 1 0∧s.t 10=vI v10∧s.h 3=(1,oX 148 (M.aA.en p0))∧s.h 6=(1,oB 148 [.nil])∧s.h 8=(1,oB 148 [.row 100012 1])∧s.h 100012=(1,oW 267 2 M.Field.en x1.Fields))∧fK p0 p1 p2 x1 m v10=some r
 have e1:=@fK.eq_2
 unfold lU at h
 exact sgo 61 [.cell 6 148,.tmp 7] Tryz.func499
instance:bC 499 (type_of% @aML):=⟨@aML⟩
theorem aMe (p0 p1 r) (h:yW p0 p1=some r):Sc 441 [aX (M.aC.en p0),aX (M.Op.en p1)] [(true,M.aC.ra r.1),rI r.2.1,rB r.2.2]:=by
 unfold yW at h
 simp only [EN]
 refine sgn 132 [.cell 4 37,.tmp 5,.tmp 6] Tryz.func441 fun base wd => ?_
 refine sq (rn ?_)
 refine an (sq ?_)
 obtain ⟨x1,h2,h⟩:=bind_some h
 refine rn1 (aNJ _ _ _ h2) ?_
 refine an (sq (sq (rn ?_)))
 refine an (bk (sq (rn ?_)))
 refine an ?_
 rcases wW (p1.Kind==1) with b3 | b3
 ·replace h:=jW b3 h
  refine ct (sq ?_)
  obtain ⟨x4,h5,h⟩:=bind_some h
  refine rn1 (aME _ _ _ _ h5) ?_
  refine an (sq (rn ?_))
  refine an (frb 4 1 200036 ?_)
  refine rt ?_
  cases h
  simp [Ret,TB,EN, *]
 replace h:=jV b3 h
 refine cf (sq (rn ?_))
 refine an ?_
 rcases wW (p1.Kind==2) with b6 | b6
 ·replace h:=jW b6 h
  refine ct (sq ?_)
  obtain ⟨x7,h8,h⟩:=bind_some h
  refine rn1 (aNI _ _ _ _ h8) ?_
  refine an (sq (rn ?_))
  refine an (frb 4 1 200049 ?_)
  refine rt ?_
  cases h
  simp [Ret,TB,EN, *]
 replace h:=jV b6 h
 refine cf (sq (rn ?_))
 refine an ?_
 rcases wW (p1.Kind==3) with b9 | b9
 ·replace h:=jW b9 h
  refine ct (sq ?_)
  obtain ⟨x10,h11,h⟩:=bind_some h
  refine rn1 (aMR _ _ _ h11) ?_
  refine an (sq (rn ?_))
  refine an (rt ?_)
  cases h
  simp [Ret,TB,EN, *]
 replace h:=jV b9 h
 refine cf (sq (rn ?_))
 refine an ?_
 rcases wW (p1.Kind==5) with b12 | b12
 ·replace h:=jW b12 h
  refine ct (sq ?_)
  obtain ⟨x13,h14,h⟩:=bind_some h
  refine rn1 (aMR _ _ _ h14) ?_
  refine an (sq (rn ?_))
  refine an (rt ?_)
  cases h
  simp [Ret,TB,EN, *]
 replace h:=jV b12 h
 refine cf (sq (rn ?_))
 refine an ?_
 rcases wW (p1.Kind==4) with b15 | b15
 ·replace h:=jW b15 h
  refine ct (sq (sq (rn ?_)))
  refine an ?_
  rcases wW (decide (x1<0)) with b16 | b16
  ·replace h:=jW b16 h
   refine ct (sq (rn ?_))
   refine an (rt ?_)
   cases h
   simp [Ret,TB,EN, *]
  replace h:=jV b16 h
  refine cf (sk (an (sq ?_)))
  obtain ⟨x17,h18,h⟩:=bind_some h
  obtain ⟨q19,q20,q21⟩:=mZ h18
  refine rd mixed ?_
  refine an (rt ?_)
  cases h
  simp [Ret,TB,EN, *]
 replace h:=jV b15 h
 refine cf (sk (ab (an (sq (rn ?_)))))
 refine an (sq (sq (rn ?_)))
 refine an ?_
 rcases aGH (decide (x1≥0)) with b22 | b22
 ·replace h:=jV b22 h
  refine cf (sk (an (sq ?_)))
  obtain ⟨x43,h44,h⟩:=bind_some h
  refine rn1 (c85 _ _ _ h44) ?_
  refine an (sq ?_)
  obtain ⟨x45,h46,h⟩:=bind_some h
  refine rn1 (aML _ _ _ _ h46) ?_
  refine an (sq (sq (rn ?_)))
  refine an ?_
  rcases wW (!x45.2) with b47 | b47
  ·replace h:=jW b47 h
   refine ct (sq (rn ?_))
   refine an (rt ?_)
   cases h
   simp [Ret,TB,EN, *]
  replace h:=jV b47 h
  refine cf (sk (an (sq ?_)))
  obtain ⟨x48,h49,h⟩:=bind_some h
  refine rn1 (aME _ _ _ _ h49) ?_
  refine an (sq (rn ?_))
  refine an (frb 4 1 200125 ?_)
  refine rt ?_
  cases h
  simp [Ret,TB,EN, *]
 replace h:=jW b22 h
 refine ct ?_
 obtain ⟨x23,h24,h⟩:=bind_some h
 obtain ⟨q25,q26,q27⟩:=mZ h24
 refine rn ?_
 refine an (sq ?_)
 obtain ⟨x28,h29,h⟩:=bind_some h
 refine rn1 (c85 _ _ _ h29) ?_
 refine an (sq ?_)
 obtain ⟨x30,h31,h⟩:=bind_some h
 refine rn1 (aML _ _ _ _ h31) ?_
 refine an (sq (sq (rn ?_)))
 refine an ?_
 rcases wW (!x30.2) with b32 | b32
 ·replace h:=jW b32 h
  refine ct (sq (rn ?_))
  refine an (rt ?_)
  cases h
  simp [Ret,TB,EN, *]
 replace h:=jV b32 h
 refine cf (sk (an (sq ?_)))
 obtain ⟨x33,h34,h⟩:=bind_some h
 refine rn1 (aME _ _ _ _ h34) ?_
 refine an (sq ?_)
 refine cu (fun s=>s.t 4=vP 4 1 0∧s.t 17=vI x28.1∧s.t 20=vP 20 1 0∧s.t 21=vB x33.2∧s.h 4=(1,oB 37 [cS (⟨#[]⟩:ByteArray),.nil,cI 0])∧s.h 20=(1,oB 37 [cS x33.1.Name,.row 200125 1,cI x33.1.Auto])∧s.h 200125=(1,oW 227 4 M.Item.en x33.1.Items)∧True) ?_
 rintro s35 ⟨f36,f37,f38,f39,f40,f41,f42,_⟩
 refine rn ?_
 refine an (frb 4 1 200125 ?_)
 refine rt ?_
 cases h
 simp [Ret,TB,EN, *]
instance:bC 441 (type_of% @aMe):=⟨@aMe⟩
theorem aNc (p0 p1 r) (h:uY p0 p1=some r):Sc 340 [aX (M.Database.en p0),aX (M.Op.en p1)] [(true,M.Database.ra r.1),rI r.2.1,rB r.2.2]:=by
 unfold uY at h
 simp only [EN]
 refine sgn 58 [.cell 4 32,.tmp 5,.tmp 6] Tryz.func340 fun base wd => ?_
 refine sq (rn ?_)
 refine an (sq ?_)
 obtain ⟨x1,h2,h⟩:=bind_some h
 refine rn1 (aK0 _ _ h2) ?_
 refine an (sq ?_)
 obtain ⟨x3,h4,h⟩:=bind_some h
 refine rn1 (aMp _ _ _ h4) ?_
 refine an (sq (sq ?_))
 obtain ⟨x5,h6,h⟩:=bind_some h
 rcases wW (!x5) with b7 | b7
 ·replace h:=jW b7 h
  refine rn1 (c52 _ _ h6) ?_
  refine an (ct (sq (rn ?_)))
  refine an (frb 4 2 300013 ?_)
  refine frb 4 3 400013 ?_
  refine rt ?_
  cases h
  simp [Ret,TB,EN, *]
 replace h:=jV b7 h
 obtain ⟨x8,h9,h⟩:=bind_some h
 rcases wW (!x8) with b10 | b10
 ·replace h:=jW b10 h
  refine rn2 (c52 _ _ h6) (aMM _ _ h9) ?_
  refine an (ct (sq (rn ?_)))
  refine an (frb 4 2 300013 ?_)
  refine frb 4 3 400013 ?_
  refine rt ?_
  cases h
  simp [Ret,TB,EN, *]
 replace h:=jV b10 h
 refine rn2 (c52 _ _ h6) (aMM _ _ h9) ?_
 refine an ?_
 rcases wW (decide (x3<0)) with b11 | b11
 ·replace h:=jW b11 h
  refine ct (sq (rn ?_))
  refine an (frb 4 2 300013 ?_)
  refine frb 4 3 400013 ?_
  refine rt ?_
  cases h
  simp [Ret,TB,EN, *]
 replace h:=jV b11 h
 refine cf (sk (an (sq ?_)))
 obtain ⟨x12,h13,h⟩:=bind_some h
 obtain ⟨q14,q15,q16⟩:=mZ h13
 obtain ⟨x17,h18,h⟩:=bind_some h
 refine rd1 mixed (aMe _ _ _ h18) ?_
 refine an (sq (rn ?_))
 refine an (sq (sq ?_))
 refine cu (fun s=>s.t 2=vP 2 1 0∧s.t 4=vP 4 1 0∧s.t 7=vP 7 1 0∧s.t 10=vI x17.2.1∧s.t 11=vB x17.2.2∧s.h 2=(1,oX 32 (M.Database.en p0))∧s.h 4=(1,aJh)∧s.h 7=(1,oB 32 [cS x1.Name,cI x1.Version,.row 300013 1,.row 400013 1])∧s.h 300013=(1,.row 37 3 (List.map M.aC.en (List.set x1.Stores x3.toNat x17.1)) false)∧s.h 400013=(1,oW 239 2 M.aE.en x1.Unique)∧True) ?_
 rintro s19 ⟨f20,f21,f22,f23,f24,f25,f26,f27,f28,f29,_⟩
 rcases wW (!x17.2.2) with b30 | b30
 ·replace h:=jW b30 h
  refine rn ?_
  refine an (ct (sq ?_))
  obtain ⟨x31,h32,h⟩:=bind_some h
  refine rn1 (aK0 _ _ h32) ?_
  refine an (frb 4 2 300055 ?_)
  refine frb 4 3 400055 ?_
  refine rt ?_
  cases h
  simp [Ret,TB,EN, *]
 replace h:=jV b30 h
 obtain ⟨x33,h34,h⟩:=bind_some h
 refine rn1 (c52 _ _ h34) ?_
 refine an ?_
 rcases aGH (!x33) with b35 | b35
 ·replace h:=jV b35 h
  refine cf (sk (an (sq (rn ?_))))
  refine an (frb 4 2 300013 ?_)
  refine frb 4 3 400013 ?_
  refine rt ?_
  cases h
  simp [Ret,TB,EN, *]
 replace h:=jW b35 h
 refine ct (sq ?_)
 obtain ⟨x36,h37,h⟩:=bind_some h
 refine rn1 (aK0 _ _ h37) ?_
 refine an (frb 4 2 300055 ?_)
 refine frb 4 3 400055 ?_
 refine rt ?_
 cases h
 simp [Ret,TB,EN, *]
instance:bC 340 (type_of% @aNc):=⟨@aNc⟩
theorem aMU (p0 p1 r) (h:rZ p0 p1=some r):Sc 190 [aX (M.Database.en p0),aL M.Op.en p1] [(true,M.Database.ra r.1),(false,[.any (.sl (List.map enI r.2.1))]),rB r.2.2]:=by
 unfold rZ at h
 simp only [EN]
 refine sgn 53 [.cell 4 32,.tmp 5,.tmp 6] Tryz.func190 fun base wd => ?_
 refine sq (rn ?_)
 refine an (sq ?_)
 obtain ⟨x1,h2,h⟩:=bind_some h
 refine rn1 (aK0 _ _ h2) ?_
 refine an (sq (rn ?_))
 refine an (sq (sq ?_))
 refine cu (fun s=>s.t 1=vL M.Op.en p1∧s.t 2=vP 2 1 0∧s.t 4=vP 4 1 0∧s.t 7=vP 7 1 0∧s.t 8=vR 100016 1∧s.h 2=(1,oX 32 (M.Database.en p0))∧s.h 4=(1,aJh)∧s.h 7=(1,oB 32 [cS x1.Name,cI x1.Version,.row 300015 1,.row 400015 1])∧s.h 100016=(1,oW 3 1 enI ([]:List Int))∧s.h 300015=(1,oW 37 3 M.aC.en x1.Stores)∧s.h 400015=(1,oW 239 2 M.aE.en x1.Unique)∧True) ?_
 rintro s3 ⟨f4,f5,f6,f7,f8,f9,f10,f11,f12,f13,f14,_⟩
 obtain ⟨x15,h16,h⟩:=bind_some h
 rcases wW (!x15) with b17 | b17
 ·replace h:=jW b17 h
  refine rn1 (c52 _ _ h16) ?_
  refine an (ct (sq (rn ?_)))
  refine an (frb 4 2 300015 ?_)
  refine frb 4 3 400015 ?_
  refine frt 5 0 100016 ?_
  refine rt ?_
  cases h
  simp [Ret,TB,EN, *]
 replace h:=jV b17 h
 refine rn1 (c52 _ _ h16) ?_
 refine an ?_
 rcases wW (decide ((List.length p1:Int)>6)) with b18 | b18
 ·replace h:=jW b18 h
  refine ct (sq (rn ?_))
  refine an (frb 4 2 300015 ?_)
  refine frb 4 3 400015 ?_
  refine frt 5 0 100016 ?_
  refine rt ?_
  cases h
  simp [Ret,TB,EN, *]
 replace h:=jV b18 h
 refine cf (sk (an (sq (sq (rn ?_)))))
 refine an (bk (frb 7 2 300015 ?_))
 refine frb 7 3 400015 ?_
 refine aAC (fun m s=>∃v29:Int,∃w7_0:ByteArray,∃w7_1:Int,∃r16:List Int,∃w7_2:List M.aC,∃w7_3:List M.aE,∃u16:Nat,s.t 2=vP 2 1 0∧s.t 4=vP 4 1 0∧s.t 7=vP 7 1 0∧s.t 8=vR 100016 u16∧s.t 27=vL M.Op.en p1∧s.t 28=vI (List.length p1:Int)∧s.t 29=vI v29∧s.h 2=(1,oX 32 (M.Database.en p0))∧s.h 4=(1,aJh)∧s.h 7=(1,oB 32 [cS w7_0,cI w7_1,cL M.aC.en w7_2,cL M.aE.en w7_3])∧s.h 100016=(u16,oW 3 1 enI r16)∧iM p0 p1 m v29 w7_0 w7_1 r16 w7_2 w7_3=some r) fuel ?_ ?_
 ·refine ⟨0,x1.Name,x1.Version,([]:List Int),x1.Stores,x1.Unique,1,?_,?_,?_,?_,?_,?_,?_,?_,?_,?_,?_,h⟩
  all_goals simp +decide only [F,reduceIte,Nat.reduceAdd,qB,qC,EN, *,-h]
 rintro mL1 s19 ⟨v29,w7_0,w7_1,r16,w7_2,w7_3,u16,f20,f21,f22,f23,f24,f25,f26,f27,f28,f29,f30,h⟩
 rcases mL1 with _ | mL1
 ·exact absurd h (by simp [iM])
 simp only [iM] at h
 refine sq (rn ?_)
 refine an (sq ?_)
 rcases aGH (decide (v29<(List.length p1:Int))) with b31 | b31
 ·replace h:=jV b31 h
  refine cf (xt (yD (yC (aA4 (an (sq (rn ?_)))))))
  refine an (frt 5 0 100016 ?_)
  refine rt ?_
  cases h
  simp [Ret,TB,EN, *]
 replace h:=jW b31 h
 refine ct (sk (an (sq (bk (sq ?_)))))
 obtain ⟨x32,h33,h⟩:=bind_some h
 obtain ⟨q34,q35,q36⟩:=mZ h33
 refine rn ?_
 refine an (sq ?_)
 obtain ⟨x37,h38,h⟩:=bind_some h
 refine rn1 (aNc _ _ _ h38) ?_
 refine an (sq (sq (rn ?_)))
 refine an ?_
 rcases wW (!x37.2.2) with b39 | b39
 ·replace h:=jW b39 h
  refine ct (sq ?_)
  obtain ⟨x40,h41,h⟩:=bind_some h
  refine rn1 (aK0 _ _ h41) ?_
  refine an (frb 4 2 300043 ?_)
  refine frb 4 3 400043 ?_
  refine frt 5 0 100044 ?_
  refine rt ?_
  cases h
  simp [Ret,TB,EN, *]
 replace h:=jV b39 h
 refine cf (sk (an (sq (rn ?_))))
 refine an ?_
 obtain ⟨x42,h43,h⟩:=bind_some h
 refine rn1 h43 ?_
 refine ab (an ?_)
 refine cu (fun s=>s.t 2=vP 2 1 0∧s.t 4=vP 4 1 0∧s.t 7=vP 7 1 0∧s.t 8=vR 100016 (u16+1)∧s.t 27=vL M.Op.en p1∧s.t 28=vI (List.length p1:Int)∧s.t 29=vI v29∧s.h 2=(1,oX 32 (M.Database.en p0))∧s.h 4=(1,aJh)∧s.h 7=(1,oX 32 (M.Database.en x37.1))∧s.h 100016=((u16+1),oW 3 1 enI (r16++[x37.2.1]))∧True) ?_
 rintro s44 ⟨f45,f46,f47,f48,f49,f50,f51,f52,f53,f54,f55,_⟩
 refine rn ?_
 refine xS ⟨mL1,by omega,(i64.wrap (v29+1)),x37.1.Name,x37.1.Version,(r16++[x37.2.1]),x37.1.Stores,x37.1.Unique,(u16+1),?_,?_,?_,?_,?_,?_,?_,?_,?_,?_,?_,h⟩
 all_goals simp +decide only [F,reduceIte,Nat.reduceAdd,qB,qC,EN, *,-h]
instance:bC 190 (type_of% @aMU):=⟨@aMU⟩
end Go.Proofs.YtidhkhdnjonjfaaGreat.gen
