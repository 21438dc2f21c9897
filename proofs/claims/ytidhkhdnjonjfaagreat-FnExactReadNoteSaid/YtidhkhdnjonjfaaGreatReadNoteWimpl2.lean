/-
  Helper text. No conditions.
-/
import Derived.Test.YtidhkhdnjonjfaaGreatReadNoteTi
import Derived.Test.YtidhkhdnjonjfaaGreatReadNoteWimpl0
import Derived.Test.YtidhkhdnjonjfaaGreatReadNoteWimpl1
set_option linter.unusedVariables false
set_option linter.unusedSimpArgs false
namespace Go.Proofs.YtidhkhdnjonjfaaGreat.gen
open Go Go.Sh
set_option maxRecDepth 20000
set_option maxHeartbeats 4000000
theorem aN0 (p0 r) (h:kF p0=some r):Sc 189 [aL enB p0] [rW 332 7 M.Op.en r.1,rB r.2]:=by
 unfold kF at h
 simp only [EN]
 refine sgn 93 [.tmp 2,.tmp 3] Tryz.func189 fun base wd => ?_
 refine sq (rn ?_)
 refine an (sq ?_)
 obtain ⟨x1,h2,h⟩:=bind_some h
 refine rn1 (aMJ _ _ _ h2) ?_
 refine an (sq (sq ?_))
 rcases wW (!x1.2.2) with b3 | b3
 ·replace h:=jW b3 h
  refine rn ?_
  refine an (ct (sq (rn ?_)))
  refine an (rt ?_)
  cases h
  simp [Ret,TB,EN, *]
 replace h:=jV b3 h
 refine rn ?_
 refine an ?_
 rcases wW (decide (x1.1>6)) with b4 | b4
 ·replace h:=jW b4 h
  refine ct (sq (rn ?_))
  refine an (rt ?_)
  cases h
  simp [Ret,TB,EN, *]
 replace h:=jV b4 h
 refine cf (sk (an (sq (rn ?_))))
 refine an (sq (sq ?_))
 refine cu (fun s=>s.t 0=vL enB p0∧s.t 4=vI x1.1∧s.t 5=vI x1.2.1∧s.t 7=vR 100025 1∧s.h 100025=(1,oW 332 7 M.Op.en ([]:List M.Op))∧True) ?_
 rintro s5 ⟨f6,f7,f8,f9,f10,_⟩
 refine rn ?_
 refine an (bk ?_)
 refine aAC (fun m s=>∃v5:Int,∃v8:Int,∃r25:List M.Op,∃u25:Nat,s.t 0=vL enB p0∧s.t 4=vI x1.1∧s.t 5=vI v5∧s.t 7=vR 100025 u25∧s.t 8=vI v8∧s.h 100025=(u25,oW 332 7 M.Op.en r25)∧dD p0 x1 m v5 v8 r25=some r) fuel ?_ ?_
 ·refine ⟨x1.2.1,0,([]:List M.Op),1,?_,?_,?_,?_,?_,?_,h⟩
  all_goals simp +decide only [F,reduceIte,Nat.reduceAdd,qB,qC,EN, *,-h]
 rintro mL1 s11 ⟨v5,v8,r25,u25,f12,f13,f14,f15,f16,f17,h⟩
 rcases mL1 with _ | mL1
 ·exact absurd h (by simp [dD])
 simp only [dD] at h
 refine sq (sq (rn ?_))
 refine an ?_
 rcases aGH (decide (v8<x1.1)) with b18 | b18
 ·replace h:=jV b18 h
  refine cf (xt (yD (yC (aA4 (an (sq (sq ?_)))))))
  obtain ⟨x266,h267,h⟩:=bind_some h
  obtain ⟨x268,h269,h⟩:=bind_some h
  refine rn2 (aNg _ _ h267) (aM3 _ _ _ h269) ?_
  refine an ?_
  rcases wW (!x268) with b270 | b270
  ·replace h:=jW b270 h
   refine ct (sq (rn ?_))
   refine an (rt ?_)
   cases h
   simp [Ret,TB,EN, *]
  replace h:=jV b270 h
  refine cf (sk (an (sq (rn ?_))))
  refine an (rt ?_)
  cases h
  simp [Ret,TB,EN, *]
 replace h:=jW b18 h
 refine ct (sk (an (sq (bk (sq (rn ?_))))))
 refine an (sq ?_)
 obtain ⟨x19,h20,h⟩:=bind_some h
 refine rn1 (aMJ _ _ _ h20) ?_
 refine an (sq (rn ?_))
 refine an (sq (sq (rn ?_)))
 refine an (bk ?_)
 refine aIV 6 ?_
 refine rnd ?_
 refine vD (J:=fun s=>s.t 0=vL enB p0∧s.t 4=vI x1.1∧s.t 5=vI x19.2.1∧s.t 6=vB x19.2.2∧s.t 7=vR 100025 u25∧s.t 8=vI v8∧s.t 9=vP 9 ((s11.h 9).1+1) 0∧s.t 10=vP 10 ((s11.h 10).1+1) 0∧s.t 41=vI 0∧s.h 9=(((s11.h 9).1+1),oB 332 [cI x19.1,cS (⟨#[]⟩:ByteArray),cI 0,cI 0,cS (⟨#[]⟩:ByteArray),.nil,cS (⟨#[]⟩:ByteArray)])∧s.h 10=(((s11.h 10).1+1),aIA)∧s.h 100025=(u25,oW 332 7 M.Op.en r25)∧True) ?_ ?_
 ·refine ⟨?_,?_,?_,?_,?_,?_,?_,?_,?_,?_,?_,?_,trivial⟩
  all_goals first | (simp +decide only [F,reduceIte,Nat.reduceAdd,qB,qC,EN, *,-h];done) | (simp +decide only [F,reduceIte,Nat.reduceAdd,qB,qC,EN, *,-h];rfl) | rfl
 rintro s21 ⟨f22,f23,f24,f25,f26,f27,f28,f29,f30,f31,f32,f33,_⟩
 refine sq (rn ?_)
 refine an (sq ?_)
 refine aAF (by first | (simp +decide only [F,reduceIte,Nat.reduceAdd,qB,qC,EN, *,-h];done) | (simp +decide only [F,reduceIte,Nat.reduceAdd,qB,qC,EN, *,-h];rfl) | rfl) ?_
 refine sk (an (sq (bk (sq (rn ?_)))))
 refine an (sq (rn ?_))
 refine an ?_
 rcases aGH x19.2.2 with b34 | b34
 ·replace h:=jV b34 h
  refine zW (by first | (simp +decide only [F,reduceIte,Nat.reduceAdd,qB,qC,EN, *,-h];done) | (simp +decide only [F,reduceIte,Nat.reduceAdd,qB,qC,EN, *,-h];rfl) | rfl) ?_
  refine sk (ab (an (rn ?_)))
  refine xS ?_
  refine rnd ?_
  refine vD (J:=fun s=>s.t 0=vL enB p0∧s.t 4=vI x1.1∧s.t 5=vI x19.2.1∧s.t 6=vB x19.2.2∧s.t 7=vR 100025 u25∧s.t 8=vI v8∧s.t 9=vP 9 ((s11.h 9).1+1) 0∧s.t 10=vP 10 ((s11.h 10).1+1) 0∧s.t 41=vI 1∧s.h 9=(((s11.h 9).1+1),oB 332 [cI x19.1,cS (⟨#[]⟩:ByteArray),cI 0,cI 0,cS (⟨#[]⟩:ByteArray),.nil,cS (⟨#[]⟩:ByteArray)])∧s.h 10=(((s11.h 10).1+1),aIA)∧s.h 100025=(u25,oW 332 7 M.Op.en r25)∧True) ?_ ?_
  ·refine ⟨?_,?_,?_,?_,?_,?_,?_,?_,?_,?_,?_,?_,trivial⟩
   all_goals first | (simp +decide only [F,reduceIte,Nat.reduceAdd,qB,qC,EN, *,-h];done) | (simp +decide only [F,reduceIte,Nat.reduceAdd,qB,qC,EN, *,-h];rfl) | rfl
  rintro s214 ⟨f215,f216,f217,f218,f219,f220,f221,f222,f223,f224,f225,f226,_⟩
  refine sq (rn ?_)
  refine an (sq ?_)
  refine aAF (by first | (simp +decide only [F,reduceIte,Nat.reduceAdd,qB,qC,EN, *,-h];done) | (simp +decide only [F,reduceIte,Nat.reduceAdd,qB,qC,EN, *,-h];rfl) | rfl) ?_
  refine sk (an (sq (bk (sq (rn ?_)))))
  refine an (sq (rn ?_))
  refine an ?_
  refine zW (by first | (simp +decide only [F,reduceIte,Nat.reduceAdd,qB,qC,EN, *,-h];done) | (simp +decide only [F,reduceIte,Nat.reduceAdd,qB,qC,EN, *,-h];rfl) | rfl) ?_
  refine sk (ab (an (rn ?_)))
  refine xS ?_
  refine rnd ?_
  refine vD (J:=fun s=>s.t 0=vL enB p0∧s.t 4=vI x1.1∧s.t 5=vI x19.2.1∧s.t 6=vB x19.2.2∧s.t 7=vR 100025 u25∧s.t 8=vI v8∧s.t 9=vP 9 ((s11.h 9).1+1) 0∧s.t 10=vP 10 ((s11.h 10).1+1) 0∧s.t 41=vI 2∧s.h 9=(((s11.h 9).1+1),oB 332 [cI x19.1,cS (⟨#[]⟩:ByteArray),cI 0,cI 0,cS (⟨#[]⟩:ByteArray),.nil,cS (⟨#[]⟩:ByteArray)])∧s.h 10=(((s11.h 10).1+1),aIA)∧s.h 100025=(u25,oW 332 7 M.Op.en r25)∧True) ?_ ?_
  ·refine ⟨?_,?_,?_,?_,?_,?_,?_,?_,?_,?_,?_,?_,trivial⟩
   all_goals first | (simp +decide only [F,reduceIte,Nat.reduceAdd,qB,qC,EN, *,-h];done) | (simp +decide only [F,reduceIte,Nat.reduceAdd,qB,qC,EN, *,-h];rfl) | rfl
  rintro s227 ⟨f228,f229,f230,f231,f232,f233,f234,f235,f236,f237,f238,f239,_⟩
  refine sq (rn ?_)
  refine an (sq ?_)
  refine aAF (by first | (simp +decide only [F,reduceIte,Nat.reduceAdd,qB,qC,EN, *,-h];done) | (simp +decide only [F,reduceIte,Nat.reduceAdd,qB,qC,EN, *,-h];rfl) | rfl) ?_
  refine sk (an (sq (bk (sq (rn ?_)))))
  refine an (sq (rn ?_))
  refine an ?_
  refine zW (by first | (simp +decide only [F,reduceIte,Nat.reduceAdd,qB,qC,EN, *,-h];done) | (simp +decide only [F,reduceIte,Nat.reduceAdd,qB,qC,EN, *,-h];rfl) | rfl) ?_
  refine sk (ab (an (rn ?_)))
  refine xS ?_
  refine rnd ?_
  refine vD (J:=fun s=>s.t 0=vL enB p0∧s.t 4=vI x1.1∧s.t 5=vI x19.2.1∧s.t 6=vB x19.2.2∧s.t 7=vR 100025 u25∧s.t 8=vI v8∧s.t 9=vP 9 ((s11.h 9).1+1) 0∧s.t 10=vP 10 ((s11.h 10).1+1) 0∧s.t 41=vI 3∧s.h 9=(((s11.h 9).1+1),oB 332 [cI x19.1,cS (⟨#[]⟩:ByteArray),cI 0,cI 0,cS (⟨#[]⟩:ByteArray),.nil,cS (⟨#[]⟩:ByteArray)])∧s.h 10=(((s11.h 10).1+1),aIA)∧s.h 100025=(u25,oW 332 7 M.Op.en r25)∧True) ?_ ?_
  ·refine ⟨?_,?_,?_,?_,?_,?_,?_,?_,?_,?_,?_,?_,trivial⟩
   all_goals first | (simp +decide only [F,reduceIte,Nat.reduceAdd,qB,qC,EN, *,-h];done) | (simp +decide only [F,reduceIte,Nat.reduceAdd,qB,qC,EN, *,-h];rfl) | rfl
  rintro s240 ⟨f241,f242,f243,f244,f245,f246,f247,f248,f249,f250,f251,f252,_⟩
  refine sq (rn ?_)
  refine an (sq ?_)
  refine aAF (by first | (simp +decide only [F,reduceIte,Nat.reduceAdd,qB,qC,EN, *,-h];done) | (simp +decide only [F,reduceIte,Nat.reduceAdd,qB,qC,EN, *,-h];rfl) | rfl) ?_
  refine sk (an (sq (bk (sq (rn ?_)))))
  refine an (sq (rn ?_))
  refine an ?_
  refine zW (by first | (simp +decide only [F,reduceIte,Nat.reduceAdd,qB,qC,EN, *,-h];done) | (simp +decide only [F,reduceIte,Nat.reduceAdd,qB,qC,EN, *,-h];rfl) | rfl) ?_
  refine sk (ab (an (rn ?_)))
  refine xS ?_
  refine rnd ?_
  refine vD (J:=fun s=>s.t 0=vL enB p0∧s.t 4=vI x1.1∧s.t 5=vI x19.2.1∧s.t 6=vB x19.2.2∧s.t 7=vR 100025 u25∧s.t 8=vI v8∧s.t 9=vP 9 ((s11.h 9).1+1) 0∧s.t 10=vP 10 ((s11.h 10).1+1) 0∧s.t 41=vI 4∧s.h 9=(((s11.h 9).1+1),oB 332 [cI x19.1,cS (⟨#[]⟩:ByteArray),cI 0,cI 0,cS (⟨#[]⟩:ByteArray),.nil,cS (⟨#[]⟩:ByteArray)])∧s.h 10=(((s11.h 10).1+1),aIA)∧s.h 100025=(u25,oW 332 7 M.Op.en r25)∧True) ?_ ?_
  ·refine ⟨?_,?_,?_,?_,?_,?_,?_,?_,?_,?_,?_,?_,trivial⟩
   all_goals first | (simp +decide only [F,reduceIte,Nat.reduceAdd,qB,qC,EN, *,-h];done) | (simp +decide only [F,reduceIte,Nat.reduceAdd,qB,qC,EN, *,-h];rfl) | rfl
  rintro s253 ⟨f254,f255,f256,f257,f258,f259,f260,f261,f262,f263,f264,f265,_⟩
  refine sq (rn ?_)
  refine an (sq ?_)
  refine zW (by first | (simp +decide only [F,reduceIte,Nat.reduceAdd,qB,qC,EN, *,-h];done) | (simp +decide only [F,reduceIte,Nat.reduceAdd,qB,qC,EN, *,-h];rfl) | rfl) ?_
  refine xt (yD (yC (aA4 (an (sq (sq (rn ?_)))))))
  refine an (ct (sq (rn ?_)))
  refine an (rt ?_)
  cases h
  simp [Ret,TB,EN, *]
 replace h:=jW b34 h
 refine aAF (by first | (simp +decide only [F,reduceIte,Nat.reduceAdd,qB,qC,EN, *,-h];done) | (simp +decide only [F,reduceIte,Nat.reduceAdd,qB,qC,EN, *,-h];rfl) | rfl) ?_
 obtain ⟨x35,h36,h⟩:=bind_some h
 apply kU
 ·simp +decide only [E,reduceIte,Nat.reduceAdd,Nat.reduceMul,qB,qC,Int.reduceToNat,Nat.reduceLT,Nat.zero_add,L,aFa,aAl,EN,b3,b4,b18,f22,f23,f24,f25,f26,f27,f28,f29,f30,f31,f32,f33,b34]
  refine ⟨_,aLh _ _ _ _ h36,?_⟩
  try simp +decide only [E,reduceIte,Nat.reduceAdd,Nat.reduceMul,qB,qC,Int.reduceToNat,Nat.reduceLT,Nat.zero_add,L,aFa,aAl,EN,b3,b4,b18,f22,f23,f24,f25,f26,f27,f28,f29,f30,f31,f32,f33,b34]
  exact Is.mk _
 refine ab (an (rn ?_))
 refine xS ?_
 refine rnd ?_
 refine aAh ((ghB 10 0 7060100 100051)) ?_
 refine vD (J:=fun s=>s.t 0=vL enB p0∧s.t 4=vI x1.1∧s.t 5=vI x35.2.1∧s.t 6=vB x35.2.2∧s.t 7=vR 100025 u25∧s.t 8=vI v8∧s.t 9=vP 9 ((s11.h 9).1+1) 0∧s.t 10=vP 10 ((s11.h 10).1+1) 0∧s.t 41=vI 1∧s.h 9=(((s11.h 9).1+1),oB 332 [cI x19.1,cS (⟨#[]⟩:ByteArray),cI 0,cI 0,cS (⟨#[]⟩:ByteArray),.nil,cS (⟨#[]⟩:ByteArray)])∧s.h 10=(((s11.h 10).1+1),oB 413 [.row 7060100 ((s21.h 7060100).1+1),.nil,.nil,.nil])∧s.h 100025=(u25,oW 332 7 M.Op.en r25)∧s.h 7060100=(((s21.h 7060100).1+1),oW 5 1 enB x35.1)∧True) ?_ ?_
 ·refine ⟨?_,?_,?_,?_,?_,?_,?_,?_,?_,?_,?_,?_,?_,trivial⟩
  all_goals first | (simp +decide only [F,reduceIte,Nat.reduceAdd,qB,qC,EN, *,-h];done) | (simp +decide only [F,reduceIte,Nat.reduceAdd,qB,qC,EN, *,-h];rfl) | rfl
 rintro s37 ⟨f38,f39,f40,f41,f42,f43,f44,f45,f46,f47,f48,f49,f50,_⟩
 refine sq (rn ?_)
 refine an (sq ?_)
 refine aAF (by first | (simp +decide only [F,reduceIte,Nat.reduceAdd,qB,qC,EN, *,-h];done) | (simp +decide only [F,reduceIte,Nat.reduceAdd,qB,qC,EN, *,-h];rfl) | rfl) ?_
 refine sk (an (sq (bk (sq (rn ?_)))))
 refine an (sq (rn ?_))
 refine an ?_
 rcases aGH x35.2.2 with b51 | b51
 ·replace h:=jV b51 h
  refine zW (by first | (simp +decide only [F,reduceIte,Nat.reduceAdd,qB,qC,EN, *,-h];done) | (simp +decide only [F,reduceIte,Nat.reduceAdd,qB,qC,EN, *,-h];rfl) | rfl) ?_
  refine sk (ab (an (rn ?_)))
  refine xS ?_
  refine rnd ?_
  refine vD (J:=fun s=>s.t 0=vL enB p0∧s.t 4=vI x1.1∧s.t 5=vI x35.2.1∧s.t 6=vB x35.2.2∧s.t 7=vR 100025 u25∧s.t 8=vI v8∧s.t 9=vP 9 ((s11.h 9).1+1) 0∧s.t 10=vP 10 ((s11.h 10).1+1) 0∧s.t 41=vI 2∧s.h 9=(((s11.h 9).1+1),oB 332 [cI x19.1,cS (⟨#[]⟩:ByteArray),cI 0,cI 0,cS (⟨#[]⟩:ByteArray),.nil,cS (⟨#[]⟩:ByteArray)])∧s.h 10=(((s11.h 10).1+1),oB 413 [.row 7060100 ((s21.h 7060100).1+1),.nil,.nil,.nil])∧s.h 100025=(u25,oW 332 7 M.Op.en r25)∧s.h 7060100=(((s21.h 7060100).1+1),oW 5 1 enB x35.1)∧True) ?_ ?_
  ·refine ⟨?_,?_,?_,?_,?_,?_,?_,?_,?_,?_,?_,?_,?_,trivial⟩
   all_goals first | (simp +decide only [F,reduceIte,Nat.reduceAdd,qB,qC,EN, *,-h];done) | (simp +decide only [F,reduceIte,Nat.reduceAdd,qB,qC,EN, *,-h];rfl) | rfl
  rintro s172 ⟨f173,f174,f175,f176,f177,f178,f179,f180,f181,f182,f183,f184,f185,_⟩
  refine sq (rn ?_)
  refine an (sq ?_)
  refine aAF (by first | (simp +decide only [F,reduceIte,Nat.reduceAdd,qB,qC,EN, *,-h];done) | (simp +decide only [F,reduceIte,Nat.reduceAdd,qB,qC,EN, *,-h];rfl) | rfl) ?_
  refine sk (an (sq (bk (sq (rn ?_)))))
  refine an (sq (rn ?_))
  refine an ?_
  refine zW (by first | (simp +decide only [F,reduceIte,Nat.reduceAdd,qB,qC,EN, *,-h];done) | (simp +decide only [F,reduceIte,Nat.reduceAdd,qB,qC,EN, *,-h];rfl) | rfl) ?_
  refine sk (ab (an (rn ?_)))
  refine xS ?_
  refine rnd ?_
  refine vD (J:=fun s=>s.t 0=vL enB p0∧s.t 4=vI x1.1∧s.t 5=vI x35.2.1∧s.t 6=vB x35.2.2∧s.t 7=vR 100025 u25∧s.t 8=vI v8∧s.t 9=vP 9 ((s11.h 9).1+1) 0∧s.t 10=vP 10 ((s11.h 10).1+1) 0∧s.t 41=vI 3∧s.h 9=(((s11.h 9).1+1),oB 332 [cI x19.1,cS (⟨#[]⟩:ByteArray),cI 0,cI 0,cS (⟨#[]⟩:ByteArray),.nil,cS (⟨#[]⟩:ByteArray)])∧s.h 10=(((s11.h 10).1+1),oB 413 [.row 7060100 ((s21.h 7060100).1+1),.nil,.nil,.nil])∧s.h 100025=(u25,oW 332 7 M.Op.en r25)∧s.h 7060100=(((s21.h 7060100).1+1),oW 5 1 enB x35.1)∧True) ?_ ?_
  ·refine ⟨?_,?_,?_,?_,?_,?_,?_,?_,?_,?_,?_,?_,?_,trivial⟩
   all_goals first | (simp +decide only [F,reduceIte,Nat.reduceAdd,qB,qC,EN, *,-h];done) | (simp +decide only [F,reduceIte,Nat.reduceAdd,qB,qC,EN, *,-h];rfl) | rfl
  rintro s186 ⟨f187,f188,f189,f190,f191,f192,f193,f194,f195,f196,f197,f198,f199,_⟩
  refine sq (rn ?_)
  refine an (sq ?_)
  refine aAF (by first | (simp +decide only [F,reduceIte,Nat.reduceAdd,qB,qC,EN, *,-h];done) | (simp +decide only [F,reduceIte,Nat.reduceAdd,qB,qC,EN, *,-h];rfl) | rfl) ?_
  refine sk (an (sq (bk (sq (rn ?_)))))
  refine an (sq (rn ?_))
  refine an ?_
  refine zW (by first | (simp +decide only [F,reduceIte,Nat.reduceAdd,qB,qC,EN, *,-h];done) | (simp +decide only [F,reduceIte,Nat.reduceAdd,qB,qC,EN, *,-h];rfl) | rfl) ?_
  refine sk (ab (an (rn ?_)))
  refine xS ?_
  refine rnd ?_
  refine vD (J:=fun s=>s.t 0=vL enB p0∧s.t 4=vI x1.1∧s.t 5=vI x35.2.1∧s.t 6=vB x35.2.2∧s.t 7=vR 100025 u25∧s.t 8=vI v8∧s.t 9=vP 9 ((s11.h 9).1+1) 0∧s.t 10=vP 10 ((s11.h 10).1+1) 0∧s.t 41=vI 4∧s.h 9=(((s11.h 9).1+1),oB 332 [cI x19.1,cS (⟨#[]⟩:ByteArray),cI 0,cI 0,cS (⟨#[]⟩:ByteArray),.nil,cS (⟨#[]⟩:ByteArray)])∧s.h 10=(((s11.h 10).1+1),oB 413 [.row 7060100 ((s21.h 7060100).1+1),.nil,.nil,.nil])∧s.h 100025=(u25,oW 332 7 M.Op.en r25)∧s.h 7060100=(((s21.h 7060100).1+1),oW 5 1 enB x35.1)∧True) ?_ ?_
  ·refine ⟨?_,?_,?_,?_,?_,?_,?_,?_,?_,?_,?_,?_,?_,trivial⟩
   all_goals first | (simp +decide only [F,reduceIte,Nat.reduceAdd,qB,qC,EN, *,-h];done) | (simp +decide only [F,reduceIte,Nat.reduceAdd,qB,qC,EN, *,-h];rfl) | rfl
  rintro s200 ⟨f201,f202,f203,f204,f205,f206,f207,f208,f209,f210,f211,f212,f213,_⟩
  refine sq (rn ?_)
  refine an (sq ?_)
  refine zW (by first | (simp +decide only [F,reduceIte,Nat.reduceAdd,qB,qC,EN, *,-h];done) | (simp +decide only [F,reduceIte,Nat.reduceAdd,qB,qC,EN, *,-h];rfl) | rfl) ?_
  refine xt (yD (yC (aA4 (an (sq (sq (rn ?_)))))))
  refine an (ct (sq (rn ?_)))
  refine an (rt ?_)
  cases h
  simp [Ret,TB,EN, *]
 replace h:=jW b51 h
 refine aAF (by first | (simp +decide only [F,reduceIte,Nat.reduceAdd,qB,qC,EN, *,-h];done) | (simp +decide only [F,reduceIte,Nat.reduceAdd,qB,qC,EN, *,-h];rfl) | rfl) ?_
 obtain ⟨x52,h53,h⟩:=bind_some h
 apply kU
 ·simp +decide only [E,reduceIte,Nat.reduceAdd,Nat.reduceMul,qB,qC,Int.reduceToNat,Nat.reduceLT,Nat.zero_add,L,aFa,aAl,EN,b3,b4,b18,b34,f38,f39,f40,f41,f42,f43,f44,f45,f46,f47,f48,f49,f50,b51]
  refine ⟨_,aLh _ _ _ _ h53,?_⟩
  try simp +decide only [E,reduceIte,Nat.reduceAdd,Nat.reduceMul,qB,qC,Int.reduceToNat,Nat.reduceLT,Nat.zero_add,L,aFa,aAl,EN,b3,b4,b18,b34,f38,f39,f40,f41,f42,f43,f44,f45,f46,f47,f48,f49,f50,b51]
  exact Is.mk _
 refine ab (an (rn ?_))
 refine xS ?_
 refine rnd ?_
 refine aAh ((ghB 10 1 7060101 100051)) ?_
 refine vD (J:=fun s=>s.t 0=vL enB p0∧s.t 4=vI x1.1∧s.t 5=vI x52.2.1∧s.t 6=vB x52.2.2∧s.t 7=vR 100025 u25∧s.t 8=vI v8∧s.t 9=vP 9 ((s11.h 9).1+1) 0∧s.t 10=vP 10 ((s11.h 10).1+1) 0∧s.t 41=vI 2∧s.h 9=(((s11.h 9).1+1),oB 332 [cI x19.1,cS (⟨#[]⟩:ByteArray),cI 0,cI 0,cS (⟨#[]⟩:ByteArray),.nil,cS (⟨#[]⟩:ByteArray)])∧s.h 10=(((s11.h 10).1+1),oB 413 [.row 7060100 ((s21.h 7060100).1+1),.row 7060101 ((s37.h 7060101).1+1),.nil,.nil])∧s.h 100025=(u25,oW 332 7 M.Op.en r25)∧s.h 7060100=(((s21.h 7060100).1+1),oW 5 1 enB x35.1)∧s.h 7060101=(((s37.h 7060101).1+1),oW 5 1 enB x52.1)∧True) ?_ ?_
 ·refine ⟨?_,?_,?_,?_,?_,?_,?_,?_,?_,?_,?_,?_,?_,?_,trivial⟩
  all_goals first | (simp +decide only [F,reduceIte,Nat.reduceAdd,qB,qC,EN, *,-h];done) | (simp +decide only [F,reduceIte,Nat.reduceAdd,qB,qC,EN, *,-h];rfl) | rfl
 rintro s54 ⟨f55,f56,f57,f58,f59,f60,f61,f62,f63,f64,f65,f66,f67,f68,_⟩
 refine sq (rn ?_)
 refine an (sq ?_)
 refine aAF (by first | (simp +decide only [F,reduceIte,Nat.reduceAdd,qB,qC,EN, *,-h];done) | (simp +decide only [F,reduceIte,Nat.reduceAdd,qB,qC,EN, *,-h];rfl) | rfl) ?_
 refine sk (an (sq (bk (sq (rn ?_)))))
 refine an (sq (rn ?_))
 refine an ?_
 rcases aGH x52.2.2 with b69 | b69
 ·replace h:=jV b69 h
  refine zW (by first | (simp +decide only [F,reduceIte,Nat.reduceAdd,qB,qC,EN, *,-h];done) | (simp +decide only [F,reduceIte,Nat.reduceAdd,qB,qC,EN, *,-h];rfl) | rfl) ?_
  refine sk (ab (an (rn ?_)))
  refine xS ?_
  refine rnd ?_
  refine vD (J:=fun s=>s.t 0=vL enB p0∧s.t 4=vI x1.1∧s.t 5=vI x52.2.1∧s.t 6=vB x52.2.2∧s.t 7=vR 100025 u25∧s.t 8=vI v8∧s.t 9=vP 9 ((s11.h 9).1+1) 0∧s.t 10=vP 10 ((s11.h 10).1+1) 0∧s.t 41=vI 3∧s.h 9=(((s11.h 9).1+1),oB 332 [cI x19.1,cS (⟨#[]⟩:ByteArray),cI 0,cI 0,cS (⟨#[]⟩:ByteArray),.nil,cS (⟨#[]⟩:ByteArray)])∧s.h 10=(((s11.h 10).1+1),oB 413 [.row 7060100 ((s21.h 7060100).1+1),.row 7060101 ((s37.h 7060101).1+1),.nil,.nil])∧s.h 100025=(u25,oW 332 7 M.Op.en r25)∧s.h 7060100=(((s21.h 7060100).1+1),oW 5 1 enB x35.1)∧s.h 7060101=(((s37.h 7060101).1+1),oW 5 1 enB x52.1)∧True) ?_ ?_
  ·refine ⟨?_,?_,?_,?_,?_,?_,?_,?_,?_,?_,?_,?_,?_,?_,trivial⟩
   all_goals first | (simp +decide only [F,reduceIte,Nat.reduceAdd,qB,qC,EN, *,-h];done) | (simp +decide only [F,reduceIte,Nat.reduceAdd,qB,qC,EN, *,-h];rfl) | rfl
  rintro s142 ⟨f143,f144,f145,f146,f147,f148,f149,f150,f151,f152,f153,f154,f155,f156,_⟩
  refine sq (rn ?_)
  refine an (sq ?_)
  refine aAF (by first | (simp +decide only [F,reduceIte,Nat.reduceAdd,qB,qC,EN, *,-h];done) | (simp +decide only [F,reduceIte,Nat.reduceAdd,qB,qC,EN, *,-h];rfl) | rfl) ?_
  refine sk (an (sq (bk (sq (rn ?_)))))
  refine an (sq (rn ?_))
  refine an ?_
  refine zW (by first | (simp +decide only [F,reduceIte,Nat.reduceAdd,qB,qC,EN, *,-h];done) | (simp +decide only [F,reduceIte,Nat.reduceAdd,qB,qC,EN, *,-h];rfl) | rfl) ?_
  refine sk (ab (an (rn ?_)))
  refine xS ?_
  refine rnd ?_
  refine vD (J:=fun s=>s.t 0=vL enB p0∧s.t 4=vI x1.1∧s.t 5=vI x52.2.1∧s.t 6=vB x52.2.2∧s.t 7=vR 100025 u25∧s.t 8=vI v8∧s.t 9=vP 9 ((s11.h 9).1+1) 0∧s.t 10=vP 10 ((s11.h 10).1+1) 0∧s.t 41=vI 4∧s.h 9=(((s11.h 9).1+1),oB 332 [cI x19.1,cS (⟨#[]⟩:ByteArray),cI 0,cI 0,cS (⟨#[]⟩:ByteArray),.nil,cS (⟨#[]⟩:ByteArray)])∧s.h 10=(((s11.h 10).1+1),oB 413 [.row 7060100 ((s21.h 7060100).1+1),.row 7060101 ((s37.h 7060101).1+1),.nil,.nil])∧s.h 100025=(u25,oW 332 7 M.Op.en r25)∧s.h 7060100=(((s21.h 7060100).1+1),oW 5 1 enB x35.1)∧s.h 7060101=(((s37.h 7060101).1+1),oW 5 1 enB x52.1)∧True) ?_ ?_
  ·refine ⟨?_,?_,?_,?_,?_,?_,?_,?_,?_,?_,?_,?_,?_,?_,trivial⟩
   all_goals first | (simp +decide only [F,reduceIte,Nat.reduceAdd,qB,qC,EN, *,-h];done) | (simp +decide only [F,reduceIte,Nat.reduceAdd,qB,qC,EN, *,-h];rfl) | rfl
  rintro s157 ⟨f158,f159,f160,f161,f162,f163,f164,f165,f166,f167,f168,f169,f170,f171,_⟩
  refine sq (rn ?_)
  refine an (sq ?_)
  refine zW (by first | (simp +decide only [F,reduceIte,Nat.reduceAdd,qB,qC,EN, *,-h];done) | (simp +decide only [F,reduceIte,Nat.reduceAdd,qB,qC,EN, *,-h];rfl) | rfl) ?_
  refine xt (yD (yC (aA4 (an (sq (sq (rn ?_)))))))
  refine an (ct (sq (rn ?_)))
  refine an (rt ?_)
  cases h
  simp [Ret,TB,EN, *]
 replace h:=jW b69 h
 refine aAF (by first | (simp +decide only [F,reduceIte,Nat.reduceAdd,qB,qC,EN, *,-h];done) | (simp +decide only [F,reduceIte,Nat.reduceAdd,qB,qC,EN, *,-h];rfl) | rfl) ?_
 obtain ⟨x70,h71,h⟩:=bind_some h
 apply kU
 ·simp +decide only [E,reduceIte,Nat.reduceAdd,Nat.reduceMul,qB,qC,Int.reduceToNat,Nat.reduceLT,Nat.zero_add,L,aFa,aAl,EN,b3,b4,b18,b34,b51,f55,f56,f57,f58,f59,f60,f61,f62,f63,f64,f65,f66,f67,f68,b69]
  refine ⟨_,aLh _ _ _ _ h71,?_⟩
  try simp +decide only [E,reduceIte,Nat.reduceAdd,Nat.reduceMul,qB,qC,Int.reduceToNat,Nat.reduceLT,Nat.zero_add,L,aFa,aAl,EN,b3,b4,b18,b34,b51,f55,f56,f57,f58,f59,f60,f61,f62,f63,f64,f65,f66,f67,f68,b69]
  exact Is.mk _
 refine ab (an (rn ?_))
 refine xS ?_
 refine rnd ?_
 refine aAh ((ghB 10 2 7060102 100051)) ?_
 refine vD (J:=fun s=>s.t 0=vL enB p0∧s.t 4=vI x1.1∧s.t 5=vI x70.2.1∧s.t 6=vB x70.2.2∧s.t 7=vR 100025 u25∧s.t 8=vI v8∧s.t 9=vP 9 ((s11.h 9).1+1) 0∧s.t 10=vP 10 ((s11.h 10).1+1) 0∧s.t 41=vI 3∧s.h 9=(((s11.h 9).1+1),oB 332 [cI x19.1,cS (⟨#[]⟩:ByteArray),cI 0,cI 0,cS (⟨#[]⟩:ByteArray),.nil,cS (⟨#[]⟩:ByteArray)])∧s.h 10=(((s11.h 10).1+1),oB 413 [.row 7060100 ((s21.h 7060100).1+1),.row 7060101 ((s37.h 7060101).1+1),.row 7060102 ((s54.h 7060102).1+1),.nil])∧s.h 100025=(u25,oW 332 7 M.Op.en r25)∧s.h 7060100=(((s21.h 7060100).1+1),oW 5 1 enB x35.1)∧s.h 7060101=(((s37.h 7060101).1+1),oW 5 1 enB x52.1)∧s.h 7060102=(((s54.h 7060102).1+1),oW 5 1 enB x70.1)∧True) ?_ ?_
 ·refine ⟨?_,?_,?_,?_,?_,?_,?_,?_,?_,?_,?_,?_,?_,?_,?_,trivial⟩
  all_goals first | (simp +decide only [F,reduceIte,Nat.reduceAdd,qB,qC,EN, *,-h];done) | (simp +decide only [F,reduceIte,Nat.reduceAdd,qB,qC,EN, *,-h];rfl) | rfl
 rintro s72 ⟨f73,f74,f75,f76,f77,f78,f79,f80,f81,f82,f83,f84,f85,f86,f87,_⟩
 refine sq (rn ?_)
 refine an (sq ?_)
 refine aAF (by first | (simp +decide only [F,reduceIte,Nat.reduceAdd,qB,qC,EN, *,-h];done) | (simp +decide only [F,reduceIte,Nat.reduceAdd,qB,qC,EN, *,-h];rfl) | rfl) ?_
 refine sk (an (sq (bk (sq (rn ?_)))))
 refine an (sq (rn ?_))
 refine an ?_
 rcases aGH x70.2.2 with b88 | b88
 ·replace h:=jV b88 h
  refine zW (by first | (simp +decide only [F,reduceIte,Nat.reduceAdd,qB,qC,EN, *,-h];done) | (simp +decide only [F,reduceIte,Nat.reduceAdd,qB,qC,EN, *,-h];rfl) | rfl) ?_
  refine sk (ab (an (rn ?_)))
  refine xS ?_
  refine rnd ?_
  refine vD (J:=fun s=>s.t 0=vL enB p0∧s.t 4=vI x1.1∧s.t 5=vI x70.2.1∧s.t 6=vB x70.2.2∧s.t 7=vR 100025 u25∧s.t 8=vI v8∧s.t 9=vP 9 ((s11.h 9).1+1) 0∧s.t 10=vP 10 ((s11.h 10).1+1) 0∧s.t 41=vI 4∧s.h 9=(((s11.h 9).1+1),oB 332 [cI x19.1,cS (⟨#[]⟩:ByteArray),cI 0,cI 0,cS (⟨#[]⟩:ByteArray),.nil,cS (⟨#[]⟩:ByteArray)])∧s.h 10=(((s11.h 10).1+1),oB 413 [.row 7060100 ((s21.h 7060100).1+1),.row 7060101 ((s37.h 7060101).1+1),.row 7060102 ((s54.h 7060102).1+1),.nil])∧s.h 100025=(u25,oW 332 7 M.Op.en r25)∧s.h 7060100=(((s21.h 7060100).1+1),oW 5 1 enB x35.1)∧s.h 7060101=(((s37.h 7060101).1+1),oW 5 1 enB x52.1)∧s.h 7060102=(((s54.h 7060102).1+1),oW 5 1 enB x70.1)∧True) ?_ ?_
  ·refine ⟨?_,?_,?_,?_,?_,?_,?_,?_,?_,?_,?_,?_,?_,?_,?_,trivial⟩
   all_goals first | (simp +decide only [F,reduceIte,Nat.reduceAdd,qB,qC,EN, *,-h];done) | (simp +decide only [F,reduceIte,Nat.reduceAdd,qB,qC,EN, *,-h];rfl) | rfl
  rintro s126 ⟨f127,f128,f129,f130,f131,f132,f133,f134,f135,f136,f137,f138,f139,f140,f141,_⟩
  refine sq (rn ?_)
  refine an (sq ?_)
  refine zW (by first | (simp +decide only [F,reduceIte,Nat.reduceAdd,qB,qC,EN, *,-h];done) | (simp +decide only [F,reduceIte,Nat.reduceAdd,qB,qC,EN, *,-h];rfl) | rfl) ?_
  refine xt (yD (yC (aA4 (an (sq (sq (rn ?_)))))))
  refine an (ct (sq (rn ?_)))
  refine an (rt ?_)
  cases h
  simp [Ret,TB,EN, *]
 replace h:=jW b88 h
 refine aAF (by first | (simp +decide only [F,reduceIte,Nat.reduceAdd,qB,qC,EN, *,-h];done) | (simp +decide only [F,reduceIte,Nat.reduceAdd,qB,qC,EN, *,-h];rfl) | rfl) ?_
 obtain ⟨x89,h90,h⟩:=bind_some h
 apply kU
 ·simp +decide only [E,reduceIte,Nat.reduceAdd,Nat.reduceMul,qB,qC,Int.reduceToNat,Nat.reduceLT,Nat.zero_add,L,aFa,aAl,EN,b3,b4,b18,b34,b51,b69,f73,f74,f75,f76,f77,f78,f79,f80,f81,f82,f83,f84,f85,f86,f87,b88]
  refine ⟨_,aLh _ _ _ _ h90,?_⟩
  try simp +decide only [E,reduceIte,Nat.reduceAdd,Nat.reduceMul,qB,qC,Int.reduceToNat,Nat.reduceLT,Nat.zero_add,L,aFa,aAl,EN,b3,b4,b18,b34,b51,b69,f73,f74,f75,f76,f77,f78,f79,f80,f81,f82,f83,f84,f85,f86,f87,b88]
  exact Is.mk _
 refine ab (an (rn ?_))
 refine xS ?_
 refine rnd ?_
 refine aAh ((ghB 10 3 7060103 100051)) ?_
 refine vD (J:=fun s=>s.t 0=vL enB p0∧s.t 4=vI x1.1∧s.t 5=vI x89.2.1∧s.t 6=vB x89.2.2∧s.t 7=vR 100025 u25∧s.t 8=vI v8∧s.t 9=vP 9 ((s11.h 9).1+1) 0∧s.t 10=vP 10 ((s11.h 10).1+1) 0∧s.t 41=vI 4∧s.h 9=(((s11.h 9).1+1),oB 332 [cI x19.1,cS (⟨#[]⟩:ByteArray),cI 0,cI 0,cS (⟨#[]⟩:ByteArray),.nil,cS (⟨#[]⟩:ByteArray)])∧s.h 10=(((s11.h 10).1+1),oB 413 [.row 7060100 ((s21.h 7060100).1+1),.row 7060101 ((s37.h 7060101).1+1),.row 7060102 ((s54.h 7060102).1+1),.row 7060103 ((s72.h 7060103).1+1)])∧s.h 100025=(u25,oW 332 7 M.Op.en r25)∧s.h 7060100=(((s21.h 7060100).1+1),oW 5 1 enB x35.1)∧s.h 7060101=(((s37.h 7060101).1+1),oW 5 1 enB x52.1)∧s.h 7060102=(((s54.h 7060102).1+1),oW 5 1 enB x70.1)∧s.h 7060103=(((s72.h 7060103).1+1),oW 5 1 enB x89.1)∧True) ?_ ?_
 ·refine ⟨?_,?_,?_,?_,?_,?_,?_,?_,?_,?_,?_,?_,?_,?_,?_,?_,trivial⟩
  all_goals first | (simp +decide only [F,reduceIte,Nat.reduceAdd,qB,qC,EN, *,-h];done) | (simp +decide only [F,reduceIte,Nat.reduceAdd,qB,qC,EN, *,-h];rfl) | rfl
 rintro s91 ⟨f92,f93,f94,f95,f96,f97,f98,f99,f100,f101,f102,f103,f104,f105,f106,f107,_⟩
 refine sq (rn ?_)
 refine an (sq ?_)
 refine zW (by first | (simp +decide only [F,reduceIte,Nat.reduceAdd,qB,qC,EN, *,-h];done) | (simp +decide only [F,reduceIte,Nat.reduceAdd,qB,qC,EN, *,-h];rfl) | rfl) ?_
 refine xt (yD (yC (aA4 (an (sq (sq (rn ?_)))))))
 refine an ?_
 rcases wW (!x89.2.2) with b108 | b108
 ·replace h:=jW b108 h
  refine ct (sq (rn ?_))
  refine an (rt ?_)
  cases h
  simp [Ret,TB,EN, *]
 replace h:=jV b108 h
 refine cf (sk (an (sq ?_)))
 obtain ⟨x109,h110,h⟩:=bind_some h
 apply kU
 ·simp +decide only [E,reduceIte,Nat.reduceAdd,Nat.reduceMul,qB,qC,aAg,aBW,Int.reduceToNat,Nat.reduceLT,Nat.zero_add,L,ti5,ti9,aFa,aEO,aAl,EN,b3,b4,b18,b34,b51,b69,b88,f92,f93,f94,f95,f96,f97,f98,f99,f100,f101,f102,f103,f104,f105,f106,f107,b108]
  refine ⟨aB5 h110,?_⟩
  try simp +decide only [E,reduceIte,Nat.reduceAdd,Nat.reduceMul,qB,qC,aAg,aBW,Int.reduceToNat,Nat.reduceLT,Nat.zero_add,L,ti5,ti9,aFa,aEO,aAl,EN,b3,b4,b18,b34,b51,b69,b88,f92,f93,f94,f95,f96,f97,f98,f99,f100,f101,f102,f103,f104,f105,f106,f107,b108]
  exact Is.mk _
 refine an (sq ?_)
 obtain ⟨x111,h112,h⟩:=bind_some h
 apply kU
 ·simp +decide only [E,reduceIte,Nat.reduceAdd,Nat.reduceMul,qB,qC,Int.reduceToNat,Nat.reduceLT,Nat.zero_add,L,aFa,aK9,aEO,aAl,EN,b3,b4,b18,b34,b51,b69,b88,f92,f93,f94,f95,f96,f97,f98,f99,f100,f101,f102,f103,f104,f105,f106,f107,b108]
  refine ⟨_,aNT _ _ h112,?_⟩
  try simp +decide only [E,reduceIte,Nat.reduceAdd,Nat.reduceMul,qB,qC,Int.reduceToNat,Nat.reduceLT,Nat.zero_add,L,aFa,aK9,aEO,aAl,EN,b3,b4,b18,b34,b51,b69,b88,f92,f93,f94,f95,f96,f97,f98,f99,f100,f101,f102,f103,f104,f105,f106,f107,b108]
  exact Is.mk _
 refine an (sq ?_)
 obtain ⟨x113,h114,h⟩:=bind_some h
 apply kU
 ·simp +decide only [E,reduceIte,Nat.reduceAdd,Nat.reduceMul,qB,qC,Int.reduceToNat,Nat.reduceLT,Nat.zero_add,L,aFa,aLg,aEO,aAl,EN,b3,b4,b18,b34,b51,b69,b88,f92,f93,f94,f95,f96,f97,f98,f99,f100,f101,f102,f103,f104,f105,f106,f107,b108]
  refine ⟨_,aNj _ _ h114,?_⟩
  try simp +decide only [E,reduceIte,Nat.reduceAdd,Nat.reduceMul,qB,qC,Int.reduceToNat,Nat.reduceLT,Nat.zero_add,L,aFa,aLg,aEO,aAl,EN,b3,b4,b18,b34,b51,b69,b88,f92,f93,f94,f95,f96,f97,f98,f99,f100,f101,f102,f103,f104,f105,f106,f107,b108]
  exact Is.mk _
 refine an (sq ?_)
 obtain ⟨x115,h116,h⟩:=bind_some h
 apply kU
 ·simp +decide only [E,reduceIte,Nat.reduceAdd,Nat.reduceMul,qB,qC,aAg,aBW,Int.reduceToNat,Nat.reduceLT,Nat.zero_add,L,ti5,ti9,aFa,aEO,aAl,EN,b3,b4,b18,b34,b51,b69,b88,f92,f93,f94,f95,f96,f97,f98,f99,f100,f101,f102,f103,f104,f105,f106,f107,b108]
  refine ⟨aB5 h116,?_⟩
  try simp +decide only [E,reduceIte,Nat.reduceAdd,Nat.reduceMul,qB,qC,aAg,aBW,Int.reduceToNat,Nat.reduceLT,Nat.zero_add,L,ti5,ti9,aFa,aEO,aAl,EN,b3,b4,b18,b34,b51,b69,b88,f92,f93,f94,f95,f96,f97,f98,f99,f100,f101,f102,f103,f104,f105,f106,f107,b108]
  exact Is.mk _
 refine an ?_
 obtain ⟨x117,h118,h⟩:=bind_some h
 refine rn1 h118 ?_
 refine ab (an ?_)
 refine cu (fun s=>s.t 0=vL enB p0∧s.t 4=vI x1.1∧s.t 5=vI x89.2.1∧s.t 7=vR 100025 (u25+1)∧s.t 8=vI v8∧s.h 100025=((u25+1),oW 332 7 M.Op.en (r25++[(⟨x19.1,(aN x35.1),x111.1,x113.1,(aN x89.1)⟩:M.Op)]))∧True) ?_
 rintro s119 ⟨f120,f121,f122,f123,f124,f125,_⟩
 refine rn ?_
 refine xS ⟨mL1,by omega,x89.2.1,(IntKind.i64.wrap (v8+1)),(r25++[(⟨x19.1,(aN x35.1),x111.1,x113.1,(aN x89.1)⟩:M.Op)]),(u25+1),?_,?_,?_,?_,?_,?_,h⟩
 all_goals simp +decide only [F,reduceIte,Nat.reduceAdd,qB,qC,EN, *,-h]
instance:bC 189 (type_of% @aN0):=⟨@aN0⟩
theorem aOl (p0 p1 r) (h:kQ p0 p1=some r):Sc 411 [aI p0,aI p1] [rI r]:=by
 unfold kQ at h
 exact sgo 13 [.tmp 4] Tryz.func411
instance:bC 411 (type_of% @aOl):=⟨@aOl⟩
end Go.Proofs.YtidhkhdnjonjfaaGreat.gen
