/-
  Helper text. No conditions.
-/
import Derived.Test.YtnhpbpnhmapeeaaGreatSendNoteTi
import Derived.Test.YtnhpbpnhmapeeaaGreatSendNoteWimpl0
import Derived.Test.YtnhpbpnhmapeeaaGreatSendNoteWimpl1
import Derived.Test.YtnhpbpnhmapeeaaGreatSendNoteWimpl2
import Derived.Test.YtnhpbpnhmapeeaaGreatSendNoteWlib2
namespace Go.Proofs.YtnhpbpnhmapeeaaGreat.gen
open Go Go.Sh
set_option linter.unusedVariables false
set_option linter.unusedSimpArgs false
set_option maxRecDepth 20000
set_option maxHeartbeats 4000000
theorem aTs (p0 p1 r) (h:sX p0 p1=some r):Sc 100 [aX (M.aF.en p0),aX (M.aA.en p1)] [(true,M.aF.rs r.1),rB r.2]:=by
 unfold sX at h
 simp only [EN]
 refine sgn 60 [.cell 4 26,.tmp 5] Tryz.func100 fun base wd => ?_
 refine sq (rn ?_)
 refine an (sq ?_)
 obtain ⟨x1,h2,h⟩:=bind_some h
 refine rn1 (aNk _ _ h2) ?_
 refine an (sq (sq ?_))
 obtain ⟨x3,h4,h⟩:=bind_some h
 refine rn1 (aQ5 _ _ _ _ h4) ?_
 refine an (sq (rn ?_))
 refine an ?_
 rcases bO (decide (x3≥0)) with b5 | b5
 ·replace h:=bB b5 h
  refine ct ?_
  obtain ⟨x6,h7,h⟩:=bind_some h
  obtain ⟨x8,h9,h⟩:=bind_some h
  obtain ⟨q10,q11,q12⟩:=aR h9
  refine rd1 mixed (aPW _ _ h7) ?_
  refine an (sq (sq ?_))
  refine cu (fun s=>s.t 2=vP 2 1 0∧s.t 4=vP 4 1 0∧s.t 6=vP 6 1 0∧s.h 2=(1,oX 26 (M.aF.en p0))∧s.h 4=(1,oB 26 [.nil])∧s.h 6=(1,oB 26 [.row 100010 1])∧s.h 100010=(1,oW 124 24 M.aA.en (List.set x1.Buckets x3.toNat x6))∧True) ?_
  rintro s13 ⟨f14,f15,f16,f17,f18,f19,f20,_⟩
  obtain ⟨x21,h22,h⟩:=bind_some h
  rcases bO (!x21) with b23 | b23
  ·replace h:=bB b23 h
   refine rn1 (aMv _ _ h22) ?_
   refine an (ct (sq ?_))
   obtain ⟨x24,h25,h⟩:=bind_some h
   refine rn1 (aNk _ _ h25) ?_
   refine an (rt ?_)
   cases h
   simp [Ret,TB,EN, *]
  replace h:=bA b23 h
  obtain ⟨x26,h27,h⟩:=bind_some h
  refine rn2 (aMv _ _ h22) (aMv _ _ h27) ?_
  refine an ?_
  rcases rQ (!x26) with b28 | b28
  ·replace h:=bA b28 h
   refine cf (sk (an (sq (rn ?_))))
   refine an (rt ?_)
   cases h
   simp [Ret,TB,EN, *]
  replace h:=bB b28 h
  refine ct (sq ?_)
  obtain ⟨x29,h30,h⟩:=bind_some h
  refine rn1 (aNk _ _ h30) ?_
  refine an (rt ?_)
  cases h
  simp [Ret,TB,EN, *]
 replace h:=bA b5 h
 refine cf (sq (rn ?_))
 refine an (sq (bk ?_))
 refine kX (fun m s=>∃v8:Int,s.t 2=vP 2 1 0∧s.t 3=vP 3 1 0∧s.t 4=vP 4 1 0∧s.t 6=vP 6 1 0∧s.t 8=vI v8∧s.h 2=(1,oX 26 (M.aF.en p0))∧s.h 3=(1,oX 124 (M.aA.en p1))∧s.h 4=(1,oB 26 [.nil])∧s.h 6=(1,oB 26 [.row 100010 1])∧s.h 100010=(1,oW 124 24 M.aA.en x1.Buckets)∧gA p0 p1 x1 m v8=some r) fuel ?_ ?_
 ·refine ⟨0,?_,?_,?_,?_,?_,?_,?_,?_,?_,?_,h⟩
  all_goals simp +decide only [F,reduceIte,Nat.reduceAdd,Bool.not_true,Bool.not_false,EN, *,-h]
 rintro mL1 s31 ⟨v8,f32,f33,f34,f35,f36,f37,f38,f39,f40,f41,h⟩
 rcases mL1 with _ | mL1
 ·exact absurd h (by simp [gA])
 simp only [gA] at h
 refine sq (sq ?_)
 rcases rQ (decide (v8<(List.length x1.Buckets:Int))) with b42 | b42
 ·replace h:=bA b42 h
  refine rd mixed ?_
  refine an (cf (xt (jD (jY (uX (an ?_))))))
  obtain ⟨x73,h74,h⟩:=bind_some h
  obtain ⟨x75,h76,h⟩:=bind_some h
  apply aBC mixed
  ·simp +decide only [E,reduceIte,Nat.reduceAdd,Nat.reduceMul,Bool.not_true,Bool.not_false,←List.map_take,←List.map_drop,L,aHH,aHK,nC,M.aA.en,EN,b5,f32,f33,f34,f35,f36,f37,f38,f39,f40,f41,b42]
   refine ⟨_,aPW _ _ h74,?_⟩
   try simp +decide only [E,reduceIte,Nat.reduceAdd,Nat.reduceMul,Bool.not_true,Bool.not_false,←List.map_take,←List.map_drop,L,aHH,aHK,nC,M.aA.en,EN,b5,f32,f33,f34,f35,f36,f37,f38,f39,f40,f41,b42]
   refine ⟨_,L222.aO7 _,?_⟩
   try simp +decide only [E,reduceIte,Nat.reduceAdd,Nat.reduceMul,Bool.not_true,Bool.not_false,←List.map_take,←List.map_drop,L,aHH,aHK,nC,M.aA.en,EN,b5,f32,f33,f34,f35,f36,f37,f38,f39,f40,f41,b42]
   refine ⟨by (have hb:=aAA h76);simp [M.aA.en,List.length_append] at hb ⊢ <;> omega,?_⟩
   try simp +decide only [E,reduceIte,Nat.reduceAdd,Nat.reduceMul,Bool.not_true,Bool.not_false,←List.map_take,←List.map_drop,L,aHH,aHK,nC,M.aA.en,EN,b5,f32,f33,f34,f35,f36,f37,f38,f39,f40,f41,b42]
   exact ⟨.mk (by decide +kernel),Is.mk _⟩
  refine an (sq (sq ?_))
  refine cu (fun s=>s.t 2=vP 2 1 0∧s.t 4=vP 4 1 0∧s.t 6=vP 6 1 0∧s.h 2=(1,oX 26 (M.aF.en p0))∧s.h 4=(1,oB 26 [.nil])∧s.h 6=(1,oB 26 [.row 100010 2])∧s.h 100010=(2,oW 124 24 M.aA.en (List.take v8.toNat x1.Buckets++([x73]++List.drop v8.toNat x1.Buckets)))∧True) ?_
  rintro s77 ⟨f78,f79,f80,f81,f82,f83,f84,_⟩
  obtain ⟨x85,h86,h⟩:=bind_some h
  rcases bO (!x85) with b87 | b87
  ·replace h:=bB b87 h
   refine rn1 (aMv _ _ h86) ?_
   refine an (ct (sq ?_))
   obtain ⟨x88,h89,h⟩:=bind_some h
   refine rn1 (aNk _ _ h89) ?_
   refine an (rt ?_)
   cases h
   simp [Ret,TB,EN, *]
  replace h:=bA b87 h
  obtain ⟨x90,h91,h⟩:=bind_some h
  refine rn2 (aMv _ _ h86) (aMv _ _ h91) ?_
  refine an ?_
  rcases rQ (!x90) with b92 | b92
  ·replace h:=bA b92 h
   refine cf (sk (an (sq (rn ?_))))
   refine an (rt ?_)
   cases h
   simp [Ret,TB,EN, *]
  replace h:=bB b92 h
  refine ct (sq ?_)
  obtain ⟨x93,h94,h⟩:=bind_some h
  refine rn1 (aNk _ _ h94) ?_
  refine an (rt ?_)
  cases h
  simp [Ret,TB,EN, *]
 replace h:=bB b42 h
 obtain ⟨x43,h44,h⟩:=bind_some h
 obtain ⟨q45,q46,q47⟩:=aR h44
 obtain ⟨x48,h49,h⟩:=bind_some h
 refine rd1 mixed (aQ4 _ _ _ h49) ?_
 refine an ?_
 rcases bO x48 with b50 | b50
 ·replace h:=bB b50 h
  refine ct (sk (an (bk (rn ?_))))
  refine ab ?_
  refine xY ⟨mL1,by omega,(IntKind.i64.wrap (v8+1)),?_,?_,?_,?_,?_,?_,?_,?_,?_,?_,h⟩
  all_goals simp +decide only [F,reduceIte,Nat.reduceAdd,Bool.not_true,Bool.not_false,EN, *,-h]
 replace h:=bA b50 h
 refine cf (xt (jD (jY (uX (an ?_)))))
 obtain ⟨x51,h52,h⟩:=bind_some h
 obtain ⟨x53,h54,h⟩:=bind_some h
 apply aBC mixed
 ·simp +decide only [E,reduceIte,Nat.reduceAdd,Nat.reduceMul,Bool.not_true,Bool.not_false,←List.map_take,←List.map_drop,L,aHH,aHK,nC,M.aA.en,EN,b5,f32,f33,f34,f35,f36,f37,f38,f39,f40,f41,b42,q45,q46,q47,b50]
  refine ⟨_,aPW _ _ h52,?_⟩
  try simp +decide only [E,reduceIte,Nat.reduceAdd,Nat.reduceMul,Bool.not_true,Bool.not_false,←List.map_take,←List.map_drop,L,aHH,aHK,nC,M.aA.en,EN,b5,f32,f33,f34,f35,f36,f37,f38,f39,f40,f41,b42,q45,q46,q47,b50]
  refine ⟨_,L222.aO7 _,?_⟩
  try simp +decide only [E,reduceIte,Nat.reduceAdd,Nat.reduceMul,Bool.not_true,Bool.not_false,←List.map_take,←List.map_drop,L,aHH,aHK,nC,M.aA.en,EN,b5,f32,f33,f34,f35,f36,f37,f38,f39,f40,f41,b42,q45,q46,q47,b50]
  refine ⟨by (have hb:=aAA h54);simp [M.aA.en,List.length_append] at hb ⊢ <;> omega,?_⟩
  try simp +decide only [E,reduceIte,Nat.reduceAdd,Nat.reduceMul,Bool.not_true,Bool.not_false,←List.map_take,←List.map_drop,L,aHH,aHK,nC,M.aA.en,EN,b5,f32,f33,f34,f35,f36,f37,f38,f39,f40,f41,b42,q45,q46,q47,b50]
  exact ⟨.mk (by decide +kernel),Is.mk _⟩
 refine an (sq (sq ?_))
 refine cu (fun s=>s.t 2=vP 2 1 0∧s.t 4=vP 4 1 0∧s.t 6=vP 6 1 0∧s.h 2=(1,oX 26 (M.aF.en p0))∧s.h 4=(1,oB 26 [.nil])∧s.h 6=(1,oB 26 [.row 100010 2])∧s.h 100010=(2,oW 124 24 M.aA.en (List.take v8.toNat x1.Buckets++([x51]++List.drop v8.toNat x1.Buckets)))∧True) ?_
 rintro s55 ⟨f56,f57,f58,f59,f60,f61,f62,_⟩
 obtain ⟨x63,h64,h⟩:=bind_some h
 rcases bO (!x63) with b65 | b65
 ·replace h:=bB b65 h
  refine rn1 (aMv _ _ h64) ?_
  refine an (ct (sq ?_))
  obtain ⟨x66,h67,h⟩:=bind_some h
  refine rn1 (aNk _ _ h67) ?_
  refine an (rt ?_)
  cases h
  simp [Ret,TB,EN, *]
 replace h:=bA b65 h
 obtain ⟨x68,h69,h⟩:=bind_some h
 refine rn2 (aMv _ _ h64) (aMv _ _ h69) ?_
 refine an ?_
 rcases rQ (!x68) with b70 | b70
 ·replace h:=bA b70 h
  refine cf (sk (an (sq (rn ?_))))
  refine an (rt ?_)
  cases h
  simp [Ret,TB,EN, *]
 replace h:=bB b70 h
 refine ct (sq ?_)
 obtain ⟨x71,h72,h⟩:=bind_some h
 refine rn1 (aNk _ _ h72) ?_
 refine an (rt ?_)
 cases h
 simp [Ret,TB,EN, *]
instance:bG 100 (type_of% @aTs):=⟨@aTs⟩
theorem c24 (p0 p1 p2 p3 p4 r) (h:pV p0 p1 p2 p3 p4=some r):Sc 24 [aX (M.World.en p0),aX (M.bJ.en p1),aI p2,aS p3,aI p4] [(true,M.World.rs r.1),rB r.2]:=by
 unfold pV at h
 exact sgo 72 [.cell 10 37,.tmp 11] Tryz.func24
instance:bG 24 (type_of% @c24):=⟨@c24⟩
end Go.Proofs.YtnhpbpnhmapeeaaGreat.gen
