/-
  Helper text. No conditions.
-/
import Derived.Test.YtblghjofnielnaaChannelsTi
namespace Go.Proofs.Ytblghjofnielnaa.gen
open Go Go.Sh
open Go.IntKind (i64)
set_option linter.unusedVariables false
set_option linter.unusedSimpArgs false
set_option maxRecDepth 20000
set_option maxHeartbeats 4000000
theorem c12 (p0 r) (h:gB p0=some r):Sc 12 [aL enB p0] [(false,[.edit (.newb 60 [.sl (List.map enB r.b),.int .i64 r.i,.int .i64 r.h])])]:=by
 unfold gB at h
 simp only [EN]
 refine sgN 32 [.tmp 2] Try.func12 fun base wd => ?_
 refine sq (rn ?_)
 refine an (sq (rn ?_))
 refine an (sq (sq (rn ?_)))
 refine an (bk ?_)
 refine jI (fun m s=>∃v3:Int,∃v4:Int,s.t 0=vL enB p0∧s.t 3=vI v3∧s.t 4=vI v4∧cX p0 m v3 v4=some r) fuel ?_ ?_
 ·refine ⟨(i64.wrap (193017+(List.length p0:Int))),0,?_,?_,?_,h⟩
  all_goals simp +decide only [F,reduceIte,Nat.reduceAdd,Bool.not_true,Bool.not_false,EN, *,-h]
 rintro mL1 s1 ⟨v3,v4,f2,f3,f4,h⟩
 rcases mL1 with _ | mL1
 ·exact absurd h (by simp [cX])
 simp only [cX] at h
 refine sq (sq ?_)
 rcases pB (decide (v4<(List.length p0:Int))) with b5 | b5
 ·replace h:=cO b5 h
  refine rn ?_
  refine an (cf (xt (iR (iQ (mC (an (sq (rn ?_))))))))
  refine an (rt ?_)
  cases h
  exact ⟨31,((s1.h 31).1+1),by simp +decide only [fQ,F,E,L,reduceIte,EN,TB, *],by simp +decide only [F,reduceIte,EN, *]<;>rfl⟩
 replace h:=cP b5 h
 refine rn ?_
 refine an ?_
 rcases pB (decide (v4<4000)) with b6 | b6
 ·replace h:=cO b6 h
  refine cf (xt (iR (iQ (mC (an (sq (rn ?_)))))))
  refine an (rt ?_)
  cases h
  exact ⟨31,((s1.h 31).1+1),by simp +decide only [fQ,F,E,L,reduceIte,EN,TB, *],by simp +decide only [F,reduceIte,EN, *]<;>rfl⟩
 replace h:=cP b6 h
 refine ct (sk (an (sq (bk ?_))))
 obtain ⟨x7,h8,h⟩:=bind_some h
 obtain ⟨q9,q10,q11⟩:=fE h8
 refine rn ?_
 refine ab (an (rn ?_))
 refine eP ⟨mL1,by omega,(i64.wrap (BitVec.ofInt (IntKind.i64.bits) (i64.wrap ((i64.wrap ((i64.wrap (v3*137))+(i64.wrap x7)))+11))&&&BitVec.ofInt (IntKind.i64.bits) 1073741823).toNat),(i64.wrap (v4+1)),?_,?_,?_,h⟩
 all_goals simp +decide only [F,reduceIte,Nat.reduceAdd,Bool.not_true,Bool.not_false,EN, *,-h]
instance:gR 12 (type_of% @c12):=⟨@c12⟩
theorem c31 (p0 r) (h:dJ p0=some r):Sc 31 [(false,[.ptr [.sl (List.map enB p0.b),.int .i64 p0.i,.int .i64 p0.h]])] [(false,[.edit (.lend 60 [.int .i64 r.1,.int .i64 r.2.1])]),rI r.2.2]:=by
 unfold dJ at h
 simp only [EN]
 refine sgB 58 [.tmp 2] Try.func31 fun base wd B0 u0 hw0 => ?_
 refine gU (J:=fun s=>s.t 0=vP 7059000 1 0∧s.h 7059000=(1,oB 60 [.old B0 (.sl (List.map enB p0.b)) (some u0),cI p0.i,cI p0.h])∧True) ?_ ?_
 ·refine ⟨?_,?_,trivial⟩<;>(try simp only [LN,List.map_cons,List.map_nil])<;>rfl
 rintro s1 ⟨f2,f3,_⟩
 refine sq (rn ?_)
 refine an (sq (rn ?_))
 refine an (sq ?_)
 apply mU mixed
 ·simp +decide only [E,reduceIte,Nat.reduceAdd,Nat.reduceMul,Bool.not_true,Bool.not_false,Int.reduceLT,aAi,L,ti3,aBD,EN,f2,f3]
  exact ⟨.mk (by decide +kernel),Is.mk _⟩
 refine an (sq (sq (rd mixed ?_)))
 refine an ?_
 rcases pB (decide (p0.i<(List.length p0.b:Int))) with b4 | b4
 ·replace h:=cO b4 h
  refine cf (sk (an (sq (rn ?_))))
  refine an (rt ?_)
  cases h
  simp [lA,Ret,TB,EN, *]
 replace h:=cP b4 h
 refine ct (sq ?_)
 obtain ⟨x5,h6,h⟩:=bind_some h
 obtain ⟨q7,q8,q9⟩:=fE h6
 refine rd mixed ?_
 refine an (rn ?_)
 refine an (sq (rn ?_))
 refine an (rt ?_)
 cases h
 simp [lA,Ret,TB,EN, *]
instance:gR 31 (type_of% @c31):=⟨@c31⟩
theorem c15 (p0 p1 r) (h:aE p0 p1=some r):Sc 15 [(false,[.ptr [.sl (List.map enB p0.b),.int .i64 p0.i,.int .i64 p0.h]]),aI p1] [(false,[.edit (.lend 60 [.int .i64 r.1,.int .i64 r.2.1])]),rI r.2.2]:=by
 unfold aE at h
 simp only [EN]
 refine sgB 31 [.tmp 4] Try.func15 fun base wd B0 u0 hw0 => ?_
 refine gU (J:=fun s=>s.t 0=vP 7059000 1 0∧s.t 1=vI p1∧s.h 7059000=(1,oB 60 [.old B0 (.sl (List.map enB p0.b)) (some u0),cI p0.i,cI p0.h])∧True) ?_ ?_
 ·refine ⟨?_,?_,?_,trivial⟩<;>(try simp only [LN,List.map_cons,List.map_nil])<;>rfl
 rintro s1 ⟨f2,f3,f4,_⟩
 refine sq (rn ?_)
 refine an (sq (sq (rn ?_)))
 refine an ?_
 rcases fK (decide (p1≤0)) with b5 | b5
 ·replace h:=cP b5 h
  refine ct (sq (rn ?_))
  refine an (rt ?_)
  cases h
  simp [lA,Ret,TB,EN, *]
 replace h:=cO b5 h
 refine cf (sk (an (sq (sq (rn ?_)))))
 refine an ?_
 rcases fK (decide (p1≤256)) with b6 | b6
 ·replace h:=cP b6 h
  refine ct (sq ?_)
  obtain ⟨x7,h8,h⟩:=bind_some h
  rcases fK (decide (p1=0)) with b9 | b9
  ·replace h:=cP b9 h
   cases h
  replace h:=cO b9 h
  apply eT
  ·simp +decide only [E,reduceIte,Nat.reduceAdd,Nat.reduceMul,Bool.not_true,Bool.not_false,xV,L,EN,f2,f3,f4,b5,b6,b9]
   refine ⟨_,c31 _ _ h8,?_⟩
   try simp +decide only [E,reduceIte,Nat.reduceAdd,Nat.reduceMul,Bool.not_true,Bool.not_false,xV,L,EN,f2,f3,f4,b5,b6,b9]
   exact Is.mk _
  refine an (rt ?_)
  cases h
  simp [lA,Ret,TB,EN, *]
 replace h:=cO b6 h
 refine cf (sk (an (sq ?_)))
 obtain ⟨x10,h11,h⟩:=bind_some h
 refine rn1 (c31 _ _ h11) ?_
 refine an (sq ?_)
 refine cu (fun s=>s.t 0=vP 7059000 1 0∧s.t 1=vI p1∧s.t 5=vI x10.2.2∧s.h 7059000=(1,oB 60 [.old B0 (.sl (List.map enB p0.b)) (some u0),cI x10.1,cI x10.2.1])∧True) ?_
 rintro s12 ⟨f13,f14,f15,f16,_⟩
 obtain ⟨x17,h18,h⟩:=bind_some h
 refine rn1 (c31 _ _ h18) ?_
 refine an (sq ?_)
 refine cu (fun s=>s.t 0=vP 7059000 1 0∧s.t 1=vI p1∧s.t 5=vI x10.2.2∧s.t 6=vI x17.2.2∧s.h 7059000=(1,oB 60 [.old B0 (.sl (List.map enB p0.b)) (some u0),cI x17.1,cI x17.2.1])∧True) ?_
 rintro s19 ⟨f20,f21,f22,f23,f24,_⟩
 obtain ⟨x25,h26,h⟩:=bind_some h
 refine rn1 (c31 _ _ h26) ?_
 refine an (sq ?_)
 rcases fK (decide (p1=0)) with b27 | b27
 ·replace h:=cP b27 h
  cases h
 replace h:=cO b27 h
 apply eT
 ·simp +decide only [E,reduceIte,Nat.reduceAdd,Nat.reduceMul,Bool.not_true,Bool.not_false,xV,L,EN,b5,b6,f20,f21,f22,f23,f24,b27]
  exact Is.mk _
 refine an (rt ?_)
 cases h
 simp [lA,Ret,TB,EN, *]
instance:gR 15 (type_of% @c15):=⟨@c15⟩
theorem c28 (p0 p1 r) (h:gA p0 p1=some r):Sc 28 [(false,[.ptr [.sl (List.map enB p0.b),.int .i64 p0.i,.int .i64 p0.h]]),aL enI p1] [(false,[.edit (.lend 60 [.int .i64 r.1,.int .i64 r.2.1])]),rI r.2.2]:=by
 unfold gA at h
 simp only [EN]
 refine sgB 12 [.tmp 4] Try.func28 fun base wd B0 u0 hw0 => ?_
 refine gU (J:=fun s=>s.t 0=vP 7059000 1 0∧s.t 1=vL enI p1∧s.h 7059000=(1,oB 60 [.old B0 (.sl (List.map enB p0.b)) (some u0),cI p0.i,cI p0.h])∧True) ?_ ?_
 ·refine ⟨?_,?_,?_,trivial⟩<;>(try simp only [LN,List.map_cons,List.map_nil])<;>rfl
 rintro s1 ⟨f2,f3,f4,_⟩
 refine sq (rn ?_)
 refine an (sq ?_)
 obtain ⟨x5,h6,h⟩:=bind_some h
 obtain ⟨x7,h8,h⟩:=bind_some h
 obtain ⟨q9,q10,q11⟩:=fE h8
 refine rn1 (c15 _ _ _ h6) ?_
 refine an (rt ?_)
 cases h
 simp [lA,Ret,TB,EN, *]
instance:gR 28 (type_of% @c28):=⟨@c28⟩
theorem c13 (p0 r) (h:dS p0=some r):Sc 13 [(false,[.ptr [.sl (List.map enB p0.b),.int .i64 p0.i,.int .i64 p0.h]])] [(false,[.edit (.lend 60 [.int .i64 r.1,.int .i64 r.2.1])]),(true,M.Channel.rs r.2.2)]:=by
 unfold dS at h
 simp only [EN]
 refine sgB 28 [.cell 2 26] Try.func13 fun base wd B0 u0 hw0 => ?_
 refine gU (J:=fun s=>s.t 0=vP 7059000 1 0∧s.h 7059000=(1,oB 60 [.old B0 (.sl (List.map enB p0.b)) (some u0),cI p0.i,cI p0.h])∧True) ?_ ?_
 ·refine ⟨?_,?_,trivial⟩<;>(try simp only [LN,List.map_cons,List.map_nil])<;>rfl
 rintro s1 ⟨f2,f3,_⟩
 refine sq (rn ?_)
 refine an (sq (rn ?_))
 refine an (sq (sq ?_))
 obtain ⟨x4,h5,h⟩:=bind_some h
 refine rn1 (c28 _ _ _ h5) ?_
 refine an (bk ?_)
 refine cu (fun s=>s.t 0=vP 7059000 1 0∧s.t 2=vP 2 ((s1.h 2).1+1) 0∧s.t 3=vP 3 ((s1.h 3).1+1) 0∧s.t 4=vI x4.2.2∧s.h 2=(((s1.h 2).1+1),oB 26 [.nil])∧s.h 3=(((s1.h 3).1+1),oB 26 [.nil])∧s.h 7059000=(1,oB 60 [.old B0 (.sl (List.map enB p0.b)) (some u0),cI x4.1,cI x4.2.1])∧True) ?_
 rintro s6 ⟨f7,f8,f9,f10,f11,f12,f13,_⟩
 refine tZ ((Gho.aAs (b:=3) (c:=0) (K:=7050000) 40 3 (by simp +decide only [F,reduceIte,Nat.reduceAdd,Bool.not_true,Bool.not_false,EN, *,-h];rfl) rfl (by decide))) ?_
 refine mL (fun m s=>∃v4:Int,∃w7059000_1:Int,∃w7059000_2:Int,∃r50000:List M.bB,∃u50000:Nat,s.t 0=vP 7059000 1 0∧s.t 2=vP 2 ((s1.h 2).1+1) 0∧s.t 3=vP 3 ((s1.h 3).1+1) 0∧s.t 4=vI v4∧s.h 2=(((s1.h 2).1+1),oB 26 [.nil])∧s.h 3=(((s1.h 3).1+1),oB 26 [.row 7050000 u50000])∧s.h 7050000=(u50000,oW 40 3 M.bB.en r50000)∧s.h 7059000=(1,oB 60 [.old B0 (.sl (List.map enB p0.b)) (some u0),cI w7059000_1,cI w7059000_2])∧bE p0 m v4 w7059000_1 w7059000_2 r50000=some r) fuel ?_ ?_
 ·refine ⟨x4.2.2,x4.1,x4.2.1,([]:List M.bB),((s6.h 7050000).1+1),?_,?_,?_,?_,?_,?_,?_,?_,h⟩
  all_goals simp +decide only [F,reduceIte,Nat.reduceAdd,Bool.not_true,Bool.not_false,EN, *,-h]
 rintro mL1 s14 ⟨v4,w7059000_1,w7059000_2,r50000,u50000,f15,f16,f17,f18,f19,f20,f21,f22,h⟩
 rcases mL1 with _ | mL1
 ·exact absurd h (by simp [bE])
 simp only [bE] at h
 refine sq (sq (rn ?_))
 refine an ?_
 rcases pB (decide (v4>0)) with b23 | b23
 ·replace h:=cO b23 h
  refine cf (xt (iR (iQ (mC (an (sq (rn ?_)))))))
  refine an (rt ?_)
  cases h
  simp [lA,Ret,TB,EN, *]
 replace h:=cP b23 h
 refine ct (sk (an (sq (bk ?_))))
 obtain ⟨x24,h25,h⟩:=bind_some h
 obtain ⟨x26,h27,h⟩:=bind_some h
 obtain ⟨x28,h29,h⟩:=bind_some h
 obtain ⟨x30,h31,h⟩:=bind_some h
 apply mU mixed
 ·simp +decide only [E,reduceIte,Nat.reduceAdd,Nat.reduceMul,Bool.not_true,Bool.not_false,L,qD,yE,pR,M.bB.en,EN,f15,f16,f17,f18,f19,f20,f21,f22,b23]
  refine ⟨_,c15 _ _ _ h25,?_⟩
  try simp +decide only [E,reduceIte,Nat.reduceAdd,Nat.reduceMul,Bool.not_true,Bool.not_false,L,qD,yE,pR,M.bB.en,EN,f15,f16,f17,f18,f19,f20,f21,f22,b23]
  refine ⟨_,c15 _ _ _ h27,?_⟩
  try simp +decide only [E,reduceIte,Nat.reduceAdd,Nat.reduceMul,Bool.not_true,Bool.not_false,L,qD,yE,pR,M.bB.en,EN,f15,f16,f17,f18,f19,f20,f21,f22,b23]
  refine ⟨_,c15 _ _ _ h29,?_⟩
  try simp +decide only [E,reduceIte,Nat.reduceAdd,Nat.reduceMul,Bool.not_true,Bool.not_false,L,qD,yE,pR,M.bB.en,EN,f15,f16,f17,f18,f19,f20,f21,f22,b23]
  refine ⟨by (have hb:=eA h31);simp [M.bB.en,List.length_append,aG] at hb ⊢ <;> omega,?_⟩
  try simp +decide only [E,reduceIte,Nat.reduceAdd,Nat.reduceMul,Bool.not_true,Bool.not_false,L,qD,yE,pR,M.bB.en,EN,f15,f16,f17,f18,f19,f20,f21,f22,b23]
  exact ⟨.mk (by decide +kernel),Is.mk _⟩
 refine ab (an ?_)
 refine cu (fun s=>s.t 0=vP 7059000 1 0∧s.t 2=vP 2 ((s1.h 2).1+1) 0∧s.t 3=vP 3 ((s1.h 3).1+1) 0∧s.t 4=vI v4∧s.h 2=(((s1.h 2).1+1),oB 26 [.nil])∧s.h 3=(((s1.h 3).1+1),oB 26 [.row 7050000 (u50000+1)])∧s.h 7050000=((u50000+1),oW 40 3 M.bB.en (r50000++[(⟨(i64.wrap (1+x24.2.2)),(i64.wrap (1+x26.2.2)),x28.2.2⟩:M.bB)]))∧s.h 7059000=(1,oB 60 [.old B0 (.sl (List.map enB p0.b)) (some u0),cI x28.1,cI x28.2.1])∧True) ?_
 rintro s32 ⟨f33,f34,f35,f36,f37,f38,f39,f40,_⟩
 refine rn ?_
 refine eP ⟨_,(Gho.kP (b:=3) (c:=0) (K:=7050000) (j:=7050000) (by simp +decide only [F,reduceIte,Nat.reduceAdd,Bool.not_true,Bool.not_false,EN, *,-h];rfl) rfl (by simp +decide only [F,reduceIte,Nat.reduceAdd,Bool.not_true,Bool.not_false,EN, *,-h];rfl) (by decide)),mL1,by omega,(i64.wrap (v4-1)),x28.1,x28.2.1,(r50000++[(⟨(i64.wrap (1+x24.2.2)),(i64.wrap (1+x26.2.2)),x28.2.2⟩:M.bB)]),((u50000+1)+1),?_,?_,?_,?_,?_,?_,?_,?_,h⟩
 all_goals simp +decide only [F,reduceIte,Nat.reduceAdd,Bool.not_true,Bool.not_false,EN, *,-h]
instance:gR 13 (type_of% @c13):=⟨@c13⟩
theorem c30 (p0 p1 r) (h:cV p0 p1=some r):Sc 30 [(false,[.ptr [.sl (List.map enB p0.b),.int .i64 p0.i,.int .i64 p0.h]]),aL enS p1] [(false,[.edit (.lend 60 [.int .i64 r.1,.int .i64 r.2.1])]),rS r.2.2]:=by
 unfold cV at h
 simp only [EN]
 refine sgB 12 [.tmp 4] Try.func30 fun base wd B0 u0 hw0 => ?_
 refine gU (J:=fun s=>s.t 0=vP 7059000 1 0∧s.t 1=vL enS p1∧s.h 7059000=(1,oB 60 [.old B0 (.sl (List.map enB p0.b)) (some u0),cI p0.i,cI p0.h])∧True) ?_ ?_
 ·refine ⟨?_,?_,?_,trivial⟩<;>(try simp only [LN,List.map_cons,List.map_nil])<;>rfl
 rintro s1 ⟨f2,f3,f4,_⟩
 refine sq (rn ?_)
 refine an (sq ?_)
 obtain ⟨x5,h6,h⟩:=bind_some h
 obtain ⟨x7,h8,h⟩:=bind_some h
 obtain ⟨q9,q10,q11⟩:=fE h8
 refine rn1 (c15 _ _ _ h6) ?_
 refine an (rt ?_)
 cases h
 simp [lA,Ret,TB,EN, *]
instance:gR 30 (type_of% @c30):=⟨@c30⟩
theorem c32 (p0 r) (h:eE p0=some r):Sc 32 [(false,[.ptr [.sl (List.map enB p0.b),.int .i64 p0.i,.int .i64 p0.h]])] [(false,[.edit (.lend 60 [.int .i64 r.1,.int .i64 r.2.1])]),rS r.2.2]:=by
 unfold eE at h
 simp only [EN]
 refine sgB 6 [.tmp 2] Try.func32 fun base wd B0 u0 hw0 => ?_
 refine gU (J:=fun s=>s.t 0=vP 7059000 1 0∧s.h 7059000=(1,oB 60 [.old B0 (.sl (List.map enB p0.b)) (some u0),cI p0.i,cI p0.h])∧True) ?_ ?_
 ·refine ⟨?_,?_,trivial⟩<;>(try simp only [LN,List.map_cons,List.map_nil])<;>rfl
 rintro s1 ⟨f2,f3,_⟩
 refine sq (rn ?_)
 refine an (sq ?_)
 obtain ⟨x4,h5,h⟩:=bind_some h
 refine rn1 (c30 _ _ _ h5) ?_
 refine an (rt ?_)
 cases h
 simp [lA,Ret,TB,EN, *]
instance:gR 32 (type_of% @c32):=⟨@c32⟩
theorem c33 (p0 p1 r) (h:fO p0 p1=some r):Sc 33 [(false,[.ptr [.sl (List.map enB p0.b),.int .i64 p0.i,.int .i64 p0.h]]),aI p1] [(false,[.edit (.lend 60 [.int .i64 r.1,.int .i64 r.2.1])]),rB r.2.2]:=by
 unfold fO at h
 simp only [EN]
 refine sgB 9 [.tmp 4] Try.func33 fun base wd B0 u0 hw0 => ?_
 refine gU (J:=fun s=>s.t 0=vP 7059000 1 0∧s.t 1=vI p1∧s.h 7059000=(1,oB 60 [.old B0 (.sl (List.map enB p0.b)) (some u0),cI p0.i,cI p0.h])∧True) ?_ ?_
 ·refine ⟨?_,?_,?_,trivial⟩<;>(try simp only [LN,List.map_cons,List.map_nil])<;>rfl
 rintro s1 ⟨f2,f3,f4,_⟩
 refine sq (rn ?_)
 refine an (sq ?_)
 obtain ⟨x5,h6,h⟩:=bind_some h
 refine rn1 (c15 _ _ _ h6) ?_
 refine an (rt ?_)
 cases h
 simp [lA,Ret,TB,EN, *]
instance:gR 33 (type_of% @c33):=⟨@c33⟩
theorem c46 (p0 r) (h:dZ p0=some r):Sc 46 [(false,[.ptr [.sl (List.map enB p0.b),.int .i64 p0.i,.int .i64 p0.h]])] [(false,[.edit (.lend 60 [.int .i64 r.1,.int .i64 r.2.1])]),rS r.2.2]:=by
 unfold dZ at h
 simp only [EN]
 refine sgB 6 [.tmp 2] Try.func46 fun base wd B0 u0 hw0 => ?_
 refine gU (J:=fun s=>s.t 0=vP 7059000 1 0∧s.h 7059000=(1,oB 60 [.old B0 (.sl (List.map enB p0.b)) (some u0),cI p0.i,cI p0.h])∧True) ?_ ?_
 ·refine ⟨?_,?_,trivial⟩<;>(try simp only [LN,List.map_cons,List.map_nil])<;>rfl
 rintro s1 ⟨f2,f3,_⟩
 refine sq (rn ?_)
 refine an (sq ?_)
 obtain ⟨x4,h5,h⟩:=bind_some h
 refine rn1 (c30 _ _ _ h5) ?_
 refine an (rt ?_)
 cases h
 simp [lA,Ret,TB,EN, *]
instance:gR 46 (type_of% @c46):=⟨@c46⟩
theorem c40 (p0 p1 r) (h:eH p0 p1=some r):Sc 40 [(false,[.ptr [.sl (List.map enB p0.b),.int .i64 p0.i,.int .i64 p0.h]]),aI p1] [(false,[.edit (.lend 60 [.int .i64 r.1,.int .i64 r.2.1])]),(true,M.Instr.rs r.2.2)]:=by
 unfold eH at h
 simp only [EN]
 refine sgB 59 [.cell 4 77] Try.func40 fun base wd B0 u0 hw0 => ?_
 refine gU (J:=fun s=>s.t 0=vP 7059000 1 0∧s.t 1=vI p1∧s.h 7059000=(1,oB 60 [.old B0 (.sl (List.map enB p0.b)) (some u0),cI p0.i,cI p0.h])∧True) ?_ ?_
 ·refine ⟨?_,?_,?_,trivial⟩<;>(try simp only [LN,List.map_cons,List.map_nil])<;>rfl
 rintro s1 ⟨f2,f3,f4,_⟩
 refine sq (rn ?_)
 refine an (sq ?_)
 obtain ⟨x5,h6,h⟩:=bind_some h
 obtain ⟨x7,h8,h⟩:=bind_some h
 refine rn2 (c15 _ _ _ h6) (c15 _ _ _ h8) ?_
 refine an (sq (sq ?_))
 refine cu (fun s=>s.t 0=vP 7059000 1 0∧s.t 1=vI p1∧s.t 4=vP 4 ((s1.h 4).1+1) 0∧s.t 5=vP 5 ((s1.h 5).1+1) 0∧s.h 4=(((s1.h 4).1+1),oB 77 [cI 0,cI 0,cI 0,cS (⟨#[]⟩:ByteArray)])∧s.h 5=(((s1.h 5).1+1),oB 77 [cI (i64.wrap (1+x5.2.2)),cI x7.2.2,cI 0,cS (⟨#[]⟩:ByteArray)])∧s.h 7059000=(1,oB 60 [.old B0 (.sl (List.map enB p0.b)) (some u0),cI x7.1,cI x7.2.1])∧True) ?_
 rintro s9 ⟨f10,f11,f12,f13,f14,f15,f16,_⟩
 refine rn ?_
 refine an (bk (sq (rn ?_)))
 refine an ?_
 rcases fK ((i64.wrap (1+x5.2.2))==1) with b17 | b17
 ·replace h:=cP b17 h
  refine ct ?_
  obtain ⟨x18,h19,h⟩:=bind_some h
  refine rn1 (c15 _ _ _ h19) ?_
  refine ab (an (sq (rn ?_)))
  refine an (rt ?_)
  cases h
  simp [lA,Ret,TB,EN, *]
 replace h:=cO b17 h
 refine cf (sq (rn ?_))
 refine an ?_
 rcases fK ((i64.wrap (1+x5.2.2))==2) with b20 | b20
 ·replace h:=cP b20 h
  refine ct ?_
  obtain ⟨x21,h22,h⟩:=bind_some h
  refine rn1 (c15 _ _ _ h22) ?_
  refine ab (an (sq (rn ?_)))
  refine an (rt ?_)
  cases h
  simp [lA,Ret,TB,EN, *]
 replace h:=cO b20 h
 refine cf (sq (rn ?_))
 refine an ?_
 rcases fK ((i64.wrap (1+x5.2.2))==3) with b23 | b23
 ·replace h:=cP b23 h
  refine ct ?_
  obtain ⟨x24,h25,h⟩:=bind_some h
  refine rn1 (c15 _ _ _ h25) ?_
  refine ab (an (sq (rn ?_)))
  refine an (rt ?_)
  cases h
  simp [lA,Ret,TB,EN, *]
 replace h:=cO b23 h
 refine cf (sq (rn ?_))
 refine an ?_
 rcases fK ((i64.wrap (1+x5.2.2))==4) with b26 | b26
 ·replace h:=cP b26 h
  refine ct (sq ?_)
  obtain ⟨x27,h28,h⟩:=bind_some h
  refine rn1 (c15 _ _ _ h28) ?_
  refine an ?_
  refine cu (fun s=>s.t 0=vP 7059000 1 0∧s.t 4=vP 4 ((s1.h 4).1+1) 0∧s.t 5=vP 5 ((s1.h 5).1+1) 0∧s.h 4=(((s1.h 4).1+1),oB 77 [cI 0,cI 0,cI 0,cS (⟨#[]⟩:ByteArray)])∧s.h 5=(((s1.h 5).1+1),oB 77 [cI (i64.wrap (1+x5.2.2)),cI x7.2.2,cI x27.2.2,cS (⟨#[]⟩:ByteArray)])∧s.h 7059000=(1,oB 60 [.old B0 (.sl (List.map enB p0.b)) (some u0),cI x27.1,cI x27.2.1])∧True) ?_
  rintro s29 ⟨f30,f31,f32,f33,f34,f35,_⟩
  refine rn ?_
  refine ab (an (sq (rn ?_)))
  refine an (rt ?_)
  cases h
  simp [lA,Ret,TB,EN, *]
 replace h:=cO b26 h
 refine cf (sq (rn ?_))
 refine an ?_
 rcases fK ((i64.wrap (1+x5.2.2))==5) with b36 | b36
 ·replace h:=cP b36 h
  refine ct ?_
  obtain ⟨x37,h38,h⟩:=bind_some h
  refine rn1 (c30 _ _ _ h38) ?_
  refine ab (an (sq (rn ?_)))
  refine an (rt ?_)
  cases h
  simp [lA,Ret,TB,EN, *]
 replace h:=cO b36 h
 refine cf (sq (sq (rn ?_)))
 refine an ?_
 rcases fK ((i64.wrap (1+x5.2.2))==6) with b39 | b39
 ·replace h:=cP b39 h
  refine ct (sk (an (ct (sq ?_))))
  obtain ⟨x40,h41,h⟩:=bind_some h
  refine rn1 (c15 _ _ _ h41) ?_
  refine an ?_
  refine cu (fun s=>s.t 0=vP 7059000 1 0∧s.t 4=vP 4 ((s1.h 4).1+1) 0∧s.t 5=vP 5 ((s1.h 5).1+1) 0∧s.h 4=(((s1.h 4).1+1),oB 77 [cI 0,cI 0,cI 0,cS (⟨#[]⟩:ByteArray)])∧s.h 5=(((s1.h 5).1+1),oB 77 [cI (i64.wrap (1+x5.2.2)),cI x7.2.2,cI x40.2.2,cS (⟨#[]⟩:ByteArray)])∧s.h 7059000=(1,oB 60 [.old B0 (.sl (List.map enB p0.b)) (some u0),cI x40.1,cI x40.2.1])∧True) ?_
  rintro s42 ⟨f43,f44,f45,f46,f47,f48,_⟩
  obtain ⟨x49,h50,h⟩:=bind_some h
  refine rn1 (c46 _ _ h50) ?_
  refine ab (an (sq (rn ?_)))
  refine an (rt ?_)
  cases h
  simp [lA,Ret,TB,EN, *]
 replace h:=cO b39 h
 refine cf (sq (rn ?_))
 refine an ?_
 rcases fK ((i64.wrap (1+x5.2.2))==7) with b51 | b51
 ·replace h:=cP b51 h
  refine ct (sk (an (ct (sq ?_))))
  obtain ⟨x52,h53,h⟩:=bind_some h
  refine rn1 (c15 _ _ _ h53) ?_
  refine an ?_
  refine cu (fun s=>s.t 0=vP 7059000 1 0∧s.t 4=vP 4 ((s1.h 4).1+1) 0∧s.t 5=vP 5 ((s1.h 5).1+1) 0∧s.h 4=(((s1.h 4).1+1),oB 77 [cI 0,cI 0,cI 0,cS (⟨#[]⟩:ByteArray)])∧s.h 5=(((s1.h 5).1+1),oB 77 [cI (i64.wrap (1+x5.2.2)),cI x7.2.2,cI x52.2.2,cS (⟨#[]⟩:ByteArray)])∧s.h 7059000=(1,oB 60 [.old B0 (.sl (List.map enB p0.b)) (some u0),cI x52.1,cI x52.2.1])∧True) ?_
  rintro s54 ⟨f55,f56,f57,f58,f59,f60,_⟩
  obtain ⟨x61,h62,h⟩:=bind_some h
  refine rn1 (c46 _ _ h62) ?_
  refine ab (an (sq (rn ?_)))
  refine an (rt ?_)
  cases h
  simp [lA,Ret,TB,EN, *]
 replace h:=cO b51 h
 refine cf (rn ?_)
 refine an ?_
 rcases pB ((i64.wrap (1+x5.2.2))==8) with b63 | b63
 ·replace h:=cO b63 h
  refine cf (sq (rn ?_))
  refine an ?_
  rcases pB ((i64.wrap (1+x5.2.2))==9) with b75 | b75
  ·replace h:=cO b75 h
   refine cf (sk (ab (an (sq (rn ?_)))))
   refine an (rt ?_)
   cases h
   simp [lA,Ret,TB,EN, *]
  replace h:=cP b75 h
  refine ct (rn ?_)
  refine ab (an (sq (rn ?_)))
  refine an (rt ?_)
  cases h
  simp [lA,Ret,TB,EN, *]
 replace h:=cP b63 h
 refine ct (sq ?_)
 obtain ⟨x64,h65,h⟩:=bind_some h
 refine rn1 (c15 _ _ _ h65) ?_
 refine an ?_
 refine cu (fun s=>s.t 0=vP 7059000 1 0∧s.t 4=vP 4 ((s1.h 4).1+1) 0∧s.t 5=vP 5 ((s1.h 5).1+1) 0∧s.h 4=(((s1.h 4).1+1),oB 77 [cI 0,cI 0,cI 0,cS (⟨#[]⟩:ByteArray)])∧s.h 5=(((s1.h 5).1+1),oB 77 [cI (i64.wrap (1+x5.2.2)),cI x7.2.2,cI x64.2.2,cS (⟨#[]⟩:ByteArray)])∧s.h 7059000=(1,oB 60 [.old B0 (.sl (List.map enB p0.b)) (some u0),cI x64.1,cI x64.2.1])∧True) ?_
 rintro s66 ⟨f67,f68,f69,f70,f71,f72,_⟩
 obtain ⟨x73,h74,h⟩:=bind_some h
 refine rn1 (c46 _ _ h74) ?_
 refine ab (an (sq (rn ?_)))
 refine an (rt ?_)
 cases h
 simp [lA,Ret,TB,EN, *]
instance:gR 40 (type_of% @c40):=⟨@c40⟩
theorem c35 (p0 r) (h:dB p0=some r):Sc 35 [(false,[.ptr [.sl (List.map enB p0.b),.int .i64 p0.i,.int .i64 p0.h]])] [(false,[.edit (.lend 60 [.int .i64 r.1,.int .i64 r.2.1])]),rW 77 4 M.Instr.en r.2.2]:=by
 unfold dB at h
 simp only [EN]
 refine sgB 21 [.tmp 2] Try.func35 fun base wd B0 u0 hw0 => ?_
 refine gU (J:=fun s=>s.t 0=vP 7059000 1 0∧s.h 7059000=(1,oB 60 [.old B0 (.sl (List.map enB p0.b)) (some u0),cI p0.i,cI p0.h])∧True) ?_ ?_
 ·refine ⟨?_,?_,trivial⟩<;>(try simp only [LN,List.map_cons,List.map_nil])<;>rfl
 rintro s1 ⟨f2,f3,_⟩
 refine sq (rn ?_)
 refine an (sq ?_)
 obtain ⟨x4,h5,h⟩:=bind_some h
 refine rn1 (c15 _ _ _ h5) ?_
 refine an (sq ?_)
 refine cu (fun s=>s.t 0=vP 7059000 1 0∧s.t 3=vI x4.2.2∧s.h 7059000=(1,oB 60 [.old B0 (.sl (List.map enB p0.b)) (some u0),cI x4.1,cI x4.2.1])∧True) ?_
 rintro s6 ⟨f7,f8,f9,_⟩
 refine rn ?_
 refine an (sq (sq ?_))
 refine cu (fun s=>s.t 0=vP 7059000 1 0∧s.t 3=vI x4.2.2∧s.t 4=vR 100008 ((s6.h 100008).1+1)∧s.h 100008=(((s6.h 100008).1+1),oW 77 4 M.Instr.en ([]:List M.Instr))∧s.h 7059000=(1,oB 60 [.old B0 (.sl (List.map enB p0.b)) (some u0),cI x4.1,cI x4.2.1])∧True) ?_
 rintro s10 ⟨f11,f12,f13,f14,f15,_⟩
 refine rn ?_
 refine an (bk ?_)
 refine jI (fun m s=>∃v5:Int,∃r8:List M.Instr,∃w7059000_1:Int,∃w7059000_2:Int,∃u8:Nat,s.t 0=vP 7059000 1 0∧s.t 3=vI x4.2.2∧s.t 4=vR 100008 u8∧s.t 5=vI v5∧s.h 100008=(u8,oW 77 4 M.Instr.en r8)∧s.h 7059000=(1,oB 60 [.old B0 (.sl (List.map enB p0.b)) (some u0),cI w7059000_1,cI w7059000_2])∧bI p0 x4 m v5 r8 w7059000_1 w7059000_2=some r) fuel ?_ ?_
 ·refine ⟨0,([]:List M.Instr),x4.1,x4.2.1,((s6.h 100008).1+1),?_,?_,?_,?_,?_,?_,h⟩
  all_goals simp +decide only [F,reduceIte,Nat.reduceAdd,Bool.not_true,Bool.not_false,EN, *,-h]
 rintro mL1 s16 ⟨v5,r8,w7059000_1,w7059000_2,u8,f17,f18,f19,f20,f21,f22,h⟩
 rcases mL1 with _ | mL1
 ·exact absurd h (by simp [bI])
 simp only [bI] at h
 refine sq (sq (rn ?_))
 refine an ?_
 rcases pB (decide (v5<x4.2.2)) with b23 | b23
 ·replace h:=cO b23 h
  refine cf (xt (iR (iQ (mC (an (sq (rn ?_)))))))
  refine an (rt ?_)
  cases h
  simp [lA,Ret,TB,EN, *]
 replace h:=cP b23 h
 refine ct (sk (an (sq (bk ?_))))
 obtain ⟨x24,h25,h⟩:=bind_some h
 obtain ⟨x26,h27,h⟩:=bind_some h
 refine rn2 (c40 _ _ _ h25) h27 ?_
 refine ab (an ?_)
 refine cu (fun s=>s.t 0=vP 7059000 1 0∧s.t 3=vI x4.2.2∧s.t 4=vR 100008 (u8+1)∧s.t 5=vI v5∧s.h 100008=((u8+1),oW 77 4 M.Instr.en (r8++[x24.2.2]))∧s.h 7059000=(1,oB 60 [.old B0 (.sl (List.map enB p0.b)) (some u0),cI x24.1,cI x24.2.1])∧True) ?_
 rintro s28 ⟨f29,f30,f31,f32,f33,f34,_⟩
 refine rn ?_
 refine eP ⟨mL1,by omega,(i64.wrap (v5+1)),(r8++[x24.2.2]),x24.1,x24.2.1,(u8+1),?_,?_,?_,?_,?_,?_,h⟩
 all_goals simp +decide only [F,reduceIte,Nat.reduceAdd,Bool.not_true,Bool.not_false,EN, *,-h]
instance:gR 35 (type_of% @c35):=⟨@c35⟩
theorem c45 (p0 p1 p2 r) (h:cY p0 p1 p2=some r):Sc 45 [aI p0,aI p1,aI p2] [rB r]:=by
 unfold cY at h
 exact sgo 15 [.tmp 6] Try.func45
instance:gR 45 (type_of% @c45):=⟨@c45⟩
theorem c44 (p0 r) (h:dF p0=some r):Sc 44 [aS p0] [rB r]:=by
 have i1:=inv fun m s=>∃v3:Int,(s.t 0=vS p0∧s.t 3=vI v3)∧cA p0 m v3=some r
 have e1:=@cA.eq_2
 unfold dF at h
 exact sgo 23 [.tmp 2] Try.func44
instance:gR 44 (type_of% @c44):=⟨@c44⟩
end Go.Proofs.Ytblghjofnielnaa.gen
