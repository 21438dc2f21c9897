/-
  Helper text. No conditions.
-/
import Derived.Test.YtblghjofnielnaaChannelsTi
import Derived.Test.YtblghjofnielnaaChannelsWlib
namespace Go.Proofs.Ytblghjofnielnaa.gen
open Go Go.Sh
open Go.IntKind (i64)
set_option linter.unusedVariables false
set_option linter.unusedSimpArgs false
set_option maxRecDepth 20000
set_option maxHeartbeats 4000000
theorem c16 (p0 r) (h:bH p0=some r):Sc 16 [aX (M.Channel.en p0)] [(true,M.Channel.rs r)]:=by
 unfold bH at h
 exact sgo 8 [.cell 2 26] Try.func16
instance:gR 16 (type_of% @c16):=⟨@c16⟩
theorem c18 (p0 c0 r) (h:dH p0 c0=some r):Sc 18 [aX (M.aO.en p0),(false,[.ptr [.int .i64 c0]])] [rB r]:=by
 unfold dH at h
 exact sgo 8 [.tmp 3] Try.func18
instance:gR 18 (type_of% @c18):=⟨@c18⟩
theorem c17 (p0:List M.aO) (p1:M.aO→Option Bool) (f1_:FuncId) (k1_:List D) (hp1 : ∀z0 r,p1 z0=some r→dO Try.prog f1_ ((true,M.aO.en z0) ::  k1_.map fun c=>(false,[c])) [(false,[.ro (.bool r)])]) (r:Int) (h:bK p0 p1=some r):Sc 17 [(false,[.sl (List.map M.aO.en p0)]),(false,[.fn f1_ k1_])] [rI r]:=by
 unfold bK at h
 simp only [EN]
 refine sgn 19 [.tmp 4] Try.func17 fun base wd => ?_
 refine sq (rn ?_)
 refine an (sq (sq (rn ?_)))
 refine an (bk ?_)
 refine jI (fun m s=>∃v8:Int,s.t 0=vL M.aO.en p0∧s.t 1 = .v false [.dat (.fn f1_ k1_)]∧s.t 7=vI (List.length p0:Int)∧s.t 8=vI v8∧aQ p0 p1 m v8=some r) fuel ?_ ?_
 ·refine ⟨0,?_,?_,?_,?_,h⟩
  all_goals simp +decide only [F,reduceIte,Nat.reduceAdd,Bool.not_true,Bool.not_false,EN, *,-h]
 rintro mL1 s1 ⟨v8,f2,f3,f4,f5,h⟩
 rcases mL1 with _ | mL1
 ·exact absurd h (by simp [aQ])
 simp only [aQ] at h
 refine sq (rn ?_)
 refine an (sq ?_)
 rcases pB (decide (v8<(List.length p0:Int))) with b6 | b6
 ·replace h:=cO b6 h
  refine cf (xt (iR (iQ (mC (an (sq (rn ?_)))))))
  refine an (rt ?_)
  cases h
  simp [Ret,TB,EN, *]
 replace h:=cP b6 h
 refine ct (sk (an (sq (bk (sq (rn ?_))))))
 refine an (sq ?_)
 obtain ⟨x7,h8,h⟩:=bind_some h
 obtain ⟨q9,q10,q11⟩:=fE h8
 obtain ⟨x12,h13,h⟩:=bind_some h
 refine rn1 (hp1 x7 x12 h13) ?_
 refine an ?_
 rcases fK x12 with b14 | b14
 ·replace h:=cP b14 h
  refine ct (sq (rn ?_))
  refine an (rt ?_)
  cases h
  simp [Ret,TB,EN, *]
 replace h:=cO b14 h
 refine cf (sk (ab (an (rn ?_))))
 refine eP ⟨mL1,by omega,(i64.wrap (v8+1)),?_,?_,?_,?_,h⟩
 all_goals simp +decide only [F,reduceIte,Nat.reduceAdd,Bool.not_true,Bool.not_false,EN, *,-h]
instance:gR 17 (type_of% @c17):=⟨@c17⟩
theorem c8 (p0 p1 r) (h:eD p0 p1=some r):Sc 8 [aX (M.aO.en p0),aX (M.aO.en p1)] [rB r]:=by
 unfold eD at h
 exact sgo 24 [.tmp 4] Try.func8
instance:gR 8 (type_of% @c8):=⟨@c8⟩
theorem c10 (p0 p1 r) (h:aH p0 p1=some r):Sc 10 [aX (M.Channel.en p0),aI p1] [rW 40 3 M.bB.en r]:=by
 have i1:=inv fun m s=>∃v12:Int,∃r8:List M.bB,∃u8:Nat,(s.t 1=vI p1∧s.t 5=vR 100008 u8∧s.t 10=vL M.bB.en p0.Mails∧s.t 11=vI (List.length p0.Mails:Int)∧s.t 12=vI v12∧s.h 100008=(u8,oW 40 3 M.bB.en r8))∧bO p0 p1 m v12 r8=some r
 have e1:=@bO.eq_2
 unfold aH at h
 exact sgo 26 [.tmp 4] Try.func10
instance:gR 10 (type_of% @c10):=⟨@c10⟩
theorem c6 (p0 p1 p2 p3 r) (h:eC p0 p1 p2 p3=some r):Sc 6 [aX (M.Channel.en p0),aL M.aO.en p1,aI p2,aI p3] [(true,M.Channel.rs r.1),rI r.2]:=by
 unfold eC at h
 simp only [EN]
 refine sgn 58 [.cell 8 26,.tmp 9] Try.func6 fun base wd => ?_
 refine sq (rn ?_)
 refine an (sq ?_)
 obtain ⟨x1,h2,h⟩:=bind_some h
 refine rn1 (c16 _ _ h2) ?_
 refine an (sq ?_)
 obtain ⟨x3,h4,h⟩:=bind_some h
 refine rn1 (c17 p1 (fun z0=>dH z0 p2) 18 [.ptr [.int .i64 p2]] (fun z0 r hr=>c18 z0 p2 r hr) x3 h4) ?_
 refine an (sq (sq (rn ?_)))
 refine an ?_
 rcases fK (decide (x3<0)) with b5 | b5
 ·replace h:=cP b5 h
  refine ct (sq (rn ?_))
  refine an (rt ?_)
  cases h
  simp [Ret,TB,EN, *]
 replace h:=cO b5 h
 refine cf (sk (an (sq (rn ?_))))
 refine an (sq (sq (rn ?_)))
 refine an (bk ?_)
 refine jI (fun m s=>∃v12:Int,∃v25:Int,∃r16:List M.bB,∃u16:Nat,s.t 1=vL M.aO.en p1∧s.t 3=vI p3∧s.t 6=vP 6 1 0∧s.t 8=vP 8 1 0∧s.t 10=vP 10 1 0∧s.t 11=vI x3∧s.t 12=vI v12∧s.t 23=vL M.aO.en p1∧s.t 24=vI (List.length p1:Int)∧s.t 25=vI v25∧s.h 6=(1,oB 3 [cI p2])∧s.h 8=(1,oB 26 [.nil])∧s.h 10=(1,oB 26 [.row 100016 u16])∧s.h 100016=(u16,oW 40 3 M.bB.en r16)∧aT p1 p2 p3 x3 m v12 v25 r16=some r) fuel ?_ ?_
 ·refine ⟨0,0,x1.Mails,1,?_,?_,?_,?_,?_,?_,?_,?_,?_,?_,?_,?_,?_,?_,h⟩
  all_goals simp +decide only [F,reduceIte,Nat.reduceAdd,Bool.not_true,Bool.not_false,EN, *,-h]
 rintro mL1 s6 ⟨v12,v25,r16,u16,f7,f8,f9,f10,f11,f12,f13,f14,f15,f16,f17,f18,f19,f20,h⟩
 rcases mL1 with _ | mL1
 ·exact absurd h (by simp [aT])
 simp only [aT] at h
 refine sq (rn ?_)
 refine an (sq ?_)
 rcases pB (decide (v25<(List.length p1:Int))) with b21 | b21
 ·replace h:=cO b21 h
  refine cf (xt (iR (iQ (mC (an (sq (rn ?_)))))))
  refine an (rt ?_)
  cases h
  simp [Ret,TB,EN, *]
 replace h:=cP b21 h
 refine ct (sk (an (sq (bk (sq ?_)))))
 obtain ⟨x22,h23,h⟩:=bind_some h
 obtain ⟨q24,q25,q26⟩:=fE h23
 refine rn ?_
 refine an (sq ?_)
 obtain ⟨x27,h28,h⟩:=bind_some h
 obtain ⟨q29,q30,q31⟩:=fE h28
 obtain ⟨x32,h33,h⟩:=bind_some h
 rcases pB x32 with b34 | b34
 ·replace h:=cO b34 h
  refine rd1 mixed (c8 _ _ _ h33) ?_
  refine an (cf (sk (ab (an (rn ?_)))))
  refine eP ⟨mL1,by omega,v12,(i64.wrap (v25+1)),r16,u16,?_,?_,?_,?_,?_,?_,?_,?_,?_,?_,?_,?_,?_,?_,h⟩
  all_goals simp +decide only [F,reduceIte,Nat.reduceAdd,Bool.not_true,Bool.not_false,EN, *,-h]
 replace h:=cP b34 h
 obtain ⟨x35,h36,h⟩:=bind_some h
 refine rd2 mixed (c8 _ _ _ h33) (c10 _ _ _ h36) ?_
 refine an ?_
 rcases pB (decide ((List.length x35:Int)<5)) with b37 | b37
 ·replace h:=cO b37 h
  refine cf (sk (ab (an (rn ?_))))
  refine eP ⟨mL1,by omega,v12,(i64.wrap (v25+1)),r16,u16,?_,?_,?_,?_,?_,?_,?_,?_,?_,?_,?_,?_,?_,?_,h⟩
  all_goals simp +decide only [F,reduceIte,Nat.reduceAdd,Bool.not_true,Bool.not_false,EN, *,-h]
 replace h:=cP b37 h
 refine ct (sq ?_)
 obtain ⟨x38,h39,h⟩:=bind_some h
 refine rn1 h39 ?_
 refine an ?_
 refine cu (fun s=>s.t 1=vL M.aO.en p1∧s.t 3=vI p3∧s.t 6=vP 6 1 0∧s.t 8=vP 8 1 0∧s.t 10=vP 10 1 0∧s.t 11=vI x3∧s.t 12=vI v12∧s.t 23=vL M.aO.en p1∧s.t 24=vI (List.length p1:Int)∧s.t 25=vI v25∧s.h 6=(1,oB 3 [cI p2])∧s.h 8=(1,oB 26 [.nil])∧s.h 10=(1,oB 26 [.row 100016 (u16+1)])∧s.h 100016=((u16+1),oW 40 3 M.bB.en (r16++[(⟨x22.Id,p2,p3⟩:M.bB)]))∧True) ?_
 rintro s40 ⟨f41,f42,f43,f44,f45,f46,f47,f48,f49,f50,f51,f52,f53,f54,_⟩
 refine rn ?_
 refine ab (an (rn ?_))
 refine eP ⟨mL1,by omega,(i64.wrap (v12+1)),(i64.wrap (v25+1)),(r16++[(⟨x22.Id,p2,p3⟩:M.bB)]),(u16+1),?_,?_,?_,?_,?_,?_,?_,?_,?_,?_,?_,?_,?_,?_,h⟩
 all_goals simp +decide only [F,reduceIte,Nat.reduceAdd,Bool.not_true,Bool.not_false,EN, *,-h]
instance:gR 6 (type_of% @c6):=⟨@c6⟩
theorem c24 (p0 c0 r) (h:bX p0 c0=some r):Sc 24 [aX (M.bB.en p0),(false,[.ptr [.int .i64 c0]])] [rB r]:=by
 unfold bX at h
 exact sgo 8 [.tmp 3] Try.func24
instance:gR 24 (type_of% @c24):=⟨@c24⟩
theorem c23 (p0:List M.bB) (p1:M.bB→Option Bool) (f1_:FuncId) (k1_:List D) (hp1 : ∀z0 r,p1 z0=some r→dO Try.prog f1_ ((true,M.bB.en z0) ::  k1_.map fun c=>(false,[c])) [(false,[.ro (.bool r)])]) (r:Int) (h:bD p0 p1=some r):Sc 23 [(false,[.sl (List.map M.bB.en p0)]),(false,[.fn f1_ k1_])] [rI r]:=by
 unfold bD at h
 simp only [EN]
 refine sgn 19 [.tmp 4] Try.func23 fun base wd => ?_
 refine sq (rn ?_)
 refine an (sq (sq (rn ?_)))
 refine an (bk ?_)
 refine jI (fun m s=>∃v8:Int,s.t 0=vL M.bB.en p0∧s.t 1 = .v false [.dat (.fn f1_ k1_)]∧s.t 7=vI (List.length p0:Int)∧s.t 8=vI v8∧aP p0 p1 m v8=some r) fuel ?_ ?_
 ·refine ⟨0,?_,?_,?_,?_,h⟩
  all_goals simp +decide only [F,reduceIte,Nat.reduceAdd,Bool.not_true,Bool.not_false,EN, *,-h]
 rintro mL1 s1 ⟨v8,f2,f3,f4,f5,h⟩
 rcases mL1 with _ | mL1
 ·exact absurd h (by simp [aP])
 simp only [aP] at h
 refine sq (rn ?_)
 refine an (sq ?_)
 rcases pB (decide (v8<(List.length p0:Int))) with b6 | b6
 ·replace h:=cO b6 h
  refine cf (xt (iR (iQ (mC (an (sq (rn ?_)))))))
  refine an (rt ?_)
  cases h
  simp [Ret,TB,EN, *]
 replace h:=cP b6 h
 refine ct (sk (an (sq (bk (sq (rn ?_))))))
 refine an (sq ?_)
 obtain ⟨x7,h8,h⟩:=bind_some h
 obtain ⟨q9,q10,q11⟩:=fE h8
 obtain ⟨x12,h13,h⟩:=bind_some h
 refine rn1 (hp1 x7 x12 h13) ?_
 refine an ?_
 rcases fK x12 with b14 | b14
 ·replace h:=cP b14 h
  refine ct (sq (rn ?_))
  refine an (rt ?_)
  cases h
  simp [Ret,TB,EN, *]
 replace h:=cO b14 h
 refine cf (sk (ab (an (rn ?_))))
 refine eP ⟨mL1,by omega,(i64.wrap (v8+1)),?_,?_,?_,?_,h⟩
 all_goals simp +decide only [F,reduceIte,Nat.reduceAdd,Bool.not_true,Bool.not_false,EN, *,-h]
instance:gR 23 (type_of% @c23):=⟨@c23⟩
theorem c9 (p0 p1 r) (h:cM p0 p1=some r):Sc 9 [aX (M.Channel.en p0),aI p1] [(true,M.Channel.rs r.1),(true,M.bB.rs r.2.1),rB r.2.2]:=by
 unfold cM at h
 simp only [EN]
 refine sgn 32 [.cell 4 26,.cell 5 40,.tmp 6] Try.func9 fun base wd => ?_
 refine sq (rn ?_)
 refine an (sq ?_)
 obtain ⟨x1,h2,h⟩:=bind_some h
 refine rn1 (c16 _ _ h2) ?_
 refine an (sq ?_)
 obtain ⟨x3,h4,h⟩:=bind_some h
 refine rn1 (c23 p0.Mails (fun z0=>bX z0 p1) 24 [.ptr [.int .i64 p1]] (fun z0 r hr=>c24 z0 p1 r hr) x3 h4) ?_
 refine an (sq (sq (rn ?_)))
 refine an ?_
 rcases fK (decide (x3<0)) with b5 | b5
 ·replace h:=cP b5 h
  refine ct (sq (rn ?_))
  refine an (rt ?_)
  cases h
  simp [Ret,TB,EN, *]
 replace h:=cO b5 h
 refine cf (sk (an (sq ?_)))
 obtain ⟨x6,h7,h⟩:=bind_some h
 apply eT
 ·simp +decide only [E,reduceIte,Nat.reduceAdd,Nat.reduceMul,Bool.not_true,Bool.not_false,←List.map_take,←List.map_drop,L,qD,yE,pR,M.bB.en,EN,b5]
  refine ⟨_,L25.aBc _,?_⟩
  try simp +decide only [E,reduceIte,Nat.reduceAdd,Nat.reduceMul,Bool.not_true,Bool.not_false,←List.map_take,←List.map_drop,L,qD,yE,pR,M.bB.en,EN,b5]
  refine ⟨by (have hb:=vN h7);simp [M.bB.en,List.length_append] at hb ⊢ <;> omega,?_⟩
  try simp +decide only [E,reduceIte,Nat.reduceAdd,Nat.reduceMul,Bool.not_true,Bool.not_false,←List.map_take,←List.map_drop,L,qD,yE,pR,M.bB.en,EN,b5]
  exact Is.mk _
 refine an (sq ?_)
 obtain ⟨x8,h9,h⟩:=bind_some h
 obtain ⟨q10,q11,q12⟩:=fE h9
 refine rd mixed ?_
 refine an (rt ?_)
 cases h
 simp [Ret,TB,EN, *]
instance:gR 9 (type_of% @c9):=⟨@c9⟩
theorem c27 (p0 c0 r) (h:dD p0 c0=some r):Sc 27 [aX (M.bB.en p0),(false,[.ptr [.int .i64 c0]])] [rB r]:=by
 unfold dD at h
 exact sgo 8 [.tmp 3] Try.func27
instance:gR 27 (type_of% @c27):=⟨@c27⟩
theorem c26 (p0:List M.bB) (p1:M.bB→Option Bool) (f1_:FuncId) (k1_:List D) (hp1 : ∀z0 r,p1 z0=some r→dO Try.prog f1_ ((true,M.bB.en z0) ::  k1_.map fun c=>(false,[c])) [(false,[.ro (.bool r)])]) (r:(List M.bB)) (h:bR p0 p1=some r):dO Try.prog 26 [(false,[.sl (List.map M.bB.en p0)]),(false,[.fn f1_ k1_])] [(false,[.edit (.cU 40 3 (List.map M.bB.en r))])]:=by
 unfold bR at h
 refine aAV (N:=42) (vars:=[.tmp 4]) Try.func26 rfl rfl rfl (by decide +kernel) (by decide) (M.bB.en.fl _) (M.bB.en.fl _) (fun y hy=>by obtain ⟨x,_,rfl⟩:=List.mem_map.1 hy;rfl) fun base wd => ?_
 refine sq ?_
 apply eT
 ·simp +decide only [LQ,E,reduceIte,Nat.reduceAdd,Nat.reduceMul,Bool.not_true,Bool.not_false,L,EN]
  exact Is.mk _
 refine an (sq ?_)
 obtain ⟨x1,h2,h⟩:=bind_some h
 apply eT
 ·simp +decide only [LQ,E,reduceIte,Nat.reduceAdd,Nat.reduceMul,Bool.not_true,Bool.not_false,L,EN]
  refine ⟨_,c23 p0 p1 f1_ k1_ hp1 x1 h2,?_⟩
  try simp +decide only [LQ,E,reduceIte,Nat.reduceAdd,Nat.reduceMul,Bool.not_true,Bool.not_false,L,EN]
  exact Is.mk _
 refine an (sq (sq ?_))
 apply eT
 ·simp +decide only [LQ,E,reduceIte,Nat.reduceAdd,Nat.reduceMul,Bool.not_true,Bool.not_false,L,EN]
  exact Is.mk _
 refine an ?_
 rcases fK (x1==(-1)) with b3 | b3
 ·replace h:=cP b3 h
  refine yP (by simp +decide only [LQ,F,reduceIte,Nat.reduceAdd,Bool.not_true,Bool.not_false,b3]) ?_
  refine sq ?_
  apply eT
  ·simp +decide only [LQ,E,reduceIte,Nat.reduceAdd,Nat.reduceMul,Bool.not_true,Bool.not_false,L,EN,b3]
   exact Is.mk _
  refine an (rt ?_)
  cases h
  exact ⟨1,List.map M.bB.en p0,true,(by simp +decide only [LQ,F,reduceIte,Nat.reduceAdd,Bool.not_true,Bool.not_false,M.bB.en,b3]),.inl ⟨(by simp +decide [fQ,LQ,b3]),rfl⟩⟩
 replace h:=cO b3 h
 refine yJ (by simp +decide only [LQ,F,reduceIte,Nat.reduceAdd,Bool.not_true,Bool.not_false,b3]) ?_
 refine sk (an (sq (sq ?_)))
 apply eT
 ·simp +decide only [LQ,E,reduceIte,Nat.reduceAdd,Nat.reduceMul,Bool.not_true,Bool.not_false,L,EN,b3]
  exact Is.mk _
 refine an (bk ?_)
 refine jI (fun m s=>∃v5:Int,∃v6:Int,∃r59000:List M.bB,s.t 0 = .v false [.row 7059000 1]∧s.t 1 = .v false [.dat (.fn f1_ k1_)]∧s.t 5 = .v false [.dat (.int .i64 v5)]∧s.t 6 = .v false [.dat (.int .i64 v6)]∧s.h 7059000=(1,.row 40 3 (List.map M.bB.en r59000) true)∧aM p1 m v5 v6 r59000=some r) fuel ?_ ?_
 ·refine ⟨x1,(i64.wrap (x1+1)),p0,?_,?_,?_,?_,?_,h⟩
  all_goals simp +decide only [LQ,F,reduceIte,Nat.reduceAdd,Bool.not_true,Bool.not_false,M.bB.en,b3]
 rintro mL1 s4 ⟨v5,v6,r59000,f5,f6,f7,f8,f9,h⟩
 rcases mL1 with _ | mL1
 ·exact absurd h (by simp [aM])
 simp only [aM] at h
 refine sq (sq ?_)
 apply eT
 ·simp +decide only [LQ,E,reduceIte,Nat.reduceAdd,Nat.reduceMul,Bool.not_true,Bool.not_false,L,qD,EN,b3,f5,f6,f7,f8,f9]
  exact Is.mk _
 refine an ?_
 rcases pB (decide (v6<(List.length r59000:Int))) with b10 | b10
 ·replace h:=cO b10 h
  refine yJ (by simp +decide only [LQ,F,reduceIte,Nat.reduceAdd,Bool.not_true,Bool.not_false,b3,f5,f6,f7,f8,f9,b10]) ?_
  refine xt (iR (iQ (mC (an (sq ?_)))))
  obtain ⟨x30,h31,h⟩:=bind_some h
  apply eT
  ·simp +decide only [LQ,E,reduceIte,Nat.reduceAdd,Nat.reduceMul,Bool.not_true,Bool.not_false,←List.map_take,←List.map_drop,L,qD,pR,M.bB.en,EN,b3,f5,f6,f7,f8,f9,b10]
   refine ⟨by first | exact sQ h31 | exact (sQ h31).2 | exact (sQ h31).2.2,?_⟩
   try simp +decide only [LQ,E,reduceIte,Nat.reduceAdd,Nat.reduceMul,Bool.not_true,Bool.not_false,←List.map_take,←List.map_drop,L,qD,pR,M.bB.en,EN,b3,f5,f6,f7,f8,f9,b10]
   refine ⟨by first | exact pP h31 | exact (pP h31).2 | exact (pP h31).2.2 | (have hb:=pP h31;simpa using hb),?_⟩
   try simp +decide only [LQ,E,reduceIte,Nat.reduceAdd,Nat.reduceMul,Bool.not_true,Bool.not_false,←List.map_take,←List.map_drop,L,qD,pR,M.bB.en,EN,b3,f5,f6,f7,f8,f9,b10]
   exact Is.mk _
  refine an (sq ?_)
  apply eT
  ·simp +decide only [LQ,E,reduceIte,Nat.reduceAdd,Nat.reduceMul,Bool.not_true,Bool.not_false,←List.map_take,←List.map_drop,L,qD,pR,M.bB.en,EN,b3,f5,f6,f7,f8,f9,b10]
   refine ⟨by first | exact qT (f:=M.bB.en) h31 | exact (qT (f:=M.bB.en) h31).2 | exact (qT (f:=M.bB.en) h31).2.2 | (have hb:=qT (f:=M.bB.en) h31;simpa using hb),?_⟩
   try simp +decide only [LQ,E,reduceIte,Nat.reduceAdd,Nat.reduceMul,Bool.not_true,Bool.not_false,←List.map_take,←List.map_drop,L,qD,pR,M.bB.en,EN,b3,f5,f6,f7,f8,f9,b10]
   exact Is.mk _
  refine an (rt ?_)
  cases h
  have hb:=qT (f:=M.bB.en) (r:=[.opq,.opq,.opq]) h31
  exact ⟨1,List.map M.bB.en (List.take v5.toNat r59000)++List.replicate (List.length r59000-v5.toNat) [.opq,.opq,.opq],true,(by simp +decide only [LQ,F,reduceIte,Nat.reduceAdd,Bool.not_true,Bool.not_false,b3,f5,f6,f7,f8,f9,b10]),.inr ⟨v5.toNat,(by simp +decide [fQ,LQ,b3,f5,f6,f7,f8,f9,b10]),hb.2,zG h31⟩⟩
 replace h:=cP b10 h
 refine yP (by simp +decide only [LQ,F,reduceIte,Nat.reduceAdd,Bool.not_true,Bool.not_false,b3,f5,f6,f7,f8,f9,b10]) ?_
 refine sk (an (sq (bk (sq ?_))))
 obtain ⟨x11,h12,h⟩:=bind_some h
 obtain ⟨q13,q14,q15⟩:=fE h12
 apply eT
 ·simp +decide only [LQ,E,reduceIte,Nat.reduceAdd,Nat.reduceMul,Bool.not_true,Bool.not_false,L,qD,pR,M.bB.en,EN,b3,f5,f6,f7,f8,f9,b10,q13,q14,q15]
  exact Is.mk _
 refine an (sq ?_)
 obtain ⟨x16,h17,h⟩:=bind_some h
 apply eT
 ·simp +decide only [LQ,E,reduceIte,Nat.reduceAdd,Nat.reduceMul,Bool.not_true,Bool.not_false,L,pR,EN,b3,f5,f6,f7,f8,f9,b10,q13,q14,q15]
  refine ⟨_,hp1 x11 x16 h17,?_⟩
  try simp +decide only [LQ,E,reduceIte,Nat.reduceAdd,Nat.reduceMul,Bool.not_true,Bool.not_false,L,pR,EN,b3,f5,f6,f7,f8,f9,b10,q13,q14,q15]
  exact Is.mk _
 refine an ?_
 rcases pB (!x16) with b18 | b18
 ·replace h:=cO b18 h
  refine yJ (by simp +decide only [LQ,F,reduceIte,Nat.reduceAdd,Bool.not_true,Bool.not_false,b3,f5,f6,f7,f8,f9,b10,q13,q14,q15,b18]) ?_
  refine sk (ab (an ?_))
  apply eT
  ·simp +decide only [LQ,E,reduceIte,Nat.reduceAdd,Nat.reduceMul,Bool.not_true,Bool.not_false,L,EN,b3,f5,f6,f7,f8,f9,b10,q13,q14,q15,b18]
   exact Is.mk _
  refine eP ⟨mL1,by omega,v5,(i64.wrap (v6+1)),r59000,?_,?_,?_,?_,?_,h⟩
  all_goals simp +decide only [LQ,F,reduceIte,Nat.reduceAdd,Bool.not_true,Bool.not_false,M.bB.en,b3,f5,f6,f7,f8,f9,b10,q13,q14,q15,b18]
 replace h:=cP b18 h
 refine yP (by simp +decide only [LQ,F,reduceIte,Nat.reduceAdd,Bool.not_true,Bool.not_false,b3,f5,f6,f7,f8,f9,b10,q13,q14,q15,b18]) ?_
 refine sq ?_
 obtain ⟨x19,h20,h⟩:=bind_some h
 obtain ⟨q21,q22,q23⟩:=fE h20
 apply eT
 ·simp +decide only [LQ,E,reduceIte,Nat.reduceAdd,Nat.reduceMul,Bool.not_true,Bool.not_false,L,qD,pR,M.bB.en,EN,b3,f5,f6,f7,f8,f9,b10,q13,q14,q15,b18,q21,q22,q23]
  exact Is.mk _
 refine an ?_
 refine gU (J:=fun s=>s.t 0 = .v false [.row 7059000 1]∧s.t 1 = .v false [.dat (.fn f1_ k1_)]∧s.t 5 = .v false [.dat (.int .i64 v5)]∧s.t 6 = .v false [.dat (.int .i64 v6)]∧s.h 7059000=(1,.row 40 3 (List.map M.bB.en (List.set r59000 v5.toNat x11)) true)∧True) ?_ ?_
 ·refine ⟨?_,?_,?_,?_,?_,trivial⟩<;>(try simp +decide only [LQ,F,reduceIte,Nat.reduceAdd,Bool.not_true,Bool.not_false,M.bB.en,b3,f5,f6,f7,f8,f9,b10,q13,q14,q15,b18,q21,q22,q23])
 rintro s24 ⟨f25,f26,f27,f28,f29,_⟩
 apply eT
 ·simp +decide only [LQ,E,reduceIte,Nat.reduceAdd,Nat.reduceMul,Bool.not_true,Bool.not_false,L,EN,b3,b10,q13,q14,q15,b18,q21,q22,q23,f25,f26,f27,f28,f29]
  exact Is.mk _
 refine ab (an ?_)
 apply eT
 ·simp +decide only [LQ,E,reduceIte,Nat.reduceAdd,Nat.reduceMul,Bool.not_true,Bool.not_false,L,EN,b3,b10,q13,q14,q15,b18,q21,q22,q23,f25,f26,f27,f28,f29]
  exact Is.mk _
 refine eP ⟨mL1,by omega,(i64.wrap (v5+1)),(i64.wrap (v6+1)),(List.set r59000 v5.toNat x11),?_,?_,?_,?_,?_,h⟩
 all_goals simp +decide only [LQ,F,reduceIte,Nat.reduceAdd,Bool.not_true,Bool.not_false,M.bB.en,b3,b10,q13,q14,q15,b18,q21,q22,q23,f25,f26,f27,f28,f29]
theorem c11 (p0 p1 r) (h:bA p0 p1=some r):Sc 11 [aX (M.Channel.en p0),aI p1] [(true,M.Channel.rs r)]:=by
 unfold bA at h
 simp only [EN]
 refine sgn 14 [.cell 4 26] Try.func11 fun base wd => ?_
 refine sq (rn ?_)
 refine an (sq ?_)
 obtain ⟨x1,h2,h⟩:=bind_some h
 refine rn1 (c16 _ _ h2) ?_
 refine an (sq ?_)
 obtain ⟨x3,h4,h⟩:=bind_some h
 refine rn1 (c26 x1.Mails (fun z0=>dD z0 p1) 27 [.ptr [.int .i64 p1]] (fun z0 r hr=>c27 z0 p1 r hr) x3 h4) ?_
 refine an (sq (rn ?_))
 refine an (rt ?_)
 cases h
 simp [Ret,TB,EN, *]
instance:gR 11 (type_of% @c11):=⟨@c11⟩
end Go.Proofs.Ytblghjofnielnaa.gen
