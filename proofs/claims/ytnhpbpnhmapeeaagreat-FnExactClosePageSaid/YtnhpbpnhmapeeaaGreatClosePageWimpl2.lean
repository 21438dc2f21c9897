/-
  Helper text. No conditions.
-/
import Derived.Test.YtnhpbpnhmapeeaaGreatClosePageTi
import Derived.Test.YtnhpbpnhmapeeaaGreatClosePageWimpl0
import Derived.Test.YtnhpbpnhmapeeaaGreatClosePageWimpl1
namespace Go.Proofs.YtnhpbpnhmapeeaaGreat.gen
open Go Go.Sh
open Go.IntKind (i64)
set_option linter.unusedVariables false
set_option linter.unusedSimpArgs false
set_option maxRecDepth 20000
set_option maxHeartbeats 4000000
theorem aRO (p0 r) (h:aAX p0=some r):Sc 160 [aX (M.Site.en p0)] [rB r]:=by
 have i1:=inv fun m s=>∃v8:Int,(s.t 1=vP 1 1 0∧s.t 6=vL enS p0.Files∧s.t 7=vI (List.length p0.Files:Int)∧s.t 8=vI v8∧s.h 1=(1,oX 95 (M.Site.en p0)))∧hP p0 m v8=some r
 have e1:=@hP.eq_2
 unfold aAX at h
 exact sgo 45 [.tmp 2] Tryz.func160
instance:bD 160 (type_of% @aRO):=⟨@aRO⟩
theorem aT5 (p0 p1 r) (h:oP p0 p1=some r):Sc 233 [aL enS p0,aS p1] [rI r]:=by
 have i1:=inv fun m s=>∃v8:Int,(s.t 0=vL enS p0∧s.t 1=vS p1∧s.t 7=vI (List.length p0:Int)∧s.t 8=vI v8)∧eT p0 p1 m v8=some r
 have e1:=@eT.eq_2
 unfold oP at h
 exact sgo 19 [.tmp 4] Tryz.func233
instance:bD 233 (type_of% @aT5):=⟨@aT5⟩
theorem aQs (p0 r) (h:pZ p0=some r):Sc 117 [aS p0] [rI r]:=by
 unfold pZ at h
 exact sgo 6 [.tmp 2] Tryz.func117
instance:bD 117 (type_of% @aQs):=⟨@aQs⟩
theorem aQi (p0 r) (h:wI p0=some r):Sc 161 [aX (M.Server.en p0)] [rB r]:=by
 have i1:=inv fun m s=>∃v10:Int,(s.t 1=vP 1 1 0∧s.t 8=vL M.aJ.en p0.aJ∧s.t 9=vI (List.length p0.aJ:Int)∧s.t 10=vI v10∧s.h 1=(1,oX 102 (M.Server.en p0)))∧fX p0 m v10=some r
 have e1:=@fX.eq_2
 have i2:=inv fun m s=>∃v45:Int,(s.t 1=vP 1 1 0∧s.t 43=vL M.aY.en p0.Changes∧s.t 44=vI (List.length p0.Changes:Int)∧s.t 45=vI v45∧s.h 1=(1,oX 102 (M.Server.en p0)))∧hD p0 m v45=some r
 have e2:=@hD.eq_2
 unfold wI at h
 exact sgo 68 [.tmp 2] Tryz.func161
instance:bD 161 (type_of% @aQi):=⟨@aQi⟩
theorem c50 (p0 r) (h:uK p0=some r):Sc 50 [aX (M.World.en p0)] [rB r]:=by
 have i1:=inv fun m s=>∃v56:Int,(s.t 1=vP 1 1 0∧s.t 54=vL M.bG.en p0.Pages∧s.t 55=vI (List.length p0.Pages:Int)∧s.t 56=vI v56∧s.h 1=(1,oX 37 (M.World.en p0)))∧eS p0 m v56=some r
 have e1:=@eS.eq_2
 have i2:=inv fun m s=>∃v101:Int,(s.t 1=vP 1 1 0∧s.t 99=vL M.Site.en p0.Sites∧s.t 100=vI (List.length p0.Sites:Int)∧s.t 101=vI v101∧s.h 1=(1,oX 37 (M.World.en p0)))∧gL p0 m v101=some r
 have e2:=@gL.eq_2
 unfold uK at h
 exact sgo 126 [.tmp 2] Tryz.func50
instance:bD 50 (type_of% @c50):=⟨@c50⟩
theorem aPr (p0 c0 r) (h:jZ p0 c0=some r):Sc 166 [aX (M.bF.en p0),(false,[.ptr [.int .i64 c0]])] [rB r]:=by
 unfold jZ at h
 exact sgo 8 [.tmp 3] Tryz.func166
instance:bD 166 (type_of% @aPr):=⟨@aPr⟩
theorem aPi (p0:List M.bF) (p1:M.bF→Option Bool) (f1_:FuncId) (k1_:List D) (hp1 : ∀z0 r,p1 z0=some r→lH Tryz.prog f1_ ((true,M.bF.en z0) ::  k1_.map fun c=>(false,[c])) [(false,[.ro (.bool r)])]) (r:Int) (h:iU p0 p1=some r):Sc 265 [(false,[.sl (List.map M.bF.en p0)]),(false,[.fn f1_ k1_])] [rI r]:=by
 unfold iU at h
 simp only [EN]
 refine sgn 19 [.tmp 4] Tryz.func265 fun base wd => ?_
 refine sq (rn ?_)
 refine an (sq (sq (rn ?_)))
 refine an (bk ?_)
 refine jY (fun m s=>∃v8:Int,s.t 0=vL M.bF.en p0∧s.t 1 = .v false [.dat (.fn f1_ k1_)]∧s.t 7=vI (List.length p0:Int)∧s.t 8=vI v8∧cF p0 p1 m v8=some r) fuel ?_ ?_
 ·refine ⟨0,?_,?_,?_,?_,h⟩
  all_goals simp +decide only [F,reduceIte,Nat.reduceAdd,Bool.not_true,Bool.not_false,EN, *,-h]
 rintro mL1 s1 ⟨v8,f2,f3,f4,f5,h⟩
 rcases mL1 with _ | mL1
 ·exact absurd h (by simp [cF])
 simp only [cF] at h
 refine sq (rn ?_)
 refine an (sq ?_)
 rcases aA5 (decide (v8<(List.length p0:Int))) with b6 | b6
 ·replace h:=bH b6 h
  refine cf (xt (lO (nE (yR (an (sq (rn ?_)))))))
  refine an (rt ?_)
  cases h
  simp [Ret,TB,EN, *]
 replace h:=bI b6 h
 refine ct (sk (an (sq (bk (sq (rn ?_))))))
 refine an (sq ?_)
 obtain ⟨x7,h8,h⟩:=bind_some h
 obtain ⟨q9,q10,q11⟩:=aR h8
 obtain ⟨x12,h13,h⟩:=bind_some h
 refine rn1 (hp1 x7 x12 h13) ?_
 refine an ?_
 rcases cU x12 with b14 | b14
 ·replace h:=bI b14 h
  refine ct (sq (rn ?_))
  refine an (rt ?_)
  cases h
  simp [Ret,TB,EN, *]
 replace h:=bH b14 h
 refine cf (sk (ab (an (rn ?_))))
 refine rQ ⟨mL1,by omega,(i64.wrap (v8+1)),?_,?_,?_,?_,h⟩
 all_goals simp +decide only [F,reduceIte,Nat.reduceAdd,Bool.not_true,Bool.not_false,EN, *,-h]
instance:bD 265 (type_of% @aPi):=⟨@aPi⟩
theorem aUx (p0:List M.bF) (p1:M.bF→Option Bool) (f1_:FuncId) (k1_:List D) (hp1 : ∀z0 r,p1 z0=some r→lH Tryz.prog f1_ ((true,M.bF.en z0) ::  k1_.map fun c=>(false,[c])) [(false,[.ro (.bool r)])]) (r:(List M.bF)) (h:iL p0 p1=some r):lH Tryz.prog 165 [(false,[.sl (List.map M.bF.en p0)]),(false,[.fn f1_ k1_])] [(false,[.edit (.lJ 144 4 (List.map M.bF.en r))])]:=by
 unfold iL at h
 refine aMd (N:=42) (vars:=[.tmp 4]) Tryz.func165 rfl rfl rfl (by decide +kernel) (by decide) (M.bF.en.fl _) (M.bF.en.fl _) (fun y hy=>by obtain ⟨x,_,rfl⟩:=List.mem_map.1 hy;rfl) fun base wd => ?_
 refine sq ?_
 apply gS
 ·simp +decide only [LQ,E,reduceIte,Nat.reduceAdd,Nat.reduceMul,Bool.not_true,Bool.not_false,L,EN]
  exact Is.mk _
 refine an (sq ?_)
 obtain ⟨x1,h2,h⟩:=bind_some h
 apply gS
 ·simp +decide only [LQ,E,reduceIte,Nat.reduceAdd,Nat.reduceMul,Bool.not_true,Bool.not_false,L,EN]
  refine ⟨_,aPi p0 p1 f1_ k1_ hp1 x1 h2,?_⟩
  try simp +decide only [LQ,E,reduceIte,Nat.reduceAdd,Nat.reduceMul,Bool.not_true,Bool.not_false,L,EN]
  exact Is.mk _
 refine an (sq (sq ?_))
 apply gS
 ·simp +decide only [LQ,E,reduceIte,Nat.reduceAdd,Nat.reduceMul,Bool.not_true,Bool.not_false,L,EN]
  exact Is.mk _
 refine an ?_
 rcases cU (x1==(-1)) with b3 | b3
 ·replace h:=bI b3 h
  refine aI2 (by simp +decide only [LQ,F,reduceIte,Nat.reduceAdd,Bool.not_true,Bool.not_false,b3]) ?_
  refine sq ?_
  apply gS
  ·simp +decide only [LQ,E,reduceIte,Nat.reduceAdd,Nat.reduceMul,Bool.not_true,Bool.not_false,L,EN,b3]
   exact Is.mk _
  refine an (rt ?_)
  cases h
  exact ⟨1,List.map M.bF.en p0,true,(by simp +decide only [LQ,F,reduceIte,Nat.reduceAdd,Bool.not_true,Bool.not_false,M.bF.en,b3]),.inl ⟨(by simp +decide [aBe,LQ,b3]),rfl⟩⟩
 replace h:=bH b3 h
 refine aJS (by simp +decide only [LQ,F,reduceIte,Nat.reduceAdd,Bool.not_true,Bool.not_false,b3]) ?_
 refine sk (an (sq (sq ?_)))
 apply gS
 ·simp +decide only [LQ,E,reduceIte,Nat.reduceAdd,Nat.reduceMul,Bool.not_true,Bool.not_false,L,EN,b3]
  exact Is.mk _
 refine an (bk ?_)
 refine jY (fun m s=>∃v5:Int,∃v6:Int,∃r59000:List M.bF,s.t 0 = .v false [.row 7059000 1]∧s.t 1 = .v false [.dat (.fn f1_ k1_)]∧s.t 5 = .v false [.dat (.int .i64 v5)]∧s.t 6 = .v false [.dat (.int .i64 v6)]∧s.h 7059000=(1,.row 144 4 (List.map M.bF.en r59000) true)∧bN p1 m v5 v6 r59000=some r) fuel ?_ ?_
 ·refine ⟨x1,(i64.wrap (x1+1)),p0,?_,?_,?_,?_,?_,h⟩
  all_goals simp +decide only [LQ,F,reduceIte,Nat.reduceAdd,Bool.not_true,Bool.not_false,M.bF.en,b3]
 rintro mL1 s4 ⟨v5,v6,r59000,f5,f6,f7,f8,f9,h⟩
 rcases mL1 with _ | mL1
 ·exact absurd h (by simp [bN])
 simp only [bN] at h
 refine sq (sq ?_)
 apply gS
 ·simp +decide only [LQ,E,reduceIte,Nat.reduceAdd,Nat.reduceMul,Bool.not_true,Bool.not_false,L,aKk,EN,b3,f5,f6,f7,f8,f9]
  exact Is.mk _
 refine an ?_
 rcases aA5 (decide (v6<(List.length r59000:Int))) with b10 | b10
 ·replace h:=bH b10 h
  refine aJS (by simp +decide only [LQ,F,reduceIte,Nat.reduceAdd,Bool.not_true,Bool.not_false,b3,f5,f6,f7,f8,f9,b10]) ?_
  refine xt (lO (nE (yR (an (sq ?_)))))
  obtain ⟨x30,h31,h⟩:=bind_some h
  apply gS
  ·simp +decide only [LQ,E,reduceIte,Nat.reduceAdd,Nat.reduceMul,Bool.not_true,Bool.not_false,←List.map_take,←List.map_drop,L,aKk,aDj,M.bF.en,EN,b3,f5,f6,f7,f8,f9,b10]
   refine ⟨by first | exact aBP h31 | exact (aBP h31).2 | exact (aBP h31).2.2,?_⟩
   try simp +decide only [LQ,E,reduceIte,Nat.reduceAdd,Nat.reduceMul,Bool.not_true,Bool.not_false,←List.map_take,←List.map_drop,L,aKk,aDj,M.bF.en,EN,b3,f5,f6,f7,f8,f9,b10]
   refine ⟨by first | exact aCl h31 | exact (aCl h31).2 | exact (aCl h31).2.2 | (have hb:=aCl h31;simpa using hb),?_⟩
   try simp +decide only [LQ,E,reduceIte,Nat.reduceAdd,Nat.reduceMul,Bool.not_true,Bool.not_false,←List.map_take,←List.map_drop,L,aKk,aDj,M.bF.en,EN,b3,f5,f6,f7,f8,f9,b10]
   exact Is.mk _
  refine an (sq ?_)
  apply gS
  ·simp +decide only [LQ,E,reduceIte,Nat.reduceAdd,Nat.reduceMul,Bool.not_true,Bool.not_false,←List.map_take,←List.map_drop,L,aKk,aDj,M.bF.en,EN,b3,f5,f6,f7,f8,f9,b10]
   refine ⟨by first | exact aDT (f:=M.bF.en) h31 | exact (aDT (f:=M.bF.en) h31).2 | exact (aDT (f:=M.bF.en) h31).2.2 | (have hb:=aDT (f:=M.bF.en) h31;simpa using hb),?_⟩
   try simp +decide only [LQ,E,reduceIte,Nat.reduceAdd,Nat.reduceMul,Bool.not_true,Bool.not_false,←List.map_take,←List.map_drop,L,aKk,aDj,M.bF.en,EN,b3,f5,f6,f7,f8,f9,b10]
   exact Is.mk _
  refine an (rt ?_)
  cases h
  have hb:=aDT (f:=M.bF.en) (r:=[.opq,.opq,.opq,.opq]) h31
  exact ⟨1,List.map M.bF.en (List.take v5.toNat r59000)++List.replicate (List.length r59000-v5.toNat) [.opq,.opq,.opq,.opq],true,(by simp +decide only [LQ,F,reduceIte,Nat.reduceAdd,Bool.not_true,Bool.not_false,b3,f5,f6,f7,f8,f9,b10]),.inr ⟨v5.toNat,(by simp +decide [aBe,LQ,b3,f5,f6,f7,f8,f9,b10]),hb.2,aKe h31⟩⟩
 replace h:=bI b10 h
 refine aI2 (by simp +decide only [LQ,F,reduceIte,Nat.reduceAdd,Bool.not_true,Bool.not_false,b3,f5,f6,f7,f8,f9,b10]) ?_
 refine sk (an (sq (bk (sq ?_))))
 obtain ⟨x11,h12,h⟩:=bind_some h
 obtain ⟨q13,q14,q15⟩:=aR h12
 apply gS
 ·simp +decide only [LQ,E,reduceIte,Nat.reduceAdd,Nat.reduceMul,Bool.not_true,Bool.not_false,L,aKk,aDj,M.bF.en,EN,b3,f5,f6,f7,f8,f9,b10,q13,q14,q15]
  exact Is.mk _
 refine an (sq ?_)
 obtain ⟨x16,h17,h⟩:=bind_some h
 apply gS
 ·simp +decide only [LQ,E,reduceIte,Nat.reduceAdd,Nat.reduceMul,Bool.not_true,Bool.not_false,L,aDj,EN,b3,f5,f6,f7,f8,f9,b10,q13,q14,q15]
  refine ⟨_,hp1 x11 x16 h17,?_⟩
  try simp +decide only [LQ,E,reduceIte,Nat.reduceAdd,Nat.reduceMul,Bool.not_true,Bool.not_false,L,aDj,EN,b3,f5,f6,f7,f8,f9,b10,q13,q14,q15]
  exact Is.mk _
 refine an ?_
 rcases aA5 (!x16) with b18 | b18
 ·replace h:=bH b18 h
  refine aJS (by simp +decide only [LQ,F,reduceIte,Nat.reduceAdd,Bool.not_true,Bool.not_false,b3,f5,f6,f7,f8,f9,b10,q13,q14,q15,b18]) ?_
  refine sk (ab (an ?_))
  apply gS
  ·simp +decide only [LQ,E,reduceIte,Nat.reduceAdd,Nat.reduceMul,Bool.not_true,Bool.not_false,L,EN,b3,f5,f6,f7,f8,f9,b10,q13,q14,q15,b18]
   exact Is.mk _
  refine rQ ⟨mL1,by omega,v5,(i64.wrap (v6+1)),r59000,?_,?_,?_,?_,?_,h⟩
  all_goals simp +decide only [LQ,F,reduceIte,Nat.reduceAdd,Bool.not_true,Bool.not_false,M.bF.en,b3,f5,f6,f7,f8,f9,b10,q13,q14,q15,b18]
 replace h:=bI b18 h
 refine aI2 (by simp +decide only [LQ,F,reduceIte,Nat.reduceAdd,Bool.not_true,Bool.not_false,b3,f5,f6,f7,f8,f9,b10,q13,q14,q15,b18]) ?_
 refine sq ?_
 obtain ⟨x19,h20,h⟩:=bind_some h
 obtain ⟨q21,q22,q23⟩:=aR h20
 apply gS
 ·simp +decide only [LQ,E,reduceIte,Nat.reduceAdd,Nat.reduceMul,Bool.not_true,Bool.not_false,L,aKk,aDj,M.bF.en,EN,b3,f5,f6,f7,f8,f9,b10,q13,q14,q15,b18,q21,q22,q23]
  exact Is.mk _
 refine an ?_
 refine aNh (J:=fun s=>s.t 0 = .v false [.row 7059000 1]∧s.t 1 = .v false [.dat (.fn f1_ k1_)]∧s.t 5 = .v false [.dat (.int .i64 v5)]∧s.t 6 = .v false [.dat (.int .i64 v6)]∧s.h 7059000=(1,.row 144 4 (List.map M.bF.en (List.set r59000 v5.toNat x11)) true)∧True) ?_ ?_
 ·refine ⟨?_,?_,?_,?_,?_,trivial⟩<;>(try simp +decide only [LQ,F,reduceIte,Nat.reduceAdd,Bool.not_true,Bool.not_false,M.bF.en,b3,f5,f6,f7,f8,f9,b10,q13,q14,q15,b18,q21,q22,q23])
 rintro s24 ⟨f25,f26,f27,f28,f29,_⟩
 apply gS
 ·simp +decide only [LQ,E,reduceIte,Nat.reduceAdd,Nat.reduceMul,Bool.not_true,Bool.not_false,L,EN,b3,b10,q13,q14,q15,b18,q21,q22,q23,f25,f26,f27,f28,f29]
  exact Is.mk _
 refine ab (an ?_)
 apply gS
 ·simp +decide only [LQ,E,reduceIte,Nat.reduceAdd,Nat.reduceMul,Bool.not_true,Bool.not_false,L,EN,b3,b10,q13,q14,q15,b18,q21,q22,q23,f25,f26,f27,f28,f29]
  exact Is.mk _
 refine rQ ⟨mL1,by omega,(i64.wrap (v5+1)),(i64.wrap (v6+1)),(List.set r59000 v5.toNat x11),?_,?_,?_,?_,?_,h⟩
 all_goals simp +decide only [LQ,F,reduceIte,Nat.reduceAdd,Bool.not_true,Bool.not_false,M.bF.en,b3,b10,q13,q14,q15,b18,q21,q22,q23,f25,f26,f27,f28,f29]
theorem aTN (p0 p1 r) (h:zH p0 p1=some r):Sc 162 [aX (M.aE.en p0),aI p1] [rB r]:=by
 unfold zH at h
 simp only [EN]
 refine sgn 45 [.tmp 4] Tryz.func162 fun base wd => ?_
 refine sq (rn ?_)
 refine an (sq (sq ?_))
 obtain ⟨x1,h2,h⟩:=bind_some h
 apply gS
 ·simp +decide only [E,reduceIte,Nat.reduceAdd,Nat.reduceMul,Bool.not_true,Bool.not_false,←List.map_take,←List.map_drop,L,aKk,aOL,aDj,M.bF.en,EN]
  refine ⟨by first | exact xH (f:=M.bF.en) (n:=4) (fun _=>rfl) h2 | exact (xH (f:=M.bF.en) (n:=4) (fun _=>rfl) h2).2 | exact (xH (f:=M.bF.en) (n:=4) (fun _=>rfl) h2).2.2,?_⟩
  try simp +decide only [E,reduceIte,Nat.reduceAdd,Nat.reduceMul,Bool.not_true,Bool.not_false,←List.map_take,←List.map_drop,L,aKk,aOL,aDj,M.bF.en,EN]
  exact Is.mk _
 refine an (bk ?_)
 refine jY (fun m s=>∃v12:Int,s.t 1=vI p1∧s.t 2=vP 2 1 0∧s.t 10=vL M.bF.en (List.take p1.toNat p0.Locks)∧s.t 11=vI (List.length (List.take p1.toNat p0.Locks):Int)∧s.t 12=vI v12∧s.h 2=(1,oX 30 (M.aE.en p0))∧gO p0 p1 m v12=some r) fuel ?_ ?_
 ·refine ⟨0,?_,?_,?_,?_,?_,?_,h⟩
  all_goals simp +decide only [F,reduceIte,Nat.reduceAdd,Bool.not_true,Bool.not_false,EN, *,-h]
 rintro mL1 s3 ⟨v12,f4,f5,f6,f7,f8,f9,h⟩
 rcases mL1 with _ | mL1
 ·exact absurd h (by simp [gO])
 simp only [gO] at h
 refine sq (rn ?_)
 refine an (sq ?_)
 rcases aA5 (decide (v12<(List.length (List.take p1.toNat p0.Locks):Int))) with b10 | b10
 ·replace h:=bH b10 h
  refine cf (xt (lO (nE (yR (an (sq (rn ?_)))))))
  refine an (rt ?_)
  cases h
  simp [Ret,TB,EN, *]
 replace h:=bI b10 h
 refine ct (sk (an (sq (bk (sq ?_)))))
 obtain ⟨x11,h12,h⟩:=bind_some h
 obtain ⟨q13,q14,q15⟩:=aR h12
 refine rn ?_
 refine an (sq ?_)
 obtain ⟨x16,h17,h⟩:=bind_some h
 obtain ⟨q18,q19,q20⟩:=aR h17
 rcases aA5 (x11.Name.toList==x16.Name.toList) with b21 | b21
 ·replace h:=bH b21 h
  refine rd mixed ?_
  refine an (cf (sk (ab (an (rn ?_)))))
  refine rQ ⟨mL1,by omega,(i64.wrap (v12+1)),?_,?_,?_,?_,?_,?_,h⟩
  all_goals simp +decide only [F,reduceIte,Nat.reduceAdd,Bool.not_true,Bool.not_false,EN, *,-h]
 replace h:=bI b21 h
 rcases cU (!x11.Held) with b22 | b22
 ·replace h:=bI b22 h
  refine rd mixed ?_
  refine an (ct (sq (rn ?_)))
  refine an (rt ?_)
  cases h
  simp [Ret,TB,EN, *]
 replace h:=bH b22 h
 rcases cU (!x11.Shared) with b23 | b23
 ·replace h:=bI b23 h
  refine rd mixed ?_
  refine an (ct (sq (rn ?_)))
  refine an (rt ?_)
  cases h
  simp [Ret,TB,EN, *]
 replace h:=bH b23 h
 refine rd mixed ?_
 refine an ?_
 rcases cU (!x16.Shared) with b24 | b24
 ·replace h:=bI b24 h
  refine ct (sq (rn ?_))
  refine an (rt ?_)
  cases h
  simp [Ret,TB,EN, *]
 replace h:=bH b24 h
 refine cf (sk (ab (an (rn ?_))))
 refine rQ ⟨mL1,by omega,(i64.wrap (v12+1)),?_,?_,?_,?_,?_,?_,h⟩
 all_goals simp +decide only [F,reduceIte,Nat.reduceAdd,Bool.not_true,Bool.not_false,EN, *,-h]
instance:bD 162 (type_of% @aTN):=⟨@aTN⟩
theorem aPv (p0 r) (h:mF p0=some r):Sc 167 [aX (M.aE.en p0)] [(true,M.aE.rs r)]:=by
 have i1:=fun (x1:M.aE)=>inv fun m s=>∃v10:Int,∃r6:List M.bF,(s.t 2=vP 2 1 0∧s.t 3=vP 3 1 0∧s.t 9=vI (List.length x1.Locks:Int)∧s.t 10=vI v10∧s.h 2=(1,oB 30 [.nil])∧s.h 3=(1,oB 30 [.row 100006 1])∧s.h 100006=(1,oW 144 4 M.bF.en r6))∧fM x1 m v10 r6=some r
 have e1:=@fM.eq_2
 unfold mF at h
 exact sgo 30 [.cell 2 30] Tryz.func167
instance:bD 167 (type_of% @aPv):=⟨@aPv⟩
theorem c53 (p0 p1 r) (h:mN p0 p1=some r):Sc 53 [aX (M.aE.en p0),aI p1] [(true,M.aE.rs r)]:=by
 unfold mN at h
 simp only [EN]
 refine sgn 15 [.cell 4 30] Tryz.func53 fun base wd => ?_
 refine sq (rn ?_)
 refine an (sq ?_)
 obtain ⟨x1,h2,h⟩:=bind_some h
 refine rn1 (aQD _ _ h2) ?_
 refine an (sq ?_)
 obtain ⟨x3,h4,h⟩:=bind_some h
 refine rn1 (aUx x1.Locks (fun z0=>jZ z0 p1) 166 [.ptr [.int .i64 p1]] (fun z0 r hr=>aPr z0 p1 r hr) x3 h4) ?_
 refine an (sq ?_)
 refine cu (fun s=>s.t 4=vP 4 1 0∧s.t 5=vP 5 1 0∧s.h 4=(1,oB 30 [.nil])∧s.h 5=(1,oB 30 [.row 100007 2])∧s.h 100007=(2,oW 144 4 M.bF.en x3)∧True) ?_
 rintro s5 ⟨f6,f7,f8,f9,f10,_⟩
 obtain ⟨x11,h12,h⟩:=bind_some h
 refine rn1 (aPv _ _ h12) ?_
 refine an (rt ?_)
 cases h
 simp [Ret,TB,EN, *]
instance:bD 53 (type_of% @c53):=⟨@c53⟩
theorem aQR (p0 c0 r) (h:nS p0 c0=some r):Sc 169 [aX (M.bU.en p0),(false,[.ptr [.int .i64 c0]])] [rB r]:=by
 unfold nS at h
 exact sgo 8 [.tmp 3] Tryz.func169
instance:bD 169 (type_of% @aQR):=⟨@aQR⟩
theorem aQT (p0:List M.bU) (p1:M.bU→Option Bool) (f1_:FuncId) (k1_:List D) (hp1 : ∀z0 r,p1 z0=some r→lH Tryz.prog f1_ ((true,M.bU.en z0) ::  k1_.map fun c=>(false,[c])) [(false,[.ro (.bool r)])]) (r:Int) (h:iR p0 p1=some r):Sc 266 [(false,[.sl (List.map M.bU.en p0)]),(false,[.fn f1_ k1_])] [rI r]:=by
 unfold iR at h
 simp only [EN]
 refine sgn 19 [.tmp 4] Tryz.func266 fun base wd => ?_
 refine sq (rn ?_)
 refine an (sq (sq (rn ?_)))
 refine an (bk ?_)
 refine jY (fun m s=>∃v8:Int,s.t 0=vL M.bU.en p0∧s.t 1 = .v false [.dat (.fn f1_ k1_)]∧s.t 7=vI (List.length p0:Int)∧s.t 8=vI v8∧cE p0 p1 m v8=some r) fuel ?_ ?_
 ·refine ⟨0,?_,?_,?_,?_,h⟩
  all_goals simp +decide only [F,reduceIte,Nat.reduceAdd,Bool.not_true,Bool.not_false,EN, *,-h]
 rintro mL1 s1 ⟨v8,f2,f3,f4,f5,h⟩
 rcases mL1 with _ | mL1
 ·exact absurd h (by simp [cE])
 simp only [cE] at h
 refine sq (rn ?_)
 refine an (sq ?_)
 rcases aA5 (decide (v8<(List.length p0:Int))) with b6 | b6
 ·replace h:=bH b6 h
  refine cf (xt (lO (nE (yR (an (sq (rn ?_)))))))
  refine an (rt ?_)
  cases h
  simp [Ret,TB,EN, *]
 replace h:=bI b6 h
 refine ct (sk (an (sq (bk (sq (rn ?_))))))
 refine an (sq ?_)
 obtain ⟨x7,h8,h⟩:=bind_some h
 obtain ⟨q9,q10,q11⟩:=aR h8
 obtain ⟨x12,h13,h⟩:=bind_some h
 refine rn1 (hp1 x7 x12 h13) ?_
 refine an ?_
 rcases cU x12 with b14 | b14
 ·replace h:=bI b14 h
  refine ct (sq (rn ?_))
  refine an (rt ?_)
  cases h
  simp [Ret,TB,EN, *]
 replace h:=bH b14 h
 refine cf (sk (ab (an (rn ?_))))
 refine rQ ⟨mL1,by omega,(i64.wrap (v8+1)),?_,?_,?_,?_,h⟩
 all_goals simp +decide only [F,reduceIte,Nat.reduceAdd,Bool.not_true,Bool.not_false,EN, *,-h]
instance:bD 266 (type_of% @aQT):=⟨@aQT⟩
theorem aUt (p0:List M.bU) (p1:M.bU→Option Bool) (f1_:FuncId) (k1_:List D) (hp1 : ∀z0 r,p1 z0=some r→lH Tryz.prog f1_ ((true,M.bU.en z0) ::  k1_.map fun c=>(false,[c])) [(false,[.ro (.bool r)])]) (r:(List M.bU)) (h:iI p0 p1=some r):lH Tryz.prog 168 [(false,[.sl (List.map M.bU.en p0)]),(false,[.fn f1_ k1_])] [(false,[.edit (.lJ 232 3 (List.map M.bU.en r))])]:=by
 unfold iI at h
 refine aMd (N:=42) (vars:=[.tmp 4]) Tryz.func168 rfl rfl rfl (by decide +kernel) (by decide) (M.bU.en.fl _) (M.bU.en.fl _) (fun y hy=>by obtain ⟨x,_,rfl⟩:=List.mem_map.1 hy;rfl) fun base wd => ?_
 refine sq ?_
 apply gS
 ·simp +decide only [LQ,E,reduceIte,Nat.reduceAdd,Nat.reduceMul,Bool.not_true,Bool.not_false,L,EN]
  exact Is.mk _
 refine an (sq ?_)
 obtain ⟨x1,h2,h⟩:=bind_some h
 apply gS
 ·simp +decide only [LQ,E,reduceIte,Nat.reduceAdd,Nat.reduceMul,Bool.not_true,Bool.not_false,L,EN]
  refine ⟨_,aQT p0 p1 f1_ k1_ hp1 x1 h2,?_⟩
  try simp +decide only [LQ,E,reduceIte,Nat.reduceAdd,Nat.reduceMul,Bool.not_true,Bool.not_false,L,EN]
  exact Is.mk _
 refine an (sq (sq ?_))
 apply gS
 ·simp +decide only [LQ,E,reduceIte,Nat.reduceAdd,Nat.reduceMul,Bool.not_true,Bool.not_false,L,EN]
  exact Is.mk _
 refine an ?_
 rcases cU (x1==(-1)) with b3 | b3
 ·replace h:=bI b3 h
  refine aI2 (by simp +decide only [LQ,F,reduceIte,Nat.reduceAdd,Bool.not_true,Bool.not_false,b3]) ?_
  refine sq ?_
  apply gS
  ·simp +decide only [LQ,E,reduceIte,Nat.reduceAdd,Nat.reduceMul,Bool.not_true,Bool.not_false,L,EN,b3]
   exact Is.mk _
  refine an (rt ?_)
  cases h
  exact ⟨1,List.map M.bU.en p0,true,(by simp +decide only [LQ,F,reduceIte,Nat.reduceAdd,Bool.not_true,Bool.not_false,M.bU.en,b3]),.inl ⟨(by simp +decide [aBe,LQ,b3]),rfl⟩⟩
 replace h:=bH b3 h
 refine aJS (by simp +decide only [LQ,F,reduceIte,Nat.reduceAdd,Bool.not_true,Bool.not_false,b3]) ?_
 refine sk (an (sq (sq ?_)))
 apply gS
 ·simp +decide only [LQ,E,reduceIte,Nat.reduceAdd,Nat.reduceMul,Bool.not_true,Bool.not_false,L,EN,b3]
  exact Is.mk _
 refine an (bk ?_)
 refine jY (fun m s=>∃v5:Int,∃v6:Int,∃r59000:List M.bU,s.t 0 = .v false [.row 7059000 1]∧s.t 1 = .v false [.dat (.fn f1_ k1_)]∧s.t 5 = .v false [.dat (.int .i64 v5)]∧s.t 6 = .v false [.dat (.int .i64 v6)]∧s.h 7059000=(1,.row 232 3 (List.map M.bU.en r59000) true)∧bO p1 m v5 v6 r59000=some r) fuel ?_ ?_
 ·refine ⟨x1,(i64.wrap (x1+1)),p0,?_,?_,?_,?_,?_,h⟩
  all_goals simp +decide only [LQ,F,reduceIte,Nat.reduceAdd,Bool.not_true,Bool.not_false,M.bU.en,b3]
 rintro mL1 s4 ⟨v5,v6,r59000,f5,f6,f7,f8,f9,h⟩
 rcases mL1 with _ | mL1
 ·exact absurd h (by simp [bO])
 simp only [bO] at h
 refine sq (sq ?_)
 apply gS
 ·simp +decide only [LQ,E,reduceIte,Nat.reduceAdd,Nat.reduceMul,Bool.not_true,Bool.not_false,L,aMo,EN,b3,f5,f6,f7,f8,f9]
  exact Is.mk _
 refine an ?_
 rcases aA5 (decide (v6<(List.length r59000:Int))) with b10 | b10
 ·replace h:=bH b10 h
  refine aJS (by simp +decide only [LQ,F,reduceIte,Nat.reduceAdd,Bool.not_true,Bool.not_false,b3,f5,f6,f7,f8,f9,b10]) ?_
  refine xt (lO (nE (yR (an (sq ?_)))))
  obtain ⟨x30,h31,h⟩:=bind_some h
  apply gS
  ·simp +decide only [LQ,E,reduceIte,Nat.reduceAdd,Nat.reduceMul,Bool.not_true,Bool.not_false,←List.map_take,←List.map_drop,L,aMo,aGp,M.bU.en,EN,b3,f5,f6,f7,f8,f9,b10]
   refine ⟨by first | exact aBP h31 | exact (aBP h31).2 | exact (aBP h31).2.2,?_⟩
   try simp +decide only [LQ,E,reduceIte,Nat.reduceAdd,Nat.reduceMul,Bool.not_true,Bool.not_false,←List.map_take,←List.map_drop,L,aMo,aGp,M.bU.en,EN,b3,f5,f6,f7,f8,f9,b10]
   refine ⟨by first | exact aCl h31 | exact (aCl h31).2 | exact (aCl h31).2.2 | (have hb:=aCl h31;simpa using hb),?_⟩
   try simp +decide only [LQ,E,reduceIte,Nat.reduceAdd,Nat.reduceMul,Bool.not_true,Bool.not_false,←List.map_take,←List.map_drop,L,aMo,aGp,M.bU.en,EN,b3,f5,f6,f7,f8,f9,b10]
   exact Is.mk _
  refine an (sq ?_)
  apply gS
  ·simp +decide only [LQ,E,reduceIte,Nat.reduceAdd,Nat.reduceMul,Bool.not_true,Bool.not_false,←List.map_take,←List.map_drop,L,aMo,aGp,M.bU.en,EN,b3,f5,f6,f7,f8,f9,b10]
   refine ⟨by first | exact aDT (f:=M.bU.en) h31 | exact (aDT (f:=M.bU.en) h31).2 | exact (aDT (f:=M.bU.en) h31).2.2 | (have hb:=aDT (f:=M.bU.en) h31;simpa using hb),?_⟩
   try simp +decide only [LQ,E,reduceIte,Nat.reduceAdd,Nat.reduceMul,Bool.not_true,Bool.not_false,←List.map_take,←List.map_drop,L,aMo,aGp,M.bU.en,EN,b3,f5,f6,f7,f8,f9,b10]
   exact Is.mk _
  refine an (rt ?_)
  cases h
  have hb:=aDT (f:=M.bU.en) (r:=[.opq,.opq,.opq]) h31
  exact ⟨1,List.map M.bU.en (List.take v5.toNat r59000)++List.replicate (List.length r59000-v5.toNat) [.opq,.opq,.opq],true,(by simp +decide only [LQ,F,reduceIte,Nat.reduceAdd,Bool.not_true,Bool.not_false,b3,f5,f6,f7,f8,f9,b10]),.inr ⟨v5.toNat,(by simp +decide [aBe,LQ,b3,f5,f6,f7,f8,f9,b10]),hb.2,aKe h31⟩⟩
 replace h:=bI b10 h
 refine aI2 (by simp +decide only [LQ,F,reduceIte,Nat.reduceAdd,Bool.not_true,Bool.not_false,b3,f5,f6,f7,f8,f9,b10]) ?_
 refine sk (an (sq (bk (sq ?_))))
 obtain ⟨x11,h12,h⟩:=bind_some h
 obtain ⟨q13,q14,q15⟩:=aR h12
 apply gS
 ·simp +decide only [LQ,E,reduceIte,Nat.reduceAdd,Nat.reduceMul,Bool.not_true,Bool.not_false,L,aMo,aGp,M.bU.en,EN,b3,f5,f6,f7,f8,f9,b10,q13,q14,q15]
  exact Is.mk _
 refine an (sq ?_)
 obtain ⟨x16,h17,h⟩:=bind_some h
 apply gS
 ·simp +decide only [LQ,E,reduceIte,Nat.reduceAdd,Nat.reduceMul,Bool.not_true,Bool.not_false,L,aGp,EN,b3,f5,f6,f7,f8,f9,b10,q13,q14,q15]
  refine ⟨_,hp1 x11 x16 h17,?_⟩
  try simp +decide only [LQ,E,reduceIte,Nat.reduceAdd,Nat.reduceMul,Bool.not_true,Bool.not_false,L,aGp,EN,b3,f5,f6,f7,f8,f9,b10,q13,q14,q15]
  exact Is.mk _
 refine an ?_
 rcases aA5 (!x16) with b18 | b18
 ·replace h:=bH b18 h
  refine aJS (by simp +decide only [LQ,F,reduceIte,Nat.reduceAdd,Bool.not_true,Bool.not_false,b3,f5,f6,f7,f8,f9,b10,q13,q14,q15,b18]) ?_
  refine sk (ab (an ?_))
  apply gS
  ·simp +decide only [LQ,E,reduceIte,Nat.reduceAdd,Nat.reduceMul,Bool.not_true,Bool.not_false,L,EN,b3,f5,f6,f7,f8,f9,b10,q13,q14,q15,b18]
   exact Is.mk _
  refine rQ ⟨mL1,by omega,v5,(i64.wrap (v6+1)),r59000,?_,?_,?_,?_,?_,h⟩
  all_goals simp +decide only [LQ,F,reduceIte,Nat.reduceAdd,Bool.not_true,Bool.not_false,M.bU.en,b3,f5,f6,f7,f8,f9,b10,q13,q14,q15,b18]
 replace h:=bI b18 h
 refine aI2 (by simp +decide only [LQ,F,reduceIte,Nat.reduceAdd,Bool.not_true,Bool.not_false,b3,f5,f6,f7,f8,f9,b10,q13,q14,q15,b18]) ?_
 refine sq ?_
 obtain ⟨x19,h20,h⟩:=bind_some h
 obtain ⟨q21,q22,q23⟩:=aR h20
 apply gS
 ·simp +decide only [LQ,E,reduceIte,Nat.reduceAdd,Nat.reduceMul,Bool.not_true,Bool.not_false,L,aMo,aGp,M.bU.en,EN,b3,f5,f6,f7,f8,f9,b10,q13,q14,q15,b18,q21,q22,q23]
  exact Is.mk _
 refine an ?_
 refine aNh (J:=fun s=>s.t 0 = .v false [.row 7059000 1]∧s.t 1 = .v false [.dat (.fn f1_ k1_)]∧s.t 5 = .v false [.dat (.int .i64 v5)]∧s.t 6 = .v false [.dat (.int .i64 v6)]∧s.h 7059000=(1,.row 232 3 (List.map M.bU.en (List.set r59000 v5.toNat x11)) true)∧True) ?_ ?_
 ·refine ⟨?_,?_,?_,?_,?_,trivial⟩<;>(try simp +decide only [LQ,F,reduceIte,Nat.reduceAdd,Bool.not_true,Bool.not_false,M.bU.en,b3,f5,f6,f7,f8,f9,b10,q13,q14,q15,b18,q21,q22,q23])
 rintro s24 ⟨f25,f26,f27,f28,f29,_⟩
 apply gS
 ·simp +decide only [LQ,E,reduceIte,Nat.reduceAdd,Nat.reduceMul,Bool.not_true,Bool.not_false,L,EN,b3,b10,q13,q14,q15,b18,q21,q22,q23,f25,f26,f27,f28,f29]
  exact Is.mk _
 refine ab (an ?_)
 apply gS
 ·simp +decide only [LQ,E,reduceIte,Nat.reduceAdd,Nat.reduceMul,Bool.not_true,Bool.not_false,L,EN,b3,b10,q13,q14,q15,b18,q21,q22,q23,f25,f26,f27,f28,f29]
  exact Is.mk _
 refine rQ ⟨mL1,by omega,(i64.wrap (v5+1)),(i64.wrap (v6+1)),(List.set r59000 v5.toNat x11),?_,?_,?_,?_,?_,h⟩
 all_goals simp +decide only [LQ,F,reduceIte,Nat.reduceAdd,Bool.not_true,Bool.not_false,M.bU.en,b3,b10,q13,q14,q15,b18,q21,q22,q23,f25,f26,f27,f28,f29]
theorem c54 (p0 p1 r) (h:tI p0 p1=some r):Sc 54 [aX (M.Channel.en p0),aI p1] [(true,M.Channel.rs r)]:=by
 unfold tI at h
 simp only [EN]
 refine sgn 14 [.cell 4 33] Tryz.func54 fun base wd => ?_
 refine sq (rn ?_)
 refine an (sq ?_)
 obtain ⟨x1,h2,h⟩:=bind_some h
 refine rn1 (aPq _ _ h2) ?_
 refine an (sq ?_)
 obtain ⟨x3,h4,h⟩:=bind_some h
 refine rn1 (aUt x1.Mails (fun z0=>nS z0 p1) 169 [.ptr [.int .i64 p1]] (fun z0 r hr=>aQR z0 p1 r hr) x3 h4) ?_
 refine an (sq (rn ?_))
 refine an (rt ?_)
 cases h
 simp [Ret,TB,EN, *]
instance:bD 54 (type_of% @c54):=⟨@c54⟩
theorem c13 (p0 p1 r) (h:nH p0 p1=some r):Sc 13 [aX (M.World.en p0),aI p1] [(true,M.World.rs r.1),rB r.2]:=by
 unfold nH at h
 simp only [EN]
 refine sgn 43 [.cell 4 37,.tmp 5] Tryz.func13 fun base wd => ?_
 refine sq (rn ?_)
 refine an (sq ?_)
 obtain ⟨x1,h2,h⟩:=bind_some h
 refine rn1 (c48 _ _ h2) ?_
 refine an (sq ?_)
 obtain ⟨x3,h4,h⟩:=bind_some h
 refine rn1 (c49 _ _ _ h4) ?_
 refine an (sq (sq ?_))
 obtain ⟨x5,h6,h⟩:=bind_some h
 rcases cU (!x5) with b7 | b7
 ·replace h:=bI b7 h
  refine rn1 (c50 _ _ h6) ?_
  refine an (ct (sq (rn ?_)))
  refine an (rt ?_)
  cases h
  simp [Ret,TB,EN, *]
 replace h:=bH b7 h
 refine rn1 (c50 _ _ h6) ?_
 refine an ?_
 rcases cU (decide (x3<0)) with b8 | b8
 ·replace h:=bI b8 h
  refine ct (sq (rn ?_))
  refine an (rt ?_)
  cases h
  simp [Ret,TB,EN, *]
 replace h:=bH b8 h
 refine cf (sk (an (sq ?_)))
 obtain ⟨x9,h10,h⟩:=bind_some h
 obtain ⟨x11,h12,h⟩:=bind_some h
 obtain ⟨x13,h14,h⟩:=bind_some h
 apply aEq mixed
 ·simp +decide only [E,reduceIte,Nat.reduceAdd,Nat.reduceMul,Bool.not_true,Bool.not_false,←List.map_take,←List.map_drop,Nat.sub_zero,L,aMr,aMn,aMp,M.bG.en,EN,b7,b8]
  refine ⟨by first | exact uR h10 | exact (uR h10).2 | exact (uR h10).2.2,?_⟩
  try simp +decide only [E,reduceIte,Nat.reduceAdd,Nat.reduceMul,Bool.not_true,Bool.not_false,←List.map_take,←List.map_drop,Nat.sub_zero,L,aMr,aMn,aMp,M.bG.en,EN,b7,b8]
  refine ⟨by first | exact aBP h12 | exact (aBP h12).2 | exact (aBP h12).2.2,?_⟩
  try simp +decide only [E,reduceIte,Nat.reduceAdd,Nat.reduceMul,Bool.not_true,Bool.not_false,←List.map_take,←List.map_drop,Nat.sub_zero,L,aMr,aMn,aMp,M.bG.en,EN,b7,b8]
  refine ⟨by first | exact aEQ (f:=M.bG.en) (sz:=11) (fun _=>rfl) (by decide) h10 h12 h14 | (have hb:=aEQ (f:=M.bG.en) (sz:=11) (fun _=>rfl) (by decide) h10 h12 h14;simpa using hb),?_⟩
  try simp +decide only [E,reduceIte,Nat.reduceAdd,Nat.reduceMul,Bool.not_true,Bool.not_false,←List.map_take,←List.map_drop,Nat.sub_zero,L,aMr,aMn,aMp,M.bG.en,EN,b7,b8]
  exact ⟨.mk (by decide +kernel),Is.mk _⟩
 refine an (sq ?_)
 refine cu (fun s=>s.t 1=vI p1∧s.t 4=vP 4 1 0∧s.t 6=vP 6 1 0∧s.h 4=(1,oB 37 [cI 0,cB false,cI 0,.nil,.nil,cI 0,.nil,.nil,.nil,.nil])∧s.h 6=(1,oB 37 [cI x1.Now,cB x1.Online,cI x1.Device,.row 400009 1,.row 500009 2,cI x1.NextPage,.row 700009 1,.row 800009 1,.row 900009 1,.row 1000009 1])∧s.h 400009=(1,oW 124 24 M.aF.en x1.aM.Buckets)∧s.h 500009=(2,oW 80 11 M.bG.en ((List.take x3.toNat x1.Pages)++(List.drop (i64.wrap (x3+1)).toNat x1.Pages)))∧s.h 700009=(1,oW 144 4 M.bF.en x1.Locks.Locks)∧s.h 800009=(1,oW 232 3 M.bU.en x1.Channel.Mails)∧s.h 900009=(1,oW 95 4 M.Site.en x1.Sites)∧s.h 1000009=(1,oW 102 5 M.Server.en x1.Servers)∧True) ?_
 rintro s15 ⟨f16,f17,f18,f19,f20,f21,f22,f23,f24,f25,f26,_⟩
 obtain ⟨x27,h28,h⟩:=bind_some h
 refine rn1 (c53 _ _ _ h28) ?_
 refine an (sq ?_)
 obtain ⟨x29,h30,h⟩:=bind_some h
 refine rn1 (c54 _ _ _ h30) ?_
 refine an (sq (rn ?_))
 refine an (rt ?_)
 cases h
 simp [Ret,TB,EN, *]
instance:bD 13 (type_of% @c13):=⟨@c13⟩
end Go.Proofs.YtnhpbpnhmapeeaaGreat.gen
