/-
  Helper text. No conditions.
-/
import Derived.Test.YtblghjofnielnaaGreatSharedLocksTi
import Derived.Test.YtblghjofnielnaaGreatSharedLocksWimpl0
import Derived.Test.YtblghjofnielnaaGreatSharedLocksWimpl1
namespace Go.Proofs.YtblghjofnielnaaGreat.gen
open Go Go.Sh
open Go.IntKind (i64)
set_option linter.unusedVariables false
set_option linter.unusedSimpArgs false
set_option maxRecDepth 20000
set_option maxHeartbeats 4000000
theorem aFs (p0 r) (h:rE p0=some r):Sc 127 [aX (M.Site.en p0)] [rB r]:=by
 have i1:=inv fun m s=>∃v8:Int,(s.t 1=vP 1 1 0∧s.t 6=vL enS p0.Files∧s.t 7=vI (List.length p0.Files:Int)∧s.t 8=vI v8∧s.h 1=(1,oX 102 (M.Site.en p0)))∧hY p0 m v8=some r
 have e1:=@hY.eq_2
 unfold rE at h
 exact sgo 45 [.tmp 2] Tryz.func127
instance:aZ 127 (type_of% @aFs):=⟨@aFs⟩
theorem aFr (p0 p1 r) (h:jE p0 p1=some r):Sc 133 [aL enS p0,aS p1] [rI r]:=by
 have i1:=inv fun m s=>∃v8:Int,(s.t 0=vL enS p0∧s.t 1=vS p1∧s.t 7=vI (List.length p0:Int)∧s.t 8=vI v8)∧dF p0 p1 m v8=some r
 have e1:=@dF.eq_2
 unfold jE at h
 exact sgo 19 [.tmp 4] Tryz.func133
instance:aZ 133 (type_of% @aFr):=⟨@aFr⟩
theorem c42 (p0 r) (h:mV p0=some r):Sc 42 [aS p0] [rI r]:=by
 unfold mV at h
 exact sgo 6 [.tmp 2] Tryz.func42
instance:aZ 42 (type_of% @c42):=⟨@c42⟩
theorem aEt (p0 r) (h:pJ p0=some r):Sc 128 [aX (M.Server.en p0)] [rB r]:=by
 have i1:=inv fun m s=>∃v10:Int,(s.t 1=vP 1 1 0∧s.t 8=vL M.bV.en p0.bV∧s.t 9=vI (List.length p0.bV:Int)∧s.t 10=vI v10∧s.h 1=(1,oX 131 (M.Server.en p0)))∧fN p0 m v10=some r
 have e1:=@fN.eq_2
 have i2:=inv fun m s=>∃v45:Int,(s.t 1=vP 1 1 0∧s.t 43=vL M.iB.en p0.Changes∧s.t 44=vI (List.length p0.Changes:Int)∧s.t 45=vI v45∧s.h 1=(1,oX 131 (M.Server.en p0)))∧iP p0 m v45=some r
 have e2:=@iP.eq_2
 unfold pJ at h
 exact sgo 68 [.tmp 2] Tryz.func128
instance:aZ 128 (type_of% @aEt):=⟨@aEt⟩
theorem c39 (p0 r) (h:nK p0=some r):Sc 39 [aX (M.World.en p0)] [rB r]:=by
 have i1:=inv fun m s=>∃v56:Int,(s.t 1=vP 1 1 0∧s.t 54=vL M.dG.en p0.Pages∧s.t 55=vI (List.length p0.Pages:Int)∧s.t 56=vI v56∧s.h 1=(1,oX 37 (M.World.en p0)))∧gI p0 m v56=some r
 have e1:=@gI.eq_2
 have i2:=inv fun m s=>∃v101:Int,(s.t 1=vP 1 1 0∧s.t 99=vL M.Site.en p0.Sites∧s.t 100=vI (List.length p0.Sites:Int)∧s.t 101=vI v101∧s.h 1=(1,oX 37 (M.World.en p0)))∧jQ p0 m v101=some r
 have e2:=@jQ.eq_2
 unfold nK at h
 exact sgo 126 [.tmp 2] Tryz.func39
instance:aZ 39 (type_of% @c39):=⟨@c39⟩
theorem aD9 (p0 p1 r) (h:nU p0 p1=some r):Sc 216 [aX (M.aD.en p0),aI p1] [rB r]:=by
 unfold nU at h
 simp only [EN]
 refine sgn 45 [.tmp 4] Tryz.func216 fun base wd => ?_
 refine sq (rn ?_)
 refine an (sq (sq ?_))
 obtain ⟨x1,h2,h⟩:=bind_some h
 apply bC
 ·simp +decide only [E,reduceIte,Nat.reduceAdd,Nat.reduceMul,Bool.not_true,Bool.not_false,←List.map_take,←List.map_drop,L,xN,uJ,rG,M.cA.en,EN]
  refine ⟨by first | exact jM (f:=M.cA.en) (n:=4) (fun _=>rfl) h2 | exact (jM (f:=M.cA.en) (n:=4) (fun _=>rfl) h2).2 | exact (jM (f:=M.cA.en) (n:=4) (fun _=>rfl) h2).2.2,?_⟩
  try simp +decide only [E,reduceIte,Nat.reduceAdd,Nat.reduceMul,Bool.not_true,Bool.not_false,←List.map_take,←List.map_drop,L,xN,uJ,rG,M.cA.en,EN]
  exact Is.mk _
 refine an (bk ?_)
 refine dH (fun m s=>∃v12:Int,s.t 1=vI p1∧s.t 2=vP 2 1 0∧s.t 10=vL M.cA.en (List.take p1.toNat p0.Locks)∧s.t 11=vI (List.length (List.take p1.toNat p0.Locks):Int)∧s.t 12=vI v12∧s.h 2=(1,oX 30 (M.aD.en p0))∧eF p0 p1 m v12=some r) fuel ?_ ?_
 ·refine ⟨0,?_,?_,?_,?_,?_,?_,h⟩
  all_goals simp +decide only [F,reduceIte,Nat.reduceAdd,Bool.not_true,Bool.not_false,EN, *,-h]
 rintro mL1 s3 ⟨v12,f4,f5,f6,f7,f8,f9,h⟩
 rcases mL1 with _ | mL1
 ·exact absurd h (by simp [eF])
 simp only [eF] at h
 refine sq (rn ?_)
 refine an (sq ?_)
 rcases nX (decide (v12<(List.length (List.take p1.toNat p0.Locks):Int))) with b10 | b10
 ·replace h:=aR b10 h
  refine cf (xt (eA (eX (kB (an (sq (rn ?_)))))))
  refine an (rt ?_)
  cases h
  simp [Ret,TB,EN, *]
 replace h:=aT b10 h
 refine ct (sk (an (sq (bk (sq ?_)))))
 obtain ⟨x11,h12,h⟩:=bind_some h
 obtain ⟨q13,q14,q15⟩:=bK h12
 refine rn ?_
 refine an (sq ?_)
 obtain ⟨x16,h17,h⟩:=bind_some h
 obtain ⟨q18,q19,q20⟩:=bK h17
 rcases nX (x11.Name.toList==x16.Name.toList) with b21 | b21
 ·replace h:=aR b21 h
  refine rd mixed ?_
  refine an (cf (sk (ab (an (rn ?_)))))
  refine cN ⟨mL1,by omega,(i64.wrap (v12+1)),?_,?_,?_,?_,?_,?_,h⟩
  all_goals simp +decide only [F,reduceIte,Nat.reduceAdd,Bool.not_true,Bool.not_false,EN, *,-h]
 replace h:=aT b21 h
 rcases cF (!x11.Held) with b22 | b22
 ·replace h:=aT b22 h
  refine rd mixed ?_
  refine an (ct (sq (rn ?_)))
  refine an (rt ?_)
  cases h
  simp [Ret,TB,EN, *]
 replace h:=aR b22 h
 rcases cF (!x11.Shared) with b23 | b23
 ·replace h:=aT b23 h
  refine rd mixed ?_
  refine an (ct (sq (rn ?_)))
  refine an (rt ?_)
  cases h
  simp [Ret,TB,EN, *]
 replace h:=aR b23 h
 refine rd mixed ?_
 refine an ?_
 rcases cF (!x16.Shared) with b24 | b24
 ·replace h:=aT b24 h
  refine ct (sq (rn ?_))
  refine an (rt ?_)
  cases h
  simp [Ret,TB,EN, *]
 replace h:=aR b24 h
 refine cf (sk (ab (an (rn ?_))))
 refine cN ⟨mL1,by omega,(i64.wrap (v12+1)),?_,?_,?_,?_,?_,?_,h⟩
 all_goals simp +decide only [F,reduceIte,Nat.reduceAdd,Bool.not_true,Bool.not_false,EN, *,-h]
instance:aZ 216 (type_of% @aD9):=⟨@aD9⟩
theorem c72 (p0 p1 p2 p3 r) (h:lU p0 p1 p2 p3=some r):Sc 72 [aX (M.aD.en p0),aS p1,aI p2,aB p3] [(true,M.aD.rs r.1),rB r.2]:=by
 unfold lU at h
 simp only [List.length_append,List.length_cons,List.length_nil,Nat.zero_add,Nat.reduceAdd] at h
 simp only [EN]
 refine sgn 46 [.cell 8 30,.tmp 9] Tryz.func72 fun base wd => ?_
 refine sq ?_
 apply bC
 ·simp +decide only [E,reduceIte,Nat.reduceAdd,Nat.reduceMul,Bool.not_true,Bool.not_false,List.length_append,List.length_map,List.length_cons,List.length_nil,Nat.zero_add,L,uJ,EN]
  exact Is.mk _
 refine an (sq ?_)
 obtain ⟨x1,h2,h⟩:=bind_some h
 apply bC
 ·simp +decide only [E,reduceIte,Nat.reduceAdd,Nat.reduceMul,Bool.not_true,Bool.not_false,List.length_append,List.length_map,List.length_cons,List.length_nil,Nat.zero_add,L,uJ,EN]
  refine ⟨_,aCk _ _ h2,?_⟩
  try simp +decide only [E,reduceIte,Nat.reduceAdd,Nat.reduceMul,Bool.not_true,Bool.not_false,List.length_append,List.length_map,List.length_cons,List.length_nil,Nat.zero_add,L,uJ,EN]
  exact Is.mk _
 refine an (sq ?_)
 obtain ⟨x3,h4,h⟩:=bind_some h
 apply bC
 ·simp +decide only [E,reduceIte,Nat.reduceAdd,Nat.reduceMul,Bool.not_true,Bool.not_false,List.length_append,List.length_map,List.length_cons,List.length_nil,Nat.zero_add,L,xN,uJ,rG,M.cA.en,EN]
  refine ⟨by (have hb:=bU h4);simp [M.cA.en,List.length_append,aG] at hb ⊢ <;> omega,?_⟩
  try simp +decide only [E,reduceIte,Nat.reduceAdd,Nat.reduceMul,Bool.not_true,Bool.not_false,List.length_append,List.length_map,List.length_cons,List.length_nil,Nat.zero_add,L,xN,uJ,rG,M.cA.en,EN]
  exact Is.mk _
 refine an (sq ?_)
 refine aAX (J:=fun s=>s.t 4 = .v false [.bp 4 1 0]∧s.t 8 = .v false [.bp 8 1 0]∧s.t 10 = .v false [.bp 10 1 0]∧s.h 4=(1,.box 30 [.dat (.sl (List.map M.cA.en p0.Locks))])∧s.h 8=(1,.box 30 [.nil])∧s.h 10=(1,.box 30 [.row 100013 2])∧s.h 100013=(2,.row 153 4 (List.map M.cA.en (x1.Locks++[(⟨p1,p2,p3,false⟩:M.cA)])) true)∧True) ?_ ?_
 ·refine ⟨?_,?_,?_,?_,?_,?_,?_,trivial⟩<;>(try simp +decide only [F,reduceIte,Nat.reduceAdd,Bool.not_true,Bool.not_false,M.cA.en,List.length_append,List.length_map,List.length_cons,List.length_nil,Nat.zero_add])
 rintro s5 ⟨f6,f7,f8,f9,f10,f11,f12,_⟩
 apply bC
 ·simp +decide only [E,reduceIte,Nat.reduceAdd,Nat.reduceMul,Bool.not_true,Bool.not_false,List.length_append,List.length_map,List.length_cons,List.length_nil,Nat.zero_add,L,xN,uJ,EN,f6,f7,f8,f9,f10,f11,f12]
  exact Is.mk _
 refine an (sq ?_)
 obtain ⟨x13,h14,h⟩:=bind_some h
 obtain ⟨x15,h16,h⟩:=bind_some h
 obtain ⟨q17,q18,q19⟩:=bK h16
 try simp only [List.length_append,List.length_map,List.length_cons,List.length_nil,Nat.zero_add,Nat.reduceAdd] at q17 q18 q19
 apply uF mixed
 ·simp +decide only [E,reduceIte,Nat.reduceAdd,Nat.reduceMul,Bool.not_true,Bool.not_false,List.length_append,List.length_map,List.length_cons,List.length_nil,Nat.zero_add,L,ti4,xN,uJ,rG,M.cA.en,EN,f6,f7,f8,f9,f10,f11,f12,q17,q18,q19]
  have hc:=aD9 _ _ _ h14
  try simp only [List.length_append,List.length_map,List.length_cons,List.length_nil,Nat.zero_add,Nat.reduceAdd] at hc
  try simp only [List.map_append,List.map_cons,List.map_nil,M.cA.en] at hc
  refine ⟨_,hc,?_⟩
  try simp +decide only [E,reduceIte,Nat.reduceAdd,Nat.reduceMul,Bool.not_true,Bool.not_false,List.length_append,List.length_map,List.length_cons,List.length_nil,Nat.zero_add,L,ti4,xN,uJ,rG,M.cA.en,EN,f6,f7,f8,f9,f10,f11,f12,q17,q18,q19]
  exact ⟨.mk (by decide +kernel),Is.mk _⟩
 refine an (sq (sq ?_))
 refine aAX (J:=fun s=>s.t 4 = .v false [.bp 4 1 0]∧s.t 8 = .v false [.bp 8 1 0]∧s.t 10 = .v false [.bp 10 1 0]∧s.h 4=(1,.box 30 [.dat (.sl (List.map M.cA.en p0.Locks))])∧s.h 8=(1,.box 30 [.nil])∧s.h 10=(1,.box 30 [.row 100013 2])∧s.h 100013=(2,.row 153 4 (List.map M.cA.en (List.set (x1.Locks++[(⟨p1,p2,p3,false⟩:M.cA)]) (i64.wrap ((List.length (x1.Locks++[(⟨p1,p2,p3,false⟩:M.cA)]):Int)-1)).toNat (⟨x15.Name,x15.dG,x15.Shared,x13⟩:M.cA))) true)∧True) ?_ ?_
 ·refine ⟨?_,?_,?_,?_,?_,?_,?_,trivial⟩<;>(try simp +decide only [F,reduceIte,Nat.reduceAdd,Bool.not_true,Bool.not_false,M.cA.en,List.length_append,List.length_map,List.length_cons,List.length_nil,Nat.zero_add,f6,f7,f8,f9,f10,f11,f12,q17,q18,q19])
 rintro s20 ⟨f21,f22,f23,f24,f25,f26,f27,_⟩
 obtain ⟨x28,h29,h⟩:=bind_some h
 rcases cF (!x28) with b30 | b30
 ·replace h:=aT b30 h
  apply bC
  ·simp +decide only [E,reduceIte,Nat.reduceAdd,Nat.reduceMul,Bool.not_true,Bool.not_false,List.length_append,List.length_map,List.length_cons,List.length_nil,Nat.zero_add,L,uJ,EN,q17,q18,q19,f21,f22,f23,f24,f25,f26,f27,b30]
   refine ⟨_,aDB _ _ h29,?_⟩
   try simp +decide only [E,reduceIte,Nat.reduceAdd,Nat.reduceMul,Bool.not_true,Bool.not_false,List.length_append,List.length_map,List.length_cons,List.length_nil,Nat.zero_add,L,uJ,EN,q17,q18,q19,f21,f22,f23,f24,f25,f26,f27,b30]
   exact Is.mk _
  refine an ?_
  refine xL (by simp +decide only [F,reduceIte,Nat.reduceAdd,Bool.not_true,Bool.not_false,List.length_append,List.length_map,List.length_cons,List.length_nil,Nat.zero_add,q17,q18,q19,f21,f22,f23,f24,f25,f26,f27,b30]) ?_
  refine sq ?_
  obtain ⟨x31,h32,h⟩:=bind_some h
  apply bC
  ·simp +decide only [E,reduceIte,Nat.reduceAdd,Nat.reduceMul,Bool.not_true,Bool.not_false,List.length_append,List.length_map,List.length_cons,List.length_nil,Nat.zero_add,L,uJ,EN,q17,q18,q19,f21,f22,f23,f24,f25,f26,f27,b30]
   refine ⟨_,aCk _ _ h32,?_⟩
   try simp +decide only [E,reduceIte,Nat.reduceAdd,Nat.reduceMul,Bool.not_true,Bool.not_false,List.length_append,List.length_map,List.length_cons,List.length_nil,Nat.zero_add,L,uJ,EN,q17,q18,q19,f21,f22,f23,f24,f25,f26,f27,b30]
   exact Is.mk _
  refine an (rt ?_)
  cases h
  simp [Ret,uJ,M.cA.en,q17,q18,q19,f21,f22,f23,f24,f25,f26,f27,b30]
 replace h:=aR b30 h
 obtain ⟨x33,h34,h⟩:=bind_some h
 apply bC
 ·simp +decide only [E,reduceIte,Nat.reduceAdd,Nat.reduceMul,Bool.not_true,Bool.not_false,List.length_append,List.length_map,List.length_cons,List.length_nil,Nat.zero_add,L,uJ,EN,q17,q18,q19,f21,f22,f23,f24,f25,f26,f27,b30]
  refine ⟨_,aDB _ _ h29,?_⟩
  try simp +decide only [E,reduceIte,Nat.reduceAdd,Nat.reduceMul,Bool.not_true,Bool.not_false,List.length_append,List.length_map,List.length_cons,List.length_nil,Nat.zero_add,L,uJ,EN,q17,q18,q19,f21,f22,f23,f24,f25,f26,f27,b30]
  refine ⟨_,aDB _ _ h34,?_⟩
  try simp +decide only [E,reduceIte,Nat.reduceAdd,Nat.reduceMul,Bool.not_true,Bool.not_false,List.length_append,List.length_map,List.length_cons,List.length_nil,Nat.zero_add,L,uJ,EN,q17,q18,q19,f21,f22,f23,f24,f25,f26,f27,b30]
  exact Is.mk _
 refine an ?_
 rcases nX (!x33) with b35 | b35
 ·replace h:=aR b35 h
  refine yX (by simp +decide only [F,reduceIte,Nat.reduceAdd,Bool.not_true,Bool.not_false,List.length_append,List.length_map,List.length_cons,List.length_nil,Nat.zero_add,q17,q18,q19,f21,f22,f23,f24,f25,f26,f27,b30,b35]) ?_
  refine sk (an (sq ?_))
  apply bC
  ·simp +decide only [E,reduceIte,Nat.reduceAdd,Nat.reduceMul,Bool.not_true,Bool.not_false,List.length_append,List.length_map,List.length_cons,List.length_nil,Nat.zero_add,L,uJ,EN,q17,q18,q19,f21,f22,f23,f24,f25,f26,f27,b30,b35]
   exact Is.mk _
  refine an (rt ?_)
  cases h
  simp [Ret,uJ,M.cA.en,q17,q18,q19,f21,f22,f23,f24,f25,f26,f27,b30,b35]
 replace h:=aT b35 h
 refine xL (by simp +decide only [F,reduceIte,Nat.reduceAdd,Bool.not_true,Bool.not_false,List.length_append,List.length_map,List.length_cons,List.length_nil,Nat.zero_add,q17,q18,q19,f21,f22,f23,f24,f25,f26,f27,b30,b35]) ?_
 refine sq ?_
 obtain ⟨x36,h37,h⟩:=bind_some h
 apply bC
 ·simp +decide only [E,reduceIte,Nat.reduceAdd,Nat.reduceMul,Bool.not_true,Bool.not_false,List.length_append,List.length_map,List.length_cons,List.length_nil,Nat.zero_add,L,uJ,EN,q17,q18,q19,f21,f22,f23,f24,f25,f26,f27,b30,b35]
  refine ⟨_,aCk _ _ h37,?_⟩
  try simp +decide only [E,reduceIte,Nat.reduceAdd,Nat.reduceMul,Bool.not_true,Bool.not_false,List.length_append,List.length_map,List.length_cons,List.length_nil,Nat.zero_add,L,uJ,EN,q17,q18,q19,f21,f22,f23,f24,f25,f26,f27,b30,b35]
  exact Is.mk _
 refine an (rt ?_)
 cases h
 simp [Ret,uJ,M.cA.en,q17,q18,q19,f21,f22,f23,f24,f25,f26,f27,b30,b35]
instance:aZ 72 (type_of% @c72):=⟨@c72⟩
theorem aD3 (p0 c0 c1 r) (h:iT p0 c0 c1=some r):Sc 218 [aX (M.cA.en p0),(false,[.ptr [.str c0]]),(false,[.ptr [.int .i64 c1]])] [rB r]:=by
 unfold iT at h
 exact sgo 19 [.tmp 4] Tryz.func218
instance:aZ 218 (type_of% @aD3):=⟨@aD3⟩
theorem aDR (p0:List M.cA) (p1:M.cA→Option Bool) (f1_:FuncId) (k1_:List D) (hp1 : ∀z0 r,p1 z0=some r→dS Tryz.prog f1_ ((true,M.cA.en z0) ::  k1_.map fun c=>(false,[c])) [(false,[.ro (.bool r)])]) (r:Int) (h:dY p0 p1=some r):Sc 344 [(false,[.sl (List.map M.cA.en p0)]),(false,[.fn f1_ k1_])] [rI r]:=by
 unfold dY at h
 simp only [EN]
 refine sgn 19 [.tmp 4] Tryz.func344 fun base wd => ?_
 refine sq (rn ?_)
 refine an (sq (sq (rn ?_)))
 refine an (bk ?_)
 refine dH (fun m s=>∃v8:Int,s.t 0=vL M.cA.en p0∧s.t 1 = .v false [.dat (.fn f1_ k1_)]∧s.t 7=vI (List.length p0:Int)∧s.t 8=vI v8∧bX p0 p1 m v8=some r) fuel ?_ ?_
 ·refine ⟨0,?_,?_,?_,?_,h⟩
  all_goals simp +decide only [F,reduceIte,Nat.reduceAdd,Bool.not_true,Bool.not_false,EN, *,-h]
 rintro mL1 s1 ⟨v8,f2,f3,f4,f5,h⟩
 rcases mL1 with _ | mL1
 ·exact absurd h (by simp [bX])
 simp only [bX] at h
 refine sq (rn ?_)
 refine an (sq ?_)
 rcases nX (decide (v8<(List.length p0:Int))) with b6 | b6
 ·replace h:=aR b6 h
  refine cf (xt (eA (eX (kB (an (sq (rn ?_)))))))
  refine an (rt ?_)
  cases h
  simp [Ret,TB,EN, *]
 replace h:=aT b6 h
 refine ct (sk (an (sq (bk (sq (rn ?_))))))
 refine an (sq ?_)
 obtain ⟨x7,h8,h⟩:=bind_some h
 obtain ⟨q9,q10,q11⟩:=bK h8
 obtain ⟨x12,h13,h⟩:=bind_some h
 refine rn1 (hp1 x7 x12 h13) ?_
 refine an ?_
 rcases cF x12 with b14 | b14
 ·replace h:=aT b14 h
  refine ct (sq (rn ?_))
  refine an (rt ?_)
  cases h
  simp [Ret,TB,EN, *]
 replace h:=aR b14 h
 refine cf (sk (ab (an (rn ?_))))
 refine cN ⟨mL1,by omega,(i64.wrap (v8+1)),?_,?_,?_,?_,h⟩
 all_goals simp +decide only [F,reduceIte,Nat.reduceAdd,Bool.not_true,Bool.not_false,EN, *,-h]
instance:aZ 344 (type_of% @aDR):=⟨@aDR⟩
theorem aDT (p0:List M.cA) (p1:M.cA→Option Bool) (f1_:FuncId) (k1_:List D) (hp1 : ∀z0 r,p1 z0=some r→dS Tryz.prog f1_ ((true,M.cA.en z0) ::  k1_.map fun c=>(false,[c])) [(false,[.ro (.bool r)])]) (r:Bool) (h:eY p0 p1=some r):Sc 217 [(false,[.sl (List.map M.cA.en p0)]),(false,[.fn f1_ k1_])] [rB r]:=by
 unfold eY at h
 simp only [EN]
 refine sgn 9 [.tmp 4] Tryz.func217 fun base wd => ?_
 refine sq (rn ?_)
 refine an (sq ?_)
 obtain ⟨x1,h2,h⟩:=bind_some h
 refine rn1 (aDR p0 p1 f1_ k1_ hp1 x1 h2) ?_
 refine an (rt ?_)
 cases h
 simp [Ret,TB,EN, *]
instance:aZ 217 (type_of% @aDT):=⟨@aDT⟩
theorem c73 (p0 p1 p2 r) (h:oD p0 p1 p2=some r):Sc 73 [aX (M.aD.en p0),aS p1,aI p2] [rB r]:=by
 unfold oD at h
 simp only [EN]
 refine sgn 11 [.tmp 6] Tryz.func73 fun base wd => ?_
 refine sq (rn ?_)
 refine an (sq ?_)
 obtain ⟨x1,h2,h⟩:=bind_some h
 refine rn1 (aDT p0.Locks (fun z0=>iT z0 p1 p2) 218 [.ptr [.str p1],.ptr [.int .i64 p2]] (fun z0 r hr=>aD3 z0 p1 p2 r hr) x1 h2) ?_
 refine an (rt ?_)
 cases h
 simp [Ret,TB,EN, *]
instance:aZ 73 (type_of% @c73):=⟨@c73⟩
theorem c13 (p0 p1 p2 p3 r) (h:jC p0 p1 p2 p3=some r):Sc 13 [aX (M.World.en p0),aI p1,aS p2,aB p3] [(true,M.World.rs r.1),rB r.2]:=by
 unfold jC at h
 exact sgo 64 [.cell 8 37,.tmp 9] Tryz.func13
instance:aZ 13 (type_of% @c13):=⟨@c13⟩
theorem aDr (p0 c0 r) (h:fJ p0 c0=some r):Sc 220 [aX (M.cA.en p0),(false,[.ptr [.int .i64 c0]])] [rB r]:=by
 unfold fJ at h
 exact sgo 8 [.tmp 3] Tryz.func220
instance:aZ 220 (type_of% @aDr):=⟨@aDr⟩
theorem aGJ (p0:List M.cA) (p1:M.cA→Option Bool) (f1_:FuncId) (k1_:List D) (hp1 : ∀z0 r,p1 z0=some r→dS Tryz.prog f1_ ((true,M.cA.en z0) ::  k1_.map fun c=>(false,[c])) [(false,[.ro (.bool r)])]) (r:(List M.cA)) (h:gN p0 p1=some r):dS Tryz.prog 219 [(false,[.sl (List.map M.cA.en p0)]),(false,[.fn f1_ k1_])] [(false,[.edit (.dV 153 4 (List.map M.cA.en r))])]:=by
 unfold gN at h
 refine aBd (N:=42) (vars:=[.tmp 4]) Tryz.func219 rfl rfl rfl (by decide +kernel) (by decide) (M.cA.en.fl _) (M.cA.en.fl _) (fun y hy=>by obtain ⟨x,_,rfl⟩:=List.mem_map.1 hy;rfl) fun base wd => ?_
 refine sq ?_
 apply bC
 ·simp +decide only [LQ,E,reduceIte,Nat.reduceAdd,Nat.reduceMul,Bool.not_true,Bool.not_false,L,EN]
  exact Is.mk _
 refine an (sq ?_)
 obtain ⟨x1,h2,h⟩:=bind_some h
 apply bC
 ·simp +decide only [LQ,E,reduceIte,Nat.reduceAdd,Nat.reduceMul,Bool.not_true,Bool.not_false,L,EN]
  refine ⟨_,aDR p0 p1 f1_ k1_ hp1 x1 h2,?_⟩
  try simp +decide only [LQ,E,reduceIte,Nat.reduceAdd,Nat.reduceMul,Bool.not_true,Bool.not_false,L,EN]
  exact Is.mk _
 refine an (sq (sq ?_))
 apply bC
 ·simp +decide only [LQ,E,reduceIte,Nat.reduceAdd,Nat.reduceMul,Bool.not_true,Bool.not_false,L,EN]
  exact Is.mk _
 refine an ?_
 rcases cF (x1==(-1)) with b3 | b3
 ·replace h:=aT b3 h
  refine xL (by simp +decide only [LQ,F,reduceIte,Nat.reduceAdd,Bool.not_true,Bool.not_false,b3]) ?_
  refine sq ?_
  apply bC
  ·simp +decide only [LQ,E,reduceIte,Nat.reduceAdd,Nat.reduceMul,Bool.not_true,Bool.not_false,L,EN,b3]
   exact Is.mk _
  refine an (rt ?_)
  cases h
  exact ⟨1,List.map M.cA.en p0,true,(by simp +decide only [LQ,F,reduceIte,Nat.reduceAdd,Bool.not_true,Bool.not_false,M.cA.en,b3]),.inl ⟨(by simp +decide [nV,LQ,b3]),rfl⟩⟩
 replace h:=aR b3 h
 refine yX (by simp +decide only [LQ,F,reduceIte,Nat.reduceAdd,Bool.not_true,Bool.not_false,b3]) ?_
 refine sk (an (sq (sq ?_)))
 apply bC
 ·simp +decide only [LQ,E,reduceIte,Nat.reduceAdd,Nat.reduceMul,Bool.not_true,Bool.not_false,L,EN,b3]
  exact Is.mk _
 refine an (bk ?_)
 refine dH (fun m s=>∃v5:Int,∃v6:Int,∃r59000:List M.cA,s.t 0 = .v false [.row 7059000 1]∧s.t 1 = .v false [.dat (.fn f1_ k1_)]∧s.t 5 = .v false [.dat (.int .i64 v5)]∧s.t 6 = .v false [.dat (.int .i64 v6)]∧s.h 7059000=(1,.row 153 4 (List.map M.cA.en r59000) true)∧bG p1 m v5 v6 r59000=some r) fuel ?_ ?_
 ·refine ⟨x1,(i64.wrap (x1+1)),p0,?_,?_,?_,?_,?_,h⟩
  all_goals simp +decide only [LQ,F,reduceIte,Nat.reduceAdd,Bool.not_true,Bool.not_false,M.cA.en,b3]
 rintro mL1 s4 ⟨v5,v6,r59000,f5,f6,f7,f8,f9,h⟩
 rcases mL1 with _ | mL1
 ·exact absurd h (by simp [bG])
 simp only [bG] at h
 refine sq (sq ?_)
 apply bC
 ·simp +decide only [LQ,E,reduceIte,Nat.reduceAdd,Nat.reduceMul,Bool.not_true,Bool.not_false,L,xN,EN,b3,f5,f6,f7,f8,f9]
  exact Is.mk _
 refine an ?_
 rcases nX (decide (v6<(List.length r59000:Int))) with b10 | b10
 ·replace h:=aR b10 h
  refine yX (by simp +decide only [LQ,F,reduceIte,Nat.reduceAdd,Bool.not_true,Bool.not_false,b3,f5,f6,f7,f8,f9,b10]) ?_
  refine xt (eA (eX (kB (an (sq ?_)))))
  obtain ⟨x30,h31,h⟩:=bind_some h
  apply bC
  ·simp +decide only [LQ,E,reduceIte,Nat.reduceAdd,Nat.reduceMul,Bool.not_true,Bool.not_false,←List.map_take,←List.map_drop,L,xN,rG,M.cA.en,EN,b3,f5,f6,f7,f8,f9,b10]
   refine ⟨by first | exact rO h31 | exact (rO h31).2 | exact (rO h31).2.2,?_⟩
   try simp +decide only [LQ,E,reduceIte,Nat.reduceAdd,Nat.reduceMul,Bool.not_true,Bool.not_false,←List.map_take,←List.map_drop,L,xN,rG,M.cA.en,EN,b3,f5,f6,f7,f8,f9,b10]
   refine ⟨by first | exact sD h31 | exact (sD h31).2 | exact (sD h31).2.2 | (have hb:=sD h31;simpa using hb),?_⟩
   try simp +decide only [LQ,E,reduceIte,Nat.reduceAdd,Nat.reduceMul,Bool.not_true,Bool.not_false,←List.map_take,←List.map_drop,L,xN,rG,M.cA.en,EN,b3,f5,f6,f7,f8,f9,b10]
   exact Is.mk _
  refine an (sq ?_)
  apply bC
  ·simp +decide only [LQ,E,reduceIte,Nat.reduceAdd,Nat.reduceMul,Bool.not_true,Bool.not_false,←List.map_take,←List.map_drop,L,xN,rG,M.cA.en,EN,b3,f5,f6,f7,f8,f9,b10]
   refine ⟨by first | exact sZ (f:=M.cA.en) h31 | exact (sZ (f:=M.cA.en) h31).2 | exact (sZ (f:=M.cA.en) h31).2.2 | (have hb:=sZ (f:=M.cA.en) h31;simpa using hb),?_⟩
   try simp +decide only [LQ,E,reduceIte,Nat.reduceAdd,Nat.reduceMul,Bool.not_true,Bool.not_false,←List.map_take,←List.map_drop,L,xN,rG,M.cA.en,EN,b3,f5,f6,f7,f8,f9,b10]
   exact Is.mk _
  refine an (rt ?_)
  cases h
  have hb:=sZ (f:=M.cA.en) (r:=[.opq,.opq,.opq,.opq]) h31
  exact ⟨1,List.map M.cA.en (List.take v5.toNat r59000)++List.replicate (List.length r59000-v5.toNat) [.opq,.opq,.opq,.opq],true,(by simp +decide only [LQ,F,reduceIte,Nat.reduceAdd,Bool.not_true,Bool.not_false,b3,f5,f6,f7,f8,f9,b10]),.inr ⟨v5.toNat,(by simp +decide [nV,LQ,b3,f5,f6,f7,f8,f9,b10]),hb.2,aAS h31⟩⟩
 replace h:=aT b10 h
 refine xL (by simp +decide only [LQ,F,reduceIte,Nat.reduceAdd,Bool.not_true,Bool.not_false,b3,f5,f6,f7,f8,f9,b10]) ?_
 refine sk (an (sq (bk (sq ?_))))
 obtain ⟨x11,h12,h⟩:=bind_some h
 obtain ⟨q13,q14,q15⟩:=bK h12
 apply bC
 ·simp +decide only [LQ,E,reduceIte,Nat.reduceAdd,Nat.reduceMul,Bool.not_true,Bool.not_false,L,xN,rG,M.cA.en,EN,b3,f5,f6,f7,f8,f9,b10,q13,q14,q15]
  exact Is.mk _
 refine an (sq ?_)
 obtain ⟨x16,h17,h⟩:=bind_some h
 apply bC
 ·simp +decide only [LQ,E,reduceIte,Nat.reduceAdd,Nat.reduceMul,Bool.not_true,Bool.not_false,L,rG,EN,b3,f5,f6,f7,f8,f9,b10,q13,q14,q15]
  refine ⟨_,hp1 x11 x16 h17,?_⟩
  try simp +decide only [LQ,E,reduceIte,Nat.reduceAdd,Nat.reduceMul,Bool.not_true,Bool.not_false,L,rG,EN,b3,f5,f6,f7,f8,f9,b10,q13,q14,q15]
  exact Is.mk _
 refine an ?_
 rcases nX (!x16) with b18 | b18
 ·replace h:=aR b18 h
  refine yX (by simp +decide only [LQ,F,reduceIte,Nat.reduceAdd,Bool.not_true,Bool.not_false,b3,f5,f6,f7,f8,f9,b10,q13,q14,q15,b18]) ?_
  refine sk (ab (an ?_))
  apply bC
  ·simp +decide only [LQ,E,reduceIte,Nat.reduceAdd,Nat.reduceMul,Bool.not_true,Bool.not_false,L,EN,b3,f5,f6,f7,f8,f9,b10,q13,q14,q15,b18]
   exact Is.mk _
  refine cN ⟨mL1,by omega,v5,(i64.wrap (v6+1)),r59000,?_,?_,?_,?_,?_,h⟩
  all_goals simp +decide only [LQ,F,reduceIte,Nat.reduceAdd,Bool.not_true,Bool.not_false,M.cA.en,b3,f5,f6,f7,f8,f9,b10,q13,q14,q15,b18]
 replace h:=aT b18 h
 refine xL (by simp +decide only [LQ,F,reduceIte,Nat.reduceAdd,Bool.not_true,Bool.not_false,b3,f5,f6,f7,f8,f9,b10,q13,q14,q15,b18]) ?_
 refine sq ?_
 obtain ⟨x19,h20,h⟩:=bind_some h
 obtain ⟨q21,q22,q23⟩:=bK h20
 apply bC
 ·simp +decide only [LQ,E,reduceIte,Nat.reduceAdd,Nat.reduceMul,Bool.not_true,Bool.not_false,L,xN,rG,M.cA.en,EN,b3,f5,f6,f7,f8,f9,b10,q13,q14,q15,b18,q21,q22,q23]
  exact Is.mk _
 refine an ?_
 refine aAX (J:=fun s=>s.t 0 = .v false [.row 7059000 1]∧s.t 1 = .v false [.dat (.fn f1_ k1_)]∧s.t 5 = .v false [.dat (.int .i64 v5)]∧s.t 6 = .v false [.dat (.int .i64 v6)]∧s.h 7059000=(1,.row 153 4 (List.map M.cA.en (List.set r59000 v5.toNat x11)) true)∧True) ?_ ?_
 ·refine ⟨?_,?_,?_,?_,?_,trivial⟩<;>(try simp +decide only [LQ,F,reduceIte,Nat.reduceAdd,Bool.not_true,Bool.not_false,M.cA.en,b3,f5,f6,f7,f8,f9,b10,q13,q14,q15,b18,q21,q22,q23])
 rintro s24 ⟨f25,f26,f27,f28,f29,_⟩
 apply bC
 ·simp +decide only [LQ,E,reduceIte,Nat.reduceAdd,Nat.reduceMul,Bool.not_true,Bool.not_false,L,EN,b3,b10,q13,q14,q15,b18,q21,q22,q23,f25,f26,f27,f28,f29]
  exact Is.mk _
 refine ab (an ?_)
 apply bC
 ·simp +decide only [LQ,E,reduceIte,Nat.reduceAdd,Nat.reduceMul,Bool.not_true,Bool.not_false,L,EN,b3,b10,q13,q14,q15,b18,q21,q22,q23,f25,f26,f27,f28,f29]
  exact Is.mk _
 refine cN ⟨mL1,by omega,(i64.wrap (v5+1)),(i64.wrap (v6+1)),(List.set r59000 v5.toNat x11),?_,?_,?_,?_,?_,h⟩
 all_goals simp +decide only [LQ,F,reduceIte,Nat.reduceAdd,Bool.not_true,Bool.not_false,M.cA.en,b3,b10,q13,q14,q15,b18,q21,q22,q23,f25,f26,f27,f28,f29]
theorem aD4 (p0 r) (h:nH p0=some r):Sc 221 [aX (M.aD.en p0)] [(true,M.aD.rs r)]:=by
 have i1:=fun (x1:M.aD)=>inv fun m s=>∃v10:Int,∃r6:List M.cA,(s.t 2=vP 2 1 0∧s.t 3=vP 3 1 0∧s.t 9=vI (List.length x1.Locks:Int)∧s.t 10=vI v10∧s.h 2=(1,oB 30 [.nil])∧s.h 3=(1,oB 30 [.row 100006 1])∧s.h 100006=(1,oW 153 4 M.cA.en r6))∧dP x1 m v10 r6=some r
 have e1:=@dP.eq_2
 unfold nH at h
 exact sgo 30 [.cell 2 30] Tryz.func221
instance:aZ 221 (type_of% @aD4):=⟨@aD4⟩
theorem c74 (p0 p1 r) (h:lC p0 p1=some r):Sc 74 [aX (M.aD.en p0),aI p1] [(true,M.aD.rs r)]:=by
 unfold lC at h
 simp only [EN]
 refine sgn 15 [.cell 4 30] Tryz.func74 fun base wd => ?_
 refine sq (rn ?_)
 refine an (sq ?_)
 obtain ⟨x1,h2,h⟩:=bind_some h
 refine rn1 (aCk _ _ h2) ?_
 refine an (sq ?_)
 obtain ⟨x3,h4,h⟩:=bind_some h
 refine rn1 (aGJ x1.Locks (fun z0=>fJ z0 p1) 220 [.ptr [.int .i64 p1]] (fun z0 r hr=>aDr z0 p1 r hr) x3 h4) ?_
 refine an (sq ?_)
 refine cu (fun s=>s.t 4=vP 4 1 0∧s.t 5=vP 5 1 0∧s.h 4=(1,oB 30 [.nil])∧s.h 5=(1,oB 30 [.row 100007 2])∧s.h 100007=(2,oW 153 4 M.cA.en x3)∧True) ?_
 rintro s5 ⟨f6,f7,f8,f9,f10,_⟩
 obtain ⟨x11,h12,h⟩:=bind_some h
 refine rn1 (aD4 _ _ h12) ?_
 refine an (rt ?_)
 cases h
 simp [Ret,TB,EN, *]
instance:aZ 74 (type_of% @c74):=⟨@c74⟩
theorem aDb (p0 c0 r) (h:iD p0 c0=some r):Sc 223 [aX (M.iR.en p0),(false,[.ptr [.int .i64 c0]])] [rB r]:=by
 unfold iD at h
 exact sgo 8 [.tmp 3] Tryz.func223
instance:aZ 223 (type_of% @aDb):=⟨@aDb⟩
theorem aD8 (p0:List M.iR) (p1:M.iR→Option Bool) (f1_:FuncId) (k1_:List D) (hp1 : ∀z0 r,p1 z0=some r→dS Tryz.prog f1_ ((true,M.iR.en z0) ::  k1_.map fun c=>(false,[c])) [(false,[.ro (.bool r)])]) (r:Int) (h:hE p0 p1=some r):Sc 345 [(false,[.sl (List.map M.iR.en p0)]),(false,[.fn f1_ k1_])] [rI r]:=by
 unfold hE at h
 simp only [EN]
 refine sgn 19 [.tmp 4] Tryz.func345 fun base wd => ?_
 refine sq (rn ?_)
 refine an (sq (sq (rn ?_)))
 refine an (bk ?_)
 refine dH (fun m s=>∃v8:Int,s.t 0=vL M.iR.en p0∧s.t 1 = .v false [.dat (.fn f1_ k1_)]∧s.t 7=vI (List.length p0:Int)∧s.t 8=vI v8∧bW p0 p1 m v8=some r) fuel ?_ ?_
 ·refine ⟨0,?_,?_,?_,?_,h⟩
  all_goals simp +decide only [F,reduceIte,Nat.reduceAdd,Bool.not_true,Bool.not_false,EN, *,-h]
 rintro mL1 s1 ⟨v8,f2,f3,f4,f5,h⟩
 rcases mL1 with _ | mL1
 ·exact absurd h (by simp [bW])
 simp only [bW] at h
 refine sq (rn ?_)
 refine an (sq ?_)
 rcases nX (decide (v8<(List.length p0:Int))) with b6 | b6
 ·replace h:=aR b6 h
  refine cf (xt (eA (eX (kB (an (sq (rn ?_)))))))
  refine an (rt ?_)
  cases h
  simp [Ret,TB,EN, *]
 replace h:=aT b6 h
 refine ct (sk (an (sq (bk (sq (rn ?_))))))
 refine an (sq ?_)
 obtain ⟨x7,h8,h⟩:=bind_some h
 obtain ⟨q9,q10,q11⟩:=bK h8
 obtain ⟨x12,h13,h⟩:=bind_some h
 refine rn1 (hp1 x7 x12 h13) ?_
 refine an ?_
 rcases cF x12 with b14 | b14
 ·replace h:=aT b14 h
  refine ct (sq (rn ?_))
  refine an (rt ?_)
  cases h
  simp [Ret,TB,EN, *]
 replace h:=aR b14 h
 refine cf (sk (ab (an (rn ?_))))
 refine cN ⟨mL1,by omega,(i64.wrap (v8+1)),?_,?_,?_,?_,h⟩
 all_goals simp +decide only [F,reduceIte,Nat.reduceAdd,Bool.not_true,Bool.not_false,EN, *,-h]
instance:aZ 345 (type_of% @aD8):=⟨@aD8⟩
end Go.Proofs.YtblghjofnielnaaGreat.gen
