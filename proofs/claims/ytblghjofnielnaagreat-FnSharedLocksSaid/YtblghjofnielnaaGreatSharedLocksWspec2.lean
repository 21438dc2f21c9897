/-
  Helper text. No conditions.
-/
import Derived.Test.YtblghjofnielnaaGreatSharedLocksTi
import Derived.Test.YtblghjofnielnaaGreatSharedLocksWspec0
import Derived.Test.YtblghjofnielnaaGreatSharedLocksWspec1
namespace Go.Proofs.YtblghjofnielnaaGreat.gen
open Go Go.Sh
open Go.IntKind (i64)
set_option linter.unusedVariables false
set_option linter.unusedSimpArgs false
set_option maxRecDepth 20000
set_option maxHeartbeats 4000000
theorem aEo (p0 p1 r) (h:pY p0 p1=some r):Sc 451 [aX (M.Instr.en p0),aI p1] [rB r]:=by
 unfold pY at h
 simp only [EN]
 refine sgn 74 [.tmp 4] Tryz.func451 fun base wd => ?_
 refine sq (rn ?_)
 refine an ?_
 obtain ⟨x1,h2,h⟩:=bind_some h
 refine tJ (fun s=>s.t 1=vI p1∧s.t 2=vP 2 1 0∧s.t 5=vB x1∧s.h 2=(1,oX 245 (M.Instr.en p0))∧True) ?_ ?_
 ·replace h:=h2
  clear h2
  rcases cF (p0.Kind==5) with b8 | b8
  ·replace h:=aT b8 h
   refine rn ?_
   cases h
   refine cN ⟨?_,?_,?_,?_,trivial⟩<;>(try simp +decide only [F,reduceIte,Nat.reduceAdd,Bool.not_true,Bool.not_false,EN, *,-h])
  replace h:=aR b8 h
  obtain ⟨x9,h10,h⟩:=bind_some h
  refine rn1 (c59 _ _ _ _ h10) ?_
  cases h
  refine cN ⟨?_,?_,?_,?_,trivial⟩<;>(try simp +decide only [F,reduceIte,Nat.reduceAdd,Bool.not_true,Bool.not_false,EN, *,-h])
 clear h2
 rintro s3 ⟨f4,f5,f6,f7,_⟩
 refine sq (rn ?_)
 refine an ?_
 obtain ⟨x11,h12,h⟩:=bind_some h
 refine tJ (fun s=>s.t 2=vP 2 1 0∧s.t 5=vB x1∧s.t 6=vI x11∧s.h 2=(1,oX 245 (M.Instr.en p0))∧True) ?_ ?_
 ·replace h:=h12
  clear h12
  refine sq (rn ?_)
  refine an (bk (sq (rn ?_)))
  refine an ?_
  rcases cF (p0.Kind==1) with b18 | b18
  ·replace h:=aT b18 h
   refine ct (rn ?_)
   refine ab ?_
   cases h
   refine cN ⟨?_,?_,?_,?_,trivial⟩<;>(try simp +decide only [F,reduceIte,Nat.reduceAdd,Bool.not_true,Bool.not_false,EN, *,-h])
  replace h:=aR b18 h
  refine cf (sq (rn ?_))
  refine an ?_
  rcases cF (p0.Kind==2) with b19 | b19
  ·replace h:=aT b19 h
   refine ct (rn ?_)
   refine ab ?_
   cases h
   refine cN ⟨?_,?_,?_,?_,trivial⟩<;>(try simp +decide only [F,reduceIte,Nat.reduceAdd,Bool.not_true,Bool.not_false,EN, *,-h])
  replace h:=aR b19 h
  refine cf ?_
  obtain ⟨x20,h21,h⟩:=bind_some h
  refine tJ (fun s=>s.t 1=vI p1∧s.t 2=vP 2 1 0∧s.t 5=vB x1∧s.t 6=vI 0∧s.t 16=vI p0.Kind∧s.t 21=vB x20∧s.h 2=(1,oX 245 (M.Instr.en p0))∧True) ?_ ?_
  ·replace h:=h21
   clear h21
   refine sq (rn ?_)
   refine an ?_
   rcases cF (p0.Kind==3) with b30 | b30
   ·replace h:=aT b30 h
    refine ct (sk ?_)
    cases h
    refine cN ⟨?_,?_,?_,?_,?_,?_,?_,trivial⟩<;>(try simp +decide only [F,reduceIte,Nat.reduceAdd,Bool.not_true,Bool.not_false,EN, *,-h])
   replace h:=aR b30 h
   refine cf (rn ?_)
   cases h
   refine cN ⟨?_,?_,?_,?_,?_,?_,?_,trivial⟩<;>(try simp +decide only [F,reduceIte,Nat.reduceAdd,Bool.not_true,Bool.not_false,EN, *,-h])
  clear h21
  rintro s22 ⟨f23,f24,f25,f26,f27,f28,f29,_⟩
  rcases cF x20 with b31 | b31
  ·replace h:=aT b31 h
   refine ct (rn ?_)
   refine ab ?_
   cases h
   refine cN ⟨?_,?_,?_,?_,trivial⟩<;>(try simp +decide only [F,reduceIte,Nat.reduceAdd,Bool.not_true,Bool.not_false,EN, *,-h])
  replace h:=aR b31 h
  refine cf ?_
  obtain ⟨x32,h33,h⟩:=bind_some h
  refine tJ (fun s=>s.t 2=vP 2 1 0∧s.t 5=vB x1∧s.t 6=vI 0∧s.t 25=vB x32∧s.h 2=(1,oX 245 (M.Instr.en p0))∧True) ?_ ?_
  ·replace h:=h33
   clear h33
   refine sq (rn ?_)
   refine an ?_
   rcases cF (p0.Kind==6) with b40 | b40
   ·replace h:=aT b40 h
    refine ct (sk ?_)
    cases h
    refine cN ⟨?_,?_,?_,?_,?_,trivial⟩<;>(try simp +decide only [F,reduceIte,Nat.reduceAdd,Bool.not_true,Bool.not_false,EN, *,-h])
   replace h:=aR b40 h
   refine cf (sq (rn ?_))
   refine an ?_
   rcases cF (p0.Kind==7) with b41 | b41
   ·replace h:=aT b41 h
    refine ct (sk ?_)
    cases h
    refine cN ⟨?_,?_,?_,?_,?_,trivial⟩<;>(try simp +decide only [F,reduceIte,Nat.reduceAdd,Bool.not_true,Bool.not_false,EN, *,-h])
   replace h:=aR b41 h
   refine cf (rn ?_)
   cases h
   refine cN ⟨?_,?_,?_,?_,?_,trivial⟩<;>(try simp +decide only [F,reduceIte,Nat.reduceAdd,Bool.not_true,Bool.not_false,EN, *,-h])
  clear h33
  rintro s34 ⟨f35,f36,f37,f38,f39,_⟩
  rcases nX x32 with b42 | b42
  ·replace h:=aR b42 h
   refine cf (sk (ab ?_))
   cases h
   refine cN ⟨?_,?_,?_,?_,trivial⟩<;>(try simp +decide only [F,reduceIte,Nat.reduceAdd,Bool.not_true,Bool.not_false,EN, *,-h])
  replace h:=aT b42 h
  refine ct (rn ?_)
  refine ab ?_
  cases h
  refine cN ⟨?_,?_,?_,?_,trivial⟩<;>(try simp +decide only [F,reduceIte,Nat.reduceAdd,Bool.not_true,Bool.not_false,EN, *,-h])
 clear h12
 rintro s13 ⟨f14,f15,f16,f17,_⟩
 refine sq ?_
 obtain ⟨x43,h44,h⟩:=bind_some h
 refine tJ (fun s=>s.t 2=vP 2 1 0∧s.t 5=vB x1∧s.t 45=vB x43∧s.h 2=(1,oX 245 (M.Instr.en p0))∧True) ?_ ?_
 ·replace h:=h44
  clear h44
  obtain ⟨x50,h51,h⟩:=bind_some h
  rcases cF (!x50) with b52 | b52
  ·replace h:=aT b52 h
   refine rn1 (c59 _ _ _ _ h51) ?_
   cases h
   refine cN ⟨?_,?_,?_,?_,trivial⟩<;>(try simp +decide only [F,reduceIte,Nat.reduceAdd,Bool.not_true,Bool.not_false,EN, *,-h])
  replace h:=aR b52 h
  obtain ⟨x53,h54,h⟩:=bind_some h
  rcases cF (!x53) with b55 | b55
  ·replace h:=aT b55 h
   refine rn2 (c59 _ _ _ _ h51) (c59 _ _ _ _ h54) ?_
   cases h
   refine cN ⟨?_,?_,?_,?_,trivial⟩<;>(try simp +decide only [F,reduceIte,Nat.reduceAdd,Bool.not_true,Bool.not_false,EN, *,-h])
  replace h:=aR b55 h
  obtain ⟨x56,h57,h⟩:=bind_some h
  refine rn3 (c59 _ _ _ _ h51) (c59 _ _ _ _ h54) (c59 _ _ _ _ h57) ?_
  cases h
  refine cN ⟨?_,?_,?_,?_,trivial⟩<;>(try simp +decide only [F,reduceIte,Nat.reduceAdd,Bool.not_true,Bool.not_false,EN, *,-h])
 clear h44
 rintro s45 ⟨f46,f47,f48,f49,_⟩
 rcases cF x43 with b58 | b58
 ·replace h:=aT b58 h
  refine ct (sq (rn ?_))
  refine an (rt ?_)
  cases h
  simp [Ret,TB,EN, *]
 replace h:=aR b58 h
 refine cf (sk (an (sq ?_)))
 obtain ⟨x59,h60,h⟩:=bind_some h
 refine tJ (fun s=>s.t 2=vP 2 1 0∧s.t 5=vB x1∧s.t 58=vB x59∧s.h 2=(1,oX 245 (M.Instr.en p0))∧True) ?_ ?_
 ·replace h:=h60
  clear h60
  rcases cF (p0.Kind==4) with b66 | b66
  ·replace h:=aT b66 h
   refine rn ?_
   cases h
   refine cN ⟨?_,?_,?_,?_,trivial⟩<;>(try simp +decide only [F,reduceIte,Nat.reduceAdd,Bool.not_true,Bool.not_false,EN, *,-h])
  replace h:=aR b66 h
  rcases cF (p0.Kind==9) with b67 | b67
  ·replace h:=aT b67 h
   refine rn ?_
   cases h
   refine cN ⟨?_,?_,?_,?_,trivial⟩<;>(try simp +decide only [F,reduceIte,Nat.reduceAdd,Bool.not_true,Bool.not_false,EN, *,-h])
  replace h:=aR b67 h
  refine rn ?_
  cases h
  refine cN ⟨?_,?_,?_,?_,trivial⟩<;>(try simp +decide only [F,reduceIte,Nat.reduceAdd,Bool.not_true,Bool.not_false,EN, *,-h])
 clear h60
 rintro s61 ⟨f62,f63,f64,f65,_⟩
 rcases cF x59 with b68 | b68
 ·replace h:=aT b68 h
  refine ct (sq (rn ?_))
  refine an (rt ?_)
  cases h
  simp [Ret,TB,EN, *]
 replace h:=aR b68 h
 refine cf (sk (an ?_))
 obtain ⟨x69,h70,h⟩:=bind_some h
 refine tJ (fun s=>s.t 4=vB x69∧True) ?_ ?_
 ·replace h:=h70
  clear h70
  rcases nX x1 with b73 | b73
  ·replace h:=aR b73 h
   refine rn ?_
   cases h
   refine cN ⟨?_,trivial⟩<;>(try simp +decide only [F,reduceIte,Nat.reduceAdd,Bool.not_true,Bool.not_false,EN, *,-h])
  replace h:=aT b73 h
  obtain ⟨x74,h75,h⟩:=bind_some h
  rcases cF x74 with b76 | b76
  ·replace h:=aT b76 h
   refine rn1 (c99 _ _ h75) ?_
   cases h
   refine cN ⟨?_,trivial⟩<;>(try simp +decide only [F,reduceIte,Nat.reduceAdd,Bool.not_true,Bool.not_false,EN, *,-h])
  replace h:=aR b76 h
  refine rn1 (c99 _ _ h75) ?_
  cases h
  refine cN ⟨?_,trivial⟩<;>(try simp +decide only [F,reduceIte,Nat.reduceAdd,Bool.not_true,Bool.not_false,EN, *,-h])
 clear h70
 rintro s71 ⟨f72,_⟩
 refine rt ?_
 cases h
 simp [Ret,TB,EN, *]
instance:aZ 451 (type_of% @aEo):=⟨@aEo⟩
theorem aFb (p0 r) (h:pP p0=some r):Sc 340 [aL M.Instr.en p0] [rB r]:=by
 have i1:=inv fun m s=>∃v3:Int,(s.t 0=vL M.Instr.en p0∧s.t 3=vI v3)∧iM p0 m v3=some r
 have e1:=@iM.eq_2
 unfold pP at h
 exact sgo 21 [.tmp 2] Tryz.func340
instance:aZ 340 (type_of% @aFb):=⟨@aFb⟩
theorem aEl (p0 r) (h:nF p0=some r):Sc 208 [aL M.Instr.en p0] [(true,M.Machine.rs r)]:=by
 unfold nF at h
 exact sgo 15 [.cell 2 138] Tryz.func208
instance:aZ 208 (type_of% @aEl):=⟨@aEl⟩
theorem c67 (p0 p1 p2 p3 p4 r) (h:kS p0 p1 p2 p3 p4=some r):Sc 67 [aI p0,aS p1,aS p2,aI p3,aL M.Instr.en p4] [(true,M.dG.rs r.1),rB r.2]:=by
 unfold kS at h
 exact sgo 25 [.cell 10 140,.tmp 11] Tryz.func67
instance:aZ 67 (type_of% @c67):=⟨@c67⟩
theorem aF5 (r) (h:bL=some r):Sc 209 [] [(true,M.Response.rs r)]:=by
 unfold bL at h
 exact sgo 2 [.cell 0 146] Tryz.func209
instance:aZ 209 (type_of% @aF5):=⟨@aF5⟩
theorem aFn (p0 p1 r) (h:oP p0 p1=some r):Sc 295 [aX (M.aM.en p0),aI p1] [rI r]:=by
 have i1:=inv fun m s=>∃v5:Int,(s.t 1=vI p1∧s.t 2=vP 2 1 0∧s.t 5=vI v5∧s.h 2=(1,oX 52 (M.aM.en p0)))∧gW p0 p1 m v5=some r
 have e1:=@gW.eq_2
 unfold oP at h
 exact sgo 22 [.tmp 4] Tryz.func295
instance:aZ 295 (type_of% @aFn):=⟨@aFn⟩
theorem aEN (p0 p1 p2 r) (h:pZ p0 p1 p2=some r):Sc 411 [aX (M.Cache.en p0),aS p1,aS p2] [rI r]:=by
 have i1:=inv fun m s=>∃v7:Int,(s.t 1=vS p1∧s.t 2=vS p2∧s.t 3=vP 3 1 0∧s.t 7=vI v7∧s.h 3=(1,oX 277 (M.Cache.en p0)))∧gP p0 p1 p2 m v7=some r
 have e1:=@gP.eq_2
 unfold pZ at h
 exact sgo 34 [.tmp 6] Tryz.func411
instance:aZ 411 (type_of% @aEN):=⟨@aEN⟩
theorem aEP (p0 p1 p2 p3 r) (h:mW p0 p1 p2 p3=some r):Sc 342 [aX (M.aM.en p0),aI p1,aS p2,aS p3] [(true,M.Response.rs r.1),rB r.2]:=by
 unfold mW at h
 exact sgo 40 [.cell 8 146,.tmp 9] Tryz.func342
instance:aZ 342 (type_of% @aEP):=⟨@aEP⟩
theorem aEq (p0 p1 r) (h:sU p0 p1=some r):Sc 291 [aI p0,aI p1] [rI r]:=by
 unfold sU at h
 exact sgo 10 [.tmp 4] Tryz.func291
instance:aZ 291 (type_of% @aEq):=⟨@aEq⟩
theorem aE5 (p0 p1 r) (h:jY p0 p1=some r):Sc 292 [aX (M.Site.en p0),aI p1] [rB r]:=by
 unfold jY at h
 exact sgo 18 [.tmp 4] Tryz.func292
instance:aZ 292 (type_of% @aE5):=⟨@aE5⟩
theorem aE9 (p0 p1 r) (h:qB p0 p1=some r):Sc 412 [aX (M.Site.en p0),aS p1] [rB r]:=by
 have i1:=inv fun m s=>∃v5:Int,(s.t 1=vS p1∧s.t 2=vP 2 1 0∧s.t 5=vI v5∧s.h 2=(1,oX 102 (M.Site.en p0)))∧jN p0 p1 m v5=some r
 have e1:=@jN.eq_2
 unfold qB at h
 exact sgo 20 [.tmp 4] Tryz.func412
instance:aZ 412 (type_of% @aE9):=⟨@aE9⟩
theorem aEO (p0 r) (h:mK p0=some r):Sc 473 [aL enB p0] [rW 3 1 enI r]:=by
 have i1:=inv fun m s=>∃v4:Int,∃r7:List Int,∃u7:Nat,(s.t 0=vL enB p0∧s.t 3=vR 100007 u7∧s.t 4=vI v4∧s.h 100007=(u7,oW 3 1 enI r7))∧fI p0 m v4 r7=some r
 have e1:=@fI.eq_2
 unfold mK at h
 exact sgo 23 [.tmp 2] Tryz.func473
instance:aZ 473 (type_of% @aEO):=⟨@aEO⟩
theorem aF6 (p0 p1 r) (h:uE p0 p1=some r):Sc 541 [aI p0,aI p1] [rI r]:=by
 unfold uE at h
 simp only [EN]
 refine sgn 15 [.tmp 4] Tryz.func541 fun base wd => ?_
 refine sq (rn ?_)
 refine an (sq (sq ?_))
 obtain ⟨x1,h2,h⟩:=bind_some h
 refine rn1 (c59 _ _ _ _ h2) ?_
 refine an ?_
 rcases cF (!x1) with b3 | b3
 ·replace h:=aT b3 h
  refine ct (sq (rn ?_))
  refine an (rt ?_)
  cases h
  simp [Ret,TB,EN, *]
 replace h:=aR b3 h
 refine cf (sk (an (sq ?_)))
 rcases cF (decide (p1=0)) with b4 | b4
 ·replace h:=aT b4 h
  cases h
 replace h:=aR b4 h
 apply bC
 ·simp +decide only [E,reduceIte,Nat.reduceAdd,Nat.reduceMul,Bool.not_true,Bool.not_false,aDE,L,EN,b3,b4]
  exact Is.mk _
 refine an (rt ?_)
 cases h
 simp [Ret,TB,EN, *]
instance:aZ 541 (type_of% @aF6):=⟨@aF6⟩
theorem aEG (p0 r) (h:tE p0=some r):Sc 472 [aL enI p0] [rI r]:=by
 have i1:=inv fun m s=>∃v3:Int,∃v4:Int,(s.t 0=vL enI p0∧s.t 3=vI v3∧s.t 4=vI v4)∧nN p0 m v3 v4=some r
 have e1:=@nN.eq_2
 unfold tE at h
 exact sgo 22 [.tmp 2] Tryz.func472
instance:aZ 472 (type_of% @aEG):=⟨@aEG⟩
theorem aDx (p0 p1 r) (h:kR p0 p1=some r):Sc 495 [aI p0,aL enI p1] [rI r]:=by
 unfold kR at h
 exact sgo 13 [.tmp 4] Tryz.func495
instance:aZ 495 (type_of% @aDx):=⟨@aDx⟩
theorem aDS (p0 p1 r) (h:dW p0 p1=some r):Sc 496 [aI p0,aS p1] [rI r]:=by
 unfold dW at h
 exact sgo 11 [.tmp 4] Tryz.func496
instance:aZ 496 (type_of% @aDS):=⟨@aDS⟩
theorem aFk (p0 p1 p2 r) (h:rJ p0 p1 p2=some r):Sc 413 [aX (M.Site.en p0),aS p1,aI p2] [rW 5 1 enB r]:=by
 unfold rJ at h
 simp only [EN]
 refine sgn 34 [.tmp 6] Tryz.func413 fun base wd => ?_
 refine sq (rn ?_)
 refine an (sq ?_)
 obtain ⟨x1,h2,h⟩:=bind_some h
 obtain ⟨x3,h4,h⟩:=bind_some h
 obtain ⟨x5,h6,h⟩:=bind_some h
 refine rn3 (aDS _ _ _ h2) (aDS _ _ _ h4) (aDx _ _ _ h6) ?_
 refine an (sq ?_)
 refine cu (fun s=>s.t 7=vI x5∧True) ?_
 rintro s7 ⟨f8,_⟩
 refine rn ?_
 refine an (sq (sq ?_))
 refine cu (fun s=>s.t 7=vI x5∧s.t 8=vR 100019 ((s7.h 100019).1+1)∧s.h 100019=(((s7.h 100019).1+1),oW 5 1 enB ([]:List Int))∧True) ?_
 rintro s9 ⟨f10,f11,f12,_⟩
 refine rn ?_
 refine an (bk ?_)
 refine dH (fun m s=>∃v9:Int,∃r19:List Int,∃u19:Nat,s.t 7=vI x5∧s.t 8=vR 100019 u19∧s.t 9=vI v9∧s.h 100019=(u19,oW 5 1 enB r19)∧hU x5 m v9 r19=some r) fuel ?_ ?_
 ·refine ⟨5,([]:List Int),((s7.h 100019).1+1),?_,?_,?_,?_,h⟩
  all_goals simp +decide only [F,reduceIte,Nat.reduceAdd,Bool.not_true,Bool.not_false,EN, *,-h]
 rintro mL1 s13 ⟨v9,r19,u19,f14,f15,f16,f17,h⟩
 rcases mL1 with _ | mL1
 ·exact absurd h (by simp [hU])
 simp only [hU] at h
 refine sq (sq (rn ?_))
 refine an ?_
 rcases nX (decide (v9≥0)) with b18 | b18
 ·replace h:=aR b18 h
  refine cf (xt (eA (eX (kB (an (sq (rn ?_)))))))
  refine an (rt ?_)
  cases h
  simp [Ret,TB,EN, *]
 replace h:=aT b18 h
 refine ct (sk (an (sq (bk ?_))))
 rcases nX (decide (0≤(i64.wrap (8*v9)))) with b19 | b19
 ·replace h:=aR b19 h
  cases h
 replace h:=aT b19 h
 obtain ⟨x20,h21,h⟩:=bind_some h
 apply bC
 ·simp +decide only [E,reduceIte,Nat.reduceAdd,Nat.reduceMul,Bool.not_true,Bool.not_false,wF,L,ti3,ti5,aCD,enB,EN,f14,f15,f16,f17,b18,b19]
  refine ⟨by (have hb:=bU h21);simp [enB,List.length_append,aG] at hb ⊢ <;> omega,?_⟩
  try simp +decide only [E,reduceIte,Nat.reduceAdd,Nat.reduceMul,Bool.not_true,Bool.not_false,wF,L,ti3,ti5,aCD,enB,EN,f14,f15,f16,f17,b18,b19]
  exact Is.mk _
 refine ab (an ?_)
 refine cu (fun s=>s.t 7=vI x5∧s.t 8=vR 100019 (u19+1)∧s.t 9=vI v9∧s.h 100019=((u19+1),oW 5 1 enB (r19++[(IntKind.u8.wrap (i64.wrap (BitVec.ofInt (IntKind.i64.bits) (Int.fdiv x5 (2^(min (i64.wrap (8*v9)).toNat IntKind.i64.bits)))&&&BitVec.ofInt (IntKind.i64.bits) 255).toNat))]))∧True) ?_
 rintro s22 ⟨f23,f24,f25,f26,_⟩
 refine rn ?_
 refine cN ⟨mL1,by omega,(i64.wrap (v9-1)),(r19++[(IntKind.u8.wrap (i64.wrap (BitVec.ofInt (IntKind.i64.bits) (Int.fdiv x5 (2^(min (i64.wrap (8*v9)).toNat IntKind.i64.bits)))&&&BitVec.ofInt (IntKind.i64.bits) 255).toNat))]),(u19+1),?_,?_,?_,?_,h⟩
 all_goals simp +decide only [F,reduceIte,Nat.reduceAdd,Bool.not_true,Bool.not_false,EN, *,-h]
instance:aZ 413 (type_of% @aFk):=⟨@aFk⟩
theorem aE6 (p0 p1 p2 r) (h:oN p0 p1 p2=some r):Sc 294 [aX (M.Site.en p0),aS p1,aI p2] [(true,M.Response.rs r)]:=by
 unfold oN at h
 exact sgo 32 [.cell 6 146] Tryz.func294
instance:aZ 294 (type_of% @aE6):=⟨@aE6⟩
theorem aEi (p0 p1 p2 p3 p4 r) (h:lV p0 p1 p2 p3 p4=some r):Sc 210 [aX (M.aM.en p0),aX (M.Site.en p1),aI p2,aS p3,aB p4] [(true,M.Response.rs r)]:=by
 unfold lV at h
 exact sgo 30 [.cell 10 146] Tryz.func210
instance:aZ 210 (type_of% @aEi):=⟨@aEi⟩
theorem c70 (p0 p1 p2 r) (h:kP p0 p1 p2=some r):Sc 70 [aX (M.World.en p0),aX (M.dG.en p1),aS p2] [(true,M.Response.rs r)]:=by
 unfold kP at h
 exact sgo 44 [.cell 6 146] Tryz.func70
instance:aZ 70 (type_of% @c70):=⟨@c70⟩
theorem c69 (p0 p1 p2 r) (h:lW p0 p1 p2=some r):Sc 69 [aX (M.dG.en p0),aS p1,aX (M.Response.en p2)] [(true,M.dG.rs r.1),rB r.2]:=by
 unfold lW at h
 exact sgo 43 [.cell 6 140,.tmp 7] Tryz.func69
instance:aZ 69 (type_of% @c69):=⟨@c69⟩
theorem c11 (p0 p1 p2 p3 r) (h:iW p0 p1 p2 p3=some r):Sc 11 [aX (M.World.en p0),aS p1,aS p2,aL M.Instr.en p3] [(true,M.World.rs r.1),rI r.2.1,rB r.2.2]:=by
 unfold iW at h
 exact sgo 130 [.cell 8 37,.tmp 9,.tmp 10] Tryz.func11
instance:aZ 11 (type_of% @c11):=⟨@c11⟩
theorem c15 (p0 p1 p2 r) (h:fC p0 p1 p2=some r):Sc 15 [aX (M.aD.en p0),aS p1,aI p2] [rB r]:=by
 have i1:=inv fun m s=>∃v7:Int,(s.t 1=vS p1∧s.t 2=vI p2∧s.t 3=vP 3 1 0∧s.t 7=vI v7∧s.h 3=(1,oX 30 (M.aD.en p0)))∧dA p0 p1 p2 m v7=some r
 have e1:=@dA.eq_2
 unfold fC at h
 exact sgo 41 [.tmp 6] Tryz.func15
instance:aZ 15 (type_of% @c15):=⟨@c15⟩
end Go.Proofs.YtblghjofnielnaaGreat.gen
