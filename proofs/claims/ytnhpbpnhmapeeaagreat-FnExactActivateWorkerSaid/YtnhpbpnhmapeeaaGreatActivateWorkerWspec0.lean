/-
  Helper text. No conditions.
-/
import Derived.Test.YtnhpbpnhmapeeaaGreatActivateWorkerTi
namespace Go.Proofs.YtnhpbpnhmapeeaaGreat.gen
open Go Go.Sh
open Go.IntKind (i64)
set_option linter.unusedVariables false
set_option linter.unusedSimpArgs false
set_option maxRecDepth 20000
set_option maxHeartbeats 4000000
theorem c41 (p0 p1 p2 r) (h:iS p0 p1 p2=some r):Sc 41 [aX (M.aC.en p0),aS p1,aS p2] [rI r]:=by
 have i1:=inv fun m s=>∃v7:Int,(s.t 1=vS p1∧s.t 2=vS p2∧s.t 3=vP 3 1 0∧s.t 7=vI v7∧s.h 3=(1,oX 26 (M.aC.en p0)))∧fO p0 p1 p2 m v7=some r
 have e1:=@fO.eq_2
 unfold iS at h
 exact sgo 34 [.tmp 6] Tryz.func41
instance:bC 41 (type_of% @c41):=⟨@c41⟩
theorem c34 (p0 p1 p2 r) (h:bJ p0 p1 p2=some r):Sc 34 [aI p0,aI p1,aI p2] [rB r]:=by
 unfold bJ at h
 exact sgo 15 [.tmp 6] Tryz.func34
instance:bC 34 (type_of% @c34):=⟨@c34⟩
theorem aQW (p0 r) (h:cJ p0=some r):Sc 242 [aS p0] [rB r]:=by
 have i1:=inv fun m s=>∃v3:Int,(s.t 0=vS p0∧s.t 3=vI v3)∧jG p0 m v3=some r
 have e1:=@jG.eq_2
 unfold cJ at h
 exact sgo 23 [.tmp 2] Tryz.func242
instance:bC 242 (type_of% @aQW):=⟨@aQW⟩
theorem aVD (p0 r) (h:aA6 p0=some r):Sc 133 [aX (M.Site.en p0)] [rB r]:=by
 have i1:=inv fun m s=>∃v3:Int,(s.t 1=vP 1 1 0∧s.t 3=vI v3∧s.h 1=(1,oX 95 (M.Site.en p0)))∧iC p0 m v3=some r
 have e1:=@iC.eq_2
 unfold aA6 at h
 exact sgo 50 [.tmp 2] Tryz.func133
instance:bC 133 (type_of% @aVD):=⟨@aVD⟩
theorem c35 (r) (h:aAm=some r):Sc 35 [] [rW 9 1 enS r]:=by
 unfold aAm at h
 exact sgo 2 [.tmp 0] Tryz.func35
instance:bC 35 (type_of% @c35):=⟨@c35⟩
theorem aR2 (p0 r) (h:xU p0=some r):Sc 394 [aS p0] [rB r]:=by
 have i1:=inv fun m s=>∃v3:Int,(s.t 0=vS p0∧s.t 3=vI v3)∧gL p0 m v3=some r
 have e1:=@gL.eq_2
 unfold xU at h
 exact sgo 35 [.tmp 2] Tryz.func394
instance:bC 394 (type_of% @aR2):=⟨@aR2⟩
theorem aQk (p0 r) (h:nX p0=some r):Sc 328 [aX (M.Key.en p0)] [rB r]:=by
 unfold nX at h
 exact sgo 36 [.tmp 2] Tryz.func328
instance:bC 328 (type_of% @aQk):=⟨@aQk⟩
theorem aVV (p0 r) (h:jE p0=some r):Sc 243 [aX (M.aY.en p0)] [rB r]:=by
 unfold jE at h
 exact sgo 26 [.tmp 2] Tryz.func243
instance:bC 243 (type_of% @aVV):=⟨@aVV⟩
theorem aR0 (p0 r) (h:rP p0=some r):Sc 329 [aX (M.aU.en p0)] [rB r]:=by
 have i1:=inv fun m s=>∃v3:Int,(s.t 1=vP 1 1 0∧s.t 3=vI v3∧s.h 1=(1,oX 355 (M.aU.en p0)))∧fW p0 m v3=some r
 have e1:=@fW.eq_2
 unfold rP at h
 exact sgo 53 [.tmp 2] Tryz.func329
instance:bC 329 (type_of% @aR0):=⟨@aR0⟩
theorem aT8 (p0 p1 r) (h:xW p0 p1=some r):Sc 395 [aB p0,aB p1] [rI r]:=by
 unfold xW at h
 exact sgo 7 [.tmp 4] Tryz.func395
instance:bC 395 (type_of% @aT8):=⟨@aT8⟩
theorem aU9 (p0 p1 r) (h:kZ p0 p1=some r):Sc 330 [aX (M.Key.en p0),aX (M.Key.en p1)] [rI r]:=by
 unfold kZ at h
 exact sgo 46 [.tmp 4] Tryz.func330
instance:bC 330 (type_of% @aU9):=⟨@aU9⟩
theorem aVL (p0 r) (h:pO p0=some r):Sc 244 [aX (M.aH.en p0)] [rB r]:=by
 have i1:=inv fun m s=>∃v3:Int,(s.t 1=vP 1 1 0∧s.t 3=vI v3∧s.h 1=(1,oX 98 (M.aH.en p0)))∧gX p0 m v3=some r
 have e1:=@gX.eq_2
 unfold pO at h
 exact sgo 64 [.tmp 2] Tryz.func244
instance:bC 244 (type_of% @aVL):=⟨@aVL⟩
theorem aUW (p0 r) (h:xM p0=some r):Sc 134 [aX (M.Server.en p0)] [rB r]:=by
 have i1:=inv fun m s=>∃v3:Int,(s.t 1=vP 1 1 0∧s.t 3=vI v3∧s.h 1=(1,oX 102 (M.Server.en p0)))∧fY p0 m v3=some r
 have e1:=@fY.eq_2
 have i2:=inv fun m s=>∃v4:Int,(s.t 1=vP 1 1 0∧s.t 4=vI v4∧s.h 1=(1,oX 102 (M.Server.en p0)))∧hP p0 m v4=some r
 have e2:=@hP.eq_2
 unfold xM at h
 exact sgo 79 [.tmp 2] Tryz.func134
instance:bC 134 (type_of% @aUW):=⟨@aUW⟩
theorem aTz (p0 r) (h:aBK p0=some r):Sc 135 [aX (M.bI.en p0)] [rB r]:=by
 have i1:=inv fun m s=>∃v3:Int,(s.t 1=vP 1 1 0∧s.t 3=vI v3∧s.h 1=(1,oX 80 (M.bI.en p0)))∧lF p0 m v3=some r
 have e1:=@lF.eq_2
 unfold aBK at h
 exact sgo 54 [.tmp 2] Tryz.func135
instance:bC 135 (type_of% @aTz):=⟨@aTz⟩
theorem aTE (p0 r) (h:fA p0=some r):Sc 247 [aX (M.Registration.en p0)] [rB r]:=by
 unfold fA at h
 simp only [EN]
 refine sgn 52 [.tmp 2] Tryz.func247 fun base wd => ?_
 refine sq (rn ?_)
 refine an (sq (rn ?_))
 refine an (sq (rn ?_))
 refine an (sq (sq ?_))
 refine cu (fun s=>s.t 1=vP 1 1 0∧s.t 3=vI 0∧s.t 4=vR 100012 1∧s.h 1=(1,oX 107 (M.Registration.en p0))∧s.h 100012=(1,oW 3 1 enI ([p0.Active,p0.Waiting,p0.Installing]))∧True) ?_
 rintro s1 ⟨f2,f3,f4,f5,f6,_⟩
 refine rn ?_
 refine an (bk ?_)
 refine mR (fun m s=>∃v3:Int,∃v5:Int,s.t 1=vP 1 1 0∧s.t 3=vI v3∧s.t 4=vR 100012 1∧s.t 5=vI v5∧s.h 1=(1,oX 107 (M.Registration.en p0))∧s.h 100012=(1,oW 3 1 enI ([p0.Active,p0.Waiting,p0.Installing]))∧bO p0 m v3 v5=some r) fuel ?_ ?_
 ·refine ⟨0,0,?_,?_,?_,?_,?_,?_,h⟩
  all_goals simp +decide only [F,reduceIte,Nat.reduceAdd,Bool.not_true,Bool.not_false,EN, *,-h]
 rintro mL1 s7 ⟨v3,v5,f8,f9,f10,f11,f12,f13,h⟩
 rcases mL1 with _ | mL1
 ·exact absurd h (by simp [bO])
 simp only [bO] at h
 refine sq (sq (rn ?_))
 refine an ?_
 rcases aBM (decide (v5<((3:Nat):Int))) with b14 | b14
 ·replace h:=bG b14 h
  refine cf (xt (nI (oS (aAK (an (sq ?_))))))
  obtain ⟨x25,h26,h⟩:=bind_some h
  refine rn1 (aQW _ _ h26) ?_
  refine an (rt ?_)
  cases h
  simp [Ret,TB,EN, *]
 replace h:=bH b14 h
 refine ct (sk (an (sq (bk (sq (sq ?_))))))
 obtain ⟨x15,h16,h⟩:=bind_some h
 obtain ⟨q17,q18,q19⟩:=aT h16
 have q17m:=congrArg (Option.map enI) (show ([p0.Active,p0.Waiting,p0.Installing])[v5.toNat]? = some x15 by assumption)
 simp only [←List.getElem?_map,List.map_cons,List.map_nil,Option.map_some,EN] at q17m
 simp only [List.length_cons,List.length_nil,Nat.reduceAdd] at q19
 obtain ⟨x20,h21,h⟩:=bind_some h
 rcases cF (!x20) with b22 | b22
 ·replace h:=bH b22 h
  refine rn1 (c34 _ _ _ _ h21) ?_
  refine an (ct (sq (rn ?_)))
  refine an (rt ?_)
  cases h
  simp [Ret,TB,EN, *]
 replace h:=bG b22 h
 rcases aBM (x15 != 0) with b23 | b23
 ·replace h:=bG b23 h
  refine rn1 (c34 _ _ _ _ h21) ?_
  refine an (cf (sk (an (sq (rn ?_)))))
  refine an (cf (sk (ab (an (rn ?_)))))
  refine yH ⟨mL1,by omega,v3,(i64.wrap (v5+1)),?_,?_,?_,?_,?_,?_,h⟩
  all_goals simp +decide only [F,reduceIte,Nat.reduceAdd,Bool.not_true,Bool.not_false,EN, *,-h]
 replace h:=bH b23 h
 refine rn1 (c34 _ _ _ _ h21) ?_
 refine an ?_
 rcases cF (decide (x15≤v3)) with b24 | b24
 ·replace h:=bH b24 h
  refine ct (sq (rn ?_))
  refine an (rt ?_)
  cases h
  simp [Ret,TB,EN, *]
 replace h:=bG b24 h
 refine cf (sk (an (sq (rn ?_))))
 refine an (ct (rn ?_))
 refine ab (an (rn ?_))
 refine yH ⟨mL1,by omega,x15,(i64.wrap (v5+1)),?_,?_,?_,?_,?_,?_,h⟩
 all_goals simp +decide only [F,reduceIte,Nat.reduceAdd,Bool.not_true,Bool.not_false,EN, *,-h]
instance:bC 247 (type_of% @aTE):=⟨@aTE⟩
theorem aVQ (p0 r) (h:qX p0=some r):Sc 396 [aX (M.Response.en p0)] [rB r]:=by
 unfold qX at h
 exact sgo 22 [.tmp 2] Tryz.func396
instance:bC 396 (type_of% @aVQ):=⟨@aVQ⟩
theorem aVe (p0 r) (h:mE p0=some r):Sc 331 [aL M.Cached.en p0] [rB r]:=by
 have i1:=inv fun m s=>∃v3:Int,(s.t 0=vL M.Cached.en p0∧s.t 3=vI v3)∧eK p0 m v3=some r
 have e1:=@eK.eq_2
 have i2:=fun (v3:Int) (x5:M.Cached) (k20:Int→Option Bool)=>inv fun m s=>∃v4_L2:Int,(s.t 0=vL M.Cached.en p0∧s.t 3=vI v3∧s.t 4=vI v4_L2)∧fN p0 v3 x5 k20 m v4_L2=some r
 have e2:=@fN.eq_2
 unfold mE at h
 exact sgo 68 [.tmp 2] Tryz.func331
instance:bC 331 (type_of% @aVe):=⟨@aVe⟩
theorem aUk (p0 r) (h:rC p0=some r):Sc 248 [aX (M.aM.en p0)] [rB r]:=by
 have i1:=inv fun m s=>∃v3:Int,(s.t 1=vP 1 1 0∧s.t 3=vI v3∧s.h 1=(1,oX 110 (M.aM.en p0)))∧eH p0 m v3=some r
 have e1:=@eH.eq_2
 unfold rC at h
 exact sgo 53 [.tmp 2] Tryz.func248
instance:bC 248 (type_of% @aUk):=⟨@aUk⟩
theorem aUi (p0 p1 r) (h:tA p0 p1=some r):Sc 332 [aX (M.Database.en p0),aS p1] [rI r]:=by
 have i1:=inv fun m s=>∃v5:Int,(s.t 1=vS p1∧s.t 2=vP 2 1 0∧s.t 5=vI v5∧s.h 2=(1,oX 114 (M.Database.en p0)))∧iI p0 p1 m v5=some r
 have e1:=@iI.eq_2
 unfold tA at h
 exact sgo 22 [.tmp 4] Tryz.func332
instance:bC 332 (type_of% @aUi):=⟨@aUi⟩
theorem aQa (p0 p1 r) (h:kG p0 p1=some r):Sc 398 [aX (M.aU.en p0),aS p1] [rI r.1,rB r.2]:=by
 have i1:=inv fun m s=>∃v6:Int,(s.t 1=vS p1∧s.t 2=vP 2 1 0∧s.t 6=vI v6∧s.h 2=(1,oX 355 (M.aU.en p0)))∧kW p0 p1 m v6=some r
 have e1:=@kW.eq_2
 unfold kG at h
 exact sgo 28 [.tmp 4,.tmp 5] Tryz.func398
instance:bC 398 (type_of% @aQa):=⟨@aQa⟩
theorem aQZ (p0 p1 p2 r) (h:aBJ p0 p1 p2=some r):Sc 445 [aX (M.Item.en p0),aX (M.Item.en p1),aS p2] [rB r]:=by
 unfold aBJ at h
 exact sgo 41 [.tmp 6] Tryz.func445
instance:bC 445 (type_of% @aQZ):=⟨@aQZ⟩
theorem aVm (p0 r) (h:aAs p0=some r):Sc 370 [aX (M.aU.en p0)] [(true,M.aU.rs r)]:=by
 unfold aAs at h
 exact sgo 8 [.cell 2 355] Tryz.func370
instance:bC 370 (type_of% @aVm):=⟨@aVm⟩
theorem aQJ (p0 r) (h:xY p0=some r):Sc 327 [aX (M.Item.en p0)] [(true,M.Item.rs r)]:=by
 unfold xY at h
 exact sgo 9 [.cell 2 357] Tryz.func327
instance:bC 327 (type_of% @aQJ):=⟨@aQJ⟩
theorem aT5 (p0 p1 r) (h:zN p0 p1=some r):Sc 397 [aX (M.aH.en p0),aS p1] [rW 357 4 M.Item.en r]:=by
 unfold zN at h
 simp only [EN]
 refine sgn 72 [.tmp 4] Tryz.func397 fun base wd => ?_
 refine sq (rn ?_)
 refine an (sq (rn ?_))
 refine an (sq (sq ?_))
 refine cu (fun s=>s.t 1=vS p1∧s.t 2=vP 2 1 0∧s.t 5=vR 100011 1∧s.h 2=(1,oX 98 (M.aH.en p0))∧s.h 100011=(1,oW 357 4 M.Item.en ([]:List M.Item))∧True) ?_
 rintro s1 ⟨f2,f3,f4,f5,f6,_⟩
 refine rn ?_
 refine an (bk ?_)
 refine aOO ((Gho.aMY (i:=5) (K:=7050000) (j:=100011) (by simp +decide only [F,reduceIte,Nat.reduceAdd,Bool.not_true,Bool.not_false,EN, *,-h];rfl) (by simp +decide only [F,reduceIte,Nat.reduceAdd,Bool.not_true,Bool.not_false,EN, *,-h];rfl))) ?_
 refine aLJ (fun m s=>∃v6:Int,∃r50000:List M.Item,∃u50000:Nat,s.t 1=vS p1∧s.t 2=vP 2 1 0∧s.t 5=vR 7050000 u50000∧s.t 6=vI v6∧s.h 2=(1,oX 98 (M.aH.en p0))∧s.h 7050000=(u50000,oW 357 4 M.Item.en r50000)∧gQ p0 p1 m v6 r50000=some r) fuel ?_ ?_
 ·refine ⟨0,([]:List M.Item),((s1.h 7050000).1+1),?_,?_,?_,?_,?_,?_,h⟩
  all_goals simp +decide only [F,reduceIte,Nat.reduceAdd,Bool.not_true,Bool.not_false,EN, *,-h]
 rintro mL1 s7 ⟨v6,r50000,u50000,f8,f9,f10,f11,f12,f13,h⟩
 rcases mL1 with _ | mL1
 ·exact absurd h (by simp [gQ])
 simp only [gQ] at h
 refine sq (sq (rn ?_))
 refine an ?_
 rcases aBM (decide (v6<(List.length p0.Items:Int))) with b14 | b14
 ·replace h:=bG b14 h
  refine cf (xt (nI (oS (aAK (an (sq (rn ?_)))))))
  refine an (rt ?_)
  cases h
  simp [Ret,TB,EN, *]
 replace h:=bH b14 h
 refine ct (sk (an (sq (bk (sq (sq ?_))))))
 obtain ⟨x15,h16,h⟩:=bind_some h
 obtain ⟨q17,q18,q19⟩:=aT h16
 obtain ⟨x20,h21,h⟩:=bind_some h
 refine rn1 (aQa _ _ _ h21) ?_
 refine an (sq (rn ?_))
 refine an ?_
 rcases cF (!x20.2) with b22 | b22
 ·replace h:=bH b22 h
  refine ct (xt (nI (aAK (an (rn ?_)))))
  refine yH ⟨_,(Gho.aMY (i:=5) (K:=7050000) (j:=7050000) (by simp +decide only [F,reduceIte,Nat.reduceAdd,Bool.not_true,Bool.not_false,EN, *,-h];rfl) (by simp +decide only [F,reduceIte,Nat.reduceAdd,Bool.not_true,Bool.not_false,EN, *,-h];rfl)),mL1,by omega,(i64.wrap (v6+1)),r50000,(u50000+1),?_,?_,?_,?_,?_,?_,h⟩
  all_goals simp +decide only [F,reduceIte,Nat.reduceAdd,Bool.not_true,Bool.not_false,EN, *,-h]
 replace h:=bG b22 h
 refine cf (sk (an (sq (rn ?_))))
 refine an (sq (bk ?_))
 obtain ⟨k24,e25,h⟩:=aQl (f:=fun kk=>gN p1 r50000 x15 kk fuel (List.length r50000:Int)) h
 refine mR (fun m s=>∃v9_L2:Int,s.t 1=vS p1∧s.t 2=vP 2 1 0∧s.t 5=vR 7050000 u50000∧s.t 6=vI v6∧s.t 9=vI v9_L2∧s.h 2=(1,oX 98 (M.aH.en p0))∧s.h 7050000=(u50000,oW 357 4 M.Item.en r50000)∧gN p1 r50000 x15 k24 m v9_L2=some r) fuel ?_ ?_
 ·refine ⟨(List.length r50000:Int),?_,?_,?_,?_,?_,?_,?_,h⟩
  all_goals simp +decide only [F,reduceIte,Nat.reduceAdd,Bool.not_true,Bool.not_false,EN, *,-h]
 rintro mL2 s23 ⟨v9_L2,f26,f27,f28,f29,f30,f31,f32,h⟩
 rcases mL2 with _ | mL2
 ·exact absurd h (by simp [gN])
 simp only [gN] at h
 refine sq (sq ?_)
 rcases aBM (decide (v9_L2>0)) with b33 | b33
 ·replace h:=bG b33 h
  refine rd mixed ?_
  refine an (cf (xt (nI ?_)))
  subst e25
  refine oS (aAK (an (sq ?_)))
  obtain ⟨x79,h80,h⟩:=bind_some h
  obtain ⟨x81,h82,h⟩:=bind_some h
  apply lO
  ·simp +decide only [E,reduceIte,Nat.reduceAdd,Nat.reduceMul,Bool.not_true,Bool.not_false,←List.map_take,←List.map_drop,L,aHc,aCC,M.Item.en,EN,b14,q17,q18,q19,b22,f26,f27,f28,f29,f30,f31,f32,b33]
   refine ⟨by first | exact jZ h80 | exact (jZ h80).2 | exact (jZ h80).2.2,?_⟩
   try simp +decide only [E,reduceIte,Nat.reduceAdd,Nat.reduceMul,Bool.not_true,Bool.not_false,←List.map_take,←List.map_drop,L,aHc,aCC,M.Item.en,EN,b14,q17,q18,q19,b22,f26,f27,f28,f29,f30,f31,f32,b33]
   refine ⟨by (have hb:=kC h82);simp [M.Item.en,List.length_append,bF,←List.map_take,←List.map_drop,-List.map_take,-List.map_drop] at hb ⊢ <;> omega,?_⟩
   try simp +decide only [E,reduceIte,Nat.reduceAdd,Nat.reduceMul,Bool.not_true,Bool.not_false,←List.map_take,←List.map_drop,L,aHc,aCC,M.Item.en,EN,b14,q17,q18,q19,b22,f26,f27,f28,f29,f30,f31,f32,b33]
   exact Is.mk _
  refine an (sq ?_)
  refine cu (fun s=>s.t 1=vS p1∧s.t 2=vP 2 1 0∧s.t 5=vR 7050000 u50000∧s.t 6=vI v6∧s.t 9=vI v9_L2∧s.t 10=vR 100052 (((s23.h 100052).1+1)+1)∧s.h 2=(1,oX 98 (M.aH.en p0))∧s.h 100052=((((s23.h 100052).1+1)+1),oW 357 4 M.Item.en (List.take v9_L2.toNat r50000))∧s.h 7050000=(u50000,.row 357 4 (aC7 4 0 v9_L2.toNat (List.map M.Item.en r50000)) true)∧True) ?_
  rintro s83 ⟨f84,f85,f86,f87,f88,f89,f90,f91,f92,_⟩
  obtain ⟨x93,h94,h⟩:=bind_some h
  obtain ⟨x95,h96,h⟩:=bind_some h
  refine rn2 (aQJ _ _ h94) h96 ?_
  refine an ?_
  refine cu (fun s=>s.t 1=vS p1∧s.t 2=vP 2 1 0∧s.t 5=vR 7050000 u50000∧s.t 6=vI v6∧s.t 9=vI v9_L2∧s.t 10=vR 100052 ((((s23.h 100052).1+1)+1)+1)∧s.h 2=(1,oX 98 (M.aH.en p0))∧s.h 100052=(((((s23.h 100052).1+1)+1)+1),oW 357 4 M.Item.en ((List.take v9_L2.toNat r50000)++[x93]))∧s.h 7050000=(u50000,.row 357 4 (aC7 4 0 v9_L2.toNat (List.map M.Item.en r50000)) true)∧True) ?_
  rintro s97 ⟨f98,f99,f100,f101,f102,f103,f104,f105,f106,_⟩
  obtain ⟨x107,h108,h⟩:=bind_some h
  apply lO
  ·simp +decide only [E,reduceIte,Nat.reduceAdd,Nat.reduceMul,Bool.not_true,Bool.not_false,←List.map_take,←List.map_drop,L,aHc,aCC,M.Item.en,EN,b14,q17,q18,q19,b22,b33,f98,f99,f100,f101,f102,f103,f104,f105,f106]
   refine ⟨by first | exact aC0 (jZ h80).1 | exact (aC0 (jZ h80).1).2 | exact (aC0 (jZ h80).1).2.2,?_⟩
   try simp +decide only [E,reduceIte,Nat.reduceAdd,Nat.reduceMul,Bool.not_true,Bool.not_false,←List.map_take,←List.map_drop,L,aHc,aCC,M.Item.en,EN,b14,q17,q18,q19,b22,b33,f98,f99,f100,f101,f102,f103,f104,f105,f106]
   refine ⟨by (have hb:=kC h108);simp [M.Item.en,List.length_append,bF,←List.map_take,←List.map_drop,-List.map_take,-List.map_drop] at hb ⊢ <;> omega,?_⟩
   try simp +decide only [E,reduceIte,Nat.reduceAdd,Nat.reduceMul,Bool.not_true,Bool.not_false,←List.map_take,←List.map_drop,L,aHc,aCC,M.Item.en,EN,b14,q17,q18,q19,b22,b33,f98,f99,f100,f101,f102,f103,f104,f105,f106]
   exact Is.mk _
  refine ab (an ?_)
  refine cu (fun s=>s.t 1=vS p1∧s.t 2=vP 2 1 0∧s.t 5=vR 100052 (((((s23.h 100052).1+1)+1)+1)+1)∧s.t 6=vI v6∧s.h 2=(1,oX 98 (M.aH.en p0))∧s.h 100052=((((((s23.h 100052).1+1)+1)+1)+1),oW 357 4 M.Item.en (((List.take v9_L2.toNat r50000)++[x93])++(List.drop v9_L2.toNat r50000)))∧True) ?_
  rintro s109 ⟨f110,f111,f112,f113,f114,f115,_⟩
  refine rn ?_
  refine yH ⟨_,(Gho.aMY (i:=5) (K:=7050000) (j:=100052) (by simp +decide only [F,reduceIte,Nat.reduceAdd,Bool.not_true,Bool.not_false,EN, *,-h];rfl) (by simp +decide only [F,reduceIte,Nat.reduceAdd,Bool.not_true,Bool.not_false,EN, *,-h];rfl)),mL1,by omega,(i64.wrap (v6+1)),(((List.take v9_L2.toNat r50000)++[x93])++(List.drop v9_L2.toNat r50000)),((s109.h 7050000).1+1),?_,?_,?_,?_,?_,?_,h⟩
  all_goals simp +decide only [F,reduceIte,Nat.reduceAdd,Bool.not_true,Bool.not_false,EN, *,-h]
 replace h:=bH b33 h
 obtain ⟨x34,h35,h⟩:=bind_some h
 obtain ⟨q36,q37,q38⟩:=aT h35
 obtain ⟨x39,h40,h⟩:=bind_some h
 refine rd1 mixed (aQZ _ _ _ _ h40) ?_
 refine an ?_
 rcases cF x39 with b41 | b41
 ·replace h:=bH b41 h
  refine ct (sk (an (bk (rn ?_))))
  refine ab ?_
  refine yH ⟨mL2,by omega,(i64.wrap (v9_L2-1)),?_,?_,?_,?_,?_,?_,?_,h⟩
  all_goals simp +decide only [F,reduceIte,Nat.reduceAdd,Bool.not_true,Bool.not_false,EN, *,-h]
 replace h:=bG b41 h
 refine cf (xt (nI ?_))
 subst e25
 refine oS (aAK (an (sq ?_)))
 obtain ⟨x42,h43,h⟩:=bind_some h
 obtain ⟨x44,h45,h⟩:=bind_some h
 apply lO
 ·simp +decide only [E,reduceIte,Nat.reduceAdd,Nat.reduceMul,Bool.not_true,Bool.not_false,←List.map_take,←List.map_drop,L,aHc,aCC,M.Item.en,EN,b14,q17,q18,q19,b22,f26,f27,f28,f29,f30,f31,f32,b33,q36,q37,q38,b41]
  refine ⟨by first | exact jZ h43 | exact (jZ h43).2 | exact (jZ h43).2.2,?_⟩
  try simp +decide only [E,reduceIte,Nat.reduceAdd,Nat.reduceMul,Bool.not_true,Bool.not_false,←List.map_take,←List.map_drop,L,aHc,aCC,M.Item.en,EN,b14,q17,q18,q19,b22,f26,f27,f28,f29,f30,f31,f32,b33,q36,q37,q38,b41]
  refine ⟨by (have hb:=kC h45);simp [M.Item.en,List.length_append,bF,←List.map_take,←List.map_drop,-List.map_take,-List.map_drop] at hb ⊢ <;> omega,?_⟩
  try simp +decide only [E,reduceIte,Nat.reduceAdd,Nat.reduceMul,Bool.not_true,Bool.not_false,←List.map_take,←List.map_drop,L,aHc,aCC,M.Item.en,EN,b14,q17,q18,q19,b22,f26,f27,f28,f29,f30,f31,f32,b33,q36,q37,q38,b41]
  exact Is.mk _
 refine an (sq ?_)
 refine cu (fun s=>s.t 1=vS p1∧s.t 2=vP 2 1 0∧s.t 5=vR 7050000 u50000∧s.t 6=vI v6∧s.t 9=vI v9_L2∧s.t 10=vR 100052 (((s23.h 100052).1+1)+1)∧s.h 2=(1,oX 98 (M.aH.en p0))∧s.h 100052=((((s23.h 100052).1+1)+1),oW 357 4 M.Item.en (List.take v9_L2.toNat r50000))∧s.h 7050000=(u50000,.row 357 4 (aC7 4 0 v9_L2.toNat (List.map M.Item.en r50000)) true)∧True) ?_
 rintro s46 ⟨f47,f48,f49,f50,f51,f52,f53,f54,f55,_⟩
 obtain ⟨x56,h57,h⟩:=bind_some h
 obtain ⟨x58,h59,h⟩:=bind_some h
 refine rn2 (aQJ _ _ h57) h59 ?_
 refine an ?_
 refine cu (fun s=>s.t 1=vS p1∧s.t 2=vP 2 1 0∧s.t 5=vR 7050000 u50000∧s.t 6=vI v6∧s.t 9=vI v9_L2∧s.t 10=vR 100052 ((((s23.h 100052).1+1)+1)+1)∧s.h 2=(1,oX 98 (M.aH.en p0))∧s.h 100052=(((((s23.h 100052).1+1)+1)+1),oW 357 4 M.Item.en ((List.take v9_L2.toNat r50000)++[x56]))∧s.h 7050000=(u50000,.row 357 4 (aC7 4 0 v9_L2.toNat (List.map M.Item.en r50000)) true)∧True) ?_
 rintro s60 ⟨f61,f62,f63,f64,f65,f66,f67,f68,f69,_⟩
 obtain ⟨x70,h71,h⟩:=bind_some h
 apply lO
 ·simp +decide only [E,reduceIte,Nat.reduceAdd,Nat.reduceMul,Bool.not_true,Bool.not_false,←List.map_take,←List.map_drop,L,aHc,aCC,M.Item.en,EN,b14,q17,q18,q19,b22,b33,q36,q37,q38,b41,f61,f62,f63,f64,f65,f66,f67,f68,f69]
  refine ⟨by first | exact aC0 (jZ h43).1 | exact (aC0 (jZ h43).1).2 | exact (aC0 (jZ h43).1).2.2,?_⟩
  try simp +decide only [E,reduceIte,Nat.reduceAdd,Nat.reduceMul,Bool.not_true,Bool.not_false,←List.map_take,←List.map_drop,L,aHc,aCC,M.Item.en,EN,b14,q17,q18,q19,b22,b33,q36,q37,q38,b41,f61,f62,f63,f64,f65,f66,f67,f68,f69]
  refine ⟨by (have hb:=kC h71);simp [M.Item.en,List.length_append,bF,←List.map_take,←List.map_drop,-List.map_take,-List.map_drop] at hb ⊢ <;> omega,?_⟩
  try simp +decide only [E,reduceIte,Nat.reduceAdd,Nat.reduceMul,Bool.not_true,Bool.not_false,←List.map_take,←List.map_drop,L,aHc,aCC,M.Item.en,EN,b14,q17,q18,q19,b22,b33,q36,q37,q38,b41,f61,f62,f63,f64,f65,f66,f67,f68,f69]
  exact Is.mk _
 refine ab (an ?_)
 refine cu (fun s=>s.t 1=vS p1∧s.t 2=vP 2 1 0∧s.t 5=vR 100052 (((((s23.h 100052).1+1)+1)+1)+1)∧s.t 6=vI v6∧s.h 2=(1,oX 98 (M.aH.en p0))∧s.h 100052=((((((s23.h 100052).1+1)+1)+1)+1),oW 357 4 M.Item.en (((List.take v9_L2.toNat r50000)++[x56])++(List.drop v9_L2.toNat r50000)))∧True) ?_
 rintro s72 ⟨f73,f74,f75,f76,f77,f78,_⟩
 refine rn ?_
 refine yH ⟨_,(Gho.aMY (i:=5) (K:=7050000) (j:=100052) (by simp +decide only [F,reduceIte,Nat.reduceAdd,Bool.not_true,Bool.not_false,EN, *,-h];rfl) (by simp +decide only [F,reduceIte,Nat.reduceAdd,Bool.not_true,Bool.not_false,EN, *,-h];rfl)),mL1,by omega,(i64.wrap (v6+1)),(((List.take v9_L2.toNat r50000)++[x56])++(List.drop v9_L2.toNat r50000)),((s72.h 7050000).1+1),?_,?_,?_,?_,?_,?_,h⟩
 all_goals simp +decide only [F,reduceIte,Nat.reduceAdd,Bool.not_true,Bool.not_false,EN, *,-h]
instance:bC 397 (type_of% @aT5):=⟨@aT5⟩
theorem aRc (p0 p1 r) (h:oE p0 p1=some r):Sc 333 [aX (M.aH.en p0),aS p1] [(true,M.Key.rs r.1),(true,M.Key.rs r.2.1),rB r.2.2]:=by
 have i1:=fun (x1:(List M.Item))=>inv fun m s=>∃v8:Int,(s.t 1=vS p1∧s.t 4=vP 4 1 0∧s.t 5=vP 5 1 0∧s.t 7=vR 100015 1∧s.t 8=vI v8∧s.h 4=(1,oB 174 [cI 0,cI 0,cS (⟨#[]⟩:ByteArray)])∧s.h 5=(1,oB 174 [cI 0,cI 0,cS (⟨#[]⟩:ByteArray)])∧s.h 100015=(1,oW 357 4 M.Item.en x1))∧iQ p1 x1 m v8=some r
 have e1:=@iQ.eq_2
 unfold oE at h
 exact sgo 59 [.cell 4 174,.cell 5 174,.tmp 6] Tryz.func333
instance:bC 333 (type_of% @aRc):=⟨@aRc⟩
theorem aUM (p0 r) (h:qH p0=some r):Sc 249 [aX (M.Database.en p0)] [rB r]:=by
 have i1:=inv fun m s=>∃v3:Int,(s.t 1=vP 1 1 0∧s.t 3=vI v3∧s.h 1=(1,oX 114 (M.Database.en p0)))∧eM p0 m v3=some r
 have e1:=@eM.eq_2
 have i2:=inv fun m s=>∃v4:Int,(s.t 1=vP 1 1 0∧s.t 4=vI v4∧s.h 1=(1,oX 114 (M.Database.en p0)))∧eN p0 m v4=some r
 have e2:=@eN.eq_2
 have i3:=fun (v4:Int) (x26:M.aD) (k46:Int→Option Bool)=>inv fun m s=>∃v9_L3:Int,(s.t 1=vP 1 1 0∧s.t 4=vI v4∧s.t 9=vI v9_L3∧s.h 1=(1,oX 114 (M.Database.en p0)))∧fM p0 v4 x26 k46 m v9_L3=some r
 have e3:=@fM.eq_2
 unfold qH at h
 exact sgo 124 [.tmp 2] Tryz.func249
instance:bC 249 (type_of% @aUM):=⟨@aUM⟩
theorem aS7 (p0 r) (h:xJ p0=some r):Sc 246 [aX (M.aV.en p0)] [rB r]:=by
 have i1:=inv fun m s=>∃v4:Int,(s.t 1=vP 1 1 0∧s.t 3=vI (List.length p0.Writes:Int)∧s.t 4=vI v4∧s.h 1=(1,oX 118 (M.aV.en p0)))∧iW p0 m v4=some r
 have e1:=@iW.eq_2
 unfold xJ at h
 exact sgo 60 [.tmp 2] Tryz.func246
instance:bC 246 (type_of% @aS7):=⟨@aS7⟩
theorem aSt (p0 r) (h:tK p0=some r):Sc 210 [aX (M.aE.en p0)] [rB r]:=by
 unfold tK at h
 exact sgo 23 [.tmp 2] Tryz.func210
instance:bC 210 (type_of% @aSt):=⟨@aSt⟩
theorem aUH (p0 p1 r) (h:qN p0 p1=some r):Sc 399 [aX (M.Response.en p0),aB p1] [rI r]:=by
 unfold qN at h
 exact sgo 10 [.tmp 4] Tryz.func399
instance:bC 399 (type_of% @aUH):=⟨@aUH⟩
theorem aSX (p0 r) (h:qG p0=some r):Sc 334 [aX (M.aM.en p0)] [rI r]:=by
 have i1:=inv fun m s=>∃v3:Int,∃v4:Int,(s.t 1=vP 1 1 0∧s.t 3=vI v3∧s.t 4=vI v4∧s.h 1=(1,oX 110 (M.aM.en p0)))∧eD p0 m v3 v4=some r
 have e1:=@eD.eq_2
 have i2:=fun (v4:Int) (k8:Int→Int→Option Int)=>inv fun m s=>∃v3_L2:Int,∃v5_L2:Int,(s.t 1=vP 1 1 0∧s.t 3=vI v3_L2∧s.t 4=vI v4∧s.t 5=vI v5_L2∧s.h 1=(1,oX 110 (M.aM.en p0)))∧hJ p0 v4 k8 m v3_L2 v5_L2=some r
 have e2:=@hJ.eq_2
 unfold qG at h
 exact sgo 43 [.tmp 2] Tryz.func334
instance:bC 334 (type_of% @aSX):=⟨@aSX⟩
theorem aSb (p0 r) (h:tG p0=some r):Sc 401 [aX (M.Key.en p0)] [rW 5 1 enB r]:=by
 unfold tG at h
 simp only [EN]
 refine sgn 38 [.tmp 2] Tryz.func401 fun base wd => ?_
 refine sq (rn ?_)
 refine an (sq (sq ?_))
 obtain ⟨x1,h2,h⟩:=bind_some h
 refine rn1 (aQk _ _ h2) ?_
 refine an ?_
 rcases cF (!x1) with b3 | b3
 ·replace h:=bH b3 h
  refine ct (sq (rn ?_))
  refine an (rt ?_)
  cases h
  simp [Ret,TB,EN, *]
 replace h:=bG b3 h
 refine cf (sk (an (sq (rn ?_))))
 refine an (sq (sq ?_))
 refine cu (fun s=>s.t 1=vP 1 1 0∧s.t 3=vR 100012 1∧s.h 1=(1,oX 174 (M.Key.en p0))∧s.h 100012=(1,oW 5 1 enB ([(IntKind.u8.wrap p0.Kind)]))∧True) ?_
 rintro s4 ⟨f5,f6,f7,f8,_⟩
 refine rn ?_
 refine an (bk ?_)
 refine mR (fun m s=>∃v4:Int,∃r12:List Int,∃u12:Nat,s.t 1=vP 1 1 0∧s.t 3=vR 100012 u12∧s.t 4=vI v4∧s.h 1=(1,oX 174 (M.Key.en p0))∧s.h 100012=(u12,oW 5 1 enB r12)∧cE p0 m v4 r12=some r) fuel ?_ ?_
 ·refine ⟨5,([(IntKind.u8.wrap p0.Kind)]),1,?_,?_,?_,?_,?_,h⟩
  all_goals simp +decide only [F,reduceIte,Nat.reduceAdd,Bool.not_true,Bool.not_false,EN, *,-h]
 rintro mL1 s9 ⟨v4,r12,u12,f10,f11,f12,f13,f14,h⟩
 rcases mL1 with _ | mL1
 ·exact absurd h (by simp [cE])
 simp only [cE] at h
 refine sq (sq ?_)
 rcases aBM (decide (v4≥0)) with b15 | b15
 ·replace h:=bG b15 h
  refine rn ?_
  refine an (cf (xt (nI (oS (aAK (an (sq ?_)))))))
  obtain ⟨x28,h29,h⟩:=bind_some h
  refine rn1 h29 ?_
  refine an (rt ?_)
  cases h
  simp [Ret,TB,EN, *]
 replace h:=bH b15 h
 refine rn ?_
 refine an ?_
 rcases aBM (p0.Kind != 2) with b16 | b16
 ·replace h:=bG b16 h
  refine cf (xt (nI (oS (aAK (an (sq ?_))))))
  obtain ⟨x26,h27,h⟩:=bind_some h
  refine rn1 h27 ?_
  refine an (rt ?_)
  cases h
  simp [Ret,TB,EN, *]
 replace h:=bH b16 h
 refine ct (sk (an (sq (bk ?_))))
 rcases aBM (decide (0≤(i64.wrap (8*v4)))) with b17 | b17
 ·replace h:=bG b17 h
  cases h
 replace h:=bH b17 h
 obtain ⟨x18,h19,h⟩:=bind_some h
 apply lO
 ·simp +decide only [E,reduceIte,Nat.reduceAdd,Nat.reduceMul,Bool.not_true,Bool.not_false,aJ1,L,ti3,ti5,aO8,aLs,enB,EN,b3,f10,f11,f12,f13,f14,b15,b16,b17]
  refine ⟨by (have hb:=kC h19);simp [enB,List.length_append,bF] at hb ⊢ <;> omega,?_⟩
  try simp +decide only [E,reduceIte,Nat.reduceAdd,Nat.reduceMul,Bool.not_true,Bool.not_false,aJ1,L,ti3,ti5,aO8,aLs,enB,EN,b3,f10,f11,f12,f13,f14,b15,b16,b17]
  exact Is.mk _
 refine ab (an ?_)
 refine cu (fun s=>s.t 1=vP 1 1 0∧s.t 3=vR 100012 (u12+1)∧s.t 4=vI v4∧s.h 1=(1,oX 174 (M.Key.en p0))∧s.h 100012=((u12+1),oW 5 1 enB (r12++[(IntKind.u8.wrap (i64.wrap (BitVec.ofInt (IntKind.i64.bits) (Int.fdiv (i64.wrap (p0.N+1000000000000)) (2^(min (i64.wrap (8*v4)).toNat IntKind.i64.bits)))&&&BitVec.ofInt (IntKind.i64.bits) 255).toNat))]))∧True) ?_
 rintro s20 ⟨f21,f22,f23,f24,f25,_⟩
 refine rn ?_
 refine yH ⟨mL1,by omega,(i64.wrap (v4-1)),(r12++[(IntKind.u8.wrap (i64.wrap (BitVec.ofInt (IntKind.i64.bits) (Int.fdiv (i64.wrap (p0.N+1000000000000)) (2^(min (i64.wrap (8*v4)).toNat IntKind.i64.bits)))&&&BitVec.ofInt (IntKind.i64.bits) 255).toNat))]),(u12+1),?_,?_,?_,?_,?_,h⟩
 all_goals simp +decide only [F,reduceIte,Nat.reduceAdd,Bool.not_true,Bool.not_false,EN, *,-h]
instance:bC 401 (type_of% @aSb):=⟨@aSb⟩
theorem aUm (p0 p1 r) (h:hM p0 p1=some r):Sc 446 [aL enB p0,aI p1] [rW 5 1 enB r]:=by
 unfold hM at h
 simp only [EN]
 refine sgn 29 [.tmp 4] Tryz.func446 fun base wd => ?_
 refine sq (rn ?_)
 refine an (sq ?_)
 obtain ⟨x1,h2,h⟩:=bind_some h
 refine rn1 h2 ?_
 refine an (sq (sq ?_))
 refine cu (fun s=>s.t 1=vI p1∧s.t 5=vR 100006 2∧s.h 100006=(2,oW 5 1 enB p0)∧True) ?_
 rintro s3 ⟨f4,f5,f6,_⟩
 obtain ⟨x7,h8,h⟩:=bind_some h
 refine rn1 (c34 _ _ _ _ h8) ?_
 refine an ?_
 rcases cF (!x7) with b9 | b9
 ·replace h:=bH b9 h
  refine ct (sq (rn ?_))
  refine an (rt ?_)
  cases h
  simp [Ret,TB,EN, *]
 replace h:=bG b9 h
 refine cf (sk (an (sq (bk ?_))))
 refine mR (fun m s=>∃v1:Int,∃r6:List Int,∃u6:Nat,s.t 1=vI v1∧s.t 5=vR 100006 u6∧s.h 100006=(u6,oW 5 1 enB r6)∧dP m v1 r6=some r) fuel ?_ ?_
 ·refine ⟨p1,p0,2,?_,?_,?_,h⟩
  all_goals simp +decide only [F,reduceIte,Nat.reduceAdd,Bool.not_true,Bool.not_false,EN, *,-h]
 rintro mL1 s10 ⟨v1,r6,u6,f11,f12,f13,h⟩
 rcases mL1 with _ | mL1
 ·exact absurd h (by simp [dP])
 simp only [dP] at h
 refine sq (sq (rn ?_))
 refine an ?_
 rcases aBM (decide (v1>127)) with b14 | b14
 ·replace h:=bG b14 h
  refine cf (xt (nI (oS (aAK (an (sq ?_))))))
  obtain ⟨x21,h22,h⟩:=bind_some h
  refine rn1 h22 ?_
  refine an (rt ?_)
  cases h
  simp [Ret,TB,EN, *]
 replace h:=bH b14 h
 refine ct (sk (an (bk (sq ?_))))
 obtain ⟨x15,h16,h⟩:=bind_some h
 refine rn1 h16 ?_
 refine an ?_
 refine cu (fun s=>s.t 1=vI v1∧s.t 5=vR 100006 (u6+1)∧s.h 100006=((u6+1),oW 5 1 enB (r6++[(IntKind.u8.wrap (i64.wrap (BitVec.ofInt (IntKind.i64.bits) (i64.wrap (BitVec.ofInt (IntKind.i64.bits) v1&&&BitVec.ofInt (IntKind.i64.bits) 127).toNat)|||BitVec.ofInt (IntKind.i64.bits) 128).toNat))]))∧True) ?_
 rintro s17 ⟨f18,f19,f20,_⟩
 apply lO
 ·simp +decide only [E,reduceIte,Nat.reduceAdd,Nat.reduceMul,Bool.not_true,Bool.not_false,Int.reduceLT,aJ1,L,EN,b9,b14,f18,f19,f20]
  exact Is.mk _
 refine ab ?_
 refine yH ⟨mL1,by omega,(Int.fdiv v1 (2^(min (7:Int).toNat IntKind.i64.bits))),(r6++[(IntKind.u8.wrap (i64.wrap (BitVec.ofInt (IntKind.i64.bits) (i64.wrap (BitVec.ofInt (IntKind.i64.bits) v1&&&BitVec.ofInt (IntKind.i64.bits) 127).toNat)|||BitVec.ofInt (IntKind.i64.bits) 128).toNat))]),(u6+1),?_,?_,?_,h⟩
 all_goals simp +decide only [F,reduceIte,Nat.reduceAdd,Bool.not_true,Bool.not_false,EN, *,-h]
instance:bC 446 (type_of% @aUm):=⟨@aUm⟩
theorem aTp (p0 p1 r) (h:oC p0 p1=some r):Sc 447 [aL enB p0,aL enB p1] [rW 5 1 enB r]:=by
 unfold oC at h
 exact sgo 11 [.tmp 4] Tryz.func447
instance:bC 447 (type_of% @aTp):=⟨@aTp⟩
theorem aVE (p0 r) (h:nF p0=some r):Sc 402 [aX (M.aU.en p0)] [rW 5 1 enB r]:=by
 have i1:=aK4 [.t 3 7050000 5 1] fun m s=>∃v4:Int,∃r50000:List Int,∃u50000:Nat,(s.t 1=vP 1 1 0∧s.t 3=vR 7050000 u50000∧s.t 4=vI v4∧s.h 1=(1,oX 355 (M.aU.en p0))∧s.h 7050000=(u50000,oW 5 1 enB r50000))∧fT p0 m v4 r50000=some r
 have e1:=@fT.eq_2
 unfold nF at h
 exact sgo 38 [.tmp 2] Tryz.func402
instance:bC 402 (type_of% @aVE):=⟨@aVE⟩
theorem aSh (p0 r) (h:nT p0=some r):Sc 336 [aX (M.aH.en p0)] [rI r]:=by
 have i1:=inv fun m s=>∃v3:Int,∃v4:Int,(s.t 1=vP 1 1 0∧s.t 3=vI v3∧s.t 4=vI v4∧s.h 1=(1,oX 98 (M.aH.en p0)))∧iG p0 m v3 v4=some r
 have e1:=@iG.eq_2
 unfold nT at h
 exact sgo 32 [.tmp 2] Tryz.func336
instance:bC 336 (type_of% @aSh):=⟨@aSh⟩
end Go.Proofs.YtnhpbpnhmapeeaaGreat.gen
