/-
  Helper text. No conditions.
-/
import Derived.Test.YtidhkhdnjonjfaaGreatReadNoteTi
import Derived.Test.YtidhkhdnjonjfaaGreatReadNoteWimpl0
set_option linter.unusedVariables false
set_option linter.unusedSimpArgs false
namespace Go.Proofs.YtidhkhdnjonjfaaGreat.gen
open Go Go.Sh
set_option maxRecDepth 20000
set_option maxHeartbeats 4000000
theorem aPk (p0 r) (h:eH p0=some r):Sc 288 [aX (M.Key.en p0)] [rB r]:=by
 unfold eH at h
 exact sgo 39 [.tmp 2] Tryz.func288
instance:bC 288 (type_of% @aPk):=⟨@aPk⟩
theorem aNm (p0 r) (h:iO p0=some r):Sc 143 [aX (M.Key.en p0)] [rW 5 1 enB r]:=by
 have i1:=inv fun m s=>∃v4:Int,∃r12:List Int,∃u12:Nat,(s.t 1=vP 1 1 0∧s.t 3=vR 100012 u12∧s.t 4=vI v4∧s.h 1=(1,oX 225 (M.Key.en p0))∧s.h 100012=(u12,oW 5 1 enB r12))∧dC p0 m v4 r12=some r
 have e1:=@dC.eq_2
 unfold iO at h
 exact sgo 34 [.tmp 2] Tryz.func143
instance:bC 143 (type_of% @aNm):=⟨@aNm⟩
theorem aOT (p0 p1 r) (h:jQ p0 p1=some r):Sc 284 [aL enB p0,aL enB p1] [rB r]:=by
 have i1:=inv fun m s=>∃v13:Int,(s.t 0=vL enB p0∧s.t 1=vL enB p1∧s.t 12=vI (List.length p0:Int)∧s.t 13=vI v13)∧eJ p0 p1 m v13=some r
 have e1:=@eJ.eq_2
 unfold jQ at h
 exact sgo 26 [.tmp 4] Tryz.func284
instance:bC 284 (type_of% @aOT):=⟨@aOT⟩
theorem aM3 (p0 p1 r) (h:eW p0 p1=some r):Sc 138 [aL enB p0,aL enB p1] [rB r]:=by
 unfold eW at h
 exact sgo 8 [.tmp 4] Tryz.func138
instance:bC 138 (type_of% @aM3):=⟨@aM3⟩
theorem aNT (p0 r) (h:kL p0=some r):Sc 337 [aL enB p0] [(true,M.Key.rs r.1),rB r.2]:=by
 have i1:=fun (x2:Int)=>inv fun m s=>∃v6:Int,∃v30:Int,(s.t 0=vL enB p0∧s.t 2=vP 2 1 0∧s.t 4=vP 4 1 0∧s.t 5=vL enB (List.drop (1:Int).toNat p0)∧s.t 6=vI v6∧s.t 28=vL enB (List.take (6:Int).toNat (List.drop (1:Int).toNat p0))∧s.t 29=vI (List.length (List.take (6:Int).toNat (List.drop (1:Int).toNat p0)):Int)∧s.t 30=vI v30∧s.h 2=(1,oB 225 [cI 0,cI 0,cS (⟨#[]⟩:ByteArray)])∧s.h 4=(1,oB 225 [cI (IntKind.i64.wrap x2),cI 0,cS (⟨#[]⟩:ByteArray)]))∧eT p0 x2 m v6 v30=some r
 have e1:=@eT.eq_2
 unfold kL at h
 exact sgo 55 [.cell 2 225,.tmp 3] Tryz.func337
instance:bC 337 (type_of% @aNT):=⟨@aNT⟩
theorem aPI (p0 p1 p2 r) (h:vU p0 p1 p2=some r):Sc 151 [aS p0,aI p1,aB p2] [rB r]:=by
 have i1:=inv fun m s=>∃v7:Int,(s.t 0=vS p0∧s.t 1=vI p1∧s.t 2=vB p2∧s.t 7=vI v7)∧dZ p0 p1 p2 m v7=some r
 have e1:=@dZ.eq_2
 unfold vU at h
 exact sgo 38 [.tmp 6] Tryz.func151
instance:bC 151 (type_of% @aPI):=⟨@aPI⟩
theorem c49 (p0 r) (h:fM p0=some r):Sc 49 [aS p0] [rB r]:=by
 unfold fM at h
 exact sgo 5 [.tmp 2] Tryz.func49
instance:bC 49 (type_of% @c49):=⟨@c49⟩
theorem aRB (p0 r) (h:bL p0=some r):Sc 289 [aX (M.aA.en p0)] [rB r]:=by
 have i1:=inv fun m s=>∃v8:Int,(s.t 1=vP 1 1 0∧s.t 6=vL M.Field.en p0.Fields∧s.t 7=vI (List.length p0.Fields:Int)∧s.t 8=vI v8∧s.h 1=(1,oX 148 (M.aA.en p0)))∧dQ p0 m v8=some r
 have e1:=@dQ.eq_2
 unfold bL at h
 exact sgo 44 [.tmp 2] Tryz.func289
instance:bC 289 (type_of% @aRB):=⟨@aRB⟩
theorem aMK (p0 p1 r) (h:cQ p0 p1=some r):Sc 290 [aL enB p0,aI p1] [rW 5 1 enB r]:=by
 have i1:=inv fun m s=>∃v1:Int,∃r7:List Int,∃u7:Nat,(s.t 1=vI v1∧s.t 5=vR 100007 u7∧s.h 100007=(u7,oW 5 1 enB r7))∧dE m v1 r7=some r
 have e1:=@dE.eq_2
 unfold cQ at h
 exact sgo 28 [.tmp 4] Tryz.func290
instance:bC 290 (type_of% @aMK):=⟨@aMK⟩
theorem aMx (p0 p1 r) (h:iF p0 p1=some r):Sc 291 [aL enB p0,aL enB p1] [rW 5 1 enB r]:=by
 unfold iF at h
 exact sgo 11 [.tmp 4] Tryz.func291
instance:bC 291 (type_of% @aMx):=⟨@aMx⟩
theorem aNH (p0 r) (h:gG p0=some r):Sc 144 [aX (M.aA.en p0)] [rW 5 1 enB r]:=by
 have i1:=aHv [.t 3 7050000 5 1] fun m s=>∃v17:Int,∃r50000:List Int,∃u50000:Nat,(s.t 3=vR 7050000 u50000∧s.t 15=vL M.Field.en p0.Fields∧s.t 16=vI (List.length p0.Fields:Int)∧s.t 17=vI v17∧s.h 7050000=(u50000,oW 5 1 enB r50000))∧dO p0 m v17 r50000=some r
 have e1:=@dO.eq_2
 unfold gG at h
 exact sgo 31 [.tmp 2] Tryz.func144
instance:bC 144 (type_of% @aNH):=⟨@aNH⟩
theorem aNj (p0 r) (h:gI p0=some r):Sc 338 [aL enB p0] [(true,M.aA.rs r.1),rB r.2]:=by
 have i1:=fun (x1:(Int×Int×Bool))=>aHv [.b 7 0 7050000 267 2] fun m s=>∃v5:Int,∃v8:Int,∃r50000:List M.Field,∃u50000:Nat,(s.t 0=vL enB p0∧s.t 2=vP 2 1 0∧s.t 4=vI x1.1∧s.t 5=vI v5∧s.t 7=vP 7 1 0∧s.t 8=vI v8∧s.h 2=(1,oB 148 [.nil])∧s.h 7=(1,oB 148 [.row 7050000 u50000])∧s.h 7050000=(u50000,oW 267 2 M.Field.en r50000))∧dM p0 x1 m v5 v8 r50000=some r
 have e1:=@dM.eq_2
 unfold gI at h
 exact sgo 72 [.cell 2 148,.tmp 3] Tryz.func338
instance:bC 338 (type_of% @aNj):=⟨@aNj⟩
theorem aMM (p0 r) (h:wZ p0=some r):Sc 440 [aX (M.Op.en p0)] [rB r]:=by
 unfold wZ at h
 exact sgo 39 [.tmp 2] Tryz.func440
instance:bC 440 (type_of% @aMM):=⟨@aMM⟩
theorem aM6 (p0 r) (h:vV p0=some r):Sc 439 [aL M.Op.en p0] [rB r]:=by
 have i1:=inv fun m s=>∃v7:Int,(s.t 0=vL M.Op.en p0∧s.t 5=vL M.Op.en p0∧s.t 6=vI (List.length p0:Int)∧s.t 7=vI v7)∧kG p0 m v7=some r
 have e1:=@kG.eq_2
 unfold vV at h
 exact sgo 18 [.tmp 2] Tryz.func439
instance:bC 439 (type_of% @aM6):=⟨@aM6⟩
theorem aNg (p0 r) (h:oO p0=some r):Sc 339 [aL M.Op.en p0] [rW 5 1 enB r]:=by
 unfold oO at h
 simp only [EN]
 refine sgn 49 [.tmp 2] Tryz.func339 fun base wd => ?_
 refine sq (rn ?_)
 refine an (sq (sq ?_))
 obtain ⟨x1,h2,h⟩:=bind_some h
 refine rn1 (aM6 _ _ h2) ?_
 refine an ?_
 rcases wW (!x1) with b3 | b3
 ·replace h:=jW b3 h
  refine ct (sq (rn ?_))
  refine an (rt ?_)
  cases h
  simp [Ret,TB,EN, *]
 replace h:=jV b3 h
 refine cf (sk (an (sq ?_)))
 obtain ⟨x4,h5,h⟩:=bind_some h
 refine rn1 (aMK _ _ _ h5) ?_
 refine an (sq (sq (rn ?_)))
 refine an (bk ?_)
 refine aAh ((ghT 3 7050100 100014)) ?_
 refine aEf (fun m s=>∃v17:Int,∃r50100:List Int,∃u50100:Nat,s.t 3=vR 7050100 u50100∧s.t 15=vL M.Op.en p0∧s.t 16=vI (List.length p0:Int)∧s.t 17=vI v17∧s.h 7050100=(u50100,oW 5 1 enB r50100)∧cN p0 m v17 r50100=some r) fuel ?_ ?_
 ·refine ⟨0,x4,1,?_,?_,?_,?_,?_,h⟩
  all_goals simp +decide only [F,reduceIte,Nat.reduceAdd,qB,qC,EN, *,-h]
 rintro mL1 s6 ⟨v17,r50100,u50100,f7,f8,f9,f10,f11,h⟩
 rcases mL1 with _ | mL1
 ·exact absurd h (by simp [cN])
 simp only [cN] at h
 refine sq (rn ?_)
 refine an (sq ?_)
 rcases aGH (decide (v17<(List.length p0:Int))) with b12 | b12
 ·replace h:=jV b12 h
  refine cf (xt (yD (yC (aA4 (an (sq (rn ?_)))))))
  refine an (rt ?_)
  cases h
  simp [Ret,TB,EN, *]
 replace h:=jW b12 h
 refine ct (sk (an (sq (bk (sq ?_)))))
 obtain ⟨x13,h14,h⟩:=bind_some h
 obtain ⟨q15,q16,q17⟩:=mZ h14
 refine rn ?_
 refine an (sq ?_)
 obtain ⟨x18,h19,h⟩:=bind_some h
 refine rn1 (aMK _ _ _ h19) ?_
 refine an (sq ?_)
 obtain ⟨x20,h21,h⟩:=bind_some h
 obtain ⟨x22,h23,h⟩:=bind_some h
 refine rd2 mixed (aNm _ _ h21) (aNH _ _ h23) ?_
 refine an (bk ?_)
 refine cu (fun s=>s.t 3=vR 100024 ((s6.h 100024).1+1)∧s.t 15=vL M.Op.en p0∧s.t 16=vI (List.length p0:Int)∧s.t 17=vI v17∧s.t 37=vR 100037 ((s6.h 100037).1+1)∧s.t 38=vI ((4:Nat):Int)∧s.t 39=vI 0∧s.h 100024=(((s6.h 100024).1+1),oW 5 1 enB x18)∧s.h 100037=(((s6.h 100037).1+1),.row 22 1 (List.map (enL enB) ([(aV x13.aC),x20,x22,(aV x13.Field)])) false)∧True) ?_
 rintro s24 ⟨f25,f26,f27,f28,f29,f30,f31,f32,f33,_⟩
 obtain ⟨k35,e36,h⟩:=aRb (f:=fun kk=>dF x13 x20 x22 kk fuel 0 x18) h
 refine aAh ((ghT 3 7050000 100024)) ?_
 refine aEf (fun m s=>∃v39_L2:Int,∃r50000_L2:List Int,∃u50000_L2:Nat,s.t 3=vR 7050000 u50000_L2∧s.t 15=vL M.Op.en p0∧s.t 16=vI (List.length p0:Int)∧s.t 17=vI v17∧s.t 37=vR 100037 ((s6.h 100037).1+1)∧s.t 38=vI ((4:Nat):Int)∧s.t 39=vI v39_L2∧s.h 100037=(((s6.h 100037).1+1),.row 22 1 (List.map (enL enB) ([(aV x13.aC),x20,x22,(aV x13.Field)])) false)∧s.h 7050000=(u50000_L2,oW 5 1 enB r50000_L2)∧dF x13 x20 x22 k35 m v39_L2 r50000_L2=some r) fuel ?_ ?_
 ·refine ⟨0,x18,((s24.h 7050000).1+1),?_,?_,?_,?_,?_,?_,?_,?_,?_,h⟩
  all_goals simp +decide only [F,reduceIte,Nat.reduceAdd,qB,qC,EN, *,-h]
 rintro mL2 s34 ⟨v39_L2,r50000_L2,u50000_L2,f37,f38,f39,f40,f41,f42,f43,f44,f45,h⟩
 rcases mL2 with _ | mL2
 ·exact absurd h (by simp [dF])
 simp only [dF] at h
 refine sq (rn ?_)
 refine an (sq ?_)
 rcases aGH (decide (v39_L2<((4:Nat):Int))) with b46 | b46
 ·replace h:=jV b46 h
  refine cf (xt (yD ?_))
  subst e36
  refine yC (aA4 (ab (an (rn ?_))))
  refine xS ⟨_,(ghT 3 7050100 7050000),mL1,by omega,(IntKind.i64.wrap (v17+1)),r50000_L2,((s34.h 7050100).1+1),?_,?_,?_,?_,?_,h⟩
  all_goals simp +decide only [F,reduceIte,Nat.reduceAdd,qB,qC,EN, *,-h]
 replace h:=jW b46 h
 refine ct (sk (an (sq (bk (sq ?_)))))
 obtain ⟨x47,h48,h⟩:=bind_some h
 obtain ⟨q49,q50,q51⟩:=mZ h48
 have q49m:=congrArg (Option.map (enL enB)) (show ([(aV x13.aC),x20,x22,(aV x13.Field)])[v39_L2.toNat]? = some x47 by assumption)
 simp only [←List.getElem?_map,List.map_cons,List.map_nil,Option.map_some,EN] at q49m
 simp only [qJ,qK,Nat.reduceAdd] at q51
 refine rn ?_
 refine an ?_
 obtain ⟨x52,h53,h⟩:=bind_some h
 refine rn1 (aMx _ _ _ h53) ?_
 refine ab (an (rn ?_))
 refine xS ⟨_,(ghT 3 7050000 100045),mL2,by omega,(IntKind.i64.wrap (v39_L2+1)),x52,(u50000_L2+1),?_,?_,?_,?_,?_,?_,?_,?_,?_,h⟩
 all_goals simp +decide only [F,reduceIte,Nat.reduceAdd,qB,qC,EN, *,-h]
instance:bC 339 (type_of% @aNg):=⟨@aNg⟩
end Go.Proofs.YtidhkhdnjonjfaaGreat.gen
