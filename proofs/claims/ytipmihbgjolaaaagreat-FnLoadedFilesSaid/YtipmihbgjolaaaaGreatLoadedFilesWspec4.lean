/-
  Helper text. No conditions.
-/
import Derived.Test.YtipmihbgjolaaaaGreatLoadedFilesTi
import Derived.Test.YtipmihbgjolaaaaGreatLoadedFilesWspec0
import Derived.Test.YtipmihbgjolaaaaGreatLoadedFilesWspec1
import Derived.Test.YtipmihbgjolaaaaGreatLoadedFilesWspec2
set_option linter.unusedVariables false
set_option linter.unusedSimpArgs false
namespace Go.Proofs.YtipmihbgjolaaaaGreat.gen
open Go Go.Sh
set_option maxRecDepth 20000
set_option maxHeartbeats 4000000
theorem XI (p0 r) (h:dC p0=some r):Sc 133 [aX (M.aE.en p0)] [(true,M.aE.rs r)]:=by
 have i1:=DV [.b 3 0 7050000 193 2] λm s=>∃v4:Int,∃aa:List M.aFE,∃ae:Nat,(s.t 1=vP 1 1 0/\s.t 2=vP 2 1 0/\s.t 3=vP 3 1 0/\s.t 4=vI v4/\s.h 1=(1,oX 31 (M.aE.en p0))/\s.h 2=(1,oB 31 [.nil])/\s.h 3=(1,oB 31 [.row 7050000 ae])/\s.h 7050000=(ae,oW 193 2 M.aFE.en aa))/\oJ p0 m v4 aa=some r
 have e1:=@oJ.eq_2
 unfold dC at h
 exact sgo 25 [.cell 2 31] Tryz.func133
instance:bH 133 (type_of% @XI):=⟨@XI⟩
theorem aBn (p0 r) (h:jI p0=some r):Sc 158 [aX (M.bD.en p0)] [rB r]:=by unfold jI at h;exact sgo 26 [.tmp 2] Tryz.func158
instance:bH 158 (type_of% @aBn):=⟨@aBn⟩
theorem aBI (p0 r) (h:bJ p0=some r):Sc 258 [aX (M.aD.en p0)] [rB r]:=by
 have i1:=inv λm s=>∃v3:Int,(s.t 1=vP 1 1 0/\s.t 3=vI v3/\s.h 1=(1,oX 254 (M.aD.en p0)))/\gR p0 m v3=some r
 have e1:=@gR.eq_2
 unfold bJ at h
 exact sgo 53 [.tmp 2] Tryz.func258
instance:bH 258 (type_of% @aBI):=⟨@aBI⟩
theorem aCb (p0 p1 r) (h:bG p0 p1=some r):Sc 259 [aX (M.Key.en p0),aX (M.Key.en p1)] [rI r]:=by unfold bG at h;exact sgo 46 [.tmp 4] Tryz.func259
instance:bH 259 (type_of% @aCb):=⟨@aCb⟩
theorem aDI (p0 r) (h:lX p0=some r):Sc 159 [aX (M.aC.en p0)] [rB r]:=by
 have i1:=inv λm s=>∃v3:Int,(s.t 1=vP 1 1 0/\s.t 3=vI v3/\s.h 1=(1,oX 40 (M.aC.en p0)))/\iW p0 m v3=some r
 have e1:=@iW.eq_2
 unfold lX at h
 exact sgo 64 [.tmp 2] Tryz.func159
instance:bH 159 (type_of% @aDI):=⟨@aDI⟩
theorem aC2 (p0 r) (h:lN p0=some r):Sc 234 [aX (M.aE4.en p0)] [rB r]:=by
 unfold lN at h
 simp only [EN]
 refine sgn 52 [.tmp 2] Tryz.func234 λbase wd => ?_
 refine sq (rn ?_)
 refine an (sq (rn ?_))
 refine an (sq (rn ?_))
 refine an (sq (sq ?_))
 refine cu (λs=>s.t 1=vP 1 1 0/\s.t 3=vI 0/\s.t 4=vR 100012 1/\s.h 1=(1,oX 28 (M.aE4.en p0))/\s.h 100012=(1,oW 3 1 enI ([p0.aFl,p0.aFg,p0.aFY]))/\True) ?_
 rintro s1 f2
 refine rn ?_
 refine an (bk ?_)
 refine Gn (λm s=>∃v3:Int,∃v5:Int,s.t 1=vP 1 1 0/\s.t 3=vI v3/\s.t 4=vR 100012 1/\s.t 5=vI v5/\s.h 1=(1,oX 28 (M.aE4.en p0))/\s.h 100012=(1,oW 3 1 enI ([p0.aFl,p0.aFg,p0.aFY]))/\bZ p0 m v3 v5=some r) fuel ?_ ?_
 ·refine ⟨0,0,?_,?_,?_,?_,?_,?_,h⟩;all_goals simp +decide only [F,reduceIte,Nat.reduceAdd,qB,qC,EN, *,-h]
 rintro mL1 s7 ⟨v3,v5,f8,f9,f10,f11,f12,f13,h⟩
 rcases mL1 with _ | mL1
 ·exact absurd h (by simp [bZ])
 simp only [bZ] at h
 refine sq (sq (rn ?_))
 refine an ?_
 rcases Cf (decide (v5<((3:Nat):Int))) with ae | ae
 ·replace h:=cM ae h;refine cf (xt (DO (DB (Ie (an (sq ?_))))));obtain ⟨ar,ak,h⟩:=bind_some h;refine rn1 (Yz _ _ ak) ?_;refine an (rt ?_);cases h;simp [Ret,TB,EN, *]
 replace h:=cN ae h
 refine ct (sk (an (sq (bk (sq (sq ?_))))))
 obtain ⟨aa,al,h⟩:=bind_some h
 obtain ⟨av,aw,ao⟩:=tL al
 have q17m:=congrArg (Option.map enI) (show ([p0.aFl,p0.aFg,p0.aFY])[v5.toNat]? = some aa by assumption)
 simp only [<-List.getElem?_map,List.map_cons,List.map_nil,Option.map_some,EN] at q17m
 simp only [qJ,qK,Nat.reduceAdd] at ao
 obtain ⟨aq,af,h⟩:=bind_some h
 rcases nX (!aq) with ah | ah
 ·replace h:=cN ah h;refine rn1 (c87 _ _ _ _ af) ?_;refine an (ct (sq (rn ?_)));refine an (rt ?_);cases h;simp [Ret,TB,EN, *]
 replace h:=cM ah h
 rcases Cf (aa != 0) with ai | ai
 ·replace h:=cM ai h;refine rn1 (c87 _ _ _ _ af) ?_;refine an (cf (sk (an (sq (rn ?_)))));refine an (cf (sk (ab (an (rn ?_)))));refine jB ⟨mL1,qb,v3,(IntKind.i64.wrap (v5+1)),?_,?_,?_,?_,?_,?_,h⟩;all_goals simp +decide only [F,reduceIte,Nat.reduceAdd,qB,qC,EN, *,-h]
 replace h:=cN ai h
 refine rn1 (c87 _ _ _ _ af) ?_
 refine an ?_
 rcases nX (decide (aa<=v3)) with aj | aj
 ·replace h:=cN aj h;refine ct (sq (rn ?_));refine an (rt ?_);cases h;simp [Ret,TB,EN, *]
 replace h:=cM aj h
 refine cf (sk (an (sq (rn ?_))))
 refine an (ct (rn ?_))
 refine ab (an (rn ?_))
 refine jB ⟨mL1,qb,aa,(IntKind.i64.wrap (v5+1)),?_,?_,?_,?_,?_,?_,h⟩
 all_goals simp +decide only [F,reduceIte,Nat.reduceAdd,qB,qC,EN, *,-h]
instance:bH 234 (type_of% @aC2):=⟨@aC2⟩
theorem aCV (p0 p1 p2 r) (h:Br p0 p1 p2=some r):Sc 395 [aX (M.aFP.en p0),aX (M.aFP.en p1),aS p2] [rB r]:=by unfold Br at h;exact sgo 41 [.tmp 6] Tryz.func395
instance:bH 395 (type_of% @aCV):=⟨@aCV⟩
theorem aC1 (p0 r) (h:iD p0=some r):Sc 301 [aX (M.aM.en p0)] [rB r]:=by
 have i1:=inv λm s=>∃v4:Int,(s.t 1=vP 1 1 0/\s.t 3=vI (List.length p0.aFO:Int)/\s.t 4=vI v4/\s.h 1=(1,oX 43 (M.aM.en p0)))/\mD p0 m v4=some r
 have e1:=@mD.eq_2
 unfold iD at h
 exact sgo 60 [.tmp 2] Tryz.func301
instance:bH 301 (type_of% @aC1):=⟨@aC1⟩
theorem aDu (p0 r) (h:kD p0=some r):Sc 345 [aX (M.Key.en p0)] [rW 5 1 enB r]:=by
 have i1:=inv λm s=>∃v4:Int,∃aa:List Int,∃ae:Nat,(s.t 1=vP 1 1 0/\s.t 3=vR 100012 ae/\s.t 4=vI v4/\s.h 1=(1,oX 209 (M.Key.en p0))/\s.h 100012=(ae,oW 5 1 enB aa))/\bF p0 m v4 aa=some r
 have e1:=@bF.eq_2
 unfold kD at h
 exact sgo 38 [.tmp 2] Tryz.func345
instance:bH 345 (type_of% @aDu):=⟨@aDu⟩
theorem aDs (p0 p1 r) (h:bN p0 p1=some r):Sc 289 [aL enB p0,aL enB p1] [rW 5 1 enB r]:=by unfold bN at h;exact sgo 11 [.tmp 4] Tryz.func289
instance:bH 289 (type_of% @aDs):=⟨@aDs⟩
theorem aDF (p0 r) (h:fZ p0=some r):Sc 346 [aX (M.aD.en p0)] [rW 5 1 enB r]:=by
 have i1:=DV [.t 3 7050000 5 1] λm s=>∃v4:Int,∃aa:List Int,∃ae:Nat,(s.t 1=vP 1 1 0/\s.t 3=vR 7050000 ae/\s.t 4=vI v4/\s.h 1=(1,oX 254 (M.aD.en p0))/\s.h 7050000=(ae,oW 5 1 enB aa))/\cQ p0 m v4 aa=some r
 have e1:=@cQ.eq_2
 unfold fZ at h
 exact sgo 38 [.tmp 2] Tryz.func346
instance:bH 346 (type_of% @aDF):=⟨@aDF⟩
theorem c88 (p0 r) (h:vG p0=some r):Sc 88 [aX (M.aR.en p0)] [rB r]:=by
 have i1:=inv λm s=>∃v3:Int,(s.t 1=vP 1 1 0/\s.t 3=vI v3/\s.h 1=(1,oX 68 (M.aR.en p0)))/\fI p0 m v3=some r
 have e1:=@fI.eq_2
 have i2:=λ(v3:Int) (x6:M.mZ) (ae:Int->Option Bool) (s1:St)=>inv λm s=>∃aa:Int,(s.t 1=vP 1 1 0/\s.t 3=vI v3/\s.t 4=vP 4 ((s1.h 4).1+1) 0/\s.t 5=vI aa/\s.h 1=(1,oX 68 (M.aR.en p0))/\s.h 4=(((s1.h 4).1+1),oX 154 (M.mZ.en x6)))/\cO p0 v3 x6 ae m aa=some r
 have e2:=@cO.eq_2
 unfold vG at h
 exact sgo 67 [.tmp 2] Tryz.func88
instance:bH 88 (type_of% @c88):=⟨@c88⟩
theorem c75 (p0 p1 r) (h:cA p0 p1=some r):Sc 75 [(false,[.ptr [.sl (List.map enB p0.b),.int .i64 p0.i,.int .i64 p0.h]]),aI p1] [(false,[.edit (.lend 182 [.int .i64 r.1,.int .i64 r.2.1])]),rB r.2.2]:=by
 unfold cA at h
 simp only [EN]
 refine sgB 9 [.tmp 4] Tryz.func75 λbase wd B0 u0 hw0 => ?_
 refine eY (J:=λs=>s.t 0=vP 7059000 1 0/\s.t 1=vI p1/\s.h 7059000=(1,oB 182 [.old B0 (.sl (List.map enB p0.b)) (some u0),cI p0.i,cI p0.h])/\True) ?_ ?_
 ·and_intros<;>(try simp only [LN,List.map_cons,List.map_nil])<;>rfl
 rintro s1 f2
 exact sgX
instance:bH 75 (type_of% @c75):=⟨@c75⟩
theorem aAv (p0 r) (h:BC p0=some r):Sc 200 [aL enI p0] [rI r]:=by
 have i1:=inv λm s=>∃v3:Int,∃v4:Int,(s.t 0=vL enI p0/\s.t 3=vI v3/\s.t 4=vI v4)/\vO p0 m v3 v4=some r
 have e1:=@vO.eq_2
 unfold BC at h
 exact sgo 22 [.tmp 2] Tryz.func200
instance:bH 200 (type_of% @aAv):=⟨@aAv⟩
theorem aAc (p0 p1 r) (h:uB p0 p1=some r):Sc 117 [aI p0,aL enI p1] [rI r]:=by unfold uB at h;exact sgo 13 [.tmp 4] Tryz.func117
instance:bH 117 (type_of% @aAc):=⟨@aAc⟩
theorem c69 (p0 p1 r) (h:bM p0 p1=some r):Sc 69 [(false,[.ptr [.sl (List.map enB p0.b),.int .i64 p0.i,.int .i64 p0.h]]),aL enI p1] [(false,[.edit (.lend 182 [.int .i64 r.1,.int .i64 r.2.1])]),rI r.2.2]:=by
 unfold bM at h
 simp only [EN]
 refine sgB 12 [.tmp 4] Tryz.func69 λbase wd B0 u0 hw0 => ?_
 refine eY (J:=λs=>s.t 0=vP 7059000 1 0/\s.t 1=vL enI p1/\s.h 7059000=(1,oB 182 [.old B0 (.sl (List.map enB p0.b)) (some u0),cI p0.i,cI p0.h])/\True) ?_ ?_
 ·and_intros<;>(try simp only [LN,List.map_cons,List.map_nil])<;>rfl
 rintro s1 f2
 exact sgX
instance:bH 69 (type_of% @c69):=⟨@c69⟩
theorem Y4 (p0 r) (h:dN p0=some r):Sc 208 [(false,[.ptr [.sl (List.map enB p0.b),.int .i64 p0.i,.int .i64 p0.h]])] [(false,[.edit (.lend 182 [.int .i64 r.1,.int .i64 r.2.1])]),(true,M.Key.rs r.2.2)]:=by
 unfold dN at h
 simp only [EN]
 refine sgB 6 [.cell 2 209] Tryz.func208 λbase wd B0 u0 hw0 => ?_
 refine eY (J:=λs=>s.t 0=vP 7059000 1 0/\s.h 7059000=(1,oB 182 [.old B0 (.sl (List.map enB p0.b)) (some u0),cI p0.i,cI p0.h])/\True) ?_ ?_
 ·and_intros<;>(try simp only [LN,List.map_cons,List.map_nil])<;>rfl
 rintro s1 f2
 exact sgX
instance:bH 208 (type_of% @Y4):=⟨@Y4⟩
theorem ZO (p0 p1 p2 r) (h:iF p0 p1 p2=some r):Sc 281 [aX (M.aD.en p0),aS p1,aI p2] [(true,M.aD.rs r.1),rB r.2]:=by
 have i1:=λ(x1:M.aD)=>inv λm s=>∃v9:Int,(s.t 1=vS p1/\s.t 2=vI p2/\s.t 3=vP 3 1 0/\s.t 6=vP 6 1 0/\s.t 8=vP 8 1 0/\s.t 9=vI v9/\s.h 3=(1,oX 254 (M.aD.en p0))/\s.h 6=(1,oB 254 [.nil])/\s.h 8=(1,oB 254 [.row 100011 1])/\s.h 100011=(1,oW 356 2 M.Field.en x1.aFA))/\lZ p0 p1 p2 x1 m v9=some r
 have e1:=@lZ.eq_2
 unfold iF at h
 exact sgo 78 [.cell 6 254,.tmp 7] Tryz.func281
instance:bH 281 (type_of% @ZO):=⟨@ZO⟩
theorem aAq (p0 p1 r) (h:wF p0 p1=some r):Sc 290 [aI p0,aL enB p1] [rI r]:=by unfold wF at h;exact sgo 11 [.tmp 4] Tryz.func290
instance:bH 290 (type_of% @aAq):=⟨@aAq⟩
theorem aCl (p0 p1 r) (h:Cm p0 p1=some r):Sc 408 [aL enB p0,aI p1] [(true,M.aD.rs r.1),rI r.2.1,rB r.2.2]:=by
 have i1:=λ(x1:(Int×Int×Bool))=>DV [.b 10 0 7050000 356 2] λm s=>∃v8:Int,∃v11:Int,∃aa:List M.Field,∃ae:Nat,(s.t 0=vL enB p0/\s.t 4=vP 4 1 0/\s.t 7=vI x1.1/\s.t 8=vI v8/\s.t 10=vP 10 1 0/\s.t 11=vI v11/\s.h 4=(1,oB 254 [.nil])/\s.h 10=(1,oB 254 [.row 7050000 ae])/\s.h 7050000=(ae,oW 356 2 M.Field.en aa))/\pV p0 x1 m v8 v11 aa=some r
 have e1:=@pV.eq_2
 unfold Cm at h
 exact sgo 72 [.cell 4 254,.tmp 5,.tmp 6] Tryz.func408
instance:bH 408 (type_of% @aCl):=⟨@aCl⟩
theorem aDN (p0 r) (h:BE p0=some r):Sc 344 [aX (M.Op.en p0)] [rB r]:=by unfold BE at h;exact sgo 46 [.tmp 2] Tryz.func344
instance:bH 344 (type_of% @aDN):=⟨@aDN⟩
theorem aBz (p0 p1 r) (h:xY p0 p1=some r):Sc 409 [aX (M.Key.en p0),aX (M.gE.en p1)] [rB r]:=by unfold xY at h;exact sgo 50 [.tmp 4] Tryz.func409
instance:bH 409 (type_of% @aBz):=⟨@aBz⟩
theorem aAB (p0 r) (h:pI p0=some r):Sc 214 [(false,[.ptr [.sl (List.map enB p0.b),.int .i64 p0.i,.int .i64 p0.h]])] [(false,[.edit (.lend 182 [.int .i64 r.1,.int .i64 r.2.1])]),(true,M.aE9.rs r.2.2)]:=by
 unfold pI at h
 simp only [EN]
 refine sgB 40 [.cell 2 105] Tryz.func214 λbase wd B0 u0 hw0 => ?_
 refine eY (J:=λs=>s.t 0=vP 7059000 1 0/\s.h 7059000=(1,oB 182 [.old B0 (.sl (List.map enB p0.b)) (some u0),cI p0.i,cI p0.h])/\True) ?_ ?_
 ·and_intros<;>(try simp only [LN,List.map_cons,List.map_nil])<;>rfl
 rintro s1 f2
 exact sgX
instance:bH 214 (type_of% @aAB):=⟨@aAB⟩
theorem aDR (p0 r) (h:wI p0=some r):Sc 391 [(false,[.ptr [.sl (List.map enB p0.b),.int .i64 p0.i,.int .i64 p0.h]])] [(false,[.edit (.lend 182 [.int .i64 r.1,.int .i64 r.2.1])]),rI r.2.2]:=by
 unfold wI at h
 simp only [EN]
 refine sgB 8 [.tmp 2] Tryz.func391 λbase wd B0 u0 hw0 => ?_
 refine eY (J:=λs=>s.t 0=vP 7059000 1 0/\s.h 7059000=(1,oB 182 [.old B0 (.sl (List.map enB p0.b)) (some u0),cI p0.i,cI p0.h])/\True) ?_ ?_
 ·and_intros<;>(try simp only [LN,List.map_cons,List.map_nil])<;>rfl
 rintro s1 f2
 exact sgX
instance:bH 391 (type_of% @aDR):=⟨@aDR⟩
theorem aD5 (p0 p1 r) (h:Bp p0 p1=some r):Sc 216 [(false,[.ptr [.sl (List.map enB p0.b),.int .i64 p0.i,.int .i64 p0.h]]),aL enB p1] [(false,[.edit (.lend 182 [.int .i64 r.1,.int .i64 r.2.1])]),rW 5 1 enB r.2.2]:=by
 unfold Bp at h
 simp only [EN]
 refine sgB 44 [.tmp 4] Tryz.func216 λbase wd B0 u0 hw0 => ?_
 refine eY (J:=λs=>s.t 0=vP 7059000 1 0/\s.t 1=vL enB p1/\s.h 7059000=(1,oB 182 [.old B0 (.sl (List.map enB p0.b)) (some u0),cI p0.i,cI p0.h])/\True) ?_ ?_
 ·and_intros<;>(try simp only [LN,List.map_cons,List.map_nil])<;>rfl
 rintro s1 f2
 refine sq (rn ?_)
 refine an (sq ?_)
 obtain ⟨x5,h6,h⟩:=bind_some h
 refine rn1 h6 ?_
 refine an (sq (sq ?_))
 refine cu (λs=>s.t 0=vP 7059000 1 0/\s.t 5=vR 100006 (((s1.h 100006).1+1)+1)/\s.h 100006=((((s1.h 100006).1+1)+1),oW 5 1 enB p1)/\s.h 7059000=(1,oB 182 [.old B0 (.sl (List.map enB p0.b)) (some u0),cI p0.i,cI p0.h])/\True) ?_
 rintro s7 f8
 obtain ⟨aa,al,h⟩:=bind_some h
 refine rn1 (c65 _ _ _ al) ?_
 refine an (bk (sq ?_))
 refine cu (λs=>s.t 0=vP 7059000 1 0/\s.t 5=vR 100006 (((s1.h 100006).1+1)+1)/\s.t 10=vI aa.2.2/\s.h 100006=((((s1.h 100006).1+1)+1),oW 5 1 enB p1)/\s.h 7059000=(1,oB 182 [.old B0 (.sl (List.map enB p0.b)) (some u0),cI aa.1,cI aa.2.1])/\True) ?_
 rintro ay f15
 refine rn ?_
 refine an ?_
 rcases nX (aa.2.2==0) with ae | ae
 ·replace h:=cN ae h;refine ct (sq (rn ?_));refine an ?_;rcases Cf (decide ((List.length p1:Int)>0)) with ai | ai;(replace h:=cM ai h;refine cf (sk (ab (an (sq (rn ?_)))));refine an (rt ?_);cases h;simp [HQ,Ret,TB,EN, *]);replace h:=cN ai h;refine ct ?_;obtain ⟨az,ao,h⟩:=bind_some h;obtain ⟨ba,aq,h⟩:=bind_some h;obtain ⟨bd,ar,h⟩:=bind_some h;obtain ⟨bf,bg,bh⟩:=tL ar;refine rn2 (c65 _ _ _ ao) (c65 _ _ _ aq) ?_;refine ab (an (sq (rn ?_)));refine an (rt ?_);cases h;simp [HQ,Ret,TB,EN, *]
 replace h:=cM ae h
 refine cf (sq (rn ?_))
 refine an ?_
 rcases Cf (aa.2.2==1) with af | af
 ·replace h:=cM af h;refine cf (sq (rn ?_));refine an ?_;rcases Cf (aa.2.2==2) with aj | aj;(replace h:=cM aj h;refine cf (sk (ab (an (sq (rn ?_)))));refine an (rt ?_);cases h;simp [HQ,Ret,TB,EN, *]);replace h:=cN aj h;refine ct ?_;obtain ⟨bj,av,h⟩:=bind_some h;obtain ⟨bl,aw,h⟩:=bind_some h;refine rn2 (c69 _ _ _ av) aw ?_;refine ab (an (sq (rn ?_)));refine an (rt ?_);cases h;simp [HQ,Ret,TB,EN, *]
 replace h:=cN af h
 refine ct ?_
 obtain ⟨ak,ax,h⟩:=bind_some h
 obtain ⟨bm,ah,h⟩:=bind_some h
 apply cW
 ·simp +decide only [E,reduceIte,Nat.reduceAdd,Nat.reduceMul,qB,qC,<-List.map_take,<-List.map_drop,L,ti5,Y6,enB,EN,f15,ae,af]
  refine ⟨_,c65 _ _ _ ax,?_⟩
  try simp +decide only [E,reduceIte,Nat.reduceAdd,Nat.reduceMul,qB,qC,<-List.map_take,<-List.map_drop,L,ti5,Y6,enB,EN,f15,ae,af]
  refine ⟨by first | exact rV ah | exact (rV ah).2 | exact (rV ah).2.2,?_⟩
  try simp +decide only [E,reduceIte,Nat.reduceAdd,Nat.reduceMul,qB,qC,<-List.map_take,<-List.map_drop,L,ti5,Y6,enB,EN,f15,ae,af]
  exact Is.mk _
 refine ab (an (sq (rn ?_)))
 refine an ?_
 refine Hf (Gho.X0 (i:=4) (j:=100006) (vj:=(((s1.h 100006).1+1)+1)) (K:=100006) (n:=ak.2.2.toNat) (e:=5) (sz:=1) (dp:=true) (xs:=(List.map enB p1)) (List.map enB (List.take ak.2.2.toNat p1)) (by first | (simp +decide only [F,reduceIte,Nat.reduceAdd,qB,qC,EN, *,-h];done) | (simp +decide only [F,reduceIte,Nat.reduceAdd,qB,qC,EN, *,-h];rfl) | rfl) (by first | (simp +decide only [F,reduceIte,Nat.reduceAdd,qB,qC,EN, *,-h];done) | (simp +decide only [F,reduceIte,Nat.reduceAdd,qB,qC,EN, *,-h];rfl) | rfl) (by rw [List.length_map];exact (rV ah).2) (by rw [List.map_take])) ?_
 refine rt ?_
 cases h
 simp [HQ,Ret,TB,EN, *]
instance:bH 216 (type_of% @aD5):=⟨@aD5⟩
end Go.Proofs.YtipmihbgjolaaaaGreat.gen
