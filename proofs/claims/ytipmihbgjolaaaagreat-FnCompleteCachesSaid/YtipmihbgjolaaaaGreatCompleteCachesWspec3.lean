/-
  Helper text. No conditions.
-/
import Derived.Test.YtipmihbgjolaaaaGreatCompleteCachesTi
import Derived.Test.YtipmihbgjolaaaaGreatCompleteCachesWspec0
import Derived.Test.YtipmihbgjolaaaaGreatCompleteCachesWspec1
import Derived.Test.YtipmihbgjolaaaaGreatCompleteCachesWspec2
set_option linter.unusedVariables false
set_option linter.unusedSimpArgs false
namespace Go.Proofs.YtipmihbgjolaaaaGreat.gen
open Go Go.Sh
set_option maxRecDepth 20000
set_option maxHeartbeats 4000000
theorem c82 (p0 p1 r) (h:eD p0 p1=some r):Sc 82 [(false,[.ptr [.sl (List.map enB p0.b),.int .i64 p0.i,.int .i64 p0.h]]),aL enS p1] [(false,[.edit (.lend 182 [.int .i64 r.1,.int .i64 r.2.1])]),rS r.2.2]:=by
 unfold eD at h
 simp only [EN]
 refine sgB 12 [.tmp 4] Tryz.func82 λbase wd B0 u0 hw0 => ?_
 refine eA (J:=λs=>s.t 0=vP 7059000 1 0/\s.t 1=vL enS p1/\s.h 7059000=(1,oB 182 [.old B0 (.sl (List.map enB p0.b)) (some u0),cI p0.i,cI p0.h])/\True) ?_ ?_
 ·and_intros<;>(try simp only [LN,List.map_cons,List.map_nil])<;>rfl
 rintro s1 f2
 exact sgX
instance:bF 82 (type_of% @c82):=⟨@c82⟩
theorem c75 (p0 p1 r) (h:bG p0 p1=some r):Sc 75 [(false,[.ptr [.sl (List.map enB p0.b),.int .i64 p0.i,.int .i64 p0.h]]),aI p1] [(false,[.edit (.lend 182 [.int .i64 r.1,.int .i64 r.2.1])]),rB r.2.2]:=by
 unfold bG at h
 simp only [EN]
 refine sgB 9 [.tmp 4] Tryz.func75 λbase wd B0 u0 hw0 => ?_
 refine eA (J:=λs=>s.t 0=vP 7059000 1 0/\s.t 1=vI p1/\s.h 7059000=(1,oB 182 [.old B0 (.sl (List.map enB p0.b)) (some u0),cI p0.i,cI p0.h])/\True) ?_ ?_
 ·and_intros<;>(try simp only [LN,List.map_cons,List.map_nil])<;>rfl
 rintro s1 f2
 exact sgX
instance:bF 75 (type_of% @c75):=⟨@c75⟩
theorem c69 (p0 p1 r) (h:bK p0 p1=some r):Sc 69 [(false,[.ptr [.sl (List.map enB p0.b),.int .i64 p0.i,.int .i64 p0.h]]),aL enI p1] [(false,[.edit (.lend 182 [.int .i64 r.1,.int .i64 r.2.1])]),rI r.2.2]:=by
 unfold bK at h
 simp only [EN]
 refine sgB 12 [.tmp 4] Tryz.func69 λbase wd B0 u0 hw0 => ?_
 refine eA (J:=λs=>s.t 0=vP 7059000 1 0/\s.t 1=vL enI p1/\s.h 7059000=(1,oB 182 [.old B0 (.sl (List.map enB p0.b)) (some u0),cI p0.i,cI p0.h])/\True) ?_ ?_
 ·and_intros<;>(try simp only [LN,List.map_cons,List.map_nil])<;>rfl
 rintro s1 f2
 exact sgX
instance:bF 69 (type_of% @c69):=⟨@c69⟩
theorem Xb (p0 r) (h:bO p0=some r):Sc 133 [aX (M.aC.en p0)] [(true,M.aC.rs r)]:=by
 have i1:=D5 [.b 3 0 7050000 193 2] λm s=>∃v4:Int,∃aa:List M.aGo,∃ae:Nat,(s.t 1=vP 1 1 0/\s.t 2=vP 2 1 0/\s.t 3=vP 3 1 0/\s.t 4=vI v4/\s.h 1=(1,oX 31 (M.aC.en p0))/\s.h 2=(1,oB 31 [.nil])/\s.h 3=(1,oB 31 [.row 7050000 ae])/\s.h 7050000=(ae,oW 193 2 M.aGo.en aa))/\pF p0 m v4 aa=some r
 have e1:=@pF.eq_2
 unfold bO at h
 exact sgo 25 [.cell 2 31] Tryz.func133
instance:bF 133 (type_of% @Xb):=⟨@Xb⟩
theorem aDr (p0 r) (h:tC p0=some r):Sc 312 [aL M.aGw.en p0] [rB r]:=by
 have i1:=inv λm s=>∃v3:Int,(s.t 0=vL M.aGw.en p0/\s.t 3=vI v3)/\eS p0 m v3=some r
 have e1:=@eS.eq_2
 have i2:=λ(v3:Int) (x5:M.aGw) (ae:Int->Option Bool)=>inv λm s=>∃aa:Int,(s.t 0=vL M.aGw.en p0/\s.t 3=vI v3/\s.t 4=vI aa)/\gS p0 v3 x5 ae m aa=some r
 have e2:=@gS.eq_2
 unfold tC at h
 exact sgo 68 [.tmp 2] Tryz.func312
instance:bF 312 (type_of% @aDr):=⟨@aDr⟩
theorem c83 (p0 r) (h:sQ p0=some r):Sc 83 [aX (M.aGl.en p0)] [rB r]:=by
 have i1:=inv λm s=>∃v3:Int,(s.t 1=vP 1 1 0/\s.t 3=vI v3/\s.h 1=(1,oX 85 (M.aGl.en p0)))/\kX p0 m v3=some r
 have e1:=@kX.eq_2
 unfold sQ at h
 exact sgo 50 [.tmp 2] Tryz.func83
instance:bF 83 (type_of% @c83):=⟨@c83⟩
theorem aCK (p0 r) (h:B6 p0=some r):Sc 200 [aL enI p0] [rI r]:=by
 have i1:=inv λm s=>∃v3:Int,∃v4:Int,(s.t 0=vL enI p0/\s.t 3=vI v3/\s.t 4=vI v4)/\wM p0 m v3 v4=some r
 have e1:=@wM.eq_2
 unfold B6 at h
 exact sgo 22 [.tmp 2] Tryz.func200
instance:bF 200 (type_of% @aCK):=⟨@aCK⟩
theorem aC1 (p0 r) (h:bZ p0=some r):Sc 232 [aX (M.aD.en p0)] [(true,M.aD.rs r)]:=by
 have i1:=D5 [.b 3 1 7050000 284 4] λm s=>∃v4:Int,∃aa:List M.aG1,∃ae:Nat,(s.t 1=vP 1 1 0/\s.t 2=vP 2 1 0/\s.t 3=vP 3 1 0/\s.t 4=vI v4/\s.h 1=(1,oX 40 (M.aD.en p0))/\s.h 2=(1,oB 40 [cS (⟨#[]⟩:ByteArray),.nil,cI 0])/\s.h 3=(1,oB 40 [cS p0.Name,.row 7050000 ae,cI p0.aHD])/\s.h 7050000=(ae,oW 284 4 M.aG1.en aa))/\rV p0 m v4 aa=some r
 have e1:=@rV.eq_2
 unfold bZ at h
 exact sgo 29 [.cell 2 40] Tryz.func232
instance:bF 232 (type_of% @aC1):=⟨@aC1⟩
theorem aDH (p0 r) (h:kI p0=some r):Sc 177 [aX (M.bJ.en p0)] [(true,M.bJ.rs r)]:=by unfold kI at h;exact sgo 15 [.cell 2 96] Tryz.func177
instance:bF 177 (type_of% @aDH):=⟨@aDH⟩
theorem aDD (p0 r) (h:jR p0=some r):Sc 158 [aX (M.bC.en p0)] [rB r]:=by unfold jR at h;exact sgo 26 [.tmp 2] Tryz.func158
instance:bF 158 (type_of% @aDD):=⟨@aDD⟩
theorem aCj (p0 r) (h:bL p0=some r):Sc 258 [aX (M.aE.en p0)] [rB r]:=by
 have i1:=inv λm s=>∃v3:Int,(s.t 1=vP 1 1 0/\s.t 3=vI v3/\s.h 1=(1,oX 254 (M.aE.en p0)))/\hH p0 m v3=some r
 have e1:=@hH.eq_2
 unfold bL at h
 exact sgo 53 [.tmp 2] Tryz.func258
instance:bF 258 (type_of% @aCj):=⟨@aCj⟩
theorem aD7 (p0 p1 r) (h:bI p0 p1=some r):Sc 259 [aX (M.Key.en p0),aX (M.Key.en p1)] [rI r]:=by unfold bI at h;exact sgo 46 [.tmp 4] Tryz.func259
instance:bF 259 (type_of% @aD7):=⟨@aD7⟩
theorem c86 (p0 r) (h:sR p0=some r):Sc 86 [aX (M.bJ.en p0)] [rB r]:=by
 have i1:=inv λm s=>∃v3:Int,(s.t 1=vP 1 1 0/\s.t 3=vI v3/\s.h 1=(1,oX 96 (M.bJ.en p0)))/\rQ p0 m v3=some r
 have e1:=@rQ.eq_2
 unfold sR at h
 exact sgo 54 [.tmp 2] Tryz.func86
instance:bF 86 (type_of% @c86):=⟨@c86⟩
theorem aEZ (p0 r) (h:cE p0=some r):Sc 234 [aX (M.aGf.en p0)] [rB r]:=by
 unfold cE at h
 simp only [EN]
 refine sgn 52 [.tmp 2] Tryz.func234 λbase wd => ?_
 refine sq (rn ?_)
 refine an (sq (rn ?_))
 refine an (sq (rn ?_))
 refine an (sq (sq ?_))
 refine cu (λs=>s.t 1=vP 1 1 0/\s.t 3=vI 0/\s.t 4=vR 100012 1/\s.h 1=(1,oX 28 (M.aGf.en p0))/\s.h 100012=(1,oW 3 1 enI ([p0.aHF,p0.aHC,p0.aG6]))/\True) ?_
 rintro s1 f2
 refine rn ?_
 refine an (bk ?_)
 refine IB (λm s=>∃v3:Int,∃v5:Int,s.t 1=vP 1 1 0/\s.t 3=vI v3/\s.t 4=vR 100012 1/\s.t 5=vI v5/\s.h 1=(1,oX 28 (M.aGf.en p0))/\s.h 100012=(1,oW 3 1 enI ([p0.aHF,p0.aHC,p0.aG6]))/\bU p0 m v3 v5=some r) fuel ?_ ?_
 ·refine ⟨0,0,?_,?_,?_,?_,?_,?_,h⟩;all_goals simp +decide only [F,reduceIte,Nat.reduceAdd,qB,qC,EN, *,-h]
 rintro mL1 s7 ⟨v3,v5,f8,f9,f10,f11,f12,f13,h⟩
 rcases mL1 with _ | mL1
 ·exact absurd h (by simp [bU])
 simp only [bU] at h
 refine sq (sq (rn ?_))
 refine an ?_
 rcases CH (decide (v5<((3:Nat):Int))) with ae | ae
 ·replace h:=cR ae h;refine cf (xt (E2 (EV (J0 (an (sq ?_))))));obtain ⟨ar,ak,h⟩:=bind_some h;refine rn1 (ZY _ _ ak) ?_;refine an (rt ?_);cases h;simp [Ret,TB,EN, *]
 replace h:=cT ae h
 refine ct (sk (an (sq (bk (sq (sq ?_))))))
 obtain ⟨aa,al,h⟩:=bind_some h
 obtain ⟨av,aw,ao⟩:=Az al
 have q17m:=congrArg (Option.map enI) (show ([p0.aHF,p0.aHC,p0.aG6])[v5.toNat]? = some aa by assumption)
 simp only [<-List.getElem?_map,List.map_cons,List.map_nil,Option.map_some,EN] at q17m
 simp only [qJ,qK,Nat.reduceAdd] at ao
 obtain ⟨aq,af,h⟩:=bind_some h
 rcases oQ (!aq) with ah | ah
 ·replace h:=cT ah h;refine rn1 (c87 _ _ _ _ af) ?_;refine an (ct (sq (rn ?_)));refine an (rt ?_);cases h;simp [Ret,TB,EN, *]
 replace h:=cR ah h
 rcases CH (aa != 0) with ai | ai
 ·replace h:=cR ai h;refine rn1 (c87 _ _ _ _ af) ?_;refine an (cf (sk (an (sq (rn ?_)))));refine an (cf (sk (ab (an (rn ?_)))));refine lJ ⟨mL1,qb,v3,(IntKind.i64.wrap (v5+1)),?_,?_,?_,?_,?_,?_,h⟩;all_goals simp +decide only [F,reduceIte,Nat.reduceAdd,qB,qC,EN, *,-h]
 replace h:=cT ai h
 refine rn1 (c87 _ _ _ _ af) ?_
 refine an ?_
 rcases oQ (decide (aa<=v3)) with aj | aj
 ·replace h:=cT aj h;refine ct (sq (rn ?_));refine an (rt ?_);cases h;simp [Ret,TB,EN, *]
 replace h:=cR aj h
 refine cf (sk (an (sq (rn ?_))))
 refine an (ct (rn ?_))
 refine ab (an (rn ?_))
 refine lJ ⟨mL1,qb,aa,(IntKind.i64.wrap (v5+1)),?_,?_,?_,?_,?_,?_,h⟩
 all_goals simp +decide only [F,reduceIte,Nat.reduceAdd,qB,qC,EN, *,-h]
instance:bF 234 (type_of% @aEZ):=⟨@aEZ⟩
theorem aFV (p0 r) (h:kT p0=some r):Sc 345 [aX (M.Key.en p0)] [rW 5 1 enB r]:=by
 have i1:=inv λm s=>∃v4:Int,∃aa:List Int,∃ae:Nat,(s.t 1=vP 1 1 0/\s.t 3=vR 100012 ae/\s.t 4=vI v4/\s.h 1=(1,oX 209 (M.Key.en p0))/\s.h 100012=(ae,oW 5 1 enB aa))/\bE p0 m v4 aa=some r
 have e1:=@bE.eq_2
 unfold kT at h
 exact sgo 38 [.tmp 2] Tryz.func345
instance:bF 345 (type_of% @aFV):=⟨@aFV⟩
theorem aFT (p0 p1 r) (h:bQ p0 p1=some r):Sc 289 [aL enB p0,aL enB p1] [rW 5 1 enB r]:=by unfold bQ at h;exact sgo 11 [.tmp 4] Tryz.func289
instance:bF 289 (type_of% @aFT):=⟨@aFT⟩
theorem c88 (p0 r) (h:wI p0=some r):Sc 88 [aX (M.aR.en p0)] [rB r]:=by
 have i1:=inv λm s=>∃v3:Int,(s.t 1=vP 1 1 0/\s.t 3=vI v3/\s.h 1=(1,oX 68 (M.aR.en p0)))/\fR p0 m v3=some r
 have e1:=@fR.eq_2
 have i2:=λ(v3:Int) (x6:M.nW) (ae:Int->Option Bool) (s1:St)=>inv λm s=>∃aa:Int,(s.t 1=vP 1 1 0/\s.t 3=vI v3/\s.t 4=vP 4 ((s1.h 4).1+1) 0/\s.t 5=vI aa/\s.h 1=(1,oX 68 (M.aR.en p0))/\s.h 4=(((s1.h 4).1+1),oX 154 (M.nW.en x6)))/\cU p0 v3 x6 ae m aa=some r
 have e2:=@cU.eq_2
 unfold wI at h
 exact sgo 67 [.tmp 2] Tryz.func88
instance:bF 88 (type_of% @c88):=⟨@c88⟩
theorem aGR (p0 p1 r) (h:tY p0 p1=some r):Sc 332 [aX (M.aR.en p0),aI p1] [(true,M.aR.rs r)]:=by
 have i1:=D5 [.b 5 0 7050000 154 4] λm s=>∃v6:Int,∃aa:List M.nW,∃ae:Nat,(s.t 1=vI p1/\s.t 2=vP 2 1 0/\s.t 4=vP 4 1 0/\s.t 5=vP 5 1 0/\s.t 6=vI v6/\s.h 2=(1,oX 68 (M.aR.en p0))/\s.h 4=(1,oB 68 [.nil])/\s.h 5=(1,oB 68 [.row 7050000 ae])/\s.h 7050000=(ae,oW 154 4 M.nW.en aa))/\eM p0 p1 m v6 aa=some r
 have e1:=@eM.eq_2
 unfold tY at h
 exact sgo 35 [.cell 4 68] Tryz.func332
theorem aC2 (p0 p1 r) (h:wK p0 p1=some r):Sc 328 [aX (M.Instr.en p0),aI p1] [rB r]:=by
 unfold wK at h
 simp only [EN]
 refine sgn 74 [.tmp 4] Tryz.func328 λbase wd => ?_
 refine sq (rn ?_)
 refine an ?_
 obtain ⟨x1,h2,h⟩:=bind_some h
 refine wT (λs=>s.t 1=vI p1/\s.t 2=vP 2 1 0/\s.t 5=vB x1/\s.h 2=(1,oX 216 (M.Instr.en p0))/\True) ?_ ?_
 ·replace h:=h2;clear h2;rcases oQ (p0.aG7==5) with b8 | b8;(replace h:=cT b8 h;refine rn ?_;cases h;refine lJ ⟨?_,?_,?_,?_,trivial⟩<;>(try simp +decide only [F,reduceIte,Nat.reduceAdd,qB,qC,EN, *,-h]));replace h:=cR b8 h;obtain ⟨x9,bt,h⟩:=bind_some h;refine rn1 (c87 _ _ _ _ bt) ?_;cases h;refine lJ ⟨?_,?_,?_,?_,trivial⟩<;>(try simp +decide only [F,reduceIte,Nat.reduceAdd,qB,qC,EN, *,-h])
 clear h2
 rintro s3 f4
 refine sq (rn ?_)
 refine an ?_
 obtain ⟨bu,aa,h⟩:=bind_some h
 refine wT (λs=>s.t 2=vP 2 1 0/\s.t 5=vB x1/\s.t 6=vI bu/\s.h 2=(1,oX 216 (M.Instr.en p0))/\True) ?_ ?_
 ·replace h:=aa;clear aa;refine sq (rn ?_);refine an (bk (sq (rn ?_)));refine an ?_;rcases oQ (p0.aG7==1) with ae | ae;(replace h:=cT ae h;refine ct (rn ?_);refine ab ?_;cases h;refine lJ ⟨?_,?_,?_,?_,trivial⟩<;>(try simp +decide only [F,reduceIte,Nat.reduceAdd,qB,qC,EN, *,-h]));replace h:=cR ae h;refine cf (sq (rn ?_));refine an ?_;rcases oQ (p0.aG7==2) with af | af;(replace h:=cT af h;refine ct (rn ?_);refine ab ?_;cases h;refine lJ ⟨?_,?_,?_,?_,trivial⟩<;>(try simp +decide only [F,reduceIte,Nat.reduceAdd,qB,qC,EN, *,-h]));replace h:=cR af h;refine cf ?_;obtain ⟨bl,ah,h⟩:=bind_some h;refine wT (λs=>s.t 1=vI p1/\s.t 2=vP 2 1 0/\s.t 5=vB x1/\s.t 6=vI 0/\s.t 16=vI p0.aG7/\s.t 21=vB bl/\s.h 2=(1,oX 216 (M.Instr.en p0))/\True) ?_ ?_;(replace h:=ah;clear ah;refine sq (rn ?_);refine an ?_;rcases oQ (p0.aG7==3) with ai | ai;(replace h:=cT ai h;refine ct (sk ?_);cases h;refine lJ ⟨?_,?_,?_,?_,?_,?_,?_,trivial⟩<;>(try simp +decide only [F,reduceIte,Nat.reduceAdd,qB,qC,EN, *,-h]));replace h:=cR ai h;refine cf (rn ?_);cases h;refine lJ ⟨?_,?_,?_,?_,?_,?_,?_,trivial⟩<;>(try simp +decide only [F,reduceIte,Nat.reduceAdd,qB,qC,EN, *,-h]));clear ah;rintro cc f23;rcases oQ bl with aj | aj;(replace h:=cT aj h;refine ct (rn ?_);refine ab ?_;cases h;refine lJ ⟨?_,?_,?_,?_,trivial⟩<;>(try simp +decide only [F,reduceIte,Nat.reduceAdd,qB,qC,EN, *,-h]));replace h:=cR aj h;refine cf ?_;obtain ⟨bm,ak,h⟩:=bind_some h;refine wT (λs=>s.t 2=vP 2 1 0/\s.t 5=vB x1/\s.t 6=vI 0/\s.t 25=vB bm/\s.h 2=(1,oX 216 (M.Instr.en p0))/\True) ?_ ?_;(replace h:=ak;clear ak;refine sq (rn ?_);refine an ?_;rcases oQ (p0.aG7==6) with al | al;(replace h:=cT al h;refine ct (sk ?_);cases h;refine lJ ⟨?_,?_,?_,?_,?_,trivial⟩<;>(try simp +decide only [F,reduceIte,Nat.reduceAdd,qB,qC,EN, *,-h]));replace h:=cR al h;refine cf (sq (rn ?_));refine an ?_;rcases oQ (p0.aG7==7) with ao | ao;(replace h:=cT ao h;refine ct (sk ?_);cases h;refine lJ ⟨?_,?_,?_,?_,?_,trivial⟩<;>(try simp +decide only [F,reduceIte,Nat.reduceAdd,qB,qC,EN, *,-h]));replace h:=cR ao h;refine cf (rn ?_);cases h;refine lJ ⟨?_,?_,?_,?_,?_,trivial⟩<;>(try simp +decide only [F,reduceIte,Nat.reduceAdd,qB,qC,EN, *,-h]));clear ak;rintro cd f35;rcases CH bm with aq | aq;(replace h:=cR aq h;refine cf (sk (ab ?_));cases h;refine lJ ⟨?_,?_,?_,?_,trivial⟩<;>(try simp +decide only [F,reduceIte,Nat.reduceAdd,qB,qC,EN, *,-h]));replace h:=cT aq h;refine ct (rn ?_);refine ab ?_;cases h;refine lJ ⟨?_,?_,?_,?_,trivial⟩<;>(try simp +decide only [F,reduceIte,Nat.reduceAdd,qB,qC,EN, *,-h])
 clear aa
 rintro cg f14
 refine sq ?_
 obtain ⟨bn,ar,h⟩:=bind_some h
 refine wT (λs=>s.t 2=vP 2 1 0/\s.t 5=vB x1/\s.t 45=vB bn/\s.h 2=(1,oX 216 (M.Instr.en p0))/\True) ?_ ?_
 ·replace h:=ar;clear ar;obtain ⟨bw,av,h⟩:=bind_some h;rcases oQ (!bw) with aw | aw;(replace h:=cT aw h;refine rn1 (c87 _ _ _ _ av) ?_;cases h;refine lJ ⟨?_,?_,?_,?_,trivial⟩<;>(try simp +decide only [F,reduceIte,Nat.reduceAdd,qB,qC,EN, *,-h]));replace h:=cR aw h;obtain ⟨bx,bo,h⟩:=bind_some h;rcases oQ (!bx) with ax | ax;(replace h:=cT ax h;refine rn2 (c87 _ _ _ _ av) (c87 _ _ _ _ bo) ?_;cases h;refine lJ ⟨?_,?_,?_,?_,trivial⟩<;>(try simp +decide only [F,reduceIte,Nat.reduceAdd,qB,qC,EN, *,-h]));replace h:=cR ax h;obtain ⟨cj,bz,h⟩:=bind_some h;refine rn3 (c87 _ _ _ _ av) (c87 _ _ _ _ bo) (c87 _ _ _ _ bz) ?_;cases h;refine lJ ⟨?_,?_,?_,?_,trivial⟩<;>(try simp +decide only [F,reduceIte,Nat.reduceAdd,qB,qC,EN, *,-h])
 clear ar
 rintro ck f46
 rcases oQ bn with ay | ay
 ·replace h:=cT ay h;refine ct (sq (rn ?_));refine an (rt ?_);cases h;simp [Ret,TB,EN, *]
 replace h:=cR ay h
 refine cf (sk (an (sq ?_)))
 obtain ⟨bq,az,h⟩:=bind_some h
 refine wT (λs=>s.t 2=vP 2 1 0/\s.t 5=vB x1/\s.t 58=vB bq/\s.h 2=(1,oX 216 (M.Instr.en p0))/\True) ?_ ?_
 ·replace h:=az;clear az;rcases oQ (p0.aG7==4) with ba | ba;(replace h:=cT ba h;refine rn ?_;cases h;refine lJ ⟨?_,?_,?_,?_,trivial⟩<;>(try simp +decide only [F,reduceIte,Nat.reduceAdd,qB,qC,EN, *,-h]));replace h:=cR ba h;rcases oQ (p0.aG7==9) with bd | bd;(replace h:=cT bd h;refine rn ?_;cases h;refine lJ ⟨?_,?_,?_,?_,trivial⟩<;>(try simp +decide only [F,reduceIte,Nat.reduceAdd,qB,qC,EN, *,-h]));replace h:=cR bd h;refine rn ?_;cases h;refine lJ ⟨?_,?_,?_,?_,trivial⟩<;>(try simp +decide only [F,reduceIte,Nat.reduceAdd,qB,qC,EN, *,-h])
 clear az
 rintro cl f62
 rcases oQ bq with bf | bf
 ·replace h:=cT bf h;refine ct (sq (rn ?_));refine an (rt ?_);cases h;simp [Ret,TB,EN, *]
 replace h:=cR bf h
 refine cf (sk (an ?_))
 obtain ⟨c9,bg,h⟩:=bind_some h
 refine wT (λs=>s.t 4=vB c9/\True) ?_ ?_
 ·replace h:=bg;clear bg;rcases CH x1 with bh | bh;(replace h:=cR bh h;refine rn ?_;cases h;refine lJ ⟨?_,trivial⟩<;>(try simp +decide only [F,reduceIte,Nat.reduceAdd,qB,qC,EN, *,-h]));replace h:=cT bh h;obtain ⟨ca,br,h⟩:=bind_some h;rcases oQ ca with bj | bj;(replace h:=cT bj h;refine rn1 (ZY _ _ br) ?_;cases h;refine lJ ⟨?_,trivial⟩<;>(try simp +decide only [F,reduceIte,Nat.reduceAdd,qB,qC,EN, *,-h]));replace h:=cR bj h;refine rn1 (ZY _ _ br) ?_;cases h;refine lJ ⟨?_,trivial⟩<;>(try simp +decide only [F,reduceIte,Nat.reduceAdd,qB,qC,EN, *,-h])
 clear bg
 rintro cn ⟨f72,_⟩
 refine rt ?_
 cases h
 simp [Ret,TB,EN, *]
instance:bF 328 (type_of% @aC2):=⟨@aC2⟩
theorem aAT (p0 r) (h:dR p0=some r):Sc 208 [(false,[.ptr [.sl (List.map enB p0.b),.int .i64 p0.i,.int .i64 p0.h]])] [(false,[.edit (.lend 182 [.int .i64 r.1,.int .i64 r.2.1])]),(true,M.Key.rs r.2.2)]:=by
 unfold dR at h
 simp only [EN]
 refine sgB 6 [.cell 2 209] Tryz.func208 λbase wd B0 u0 hw0 => ?_
 refine eA (J:=λs=>s.t 0=vP 7059000 1 0/\s.h 7059000=(1,oB 182 [.old B0 (.sl (List.map enB p0.b)) (some u0),cI p0.i,cI p0.h])/\True) ?_ ?_
 ·and_intros<;>(try simp only [LN,List.map_cons,List.map_nil])<;>rfl
 rintro s1 f2
 exact sgX
instance:bF 208 (type_of% @aAT):=⟨@aAT⟩
theorem aDJ (p0 r) (h:uQ p0=some r):Sc 400 [aL enB p0] [(true,M.Key.rs r.1),rB r.2]:=by
 have i1:=λ(x2:Int)=>inv λm s=>∃v6:Int,∃v7:Int,(s.t 0=vL enB p0/\s.t 2=vP 2 1 0/\s.t 4=vP 4 1 0/\s.t 6=vI v6/\s.t 7=vI v7/\s.h 2=(1,oB 209 [cI 0,cI 0,cS (⟨#[]⟩:ByteArray)])/\s.h 4=(1,oB 209 [cI (IntKind.i64.wrap x2),cI 0,cS (⟨#[]⟩:ByteArray)]))/\lE p0 x2 m v6 v7=some r
 have e1:=@lE.eq_2
 unfold uQ at h
 exact sgo 49 [.cell 2 209,.tmp 3] Tryz.func400
instance:bF 400 (type_of% @aDJ):=⟨@aDJ⟩
end Go.Proofs.YtipmihbgjolaaaaGreat.gen
