/-
  Helper text. No conditions.
-/
import Derived.Test.YtipmihbgjolaaaaGreatWorldsTi
set_option linter.unusedVariables false
set_option linter.unusedSimpArgs false
namespace Go.Proofs.YtipmihbgjolaaaaGreat.gen
open Go Go.Sh
set_option maxRecDepth 20000
set_option maxHeartbeats 4000000
theorem c87 (p0 p1 p2 r) (h:aZ p0 p1 p2=some r):Sc 87 [aI p0,aI p1,aI p2] [rB r]:=by unfold aZ at h;exact sgo 15 [.tmp 6] Tryz.func87
instance:cA 87 (type_of% @c87):=⟨@c87⟩
theorem c84 (r) (h:vG=some r):Sc 84 [] [rW 9 1 enS r]:=by unfold vG at h;exact sgo 2 [.tmp 0] Tryz.func84
instance:cA 84 (type_of% @c84):=⟨@c84⟩
theorem c29 (p0 r) (h:sX p0=some r):Sc 29 [aI p0] [(true,M.World.rs r)]:=by
 have i1:=λ(x4:(List ByteArray))=>DW [.b 3 8 7050000 85 4,.b 3 9 7050001 137 5] λm s=>∃v5:Int,∃aa:List M.aAO,∃ae:List M.aAI,∃af:Nat,∃ah:Nat,(s.t 2=vP 2 1 0/\s.t 3=vP 3 1 0/\s.t 4=vR 100012 1/\s.t 5=vI v5/\s.h 2=(1,Ln)/\s.h 3=(1,oB 75 [cI 0,cB true,cI p0,.nil,.nil,cI 1,.nil,.nil,.row 7050000 af,.row 7050001 ah])/\s.h 100012=(1,oW 9 1 enS x4)/\s.h 7050000=(af,oW 85 4 M.aAO.en aa)/\s.h 7050001=(ah,oW 137 5 M.aAI.en ae))/\uW p0 x4 m v5 aa ae=some r
 have e1:=@uW.eq_2
 unfold sX at h
 exact sgo 43 [.cell 2 75] Tryz.func29
theorem WB (p0 r) (h:wB p0=some r):Sc 329 [aS p0] [rB r]:=by
 have i1:=inv λm s=>∃v3:Int,(s.t 0=vS p0/\s.t 3=vI v3)/\gL p0 m v3=some r
 have e1:=@gL.eq_2
 unfold wB at h
 exact sgo 35 [.tmp 2] Tryz.func329
instance:cA 329 (type_of% @WB):=⟨@WB⟩
theorem W5 (p0 r) (h:eP p0=some r):Sc 257 [aX (M.Key.en p0)] [rB r]:=by unfold eP at h;exact sgo 36 [.tmp 2] Tryz.func257
instance:cA 257 (type_of% @W5):=⟨@W5⟩
theorem UI (p0 r) (h:bP p0=some r):Sc 157 [aS p0] [rB r]:=by
 have i1:=inv λm s=>∃v3:Int,(s.t 0=vS p0/\s.t 3=vI v3)/\lA p0 m v3=some r
 have e1:=@lA.eq_2
 unfold bP at h
 exact sgo 23 [.tmp 2] Tryz.func157
instance:cA 157 (type_of% @UI):=⟨@UI⟩
theorem Xj (p0 r) (h:hU p0=some r):Sc 158 [aX (M.bA.en p0)] [rB r]:=by unfold hU at h;exact sgo 26 [.tmp 2] Tryz.func158
instance:cA 158 (type_of% @Xj):=⟨@Xj⟩
theorem Yn (p0 r) (h:jQ p0=some r):Sc 234 [aX (M.aAC.en p0)] [rB r]:=by
 unfold jQ at h
 simp only [EN]
 refine sgn 52 [.tmp 2] Tryz.func234 λbase wd => ?_
 refine sq (rn ?_)
 refine an (sq (rn ?_))
 refine an (sq (rn ?_))
 refine an (sq (sq ?_))
 refine cu (λs=>s.t 1=vP 1 1 0/\s.t 3=vI 0/\s.t 4=vR 100012 1/\s.h 1=(1,oX 28 (M.aAC.en p0))/\s.h 100012=(1,oW 3 1 enI ([p0.aAr,p0.aAl,p0.aAc]))/\True) ?_
 rintro s1 f2
 refine rn ?_
 refine an (bk ?_)
 refine ES (λm s=>∃v3:Int,∃v5:Int,s.t 1=vP 1 1 0/\s.t 3=vI v3/\s.t 4=vR 100012 1/\s.t 5=vI v5/\s.h 1=(1,oX 28 (M.aAC.en p0))/\s.h 100012=(1,oW 3 1 enI ([p0.aAr,p0.aAl,p0.aAc]))/\bT p0 m v3 v5=some r) fuel ?_ ?_
 ·refine ⟨0,0,?_,?_,?_,?_,?_,?_,h⟩;all_goals simp +decide only [F,reduceIte,Nat.reduceAdd,qB,qC,EN, *,-h]
 rintro mL1 s7 ⟨v3,v5,f8,f9,f10,f11,f12,f13,h⟩
 rcases mL1 with _ | mL1
 ·exact absurd h (by simp [bT])
 simp only [bT] at h
 refine sq (sq (rn ?_))
 refine an ?_
 rcases zD (decide (v5<((3:Nat):Int))) with ae | ae
 ·replace h:=cE ae h;refine cf (xt (BA (Br (E7 (an (sq ?_))))));obtain ⟨ar,ak,h⟩:=bind_some h;refine rn1 (UI _ _ ak) ?_;refine an (rt ?_);cases h;simp [Ret,TB,EN, *]
 replace h:=cF ae h
 refine ct (sk (an (sq (bk (sq (sq ?_))))))
 obtain ⟨aa,al,h⟩:=bind_some h
 obtain ⟨av,aw,ao⟩:=tT al
 have q17m:=congrArg (Option.map enI) (show ([p0.aAr,p0.aAl,p0.aAc])[v5.toNat]? = some aa by assumption)
 simp only [<-List.getElem?_map,List.map_cons,List.map_nil,Option.map_some,EN] at q17m
 simp only [qJ,qK,Nat.reduceAdd] at ao
 obtain ⟨aq,af,h⟩:=bind_some h
 rcases nY (!aq) with ah | ah
 ·replace h:=cF ah h;refine rn1 (c87 _ _ _ _ af) ?_;refine an (ct (sq (rn ?_)));refine an (rt ?_);cases h;simp [Ret,TB,EN, *]
 replace h:=cE ah h
 rcases zD (aa != 0) with ai | ai
 ·replace h:=cE ai h;refine rn1 (c87 _ _ _ _ af) ?_;refine an (cf (sk (an (sq (rn ?_)))));refine an (cf (sk (ab (an (rn ?_)))));refine gF ⟨mL1,qb,v3,(IntKind.i64.wrap (v5+1)),?_,?_,?_,?_,?_,?_,h⟩;all_goals simp +decide only [F,reduceIte,Nat.reduceAdd,qB,qC,EN, *,-h]
 replace h:=cF ai h
 refine rn1 (c87 _ _ _ _ af) ?_
 refine an ?_
 rcases nY (decide (aa<=v3)) with aj | aj
 ·replace h:=cF aj h;refine ct (sq (rn ?_));refine an (rt ?_);cases h;simp [Ret,TB,EN, *]
 replace h:=cE aj h
 refine cf (sk (an (sq (rn ?_))))
 refine an (ct (rn ?_))
 refine ab (an (rn ?_))
 refine gF ⟨mL1,qb,aa,(IntKind.i64.wrap (v5+1)),?_,?_,?_,?_,?_,?_,h⟩
 all_goals simp +decide only [F,reduceIte,Nat.reduceAdd,qB,qC,EN, *,-h]
instance:cA 234 (type_of% @Yn):=⟨@Yn⟩
theorem XT (p0 r) (h:tH p0=some r):Sc 366 [aX (M.aAM.en p0)] [rB r]:=by unfold tH at h;exact sgo 22 [.tmp 2] Tryz.func366
instance:cA 366 (type_of% @XT):=⟨@XT⟩
theorem XN (p0 r) (h:oN p0=some r):Sc 312 [aL M.aAR.en p0] [rB r]:=by
 have i1:=inv λm s=>∃v3:Int,(s.t 0=vL M.aAR.en p0/\s.t 3=vI v3)/\dY p0 m v3=some r
 have e1:=@dY.eq_2
 have i2:=λ(v3:Int) (x5:M.aAR) (ae:Int->Option Bool)=>inv λm s=>∃aa:Int,(s.t 0=vL M.aAR.en p0/\s.t 3=vI v3/\s.t 4=vI aa)/\fO p0 v3 x5 ae m aa=some r
 have e2:=@fO.eq_2
 unfold oN at h
 exact sgo 68 [.tmp 2] Tryz.func312
instance:cA 312 (type_of% @XN):=⟨@XN⟩
theorem WV (p0 r) (h:bF p0=some r):Sc 258 [aX (M.aC.en p0)] [rB r]:=by
 have i1:=inv λm s=>∃v3:Int,(s.t 1=vP 1 1 0/\s.t 3=vI v3/\s.h 1=(1,oX 254 (M.aC.en p0)))/\fW p0 m v3=some r
 have e1:=@fW.eq_2
 unfold bF at h
 exact sgo 53 [.tmp 2] Tryz.func258
instance:cA 258 (type_of% @WV):=⟨@WV⟩
theorem YG (p0 p1 r) (h:wD p0 p1=some r):Sc 330 [aB p0,aB p1] [rI r]:=by unfold wD at h;exact sgo 7 [.tmp 4] Tryz.func330
instance:cA 330 (type_of% @YG):=⟨@YG⟩
theorem XX (p0 p1 r) (h:bD p0 p1=some r):Sc 259 [aX (M.Key.en p0),aX (M.Key.en p1)] [rI r]:=by unfold bD at h;exact sgo 46 [.tmp 4] Tryz.func259
instance:cA 259 (type_of% @XX):=⟨@XX⟩
theorem Y4 (p0 r) (h:iP p0=some r):Sc 345 [aX (M.Key.en p0)] [rW 5 1 enB r]:=by
 have i1:=inv λm s=>∃v4:Int,∃aa:List Int,∃ae:Nat,(s.t 1=vP 1 1 0/\s.t 3=vR 100012 ae/\s.t 4=vI v4/\s.h 1=(1,oX 209 (M.Key.en p0))/\s.h 100012=(ae,oW 5 1 enB aa))/\bC p0 m v4 aa=some r
 have e1:=@bC.eq_2
 unfold iP at h
 exact sgo 38 [.tmp 2] Tryz.func345
instance:cA 345 (type_of% @Y4):=⟨@Y4⟩
theorem Xy (p0 p1 r) (h:bK p0 p1=some r):Sc 288 [aL enB p0,aI p1] [rW 5 1 enB r]:=by
 have i1:=inv λm s=>∃v1:Int,∃r6:List Int,∃u6:Nat,(s.t 1=vI v1/\s.t 5=vR 100006 u6/\s.h 100006=(u6,oW 5 1 enB r6))/\cD m v1 r6=some r
 have e1:=@cD.eq_2
 unfold bK at h
 exact sgo 29 [.tmp 4] Tryz.func288
instance:cA 288 (type_of% @Xy):=⟨@Xy⟩
theorem Y2 (p0 p1 r) (h:bJ p0 p1=some r):Sc 289 [aL enB p0,aL enB p1] [rW 5 1 enB r]:=by unfold bJ at h;exact sgo 11 [.tmp 4] Tryz.func289
instance:cA 289 (type_of% @Y2):=⟨@Y2⟩
theorem Yh (p0 p1 r) (h:Be p0 p1=some r):Sc 275 [aI p0,aI p1] [rI r]:=by unfold Be at h;exact sgo 15 [.tmp 4] Tryz.func275
instance:cA 275 (type_of% @Yh):=⟨@Yh⟩
theorem WA (p0 r) (h:AH p0=some r):Sc 200 [aL enI p0] [rI r]:=by
 have i1:=inv λm s=>∃v3:Int,∃v4:Int,(s.t 0=vL enI p0/\s.t 3=vI v3/\s.t 4=vI v4)/\sC p0 m v3 v4=some r
 have e1:=@sC.eq_2
 unfold AH at h
 exact sgo 22 [.tmp 2] Tryz.func200
instance:cA 200 (type_of% @WA):=⟨@WA⟩
theorem Xo (p0 r) (h:pQ p0=some r):Sc 400 [aL enB p0] [(true,M.Key.rs r.1),rB r.2]:=by
 have i1:=λ(x2:Int)=>inv λm s=>∃v6:Int,∃v7:Int,(s.t 0=vL enB p0/\s.t 2=vP 2 1 0/\s.t 4=vP 4 1 0/\s.t 6=vI v6/\s.t 7=vI v7/\s.h 2=(1,oB 209 [cI 0,cI 0,cS (⟨#[]⟩:ByteArray)])/\s.h 4=(1,oB 209 [cI (IntKind.i64.wrap x2),cI 0,cS (⟨#[]⟩:ByteArray)]))/\iX p0 x2 m v6 v7=some r
 have e1:=@iX.eq_2
 unfold pQ at h
 exact sgo 49 [.cell 2 209,.tmp 3] Tryz.func400
instance:cA 400 (type_of% @Xo):=⟨@Xo⟩
theorem Xa (p0 p1 r) (h:sA p0 p1=some r):Sc 328 [aX (M.Instr.en p0),aI p1] [rB r]:=by
 unfold sA at h
 simp only [EN]
 refine sgn 74 [.tmp 4] Tryz.func328 λbase wd => ?_
 refine sq (rn ?_)
 refine an ?_
 obtain ⟨x1,h2,h⟩:=bind_some h
 refine sJ (λs=>s.t 1=vI p1/\s.t 2=vP 2 1 0/\s.t 5=vB x1/\s.h 2=(1,oX 216 (M.Instr.en p0))/\True) ?_ ?_
 ·replace h:=h2;clear h2;rcases nY (p0.aAV==5) with b8 | b8;(replace h:=cF b8 h;refine rn ?_;cases h;refine gF ⟨?_,?_,?_,?_,trivial⟩<;>(try simp +decide only [F,reduceIte,Nat.reduceAdd,qB,qC,EN, *,-h]));replace h:=cE b8 h;obtain ⟨x9,br,h⟩:=bind_some h;refine rn1 (c87 _ _ _ _ br) ?_;cases h;refine gF ⟨?_,?_,?_,?_,trivial⟩<;>(try simp +decide only [F,reduceIte,Nat.reduceAdd,qB,qC,EN, *,-h])
 clear h2
 rintro s3 f4
 refine sq (rn ?_)
 refine an ?_
 obtain ⟨bt,aa,h⟩:=bind_some h
 refine sJ (λs=>s.t 2=vP 2 1 0/\s.t 5=vB x1/\s.t 6=vI bt/\s.h 2=(1,oX 216 (M.Instr.en p0))/\True) ?_ ?_
 ·replace h:=aa;clear aa;refine sq (rn ?_);refine an (bk (sq (rn ?_)));refine an ?_;rcases nY (p0.aAV==1) with ae | ae;(replace h:=cF ae h;refine ct (rn ?_);refine ab ?_;cases h;refine gF ⟨?_,?_,?_,?_,trivial⟩<;>(try simp +decide only [F,reduceIte,Nat.reduceAdd,qB,qC,EN, *,-h]));replace h:=cE ae h;refine cf (sq (rn ?_));refine an ?_;rcases nY (p0.aAV==2) with af | af;(replace h:=cF af h;refine ct (rn ?_);refine ab ?_;cases h;refine gF ⟨?_,?_,?_,?_,trivial⟩<;>(try simp +decide only [F,reduceIte,Nat.reduceAdd,qB,qC,EN, *,-h]));replace h:=cE af h;refine cf ?_;obtain ⟨bj,ah,h⟩:=bind_some h;refine sJ (λs=>s.t 1=vI p1/\s.t 2=vP 2 1 0/\s.t 5=vB x1/\s.t 6=vI 0/\s.t 16=vI p0.aAV/\s.t 21=vB bj/\s.h 2=(1,oX 216 (M.Instr.en p0))/\True) ?_ ?_;(replace h:=ah;clear ah;refine sq (rn ?_);refine an ?_;rcases nY (p0.aAV==3) with ai | ai;(replace h:=cF ai h;refine ct (sk ?_);cases h;refine gF ⟨?_,?_,?_,?_,?_,?_,?_,trivial⟩<;>(try simp +decide only [F,reduceIte,Nat.reduceAdd,qB,qC,EN, *,-h]));replace h:=cE ai h;refine cf (rn ?_);cases h;refine gF ⟨?_,?_,?_,?_,?_,?_,?_,trivial⟩<;>(try simp +decide only [F,reduceIte,Nat.reduceAdd,qB,qC,EN, *,-h]));clear ah;rintro ca f23;rcases nY bj with aj | aj;(replace h:=cF aj h;refine ct (rn ?_);refine ab ?_;cases h;refine gF ⟨?_,?_,?_,?_,trivial⟩<;>(try simp +decide only [F,reduceIte,Nat.reduceAdd,qB,qC,EN, *,-h]));replace h:=cE aj h;refine cf ?_;obtain ⟨bl,ak,h⟩:=bind_some h;refine sJ (λs=>s.t 2=vP 2 1 0/\s.t 5=vB x1/\s.t 6=vI 0/\s.t 25=vB bl/\s.h 2=(1,oX 216 (M.Instr.en p0))/\True) ?_ ?_;(replace h:=ak;clear ak;refine sq (rn ?_);refine an ?_;rcases nY (p0.aAV==6) with al | al;(replace h:=cF al h;refine ct (sk ?_);cases h;refine gF ⟨?_,?_,?_,?_,?_,trivial⟩<;>(try simp +decide only [F,reduceIte,Nat.reduceAdd,qB,qC,EN, *,-h]));replace h:=cE al h;refine cf (sq (rn ?_));refine an ?_;rcases nY (p0.aAV==7) with ao | ao;(replace h:=cF ao h;refine ct (sk ?_);cases h;refine gF ⟨?_,?_,?_,?_,?_,trivial⟩<;>(try simp +decide only [F,reduceIte,Nat.reduceAdd,qB,qC,EN, *,-h]));replace h:=cE ao h;refine cf (rn ?_);cases h;refine gF ⟨?_,?_,?_,?_,?_,trivial⟩<;>(try simp +decide only [F,reduceIte,Nat.reduceAdd,qB,qC,EN, *,-h]));clear ak;rintro cc f35;rcases zD bl with aq | aq;(replace h:=cE aq h;refine cf (sk (ab ?_));cases h;refine gF ⟨?_,?_,?_,?_,trivial⟩<;>(try simp +decide only [F,reduceIte,Nat.reduceAdd,qB,qC,EN, *,-h]));replace h:=cF aq h;refine ct (rn ?_);refine ab ?_;cases h;refine gF ⟨?_,?_,?_,?_,trivial⟩<;>(try simp +decide only [F,reduceIte,Nat.reduceAdd,qB,qC,EN, *,-h])
 clear aa
 rintro cd f14
 refine sq ?_
 obtain ⟨bm,ar,h⟩:=bind_some h
 refine sJ (λs=>s.t 2=vP 2 1 0/\s.t 5=vB x1/\s.t 45=vB bm/\s.h 2=(1,oX 216 (M.Instr.en p0))/\True) ?_ ?_
 ·replace h:=ar;clear ar;obtain ⟨bu,av,h⟩:=bind_some h;rcases nY (!bu) with aw | aw;(replace h:=cF aw h;refine rn1 (c87 _ _ _ _ av) ?_;cases h;refine gF ⟨?_,?_,?_,?_,trivial⟩<;>(try simp +decide only [F,reduceIte,Nat.reduceAdd,qB,qC,EN, *,-h]));replace h:=cE aw h;obtain ⟨bw,bn,h⟩:=bind_some h;rcases nY (!bw) with ax | ax;(replace h:=cF ax h;refine rn2 (c87 _ _ _ _ av) (c87 _ _ _ _ bn) ?_;cases h;refine gF ⟨?_,?_,?_,?_,trivial⟩<;>(try simp +decide only [F,reduceIte,Nat.reduceAdd,qB,qC,EN, *,-h]));replace h:=cE ax h;obtain ⟨cg,bx,h⟩:=bind_some h;refine rn3 (c87 _ _ _ _ av) (c87 _ _ _ _ bn) (c87 _ _ _ _ bx) ?_;cases h;refine gF ⟨?_,?_,?_,?_,trivial⟩<;>(try simp +decide only [F,reduceIte,Nat.reduceAdd,qB,qC,EN, *,-h])
 clear ar
 rintro cj f46
 rcases nY bm with ay | ay
 ·replace h:=cF ay h;refine ct (sq (rn ?_));refine an (rt ?_);cases h;simp [Ret,TB,EN, *]
 replace h:=cE ay h
 refine cf (sk (an (sq ?_)))
 obtain ⟨bo,az,h⟩:=bind_some h
 refine sJ (λs=>s.t 2=vP 2 1 0/\s.t 5=vB x1/\s.t 58=vB bo/\s.h 2=(1,oX 216 (M.Instr.en p0))/\True) ?_ ?_
 ·replace h:=az;clear az;rcases nY (p0.aAV==4) with b7 | b7;(replace h:=cF b7 h;refine rn ?_;cases h;refine gF ⟨?_,?_,?_,?_,trivial⟩<;>(try simp +decide only [F,reduceIte,Nat.reduceAdd,qB,qC,EN, *,-h]));replace h:=cE b7 h;rcases nY (p0.aAV==9) with ba | ba;(replace h:=cF ba h;refine rn ?_;cases h;refine gF ⟨?_,?_,?_,?_,trivial⟩<;>(try simp +decide only [F,reduceIte,Nat.reduceAdd,qB,qC,EN, *,-h]));replace h:=cE ba h;refine rn ?_;cases h;refine gF ⟨?_,?_,?_,?_,trivial⟩<;>(try simp +decide only [F,reduceIte,Nat.reduceAdd,qB,qC,EN, *,-h])
 clear az
 rintro ck f62
 rcases nY bo with bd | bd
 ·replace h:=cF bd h;refine ct (sq (rn ?_));refine an (rt ?_);cases h;simp [Ret,TB,EN, *]
 replace h:=cE bd h
 refine cf (sk (an ?_))
 obtain ⟨bz,bf,h⟩:=bind_some h
 refine sJ (λs=>s.t 4=vB bz/\True) ?_ ?_
 ·replace h:=bf;clear bf;rcases zD x1 with bg | bg;(replace h:=cE bg h;refine rn ?_;cases h;refine gF ⟨?_,trivial⟩<;>(try simp +decide only [F,reduceIte,Nat.reduceAdd,qB,qC,EN, *,-h]));replace h:=cF bg h;obtain ⟨c9,bq,h⟩:=bind_some h;rcases nY c9 with bh | bh;(replace h:=cF bh h;refine rn1 (UI _ _ bq) ?_;cases h;refine gF ⟨?_,trivial⟩<;>(try simp +decide only [F,reduceIte,Nat.reduceAdd,qB,qC,EN, *,-h]));replace h:=cE bh h;refine rn1 (UI _ _ bq) ?_;cases h;refine gF ⟨?_,trivial⟩<;>(try simp +decide only [F,reduceIte,Nat.reduceAdd,qB,qC,EN, *,-h])
 clear bf
 rintro cl ⟨f72,_⟩
 refine rt ?_
 cases h
 simp [Ret,TB,EN, *]
instance:cA 328 (type_of% @Xa):=⟨@Xa⟩
theorem c86 (p0 r) (h:oG p0=some r):Sc 86 [aX (M.bV.en p0)] [rB r]:=by
 have i1:=inv λm s=>∃v3:Int,(s.t 1=vP 1 1 0/\s.t 3=vI v3/\s.h 1=(1,oX 96 (M.bV.en p0)))/\nM p0 m v3=some r
 have e1:=@nM.eq_2
 unfold oG at h
 exact sgo 54 [.tmp 2] Tryz.func86
instance:cA 86 (type_of% @c86):=⟨@c86⟩
theorem c83 (p0 r) (h:yO p0=some r):Sc 83 [aX (M.aAO.en p0)] [rB r]:=by
 have i1:=inv λm s=>∃v3:Int,(s.t 1=vP 1 1 0/\s.t 3=vI v3/\s.h 1=(1,oX 85 (M.aAO.en p0)))/\iR p0 m v3=some r
 have e1:=@iR.eq_2
 unfold yO at h
 exact sgo 50 [.tmp 2] Tryz.func83
instance:cA 83 (type_of% @c83):=⟨@c83⟩
theorem WI (p0 r) (h:sN p0=some r):Sc 160 [aS p0] [rB r]:=by
 have i1:=inv λm s=>∃v3:Int,(s.t 0=vS p0/\s.t 3=vI v3)/\dE p0 m v3=some r
 have e1:=@dE.eq_2
 unfold sN at h
 exact sgo 29 [.tmp 2] Tryz.func160
instance:cA 160 (type_of% @WI):=⟨@WI⟩
theorem c88 (p0 r) (h:rX p0=some r):Sc 88 [aX (M.cH.en p0)] [rB r]:=by
 have i1:=inv λm s=>∃v3:Int,(s.t 1=vP 1 1 0/\s.t 3=vI v3/\s.h 1=(1,oX 68 (M.cH.en p0)))/\eR p0 m v3=some r
 have e1:=@eR.eq_2
 have i2:=λ(v3:Int) (x6:M.tV) (ae:Int->Option Bool) (s1:St)=>inv λm s=>∃aa:Int,(s.t 1=vP 1 1 0/\s.t 3=vI v3/\s.t 4=vP 4 ((s1.h 4).1+1) 0/\s.t 5=vI aa/\s.h 1=(1,oX 68 (M.cH.en p0))/\s.h 4=(((s1.h 4).1+1),oX 154 (M.tV.en x6)))/\cG p0 v3 x6 ae m aa=some r
 have e2:=@cG.eq_2
 unfold rX at h
 exact sgo 67 [.tmp 2] Tryz.func88
instance:cA 88 (type_of% @c88):=⟨@c88⟩
end Go.Proofs.YtipmihbgjolaaaaGreat.gen
