/-
  Helper text. No conditions.
-/
import Derived.Test.YtipmihbgjolaaaaGreatWorldsTi
import Derived.Test.YtipmihbgjolaaaaGreatWorldsWspec0
import Derived.Test.YtipmihbgjolaaaaGreatWorldsWspec1
import Derived.Test.YtipmihbgjolaaaaGreatWorldsWspec2
set_option linter.unusedVariables false
set_option linter.unusedSimpArgs false
namespace Go.Proofs.YtipmihbgjolaaaaGreat.gen
open Go Go.Sh
set_option maxRecDepth 20000
set_option maxHeartbeats 4000000
theorem c18 (p0 r) (h:pK p0=some r):Sc 18 [aL enB p0] [rI r]:=by unfold pK at h;exact sgo 9 [.tmp 2] Tryz.func18
theorem Ug (p0 r) (h:jZ p0=some r):Sc 205 [(false,[.ptr [.sl (List.map enB p0.b),.int .i64 p0.i,.int .i64 p0.h]])] [(false,[.edit (.lend 182 [.int .i64 r.1,.int .i64 r.2.1])]),rS r.2.2]:=by
 unfold jZ at h
 simp only [EN]
 refine sgB 6 [.tmp 2] Tryz.func205 λbase wd B0 u0 hw0 => ?_
 refine eJ (J:=λs=>s.t 0=vP 7059000 1 0/\s.h 7059000=(1,oB 182 [.old B0 (.sl (List.map enB p0.b)) (some u0),cI p0.i,cI p0.h])/\True) ?_ ?_
 ·and_intros<;>(try simp only [LN,List.map_cons,List.map_nil])<;>rfl
 rintro s1 f2
 exact sgX
instance:cA 205 (type_of% @Ug):=⟨@Ug⟩
theorem Ym (p0 r) (h:gI p0=some r):Sc 301 [aX (M.aH.en p0)] [rB r]:=by
 have i1:=inv λm s=>∃v4:Int,(s.t 1=vP 1 1 0/\s.t 3=vI (List.length p0.aAP:Int)/\s.t 4=vI v4/\s.h 1=(1,oX 43 (M.aH.en p0)))/\kF p0 m v4=some r
 have e1:=@kF.eq_2
 unfold gI at h
 exact sgo 60 [.tmp 2] Tryz.func301
instance:cA 301 (type_of% @Ym):=⟨@Ym⟩
theorem SE (p0 r) (h:bY p0=some r):Sc 235 [aX (M.aF.en p0)] [rB r]:=by
 have i1:=inv λm s=>∃v3:Int,(s.t 1=vP 1 1 0/\s.t 3=vI v3/\s.h 1=(1,oX 31 (M.aF.en p0)))/\dW p0 m v3=some r
 have e1:=@dW.eq_2
 unfold bY at h
 exact sgo 53 [.tmp 2] Tryz.func235
instance:cA 235 (type_of% @SE):=⟨@SE⟩
theorem YA (p0 r) (h:jY p0=some r):Sc 159 [aX (M.aA.en p0)] [rB r]:=by
 have i1:=inv λm s=>∃v3:Int,(s.t 1=vP 1 1 0/\s.t 3=vI v3/\s.h 1=(1,oX 40 (M.aA.en p0)))/\gT p0 m v3=some r
 have e1:=@gT.eq_2
 unfold jY at h
 exact sgo 64 [.tmp 2] Tryz.func159
instance:cA 159 (type_of% @YA):=⟨@YA⟩
theorem XS (p0 p1 p2 r) (h:yW p0 p1 p2=some r):Sc 395 [aX (M.aAQ.en p0),aX (M.aAQ.en p1),aS p2] [rB r]:=by unfold yW at h;exact sgo 41 [.tmp 6] Tryz.func395
instance:cA 395 (type_of% @XS):=⟨@XS⟩
theorem Yy (p0 r) (h:fF p0=some r):Sc 346 [aX (M.aC.en p0)] [rW 5 1 enB r]:=by
 have i1:=DW [.t 3 7050000 5 1] λm s=>∃v4:Int,∃aa:List Int,∃ae:Nat,(s.t 1=vP 1 1 0/\s.t 3=vR 7050000 ae/\s.t 4=vI v4/\s.h 1=(1,oX 254 (M.aC.en p0))/\s.h 7050000=(ae,oW 5 1 enB aa))/\cM p0 m v4 aa=some r
 have e1:=@cM.eq_2
 unfold fF at h
 exact sgo 38 [.tmp 2] Tryz.func346
instance:cA 346 (type_of% @Yy):=⟨@Yy⟩
theorem VL (p0 r) (h:cW p0=some r):Sc 211 [(false,[.ptr [.sl (List.map enB p0.b),.int .i64 p0.i,.int .i64 p0.h]])] [(false,[.edit (.lend 182 [.int .i64 r.1,.int .i64 r.2.1])]),rS r.2.2]:=by
 unfold cW at h
 simp only [EN]
 refine sgB 6 [.tmp 2] Tryz.func211 λbase wd B0 u0 hw0 => ?_
 refine eJ (J:=λs=>s.t 0=vP 7059000 1 0/\s.h 7059000=(1,oB 182 [.old B0 (.sl (List.map enB p0.b)) (some u0),cI p0.i,cI p0.h])/\True) ?_ ?_
 ·and_intros<;>(try simp only [LN,List.map_cons,List.map_nil])<;>rfl
 rintro s1 f2
 exact sgX
instance:cA 211 (type_of% @VL):=⟨@VL⟩
theorem VO (p0 p1 p2 r) (h:gK p0 p1 p2=some r):Sc 281 [aX (M.aC.en p0),aS p1,aI p2] [(true,M.aC.rs r.1),rB r.2]:=by
 have i1:=λ(x1:M.aC)=>inv λm s=>∃v9:Int,(s.t 1=vS p1/\s.t 2=vI p2/\s.t 3=vP 3 1 0/\s.t 6=vP 6 1 0/\s.t 8=vP 8 1 0/\s.t 9=vI v9/\s.h 3=(1,oX 254 (M.aC.en p0))/\s.h 6=(1,oB 254 [.nil])/\s.h 8=(1,oB 254 [.row 100011 1])/\s.h 100011=(1,oW 356 2 M.Field.en x1.aAF))/\kA p0 p1 p2 x1 m v9=some r
 have e1:=@kA.eq_2
 unfold gK at h
 exact sgo 78 [.cell 6 254,.tmp 7] Tryz.func281
instance:cA 281 (type_of% @VO):=⟨@VO⟩
theorem SR (p0 r) (h:dX p0=some r):Sc 231 [aX (M.aAA.en p0)] [(true,M.aAA.rs r)]:=by
 have i1:=DW [.b 3 2 7050000 40 3] λm s=>∃v4:Int,∃aa:List M.aA,∃ae:Nat,(s.t 1=vP 1 1 0/\s.t 2=vP 2 1 0/\s.t 3=vP 3 1 0/\s.t 4=vI v4/\s.h 1=(1,oX 35 (M.aAA.en p0))/\s.h 2=(1,H5)/\s.h 3=(1,oB 35 [cS p0.Name,cI p0.aAB,.row 7050000 ae,.row 100009 2])/\s.h 100009=(2,oW 282 2 M.aN.en p0.aAS)/\s.h 7050000=(ae,oW 40 3 M.aA.en aa))/\nR p0 m v4 aa=some r
 have e1:=@nR.eq_2
 unfold dX at h
 exact sgo 33 [.cell 2 35] Tryz.func231
instance:cA 231 (type_of% @SR):=⟨@SR⟩
theorem Wv (p0 p1 r) (h:sR p0 p1=some r):Sc 290 [aI p0,aL enB p1] [rI r]:=by unfold sR at h;exact sgo 11 [.tmp 4] Tryz.func290
instance:cA 290 (type_of% @Wv):=⟨@Wv⟩
theorem Ya (p0 p1 r) (h:Aq p0 p1=some r):Sc 408 [aL enB p0,aI p1] [(true,M.aC.rs r.1),rI r.2.1,rB r.2.2]:=by
 have i1:=λ(x1:(Int×Int×Bool))=>DW [.b 10 0 7050000 356 2] λm s=>∃v8:Int,∃v11:Int,∃aa:List M.Field,∃ae:Nat,(s.t 0=vL enB p0/\s.t 4=vP 4 1 0/\s.t 7=vI x1.1/\s.t 8=vI v8/\s.t 10=vP 10 1 0/\s.t 11=vI v11/\s.h 4=(1,oB 254 [.nil])/\s.h 10=(1,oB 254 [.row 7050000 ae])/\s.h 7050000=(ae,oW 356 2 M.Field.en aa))/\nO p0 x1 m v8 v11 aa=some r
 have e1:=@nO.eq_2
 unfold Aq at h
 exact sgo 72 [.cell 4 254,.tmp 5,.tmp 6] Tryz.func408
instance:cA 408 (type_of% @Ya):=⟨@Ya⟩
theorem YF (p0 r) (h:zJ p0=some r):Sc 344 [aX (M.Op.en p0)] [rB r]:=by unfold zJ at h;exact sgo 46 [.tmp 2] Tryz.func344
instance:cA 344 (type_of% @YF):=⟨@YF⟩
theorem Xs (p0 p1 r) (h:uF p0 p1=some r):Sc 409 [aX (M.Key.en p0),aX (M.fI.en p1)] [rB r]:=by unfold uF at h;exact sgo 50 [.tmp 4] Tryz.func409
instance:cA 409 (type_of% @Xs):=⟨@Xs⟩
theorem XL (p0 r) (h:sI p0=some r):Sc 135 [aX (M.aG.en p0)] [(true,M.aG.rs r)]:=by unfold sI at h;exact sgo 12 [.cell 2 47] Tryz.func135
instance:cA 135 (type_of% @XL):=⟨@XL⟩
theorem VK (p0 r) (h:sG p0=some r):Sc 188 [(false,[.ptr [.sl (List.map enB p0.b),.int .i64 p0.i,.int .i64 p0.h]])] [(false,[.edit (.lend 182 [.int .i64 r.1,.int .i64 r.2.1])]),rS r.2.2]:=by
 unfold sG at h
 simp only [EN]
 refine sgB 6 [.tmp 2] Tryz.func188 λbase wd B0 u0 hw0 => ?_
 refine eJ (J:=λs=>s.t 0=vP 7059000 1 0/\s.h 7059000=(1,oB 182 [.old B0 (.sl (List.map enB p0.b)) (some u0),cI p0.i,cI p0.h])/\True) ?_ ?_
 ·and_intros<;>(try simp only [LN,List.map_cons,List.map_nil])<;>rfl
 rintro s1 f2
 exact sgX
instance:cA 188 (type_of% @VK):=⟨@VK⟩
theorem V6 (p0 r) (h:nC p0=some r):Sc 214 [(false,[.ptr [.sl (List.map enB p0.b),.int .i64 p0.i,.int .i64 p0.h]])] [(false,[.edit (.lend 182 [.int .i64 r.1,.int .i64 r.2.1])]),(true,M.aAM.rs r.2.2)]:=by
 unfold nC at h
 simp only [EN]
 refine sgB 40 [.cell 2 105] Tryz.func214 λbase wd B0 u0 hw0 => ?_
 refine eJ (J:=λs=>s.t 0=vP 7059000 1 0/\s.h 7059000=(1,oB 182 [.old B0 (.sl (List.map enB p0.b)) (some u0),cI p0.i,cI p0.h])/\True) ?_ ?_
 ·and_intros<;>(try simp only [LN,List.map_cons,List.map_nil])<;>rfl
 rintro s1 f2
 exact sgX
instance:cA 214 (type_of% @V6):=⟨@V6⟩
theorem YI (p0 r) (h:sV p0=some r):Sc 391 [(false,[.ptr [.sl (List.map enB p0.b),.int .i64 p0.i,.int .i64 p0.h]])] [(false,[.edit (.lend 182 [.int .i64 r.1,.int .i64 r.2.1])]),rI r.2.2]:=by
 unfold sV at h
 simp only [EN]
 refine sgB 8 [.tmp 2] Tryz.func391 λbase wd B0 u0 hw0 => ?_
 refine eJ (J:=λs=>s.t 0=vP 7059000 1 0/\s.h 7059000=(1,oB 182 [.old B0 (.sl (List.map enB p0.b)) (some u0),cI p0.i,cI p0.h])/\True) ?_ ?_
 ·and_intros<;>(try simp only [LN,List.map_cons,List.map_nil])<;>rfl
 rintro s1 f2
 exact sgX
instance:cA 391 (type_of% @YI):=⟨@YI⟩
theorem ZX (p0 p1 r) (h:BS p0 p1=some r):Sc 390 [aX (M.aAA.en p0),aS p1] [(true,M.aAA.rs r)]:=by
 have i1:=DW [.b 5 2 7050000 40 3] λm s=>∃v6:Int,∃aa:List M.aA,∃ae:Nat,(s.t 1=vS p1/\s.t 2=vP 2 1 0/\s.t 4=vP 4 1 0/\s.t 5=vP 5 1 0/\s.t 6=vI v6/\s.h 2=(1,oX 35 (M.aAA.en p0))/\s.h 4=(1,H5)/\s.h 5=(1,oB 35 [cS p0.Name,cI p0.aAB,.row 7050000 ae,.nil])/\s.h 7050000=(ae,oW 40 3 M.aA.en aa))/\uI p0 p1 m v6 aa=some r
 have e1:=@uI.eq_2
 have i2:=λ(aa:List M.aA) (ae:Nat)=>DW [.b 5 3 7050100 282 2] λm s=>∃v7:Int,∃af:List M.aN,∃ah:Nat,(s.t 1=vS p1/\s.t 2=vP 2 1 0/\s.t 4=vP 4 1 0/\s.t 5=vP 5 1 0/\s.t 7=vI v7/\s.h 2=(1,oX 35 (M.aAA.en p0))/\s.h 4=(1,H5)/\s.h 5=(1,oB 35 [cS p0.Name,cI p0.aAB,.row 7050000 ae,.row 7050100 ah])/\s.h 7050000=(ae,oW 40 3 M.aA.en aa)/\s.h 7050100=(ah,oW 282 2 M.aN.en af))/\uB p0 p1 aa m v7 af=some r
 have e2:=@uB.eq_2
 unfold BS at h
 exact sgo 65 [.cell 4 35] Tryz.func390
theorem Zf (p0 p1 r) (h:yU p0 p1=some r):Sc 216 [(false,[.ptr [.sl (List.map enB p0.b),.int .i64 p0.i,.int .i64 p0.h]]),aL enB p1] [(false,[.edit (.lend 182 [.int .i64 r.1,.int .i64 r.2.1])]),rW 5 1 enB r.2.2]:=by
 unfold yU at h
 simp only [EN]
 refine sgB 44 [.tmp 4] Tryz.func216 λbase wd B0 u0 hw0 => ?_
 refine eJ (J:=λs=>s.t 0=vP 7059000 1 0/\s.t 1=vL enB p1/\s.h 7059000=(1,oB 182 [.old B0 (.sl (List.map enB p0.b)) (some u0),cI p0.i,cI p0.h])/\True) ?_ ?_
 ·and_intros<;>(try simp only [LN,List.map_cons,List.map_nil])<;>rfl
 rintro s1 f2
 refine sq (rn ?_)
 refine an (sq ?_)
 obtain ⟨x5,h6,h⟩:=bind_some h
 refine rn1 h6 ?_
 refine an (sq (sq ?_))
 refine cu (λs=>s.t 0=vP 7059000 1 0/\s.t 5=vR 100006 (((s1.h 100006).1+1)+1)/\s.h 100006=((((s1.h 100006).1+1)+1),oW 5 1 enB p1)/\s.h 7059000=(1,oB 182 [.old B0 (.sl (List.map enB p0.b)) (some u0),cI p0.i,cI p0.h])/\True) ?_
 rintro s7 f8
 obtain ⟨aa,al,h⟩:=bind_some h
 refine rn1 (c65 _ _ _ al) ?_
 refine an (bk (sq ?_))
 refine cu (λs=>s.t 0=vP 7059000 1 0/\s.t 5=vR 100006 (((s1.h 100006).1+1)+1)/\s.t 10=vI aa.2.2/\s.h 100006=((((s1.h 100006).1+1)+1),oW 5 1 enB p1)/\s.h 7059000=(1,oB 182 [.old B0 (.sl (List.map enB p0.b)) (some u0),cI aa.1,cI aa.2.1])/\True) ?_
 rintro ay f15
 refine rn ?_
 refine an ?_
 rcases nY (aa.2.2==0) with ae | ae
 ·replace h:=cF ae h;refine ct (sq (rn ?_));refine an ?_;rcases zD (decide ((List.length p1:Int)>0)) with ai | ai;(replace h:=cE ai h;refine cf (sk (ab (an (sq (rn ?_)))));refine an (rt ?_);cases h;simp [Iw,Ret,TB,EN, *]);replace h:=cF ai h;refine ct ?_;obtain ⟨az,ao,h⟩:=bind_some h;obtain ⟨b7,aq,h⟩:=bind_some h;obtain ⟨ba,ar,h⟩:=bind_some h;obtain ⟨bd,bf,bg⟩:=tT ar;refine rn2 (c65 _ _ _ ao) (c65 _ _ _ aq) ?_;refine ab (an (sq (rn ?_)));refine an (rt ?_);cases h;simp [Iw,Ret,TB,EN, *]
 replace h:=cE ae h
 refine cf (sq (rn ?_))
 refine an ?_
 rcases zD (aa.2.2==1) with af | af
 ·replace h:=cE af h;refine cf (sq (rn ?_));refine an ?_;rcases zD (aa.2.2==2) with aj | aj;(replace h:=cE aj h;refine cf (sk (ab (an (sq (rn ?_)))));refine an (rt ?_);cases h;simp [Iw,Ret,TB,EN, *]);replace h:=cF aj h;refine ct ?_;obtain ⟨bh,av,h⟩:=bind_some h;obtain ⟨bj,aw,h⟩:=bind_some h;refine rn2 (c69 _ _ _ av) aw ?_;refine ab (an (sq (rn ?_)));refine an (rt ?_);cases h;simp [Iw,Ret,TB,EN, *]
 replace h:=cF af h
 refine ct ?_
 obtain ⟨ak,ax,h⟩:=bind_some h
 obtain ⟨bl,ah,h⟩:=bind_some h
 apply bW
 ·simp +decide only [E,reduceIte,Nat.reduceAdd,Nat.reduceMul,qB,qC,<-List.map_take,<-List.map_drop,L,ti5,Vd,enB,EN,f15,ae,af]
  refine ⟨_,c65 _ _ _ ax,?_⟩
  try simp +decide only [E,reduceIte,Nat.reduceAdd,Nat.reduceMul,qB,qC,<-List.map_take,<-List.map_drop,L,ti5,Vd,enB,EN,f15,ae,af]
  refine ⟨by first | exact sK ah | exact (sK ah).2 | exact (sK ah).2.2,?_⟩
  try simp +decide only [E,reduceIte,Nat.reduceAdd,Nat.reduceMul,qB,qC,<-List.map_take,<-List.map_drop,L,ti5,Vd,enB,EN,f15,ae,af]
  exact Is.mk _
 refine ab (an (sq (rn ?_)))
 refine an ?_
 refine Dc (Gho.Ud (i:=4) (j:=100006) (vj:=(((s1.h 100006).1+1)+1)) (K:=100006) (n:=ak.2.2.toNat) (e:=5) (sz:=1) (dp:=true) (xs:=(List.map enB p1)) (List.map enB (List.take ak.2.2.toNat p1)) (by first | (simp +decide only [F,reduceIte,Nat.reduceAdd,qB,qC,EN, *,-h];done) | (simp +decide only [F,reduceIte,Nat.reduceAdd,qB,qC,EN, *,-h];rfl) | rfl) (by first | (simp +decide only [F,reduceIte,Nat.reduceAdd,qB,qC,EN, *,-h];done) | (simp +decide only [F,reduceIte,Nat.reduceAdd,qB,qC,EN, *,-h];rfl) | rfl) (by rw [List.length_map];exact (sK ah).2) (by rw [List.map_take])) ?_
 refine rt ?_
 cases h
 simp [Iw,Ret,TB,EN, *]
instance:cA 216 (type_of% @Zf):=⟨@Zf⟩
theorem WU (p0 r) (h:jX p0=some r):Sc 181 [aX (M.aAI.en p0)] [(true,M.aAI.rs r)]:=by unfold jX at h;exact sgo 15 [.cell 2 137] Tryz.func181
instance:cA 181 (type_of% @WU):=⟨@WU⟩
theorem XU (p0 r) (h:vZ p0=some r):Sc 253 [aL M.Instr.en p0] [rB r]:=by
 have i1:=inv λm s=>∃v3:Int,(s.t 0=vL M.Instr.en p0/\s.t 3=vI v3)/\kL p0 m v3=some r
 have e1:=@kL.eq_2
 unfold vZ at h
 exact sgo 21 [.tmp 2] Tryz.func253
instance:cA 253 (type_of% @XU):=⟨@XU⟩
theorem ZH (p0 p1 p2 r) (h:pD p0 p1 p2=some r):Sc 104 [aX (M.bV.en p0),aS p1,aX (M.aAM.en p2)] [(true,M.bV.rs r.1),rB r.2]:=by unfold pD at h;exact sgo 43 [.cell 6 96,.tmp 7] Tryz.func104
theorem c25 (p0 r) (h:mQ p0=some r):Sc 25 [aL enB p0] [rS r]:=by unfold mQ at h;exact sgo 9 [.tmp 2] Tryz.func25
end Go.Proofs.YtipmihbgjolaaaaGreat.gen
