/-
  Helper text. No conditions.
-/
import Derived.Test.YtipmihbgjolaaaaGreatWorldsTi
import Derived.Test.YtipmihbgjolaaaaGreatWorldsWspec0
import Derived.Test.YtipmihbgjolaaaaGreatWorldsWspec1
import Derived.Test.YtipmihbgjolaaaaGreatWorldsWspec2
import Derived.Test.YtipmihbgjolaaaaGreatWorldsWspec3
set_option linter.unusedVariables false
set_option linter.unusedSimpArgs false
namespace Go.Proofs.YtipmihbgjolaaaaGreat.gen
open Go Go.Sh
set_option maxRecDepth 20000
set_option maxHeartbeats 4000000
theorem Y3 (p0 r) (h:kX p0=some r):Sc 277 [aI p0] [(true,M.aH.rs r.1),rB r.2]:=by unfold kX at h;exact sgo 12 [.cell 2 43,.tmp 3] Tryz.func277
instance:cA 277 (type_of% @Y3):=⟨@Y3⟩
theorem WQ (p0 p1 r) (h:xC p0 p1=some r):Sc 367 [aX (M.aA.en p0),aS p1] [rW 284 4 M.aAQ.en r]:=by
 have i1:=DW [.t 5 7050000 284 4] λm s=>∃v6:Int,∃aa:List M.aAQ,∃ae:Nat,(s.t 1=vS p1/\s.t 2=vP 2 1 0/\s.t 5=vR 7050000 ae/\s.t 6=vI v6/\s.h 2=(1,oX 40 (M.aA.en p0))/\s.h 7050000=(ae,oW 284 4 M.aAQ.en aa))/\jI p0 p1 m v6 aa=some r
 have e1:=@jI.eq_2
 have i2:=λ(v6:Int) (aa:List M.aAQ) (ah:M.aAQ) (ai:Int->Option (List M.aAQ)) (ae:Nat)=>inv λm s=>∃af:Int,(s.t 1=vS p1/\s.t 2=vP 2 1 0/\s.t 5=vR 7050000 ae/\s.t 6=vI v6/\s.t 9=vI af/\s.h 2=(1,oX 40 (M.aA.en p0))/\s.h 7050000=(ae,oW 284 4 M.aAQ.en aa))/\lJ p1 aa ah ai m af=some r
 have e2:=@lJ.eq_2
 unfold xC at h
 exact sgo 72 [.tmp 4] Tryz.func367
instance:cA 367 (type_of% @WQ):=⟨@WQ⟩
theorem WN (p0 p1 r) (h:rE p0 p1=some r):Sc 314 [aX (M.aA.en p0),aS p1] [(true,M.Key.rs r.1),(true,M.Key.rs r.2.1),rB r.2.2]:=by
 have i1:=λ(x1:(List M.aAQ))=>inv λm s=>∃v8:Int,(s.t 1=vS p1/\s.t 4=vP 4 1 0/\s.t 5=vP 5 1 0/\s.t 7=vR 100015 1/\s.t 8=vI v8/\s.h 4=(1,oB 209 [cI 0,cI 0,cS (⟨#[]⟩:ByteArray)])/\s.h 5=(1,oB 209 [cI 0,cI 0,cS (⟨#[]⟩:ByteArray)])/\s.h 100015=(1,oW 284 4 M.aAQ.en x1))/\jO p1 x1 m v8=some r
 have e1:=@jO.eq_2
 unfold rE at h
 exact sgo 59 [.cell 4 209,.cell 5 209,.tmp 6] Tryz.func314
instance:cA 314 (type_of% @WN):=⟨@WN⟩
theorem Yr (p0 r) (h:kW p0=some r):Sc 237 [aX (M.aG.en p0)] [rB r]:=by unfold kW at h;exact sgo 23 [.tmp 2] Tryz.func237
instance:cA 237 (type_of% @Yr):=⟨@Yr⟩
theorem Vj (p0 r) (h:iH p0=some r):Sc 209 [(false,[.ptr [.sl (List.map enB p0.b),.int .i64 p0.i,.int .i64 p0.h]])] [(false,[.edit (.lend 182 [.int .i64 r.1,.int .i64 r.2.1])]),(true,M.aC.rs r.2.2)]:=by
 unfold iH at h
 simp only [EN]
 refine sgB 22 [.cell 2 254] Tryz.func209 λbase wd B0 u0 hw0 => ?_
 refine eJ (J:=λs=>s.t 0=vP 7059000 1 0/\s.h 7059000=(1,oB 182 [.old B0 (.sl (List.map enB p0.b)) (some u0),cI p0.i,cI p0.h])/\True) ?_ ?_
 ·and_intros<;>(try simp only [LN,List.map_cons,List.map_nil])<;>rfl
 rintro s1 f2
 have i1:=DW [.b 3 0 7050000 356 2] λm s=>∃v4:Int,∃aa:Int,∃ae:Int,∃af:List M.Field,∃ah:Nat,(s.t 0=vP 7059000 1 0/\s.t 2=vP 2 ((s1.h 2).1+1) 0/\s.t 3=vP 3 ((s1.h 3).1+1) 0/\s.t 4=vI v4/\s.h 2=(((s1.h 2).1+1),oB 254 [.nil])/\s.h 3=(((s1.h 3).1+1),oB 254 [.row 7050000 ah])/\s.h 7050000=(ah,oW 356 2 M.Field.en af)/\s.h 7059000=(1,oB 182 [.old B0 (.sl (List.map enB p0.b)) (some u0),cI aa,cI ae]))/\kM p0 m v4 aa ae af=some r
 have e1:=@kM.eq_2
 exact sgX
instance:cA 209 (type_of% @Vj):=⟨@Vj⟩
theorem WY (p0 r) (h:lY p0=some r):Sc 401 [aL enB p0] [(true,M.aC.rs r.1),rB r.2]:=by unfold lY at h;exact sgo 23 [.cell 2 254,.tmp 3] Tryz.func401
instance:cA 401 (type_of% @WY):=⟨@WY⟩
theorem YS (p0 p1 r) (h:xW p0 p1=some r):Sc 387 [aL enB p0,aI p1] [(true,M.Op.rs r.1),rI r.2.1,rB r.2.2]:=by unfold xW at h;exact sgo 103 [.cell 4 257,.tmp 5,.tmp 6] Tryz.func387
instance:cA 387 (type_of% @YS):=⟨@YS⟩
theorem Yi (p0 r) (h:pR p0=some r):Sc 280 [aL M.Op.en p0] [rW 5 1 enB r]:=by
 have i1:=DW [.t 3 7050000 5 1] λm s=>∃v4:Int,∃aa:List Int,∃ae:Nat,(s.t 0=vL M.Op.en p0/\s.t 3=vR 7050000 ae/\s.t 4=vI v4/\s.h 7050000=(ae,oW 5 1 enB aa))/\lQ p0 m v4 aa=some r
 have e1:=@lQ.eq_2
 unfold pR at h
 exact sgo 64 [.tmp 2] Tryz.func280
instance:cA 280 (type_of% @Yi):=⟨@Yi⟩
theorem X8 (p0 p1 p2 r) (h:dO p0 p1 p2=some r):Sc 349 [aX (M.aA.en p0),aX (M.Key.en p1),aX (M.aC.en p2)] [(true,M.aA.rs r.1),rB r.2]:=by
 have i1:=λ(aa:M.aA)=>inv λm s=>∃v10:Int,(s.t 3=vP 3 1 0/\s.t 4=vP 4 1 0/\s.t 5=vP 5 1 0/\s.t 6=vP 6 1 0/\s.t 8=vP 8 1 0/\s.t 10=vI v10/\s.h 3=(1,oX 40 (M.aA.en p0))/\s.h 4=(1,oX 209 (M.Key.en p1))/\s.h 5=(1,oX 254 (M.aC.en p2))/\s.h 6=(1,oB 40 [cS (⟨#[]⟩:ByteArray),.nil,cI 0])/\s.h 8=(1,oB 40 [cS aa.Name,.row 200028 1,cI aa.aAd])/\s.h 200028=(1,oW 284 4 M.aAQ.en aa.aAD))/\lX p0 p1 p2 aa m v10=some r
 have e1:=@lX.eq_2
 unfold dO at h
 exact sgo 100 [.cell 6 40,.tmp 7] Tryz.func349
instance:cA 349 (type_of% @X8):=⟨@X8⟩
theorem XW (p0 p1 p2 r) (h:uQ p0 p1 p2=some r):Sc 359 [aX (M.aA.en p0),aX (M.Key.en p1),aX (M.aC.en p2)] [(true,M.aA.rs r.1),rB r.2]:=by unfold uQ at h;exact sgo 20 [.cell 6 40,.tmp 7] Tryz.func359
instance:cA 359 (type_of% @XW):=⟨@XW⟩
theorem YL (p0 p1 r) (h:nI p0 p1=some r):Sc 402 [aX (M.aA.en p0),aX (M.fI.en p1)] [(true,M.aA.rs r.1),rI r.2]:=by
 have i1:=DW [.b 6 1 7050000 284 4] λm s=>∃v7:Int,∃aa:List M.aAQ,∃ae:Nat,(s.t 2=vP 2 1 0/\s.t 3=vP 3 1 0/\s.t 4=vP 4 1 0/\s.t 6=vP 6 1 0/\s.t 7=vI v7/\s.h 2=(1,oX 40 (M.aA.en p0))/\s.h 3=(1,oX 426 (M.fI.en p1))/\s.h 4=(1,oB 40 [cS (⟨#[]⟩:ByteArray),.nil,cI 0])/\s.h 6=(1,oB 40 [cS p0.Name,.row 7050000 ae,cI p0.aAd])/\s.h 7050000=(ae,oW 284 4 M.aAQ.en aa))/\gG p0 p1 m v7 aa=some r
 have e1:=@gG.eq_2
 unfold nI at h
 exact sgo 53 [.cell 4 40,.tmp 5] Tryz.func402
instance:cA 402 (type_of% @YL):=⟨@YL⟩
theorem Zd (p0 p1 p2 r) (h:zY p0 p1 p2=some r):Sc 403 [aX (M.aA.en p0),aX (M.Key.en p1),aS p2] [(true,M.aA.rs r.1),rI r.2.1,rB r.2.2]:=by unfold zY at h;exact sgo 57 [.cell 6 40,.tmp 7,.tmp 8] Tryz.func403
instance:cA 403 (type_of% @Zd):=⟨@Zd⟩
theorem Wd (p0 p1 p2 r) (h:pV p0 p1 p2=some r):Sc 217 [aL enB p0,aI p1,aL enB p2] [rW 5 1 enB r.1,rB r.2]:=by unfold pV at h;exact sgo 29 [.tmp 6,.tmp 7] Tryz.func217
instance:cA 217 (type_of% @Wd):=⟨@Wd⟩
theorem WR (p0 p1 p2 p3 r) (h:gH p0 p1 p2 p3=some r):Sc 282 [aX (M.aH.en p0),aX (M.Key.en p1),aS p2,aI p3] [(true,M.aH.rs r.1),rB r.2]:=by unfold gH at h;exact sgo 40 [.cell 8 43,.tmp 9] Tryz.func282
instance:cA 282 (type_of% @WR):=⟨@WR⟩
theorem Wy (p0 p1 r) (h:iT p0 p1=some r):Sc 283 [aX (M.aA.en p0),aX (M.bA.en p1)] [(true,M.aA.rs r.1),rB r.2]:=by unfold iT at h;exact sgo 43 [.cell 4 40,.tmp 5] Tryz.func283
instance:cA 283 (type_of% @Wy):=⟨@Wy⟩
theorem Xw (p0 r) (h:xU p0=some r):Sc 358 [(false,[.ptr [.sl (List.map enB p0.b),.int .i64 p0.i,.int .i64 p0.h]])] [(false,[.edit (.lend 182 [.int .i64 r.1,.int .i64 r.2.1])]),(true,M.Key.rs r.2.2)]:=by
 unfold xU at h
 simp only [EN]
 refine sgB 22 [.cell 2 209] Tryz.func358 λbase wd B0 u0 hw0 => ?_
 refine eJ (J:=λs=>s.t 0=vP 7059000 1 0/\s.h 7059000=(1,oB 182 [.old B0 (.sl (List.map enB p0.b)) (some u0),cI p0.i,cI p0.h])/\True) ?_ ?_
 ·and_intros<;>(try simp only [LN,List.map_cons,List.map_nil])<;>rfl
 rintro s1 f2
 exact sgX
instance:cA 358 (type_of% @Xw):=⟨@Xw⟩
theorem WZ (p0 p1 r) (h:mJ p0 p1=some r):Sc 296 [(false,[.ptr [.sl (List.map enB p0.b),.int .i64 p0.i,.int .i64 p0.h]]),aS p1] [(false,[.edit (.lend 182 [.int .i64 r.1,.int .i64 r.2.1])]),(true,M.aA.rs r.2.2)]:=by
 unfold mJ at h
 simp only [EN]
 refine sgB 37 [.cell 4 40] Tryz.func296 λbase wd B0 u0 hw0 => ?_
 refine eJ (J:=λs=>s.t 0=vP 7059000 1 0/\s.t 1=vS p1/\s.h 7059000=(1,oB 182 [.old B0 (.sl (List.map enB p0.b)) (some u0),cI p0.i,cI p0.h])/\True) ?_ ?_
 ·and_intros<;>(try simp only [LN,List.map_cons,List.map_nil])<;>rfl
 rintro s1 f2
 have i1:=DW [.b 5 1 7050000 284 4] λm s=>∃v6:Int,∃ai:ByteArray,∃aj:Int,∃aa:Int,∃ae:Int,∃af:List M.aAQ,∃ah:Nat,(s.t 0=vP 7059000 1 0/\s.t 4=vP 4 ((s1.h 4).1+1) 0/\s.t 5=vP 5 ((s1.h 5).1+1) 0/\s.t 6=vI v6/\s.h 4=(((s1.h 4).1+1),oB 40 [cS (⟨#[]⟩:ByteArray),.nil,cI 0])/\s.h 5=(((s1.h 5).1+1),oB 40 [cS ai,.row 7050000 ah,cI aj])/\s.h 7050000=(ah,oW 284 4 M.aAQ.en af)/\s.h 7059000=(1,oB 182 [.old B0 (.sl (List.map enB p0.b)) (some u0),cI aa,cI ae]))/\lR p0 m v6 ai aj aa ae af=some r
 have e1:=@lR.eq_2
 exact sgX
instance:cA 296 (type_of% @WZ):=⟨@WZ⟩
theorem XD (p0 r) (h:AI p0=some r):Sc 352 [(false,[.ptr [.sl (List.map enB p0.b),.int .i64 p0.i,.int .i64 p0.h]])] [(false,[.edit (.lend 182 [.int .i64 r.1,.int .i64 r.2.1])]),(true,M.Op.rs r.2.2)]:=by
 unfold AI at h
 simp only [EN]
 refine sgB 37 [.cell 2 257] Tryz.func352 λbase wd B0 u0 hw0 => ?_
 refine eJ (J:=λs=>s.t 0=vP 7059000 1 0/\s.h 7059000=(1,oB 182 [.old B0 (.sl (List.map enB p0.b)) (some u0),cI p0.i,cI p0.h])/\True) ?_ ?_
 ·and_intros<;>(try simp only [LN,List.map_cons,List.map_nil])<;>rfl
 rintro s1 f2
 exact sgX
instance:cA 352 (type_of% @XD):=⟨@XD⟩
theorem c85 (p0 r) (h:mS p0=some r):Sc 85 [aX (M.aAI.en p0)] [rB r]:=by
 have i1:=inv λm s=>∃v3:Int,(s.t 1=vP 1 1 0/\s.t 3=vI v3/\s.h 1=(1,oX 137 (M.aAI.en p0)))/\fX p0 m v3=some r
 have e1:=@fX.eq_2
 have i2:=inv λm s=>∃v4:Int,(s.t 1=vP 1 1 0/\s.t 4=vI v4/\s.h 1=(1,oX 137 (M.aAI.en p0)))/\hY p0 m v4=some r
 have e2:=@hY.eq_2
 unfold mS at h
 exact sgo 79 [.tmp 2] Tryz.func85
instance:cA 85 (type_of% @c85):=⟨@c85⟩
theorem Xl (p0 p1 r) (h:sZ p0 p1=some r):Sc 291 [aX (M.aAI.en p0),aI p1] [(true,M.aG.rs r.1),rB r.2]:=by unfold sZ at h;exact sgo 37 [.cell 4 47,.tmp 5] Tryz.func291
instance:cA 291 (type_of% @Xl):=⟨@Xl⟩
theorem XJ (p0 p1 r) (h:cO p0 p1=some r):Sc 354 [aX (M.aH.en p0),aI p1] [(true,M.aH.rs r.1),rI r.2]:=by
 have i1:=λ(x1:M.aH)=>inv λm s=>∃v7:Int,(s.t 1=vI p1/\s.t 2=vP 2 1 0/\s.t 4=vP 4 1 0/\s.t 6=vP 6 1 0/\s.t 7=vI v7/\s.h 2=(1,oX 43 (M.aH.en p0))/\s.h 4=(1,oB 43 [cI 0,cI 0,.nil])/\s.h 6=(1,oB 43 [cI x1.aAK,cI x1.aAh,.row 300009 1])/\s.h 300009=(1,oW 211 7 M.bA.en x1.aAP))/\lK p0 p1 x1 m v7=some r
 have e1:=@lK.eq_2
 unfold cO at h
 exact sgo 40 [.cell 4 43,.tmp 5] Tryz.func354
instance:cA 354 (type_of% @XJ):=⟨@XJ⟩
theorem Yt (p0 r) (h:vE p0=some r):Sc 297 [(false,[.ptr [.sl (List.map enB p0.b),.int .i64 p0.i,.int .i64 p0.h]])] [(false,[.edit (.lend 182 [.int .i64 r.1,.int .i64 r.2.1])]),(true,M.Key.rs r.2.2)]:=by
 unfold vE at h
 simp only [EN]
 refine sgB 26 [.cell 2 209] Tryz.func297 λbase wd B0 u0 hw0 => ?_
 refine eJ (J:=λs=>s.t 0=vP 7059000 1 0/\s.h 7059000=(1,oB 182 [.old B0 (.sl (List.map enB p0.b)) (some u0),cI p0.i,cI p0.h])/\True) ?_ ?_
 ·and_intros<;>(try simp only [LN,List.map_cons,List.map_nil])<;>rfl
 rintro s1 f2
 exact sgX
instance:cA 297 (type_of% @Yt):=⟨@Yt⟩
theorem WT (p0 r) (h:Ad p0=some r):Sc 298 [(false,[.ptr [.sl (List.map enB p0.b),.int .i64 p0.i,.int .i64 p0.h]])] [(false,[.edit (.lend 182 [.int .i64 r.1,.int .i64 r.2.1])]),(true,M.aC.rs r.2.2)]:=by
 unfold Ad at h
 simp only [EN]
 refine sgB 40 [.cell 2 254] Tryz.func298 λbase wd B0 u0 hw0 => ?_
 refine eJ (J:=λs=>s.t 0=vP 7059000 1 0/\s.h 7059000=(1,oB 182 [.old B0 (.sl (List.map enB p0.b)) (some u0),cI p0.i,cI p0.h])/\True) ?_ ?_
 ·and_intros<;>(try simp only [LN,List.map_cons,List.map_nil])<;>rfl
 rintro s1 f2
 refine sq (rn ?_)
 refine an (sq ?_)
 obtain ⟨x4,h5,h⟩:=bind_some h
 refine rn1 (Vj _ _ h5) ?_
 refine an (sq (sq ?_))
 refine cu (λs=>s.t 0=vP 7059000 1 0/\s.t 2=vP 2 ((s1.h 2).1+1) 0/\s.t 3=vP 3 ((s1.h 3).1+1) 0/\s.h 2=(((s1.h 2).1+1),oB 254 [.nil])/\s.h 3=(((s1.h 3).1+1),oB 254 [.row 100007 ((s1.h 100007).1+1)])/\s.h 100007=(((s1.h 100007).1+1),oW 356 2 M.Field.en x4.2.2.aAF)/\s.h 7059000=(1,oB 182 [.old B0 (.sl (List.map enB p0.b)) (some u0),cI x4.1,cI x4.2.1])/\True) ?_
 rintro s6 f7
 obtain ⟨af,ao,h⟩:=bind_some h
 refine rn1 (c65 _ _ _ ao) ?_
 refine an (bk (sq ?_))
 refine cu (λs=>s.t 0=vP 7059000 1 0/\s.t 2=vP 2 ((s1.h 2).1+1) 0/\s.t 3=vP 3 ((s1.h 3).1+1) 0/\s.t 9=vI af.2.2/\s.h 2=(((s1.h 2).1+1),oB 254 [.nil])/\s.h 3=(((s1.h 3).1+1),oB 254 [.row 100007 ((s1.h 100007).1+1)])/\s.h 100007=(((s1.h 100007).1+1),oW 356 2 M.Field.en x4.2.2.aAF)/\s.h 7059000=(1,oB 182 [.old B0 (.sl (List.map enB p0.b)) (some u0),cI af.1,cI af.2.1])/\True) ?_
 rintro s16 f17
 refine rn ?_
 refine an ?_
 rcases nY (af.2.2==0) with ai | ai
 ·replace h:=cF ai h;refine ct ?_;obtain ⟨ba,aq,h⟩:=bind_some h;obtain ⟨bd,ar,h⟩:=bind_some h;obtain ⟨bf,av,h⟩:=bind_some h;refine rd3 mixed (c82 _ _ _ aq) (c69 _ _ _ ar) av ?_;refine ab (an (sq (rn ?_)));refine an (rt ?_);cases h;simp [Iw,Ret,TB,EN, *]
 replace h:=cE ai h
 refine cf (sq (rn ?_))
 refine an ?_
 rcases zD (af.2.2==1) with aj | aj
 ·replace h:=cE aj h;refine cf (sk (ab (an (sq (rn ?_)))));refine an (rt ?_);cases h;simp [Iw,Ret,TB,EN, *]
 replace h:=cF aj h
 refine ct (sq (rn ?_))
 refine an (bk ?_)
 refine cu (λs=>s.h 7059000=s16.h 7059000/\s.t 0=vP 7059000 1 0/\s.t 2=vP 2 ((s1.h 2).1+1) 0/\s.t 3=vP 3 ((s1.h 3).1+1) 0/\s.t 26=vR 100026 ((s16.h 100026).1+1)/\s.t 27=vI ((6:Nat):Int)/\s.t 28=vI 0/\s.h 2=(((s1.h 2).1+1),oB 254 [.nil])/\s.h 3=(((s1.h 3).1+1),oB 254 [.row 100007 ((s1.h 100007).1+1)])/\s.h 100007=(((s1.h 100007).1+1),oW 356 2 M.Field.en x4.2.2.aAF)/\s.h 100026=(((s16.h 100026).1+1),oW 9 1 enS ([(⟨#[100]⟩:ByteArray),(⟨#[101]⟩:ByteArray),(⟨#[102]⟩:ByteArray),(⟨#[103]⟩:ByteArray),(⟨#[104]⟩:ByteArray),(⟨#[105]⟩:ByteArray)]))/\True) ?_
 rintro ak ⟨f44,f34⟩
 replace f44:=f44.trans f17.2.2.2.2.2.2.2.1
 refine Dc ((ghB 3 0 7050000 100007)) ?_
 refine BL (λm s=>∃ah:Int,∃ae:List M.Field,∃aa:Nat,s.h 100026=ak.h 100026/\s.h 7059000=ak.h 7059000/\s.t 0=vP 7059000 1 0/\s.t 2=vP 2 ((s1.h 2).1+1) 0/\s.t 3=vP 3 ((s1.h 3).1+1) 0/\s.t 26=vR 100026 ((s16.h 100026).1+1)/\s.t 27=vI ((6:Nat):Int)/\s.t 28=vI ah/\s.h 2=(((s1.h 2).1+1),oB 254 [.nil])/\s.h 3=(((s1.h 3).1+1),oB 254 [.row 7050000 aa])/\s.h 7050000=(aa,oW 356 2 M.Field.en ae)/\oV af m ah ae=some r) fuel ?_ ?_
 ·refine ⟨0,x4.2.2.aAF,((ak.h 7050000).1+1),?_,?_,?_,?_,?_,?_,?_,?_,?_,?_,?_,h⟩;all_goals simp +decide only [F,reduceIte,Nat.reduceAdd,qB,qC,EN, *,-h]
 rintro mL1 bg ⟨ah,ae,aa,f54,f56,f46,f47,f48,f49,f50,f51,f52,f53,f55,h⟩
 replace f54:=f54.trans f34.2.2.2.2.2.2.2.2.2.1
 replace f56:=f56.trans f44
 rcases mL1 with _ | mL1
 ·exact absurd h (by simp [oV])
 simp only [oV] at h
 refine sq (rn ?_)
 refine an (sq ?_)
 rcases zD (decide (ah<((6:Nat):Int))) with al | al
 ·replace h:=cE al h;refine cf (xt (BA (Br (E7 (ab (an (sq (rn ?_))))))));refine an (rt ?_);cases h;simp [Iw,Ret,TB,EN, *]
 replace h:=cF al h
 refine ct (sk (an (sq (bk (sq ?_)))))
 obtain ⟨aw,ax,h⟩:=bind_some h
 obtain ⟨bh,bj,ay⟩:=tT ax
 have q60m:=congrArg (Option.map enS) (show ([(⟨#[100]⟩:ByteArray),(⟨#[101]⟩:ByteArray),(⟨#[102]⟩:ByteArray),(⟨#[103]⟩:ByteArray),(⟨#[104]⟩:ByteArray),(⟨#[105]⟩:ByteArray)])[ah.toNat]? = some aw by assumption)
 simp only [<-List.getElem?_map,List.map_cons,List.map_nil,Option.map_some,EN] at q60m
 simp only [qJ,qK,Nat.reduceAdd] at ay
 refine rn ?_
 refine an ?_
 obtain ⟨az,b7,h⟩:=bind_some h
 refine rn1 (VO _ _ _ _ b7) ?_
 refine ab (an (rn ?_))
 refine gF ⟨_,(ghB 3 0 7050000 100035),mL1,qb,(IntKind.i64.wrap (ah+1)),az.1.aAF,(aa+1),?_,?_,?_,?_,?_,?_,?_,?_,?_,?_,?_,h⟩
 all_goals simp +decide only [F,reduceIte,Nat.reduceAdd,qB,qC,EN, *,-h]
instance:cA 298 (type_of% @WT):=⟨@WT⟩
theorem YN (p0 p1 r) (h:uJ p0 p1=some r):Sc 300 [(false,[.ptr [.sl (List.map enB p0.b),.int .i64 p0.i,.int .i64 p0.h]]),aI p1] [(false,[.edit (.lend 182 [.int .i64 r.1,.int .i64 r.2.1])]),(true,M.aH.rs r.2.2)]:=by
 unfold uJ at h
 simp only [EN]
 refine sgB 41 [.cell 4 43] Tryz.func300 λbase wd B0 u0 hw0 => ?_
 refine eJ (J:=λs=>s.t 0=vP 7059000 1 0/\s.t 1=vI p1/\s.h 7059000=(1,oB 182 [.old B0 (.sl (List.map enB p0.b)) (some u0),cI p0.i,cI p0.h])/\True) ?_ ?_
 ·and_intros<;>(try simp only [LN,List.map_cons,List.map_nil])<;>rfl
 rintro s1 f2
 have i1:=DW [.b 5 2 7050000 211 7] λm s=>∃v7:Int,∃ai:Int,∃aj:Int,∃aa:Int,∃ae:Int,∃af:List M.bA,∃ah:Nat,(s.t 0=vP 7059000 1 0/\s.t 4=vP 4 ((s1.h 4).1+1) 0/\s.t 5=vP 5 ((s1.h 5).1+1) 0/\s.t 7=vI v7/\s.h 4=(((s1.h 4).1+1),oB 43 [cI 0,cI 0,.nil])/\s.h 5=(((s1.h 5).1+1),oB 43 [cI ai,cI aj,.row 7050000 ah])/\s.h 7050000=(ah,oW 211 7 M.bA.en af)/\s.h 7059000=(1,oB 182 [.old B0 (.sl (List.map enB p0.b)) (some u0),cI aa,cI ae]))/\iZ p0 m v7 ai aj aa ae af=some r
 have e1:=@iZ.eq_2
 exact sgX
instance:cA 300 (type_of% @YN):=⟨@YN⟩
end Go.Proofs.YtipmihbgjolaaaaGreat.gen
