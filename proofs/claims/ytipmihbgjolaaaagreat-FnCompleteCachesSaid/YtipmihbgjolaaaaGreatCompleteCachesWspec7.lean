/-
  Helper text. No conditions.
-/
import Derived.Test.YtipmihbgjolaaaaGreatCompleteCachesTi
import Derived.Test.YtipmihbgjolaaaaGreatCompleteCachesWspec1
import Derived.Test.YtipmihbgjolaaaaGreatCompleteCachesWspec2
import Derived.Test.YtipmihbgjolaaaaGreatCompleteCachesWspec3
import Derived.Test.YtipmihbgjolaaaaGreatCompleteCachesWspec4
import Derived.Test.YtipmihbgjolaaaaGreatCompleteCachesWspec5
import Derived.Test.YtipmihbgjolaaaaGreatCompleteCachesWspec6
set_option linter.unusedVariables false
set_option linter.unusedSimpArgs false
namespace Go.Proofs.YtipmihbgjolaaaaGreat.gen
open Go Go.Sh
set_option maxRecDepth 20000
set_option maxHeartbeats 4000000
theorem c40 (p0 p1 p2 r) (h:mZ p0 p1 p2=some r):Sc 40 [aX (M.aGl.en p0),aS p1,aI p2] [rW 5 1 enB r]:=by
 have i1:=λ(x5:Int)=>inv λm s=>∃v9:Int,∃aa:List Int,∃ae:Nat,(s.t 7=vI x5/\s.t 8=vR 100019 ae/\s.t 9=vI v9/\s.h 100019=(ae,oW 5 1 enB aa))/\uV x5 m v9 aa=some r
 have e1:=@uV.eq_2
 unfold mZ at h
 exact sgo 34 [.tmp 6] Tryz.func40
instance:bF 40 (type_of% @c40):=⟨@c40⟩
theorem aGO (p0 r) (h:BA p0=some r):Sc 213 [(false,[.ptr [.sl (List.map enB p0.b),.int .i64 p0.i,.int .i64 p0.h]])] [(false,[.edit (.lend 182 [.int .i64 r.1,.int .i64 r.2.1])]),(true,M.aC.rs r.2.2)]:=by
 unfold BA at h
 simp only [EN]
 refine sgB 42 [.cell 2 31] Tryz.func213 λbase wd B0 u0 hw0 => ?_
 refine eA (J:=λs=>s.t 0=vP 7059000 1 0/\s.h 7059000=(1,oB 182 [.old B0 (.sl (List.map enB p0.b)) (some u0),cI p0.i,cI p0.h])/\True) ?_ ?_
 ·and_intros<;>(try simp only [LN,List.map_cons,List.map_nil])<;>rfl
 rintro s1 f2
 have i1:=D5 [.b 3 0 7050000 193 2] λm s=>∃v4:Int,∃af:Int,∃ah:Int,∃ak:List M.aGo,∃al:Nat,(s.t 0=vP 7059000 1 0/\s.t 2=vP 2 ((s1.h 2).1+1) 0/\s.t 3=vP 3 ((s1.h 3).1+1) 0/\s.t 4=vI v4/\s.h 2=(((s1.h 2).1+1),oB 31 [.nil])/\s.h 3=(((s1.h 3).1+1),oB 31 [.row 7050000 al])/\s.h 7050000=(al,oW 193 2 M.aGo.en ak)/\s.h 7059000=(1,oB 182 [.old B0 (.sl (List.map enB p0.b)) (some u0),cI af,cI ah]))/\rP p0 m v4 af ah ak=some r
 have e1:=@rP.eq_2
 have i2:=D5 [.b 3 0 7050100 193 2] λm s=>∃ao:Int,∃aa:Int,∃ae:Int,∃ai:List M.aGo,∃aj:Nat,(s.t 0=vP 7059000 1 0/\s.t 2=vP 2 ((s1.h 2).1+1) 0/\s.t 3=vP 3 ((s1.h 3).1+1) 0/\s.t 5=vI ao/\s.h 2=(((s1.h 2).1+1),oB 31 [.nil])/\s.h 3=(((s1.h 3).1+1),oB 31 [.row 7050100 aj])/\s.h 7050100=(aj,oW 193 2 M.aGo.en ai)/\s.h 7059000=(1,oB 182 [.old B0 (.sl (List.map enB p0.b)) (some u0),cI aa,cI ae]))/\nR p0 m ao aa ae ai=some r
 have e2:=@nR.eq_2
 exact sgX
theorem c54 (p0 r) (h:gN p0=some r):Sc 54 [aX (M.aG.en p0)] [(true,M.aG.rs r)]:=by unfold gN at h;exact sgo 18 [.cell 2 49] Tryz.func54
instance:bF 54 (type_of% @c54):=⟨@c54⟩
theorem aCY (p0 p1 r) (h:vO p0 p1=some r):Sc 314 [aX (M.aD.en p0),aS p1] [(true,M.Key.rs r.1),(true,M.Key.rs r.2.1),rB r.2.2]:=by
 have i1:=λ(x1:(List M.aG1))=>inv λm s=>∃v8:Int,(s.t 1=vS p1/\s.t 4=vP 4 1 0/\s.t 5=vP 5 1 0/\s.t 7=vR 100015 1/\s.t 8=vI v8/\s.h 4=(1,oB 209 [cI 0,cI 0,cS (⟨#[]⟩:ByteArray)])/\s.h 5=(1,oB 209 [cI 0,cI 0,cS (⟨#[]⟩:ByteArray)])/\s.h 100015=(1,oW 284 4 M.aG1.en x1))/\mE p1 x1 m v8=some r
 have e1:=@mE.eq_2
 unfold vO at h
 exact sgo 59 [.cell 4 209,.cell 5 209,.tmp 6] Tryz.func314
instance:bF 314 (type_of% @aCY):=⟨@aCY⟩
theorem aFk (p0 r) (h:uD p0=some r):Sc 370 [aX (M.aGh.en p0)] [rI r]:=by
 have i1:=inv λm s=>∃v3:Int,∃v4:Int,(s.t 1=vP 1 1 0/\s.t 3=vI v3/\s.t 4=vI v4/\s.h 1=(1,oX 35 (M.aGh.en p0)))/\gX p0 m v3 v4=some r
 have e1:=@gX.eq_2
 unfold uD at h
 exact sgo 21 [.tmp 2] Tryz.func370
instance:bF 370 (type_of% @aFk):=⟨@aFk⟩
theorem c77 (p0 r) (h:iR p0=some r):Sc 77 [(false,[.ptr [.sl (List.map enB p0.b),.int .i64 p0.i,.int .i64 p0.h]])] [(false,[.edit (.lend 182 [.int .i64 r.1,.int .i64 r.2.1])]),rW 216 4 M.Instr.en r.2.2]:=by
 unfold iR at h
 simp only [EN]
 refine sgB 21 [.tmp 2] Tryz.func77 λbase wd B0 u0 hw0 => ?_
 refine eA (J:=λs=>s.t 0=vP 7059000 1 0/\s.h 7059000=(1,oB 182 [.old B0 (.sl (List.map enB p0.b)) (some u0),cI p0.i,cI p0.h])/\True) ?_ ?_
 ·and_intros<;>(try simp only [LN,List.map_cons,List.map_nil])<;>rfl
 rintro s1 f2
 have i1:=λ(x4:(Int×Int×Int))=>inv λm s=>∃v5:Int,∃r8:List M.Instr,∃aa:Int,∃ae:Int,∃u8:Nat,(s.t 0=vP 7059000 1 0/\s.t 3=vI x4.2.2/\s.t 4=vR 100008 u8/\s.t 5=vI v5/\s.h 100008=(u8,oW 216 4 M.Instr.en r8)/\s.h 7059000=(1,oB 182 [.old B0 (.sl (List.map enB p0.b)) (some u0),cI aa,cI ae]))/\lC p0 x4 m v5 r8 aa ae=some r
 have e1:=@lC.eq_2
 exact sgX
instance:bF 77 (type_of% @c77):=⟨@c77⟩
theorem c76 (p0 p1 p2 p3 p4 r) (h:kV p0 p1 p2 p3 p4=some r):Sc 76 [aI p0,aS p1,aS p2,aI p3,aL M.Instr.en p4] [(true,M.bJ.rs r.1),rB r.2]:=by unfold kV at h;exact sgo 25 [.cell 10 96,.tmp 11] Tryz.func76
instance:bF 76 (type_of% @c76):=⟨@c76⟩
theorem aFH (p0 p1 r) (h:Bu p0 p1=some r):Sc 387 [aL enB p0,aI p1] [(true,M.Op.rs r.1),rI r.2.1,rB r.2.2]:=by unfold Bu at h;exact sgo 103 [.cell 4 257,.tmp 5,.tmp 6] Tryz.func387
instance:bF 387 (type_of% @aFH):=⟨@aFH⟩
theorem aD3 (p0 p1 p2 r) (h:zH p0 p1 p2=some r):Sc 359 [aX (M.aD.en p0),aX (M.Key.en p1),aX (M.aE.en p2)] [(true,M.aD.rs r.1),rB r.2]:=by unfold zH at h;exact sgo 20 [.cell 6 40,.tmp 7] Tryz.func359
instance:bF 359 (type_of% @aD3):=⟨@aD3⟩
theorem aFf (p0 p1 p2 r) (h:Co p0 p1 p2=some r):Sc 403 [aX (M.aD.en p0),aX (M.Key.en p1),aS p2] [(true,M.aD.rs r.1),rI r.2.1,rB r.2.2]:=by unfold Co at h;exact sgo 57 [.cell 6 40,.tmp 7,.tmp 8] Tryz.func403
instance:bF 403 (type_of% @aFf):=⟨@aFf⟩
theorem aCH (p0 p1 r) (h:lA p0 p1=some r):Sc 283 [aX (M.aD.en p0),aX (M.bC.en p1)] [(true,M.aD.rs r.1),rB r.2]:=by unfold lA at h;exact sgo 43 [.cell 4 40,.tmp 5] Tryz.func283
instance:bF 283 (type_of% @aCH):=⟨@aCH⟩
theorem aCq (p0 p1 r) (h:pI p0 p1=some r):Sc 296 [(false,[.ptr [.sl (List.map enB p0.b),.int .i64 p0.i,.int .i64 p0.h]]),aS p1] [(false,[.edit (.lend 182 [.int .i64 r.1,.int .i64 r.2.1])]),(true,M.aD.rs r.2.2)]:=by
 unfold pI at h
 simp only [EN]
 refine sgB 37 [.cell 4 40] Tryz.func296 λbase wd B0 u0 hw0 => ?_
 refine eA (J:=λs=>s.t 0=vP 7059000 1 0/\s.t 1=vS p1/\s.h 7059000=(1,oB 182 [.old B0 (.sl (List.map enB p0.b)) (some u0),cI p0.i,cI p0.h])/\True) ?_ ?_
 ·and_intros<;>(try simp only [LN,List.map_cons,List.map_nil])<;>rfl
 rintro s1 f2
 have i1:=D5 [.b 5 1 7050000 284 4] λm s=>∃v6:Int,∃ai:ByteArray,∃aj:Int,∃aa:Int,∃ae:Int,∃af:List M.aG1,∃ah:Nat,(s.t 0=vP 7059000 1 0/\s.t 4=vP 4 ((s1.h 4).1+1) 0/\s.t 5=vP 5 ((s1.h 5).1+1) 0/\s.t 6=vI v6/\s.h 4=(((s1.h 4).1+1),oB 40 [cS (⟨#[]⟩:ByteArray),.nil,cI 0])/\s.h 5=(((s1.h 5).1+1),oB 40 [cS ai,.row 7050000 ah,cI aj])/\s.h 7050000=(ah,oW 284 4 M.aG1.en af)/\s.h 7059000=(1,oB 182 [.old B0 (.sl (List.map enB p0.b)) (some u0),cI aa,cI ae]))/\oN p0 m v6 ai aj aa ae af=some r
 have e1:=@oN.eq_2
 exact sgX
instance:bF 296 (type_of% @aCq):=⟨@aCq⟩
theorem aDg (p0 r) (h:Df p0=some r):Sc 352 [(false,[.ptr [.sl (List.map enB p0.b),.int .i64 p0.i,.int .i64 p0.h]])] [(false,[.edit (.lend 182 [.int .i64 r.1,.int .i64 r.2.1])]),(true,M.Op.rs r.2.2)]:=by
 unfold Df at h
 simp only [EN]
 refine sgB 37 [.cell 2 257] Tryz.func352 λbase wd B0 u0 hw0 => ?_
 refine eA (J:=λs=>s.t 0=vP 7059000 1 0/\s.h 7059000=(1,oB 182 [.old B0 (.sl (List.map enB p0.b)) (some u0),cI p0.i,cI p0.h])/\True) ?_ ?_
 ·and_intros<;>(try simp only [LN,List.map_cons,List.map_nil])<;>rfl
 rintro s1 f2
 exact sgX
instance:bF 352 (type_of% @aDg):=⟨@aDg⟩
theorem aDG (p0 p1 r) (h:xH p0 p1=some r):Sc 291 [aX (M.aGr.en p0),aI p1] [(true,M.aH.rs r.1),rB r.2]:=by unfold xH at h;exact sgo 37 [.cell 4 47,.tmp 5] Tryz.func291
instance:bF 291 (type_of% @aDG):=⟨@aDG⟩
theorem aEl (p0 r) (h:zT p0=some r):Sc 297 [(false,[.ptr [.sl (List.map enB p0.b),.int .i64 p0.i,.int .i64 p0.h]])] [(false,[.edit (.lend 182 [.int .i64 r.1,.int .i64 r.2.1])]),(true,M.Key.rs r.2.2)]:=by
 unfold zT at h
 simp only [EN]
 refine sgB 26 [.cell 2 209] Tryz.func297 λbase wd B0 u0 hw0 => ?_
 refine eA (J:=λs=>s.t 0=vP 7059000 1 0/\s.h 7059000=(1,oB 182 [.old B0 (.sl (List.map enB p0.b)) (some u0),cI p0.i,cI p0.h])/\True) ?_ ?_
 ·and_intros<;>(try simp only [LN,List.map_cons,List.map_nil])<;>rfl
 rintro s1 f2
 exact sgX
instance:bF 297 (type_of% @aEl):=⟨@aEl⟩
theorem aCg (p0 r) (h:Cs p0=some r):Sc 298 [(false,[.ptr [.sl (List.map enB p0.b),.int .i64 p0.i,.int .i64 p0.h]])] [(false,[.edit (.lend 182 [.int .i64 r.1,.int .i64 r.2.1])]),(true,M.aE.rs r.2.2)]:=by
 unfold Cs at h
 simp only [EN]
 refine sgB 40 [.cell 2 254] Tryz.func298 λbase wd B0 u0 hw0 => ?_
 refine eA (J:=λs=>s.t 0=vP 7059000 1 0/\s.h 7059000=(1,oB 182 [.old B0 (.sl (List.map enB p0.b)) (some u0),cI p0.i,cI p0.h])/\True) ?_ ?_
 ·and_intros<;>(try simp only [LN,List.map_cons,List.map_nil])<;>rfl
 rintro s1 f2
 refine sq (rn ?_)
 refine an (sq ?_)
 obtain ⟨x4,h5,h⟩:=bind_some h
 refine rn1 (aAb _ _ h5) ?_
 refine an (sq (sq ?_))
 refine cu (λs=>s.t 0=vP 7059000 1 0/\s.t 2=vP 2 ((s1.h 2).1+1) 0/\s.t 3=vP 3 ((s1.h 3).1+1) 0/\s.h 2=(((s1.h 2).1+1),oB 254 [.nil])/\s.h 3=(((s1.h 3).1+1),oB 254 [.row 100007 ((s1.h 100007).1+1)])/\s.h 100007=(((s1.h 100007).1+1),oW 356 2 M.Field.en x4.2.2.aGn)/\s.h 7059000=(1,oB 182 [.old B0 (.sl (List.map enB p0.b)) (some u0),cI x4.1,cI x4.2.1])/\True) ?_
 rintro s6 f7
 obtain ⟨af,ao,h⟩:=bind_some h
 refine rn1 (c65 _ _ _ ao) ?_
 refine an (bk (sq ?_))
 refine cu (λs=>s.t 0=vP 7059000 1 0/\s.t 2=vP 2 ((s1.h 2).1+1) 0/\s.t 3=vP 3 ((s1.h 3).1+1) 0/\s.t 9=vI af.2.2/\s.h 2=(((s1.h 2).1+1),oB 254 [.nil])/\s.h 3=(((s1.h 3).1+1),oB 254 [.row 100007 ((s1.h 100007).1+1)])/\s.h 100007=(((s1.h 100007).1+1),oW 356 2 M.Field.en x4.2.2.aGn)/\s.h 7059000=(1,oB 182 [.old B0 (.sl (List.map enB p0.b)) (some u0),cI af.1,cI af.2.1])/\True) ?_
 rintro s16 f17
 refine rn ?_
 refine an ?_
 rcases oQ (af.2.2==0) with ai | ai
 ·replace h:=cT ai h;refine ct ?_;obtain ⟨bd,aq,h⟩:=bind_some h;obtain ⟨bf,ar,h⟩:=bind_some h;obtain ⟨bg,av,h⟩:=bind_some h;refine rd3 mixed (c82 _ _ _ aq) (c69 _ _ _ ar) av ?_;refine ab (an (sq (rn ?_)));refine an (rt ?_);cases h;simp [Iq,Ret,TB,EN, *]
 replace h:=cR ai h
 refine cf (sq (rn ?_))
 refine an ?_
 rcases CH (af.2.2==1) with aj | aj
 ·replace h:=cR aj h;refine cf (sk (ab (an (sq (rn ?_)))));refine an (rt ?_);cases h;simp [Iq,Ret,TB,EN, *]
 replace h:=cT aj h
 refine ct (sq (rn ?_))
 refine an (bk ?_)
 refine cu (λs=>s.h 7059000=s16.h 7059000/\s.t 0=vP 7059000 1 0/\s.t 2=vP 2 ((s1.h 2).1+1) 0/\s.t 3=vP 3 ((s1.h 3).1+1) 0/\s.t 26=vR 100026 ((s16.h 100026).1+1)/\s.t 27=vI ((6:Nat):Int)/\s.t 28=vI 0/\s.h 2=(((s1.h 2).1+1),oB 254 [.nil])/\s.h 3=(((s1.h 3).1+1),oB 254 [.row 100007 ((s1.h 100007).1+1)])/\s.h 100007=(((s1.h 100007).1+1),oW 356 2 M.Field.en x4.2.2.aGn)/\s.h 100026=(((s16.h 100026).1+1),oW 9 1 enS ([(⟨#[100]⟩:ByteArray),(⟨#[101]⟩:ByteArray),(⟨#[102]⟩:ByteArray),(⟨#[103]⟩:ByteArray),(⟨#[104]⟩:ByteArray),(⟨#[105]⟩:ByteArray)]))/\True) ?_
 rintro ak ⟨f44,f34⟩
 replace f44:=f44.trans f17.2.2.2.2.2.2.2.1
 refine HM ((ghB 3 0 7050000 100007)) ?_
 refine Ge (λm s=>∃ah:Int,∃ae:List M.Field,∃aa:Nat,s.h 100026=ak.h 100026/\s.h 7059000=ak.h 7059000/\s.t 0=vP 7059000 1 0/\s.t 2=vP 2 ((s1.h 2).1+1) 0/\s.t 3=vP 3 ((s1.h 3).1+1) 0/\s.t 26=vR 100026 ((s16.h 100026).1+1)/\s.t 27=vI ((6:Nat):Int)/\s.t 28=vI ah/\s.h 2=(((s1.h 2).1+1),oB 254 [.nil])/\s.h 3=(((s1.h 3).1+1),oB 254 [.row 7050000 aa])/\s.h 7050000=(aa,oW 356 2 M.Field.en ae)/\tO af m ah ae=some r) fuel ?_ ?_
 ·refine ⟨0,x4.2.2.aGn,((ak.h 7050000).1+1),?_,?_,?_,?_,?_,?_,?_,?_,?_,?_,?_,h⟩;all_goals simp +decide only [F,reduceIte,Nat.reduceAdd,qB,qC,EN, *,-h]
 rintro mL1 bh ⟨ah,ae,aa,f54,f56,f46,f47,f48,f49,f50,f51,f52,f53,f55,h⟩
 replace f54:=f54.trans f34.2.2.2.2.2.2.2.2.2.1
 replace f56:=f56.trans f44
 rcases mL1 with _ | mL1
 ·exact absurd h (by simp [tO])
 simp only [tO] at h
 refine sq (rn ?_)
 refine an (sq ?_)
 rcases CH (decide (ah<((6:Nat):Int))) with al | al
 ·replace h:=cR al h;refine cf (xt (E2 (EV (J0 (ab (an (sq (rn ?_))))))));refine an (rt ?_);cases h;simp [Iq,Ret,TB,EN, *]
 replace h:=cT al h
 refine ct (sk (an (sq (bk (sq ?_)))))
 obtain ⟨aw,ax,h⟩:=bind_some h
 obtain ⟨bj,bl,ay⟩:=Az ax
 have q60m:=congrArg (Option.map enS) (show ([(⟨#[100]⟩:ByteArray),(⟨#[101]⟩:ByteArray),(⟨#[102]⟩:ByteArray),(⟨#[103]⟩:ByteArray),(⟨#[104]⟩:ByteArray),(⟨#[105]⟩:ByteArray)])[ah.toNat]? = some aw by assumption)
 simp only [<-List.getElem?_map,List.map_cons,List.map_nil,Option.map_some,EN] at q60m
 simp only [qJ,qK,Nat.reduceAdd] at ay
 refine rn ?_
 refine an ?_
 obtain ⟨az,ba,h⟩:=bind_some h
 refine rn1 (aBE _ _ _ _ ba) ?_
 refine ab (an (rn ?_))
 refine lJ ⟨_,(ghB 3 0 7050000 100035),mL1,qb,(IntKind.i64.wrap (ah+1)),az.1.aGn,(aa+1),?_,?_,?_,?_,?_,?_,?_,?_,?_,?_,?_,h⟩
 all_goals simp +decide only [F,reduceIte,Nat.reduceAdd,qB,qC,EN, *,-h]
instance:bF 298 (type_of% @aCg):=⟨@aCg⟩
theorem aFA (p0 p1 r) (h:yY p0 p1=some r):Sc 300 [(false,[.ptr [.sl (List.map enB p0.b),.int .i64 p0.i,.int .i64 p0.h]]),aI p1] [(false,[.edit (.lend 182 [.int .i64 r.1,.int .i64 r.2.1])]),(true,M.aM.rs r.2.2)]:=by
 unfold yY at h
 simp only [EN]
 refine sgB 41 [.cell 4 43] Tryz.func300 λbase wd B0 u0 hw0 => ?_
 refine eA (J:=λs=>s.t 0=vP 7059000 1 0/\s.t 1=vI p1/\s.h 7059000=(1,oB 182 [.old B0 (.sl (List.map enB p0.b)) (some u0),cI p0.i,cI p0.h])/\True) ?_ ?_
 ·and_intros<;>(try simp only [LN,List.map_cons,List.map_nil])<;>rfl
 rintro s1 f2
 have i1:=D5 [.b 5 2 7050000 211 7] λm s=>∃v7:Int,∃ai:Int,∃aj:Int,∃aa:Int,∃ae:Int,∃af:List M.bC,∃ah:Nat,(s.t 0=vP 7059000 1 0/\s.t 4=vP 4 ((s1.h 4).1+1) 0/\s.t 5=vP 5 ((s1.h 5).1+1) 0/\s.t 7=vI v7/\s.h 4=(((s1.h 4).1+1),oB 43 [cI 0,cI 0,.nil])/\s.h 5=(((s1.h 5).1+1),oB 43 [cI ai,cI aj,.row 7050000 ah])/\s.h 7050000=(ah,oW 211 7 M.bC.en af)/\s.h 7059000=(1,oB 182 [.old B0 (.sl (List.map enB p0.b)) (some u0),cI aa,cI ae]))/\lH p0 m v7 ai aj aa ae af=some r
 have e1:=@lH.eq_2
 exact sgX
instance:bF 300 (type_of% @aFA):=⟨@aFA⟩
end Go.Proofs.YtipmihbgjolaaaaGreat.gen
