/-
  Helper text. No conditions.
-/
import Derived.Test.YtipmihbgjolaaaaGreatWorldsTi
set_option linter.unusedVariables false
set_option linter.unusedSimpArgs false
namespace Go.Proofs.YtipmihbgjolaaaaGreat.gen
open Go Go.Sh
open Go.IntKind (i64)
set_option maxRecDepth 20000
set_option maxHeartbeats 4000000
theorem c44 (p0 r) (h:vC p0=some r):Sc 44 [aL enB p0] [(false,[.edit (.newb 182 [.sl (List.map enB r.b),.int .i64 r.i,.int .i64 r.h])])]:=by
 unfold vC at h
 simp only [EN]
 refine sgN 32 [.tmp 2] Tryz.func44 λbase wd => ?_
 refine sq (rn ?_)
 refine an (sq (rn ?_))
 refine an (sq (sq (rn ?_)))
 refine an (bk ?_)
 refine ES (λm s=>∃v3:Int,∃v4:Int,s.t 0=vL enB p0/\s.t 3=vI v3/\s.t 4=vI v4/\kP p0 m v3 v4=some r) fuel ?_ ?_
 ·refine ⟨(i64.wrap (193017+(List.length p0:Int))),0,?_,?_,?_,h⟩;all_goals simp +decide only [F,reduceIte,Nat.reduceAdd,qB,qC,EN, *,-h]
 rintro mL1 s1 ⟨v3,v4,f2,f3,f4,h⟩
 rcases mL1 with _ | mL1
 ·exact absurd h (by simp [kP])
 simp only [kP] at h
 refine sq (sq ?_)
 rcases zD (decide (v4<(List.length p0:Int))) with b5 | b5
 ·replace h:=cE b5 h;refine rn ?_;refine an (cf (xt (BA (Br (E7 (an (sq (rn ?_))))))));refine an (rt ?_);cases h;exact ⟨31,((s1.h 31).1+1),by simp +decide only [Bl,F,E,L,reduceIte,EN,TB, *],by simp +decide only [F,reduceIte,EN, *]<;>rfl⟩
 replace h:=cF b5 h
 refine rn ?_
 refine an ?_
 rcases zD (decide (v4<4000)) with b6 | b6
 ·replace h:=cE b6 h;refine cf (xt (BA (Br (E7 (an (sq (rn ?_)))))));refine an (rt ?_);cases h;exact ⟨31,((s1.h 31).1+1),by simp +decide only [Bl,F,E,L,reduceIte,EN,TB, *],by simp +decide only [F,reduceIte,EN, *]<;>rfl⟩
 replace h:=cF b6 h
 refine ct (sk (an (sq (bk ?_))))
 obtain ⟨x7,h8,h⟩:=bind_some h
 obtain ⟨q9,aa,ae⟩:=tT h8
 refine rn ?_
 refine ab (an (rn ?_))
 refine gF ⟨mL1,qb,(i64.wrap (BitVec.ofInt (IntKind.i64.bits) (i64.wrap ((i64.wrap ((i64.wrap (v3*137))+(i64.wrap x7)))+11))&&&BitVec.ofInt (IntKind.i64.bits) 1073741823).toNat),(i64.wrap (v4+1)),?_,?_,?_,h⟩
 all_goals simp +decide only [F,reduceIte,Nat.reduceAdd,qB,qC,EN, *,-h]
instance:cA 44 (type_of% @c44):=⟨@c44⟩
theorem Zh (p0 p1 r) (h:iM p0 p1=some r):Sc 368 [aX (M.aC.en p0),aS p1] [rI r.1,rB r.2]:=by
 have i1:=inv λm s=>∃v6:Int,(s.t 1=vS p1/\s.t 2=vP 2 1 0/\s.t 6=vI v6/\s.h 2=(1,oX 254 (M.aC.en p0)))/\nA p0 p1 m v6=some r
 have e1:=@nA.eq_2
 unfold iM at h
 exact sgo 28 [.tmp 4,.tmp 5] Tryz.func368
instance:cA 368 (type_of% @Zh):=⟨@Zh⟩
theorem WK (p0 r) (h:bU p0=some r):Sc 347 [aX (M.aC.en p0)] [(true,M.aC.rs r)]:=by unfold bU at h;exact sgo 8 [.cell 2 254] Tryz.func347
instance:cA 347 (type_of% @WK):=⟨@WK⟩
theorem YU (p0 r) (h:tR p0=some r):Sc 310 [aX (M.aAQ.en p0)] [(true,M.aAQ.rs r)]:=by unfold tR at h;exact sgo 9 [.cell 2 284] Tryz.func310
instance:cA 310 (type_of% @YU):=⟨@YU⟩
theorem W9 (p0 r) (h:bO p0=some r):Sc 232 [aX (M.aA.en p0)] [(true,M.aA.rs r)]:=by
 have i1:=DW [.b 3 1 7050000 284 4] λm s=>∃v4:Int,∃aa:List M.aAQ,∃ae:Nat,(s.t 1=vP 1 1 0/\s.t 2=vP 2 1 0/\s.t 3=vP 3 1 0/\s.t 4=vI v4/\s.h 1=(1,oX 40 (M.aA.en p0))/\s.h 2=(1,oB 40 [cS (⟨#[]⟩:ByteArray),.nil,cI 0])/\s.h 3=(1,oB 40 [cS p0.Name,.row 7050000 ae,cI p0.aAd])/\s.h 7050000=(ae,oW 284 4 M.aAQ.en aa))/\nQ p0 m v4 aa=some r
 have e1:=@nQ.eq_2
 unfold bO at h
 exact sgo 29 [.cell 2 40] Tryz.func232
instance:cA 232 (type_of% @W9):=⟨@W9⟩
theorem W7 (p0 p1 r) (h:eN p0 p1=some r):Sc 386 [aL enB p0,aI p1] [rI r.1,rI r.2.1,rB r.2.2]:=by
 have i1:=inv λm s=>∃v7:Int,∃v8:Int,(s.t 0=vL enB p0/\s.t 1=vI p1/\s.t 7=vI v7/\s.t 8=vI v8)/\dL p0 p1 m v7 v8=some r
 have e1:=@dL.eq_2
 unfold eN at h
 exact sgo 55 [.tmp 4,.tmp 5,.tmp 6] Tryz.func386
instance:cA 386 (type_of% @W7):=⟨@W7⟩
theorem YE (p0 p1 p2 r) (h:dK p0 p1 p2=some r):Sc 385 [aL enB p0,aI p1,aI p2] [rW 5 1 enB r.1,rI r.2.1,rB r.2.2]:=by unfold dK at h;exact sgo 46 [.tmp 6,.tmp 7,.tmp 8] Tryz.func385
instance:cA 385 (type_of% @YE):=⟨@YE⟩
theorem YB (p0 r) (h:oJ p0=some r):Sc 311 [aX (M.aH.en p0)] [(true,M.aH.rs r)]:=by unfold oJ at h;exact sgo 11 [.cell 2 43] Tryz.func311
instance:cA 311 (type_of% @YB):=⟨@YB⟩
theorem YD (p0 r) (h:sD p0=some r):Sc 233 [aX (M.aAT.en p0)] [(true,M.aAT.rs r)]:=by unfold sD at h;exact sgo 10 [.cell 2 45] Tryz.func233
instance:cA 233 (type_of% @YD):=⟨@YD⟩
theorem VN (p0 r) (h:uR p0=some r):Sc 197 [aX (M.aAM.en p0)] [(true,M.aAM.rs r)]:=by unfold uR at h;exact sgo 11 [.cell 2 105] Tryz.func197
instance:cA 197 (type_of% @VN):=⟨@VN⟩
theorem Ys (p0 r) (h:vQ p0=some r):Sc 230 [aX (M.aAL.en p0)] [(true,M.aAL.rs r)]:=by
 have i1:=DW [.b 3 1 7050000 195 7] λm s=>∃v4:Int,∃aa:List M.aAR,∃ae:Nat,(s.t 1=vP 1 1 0/\s.t 2=vP 2 1 0/\s.t 3=vP 3 1 0/\s.t 4=vI v4/\s.h 1=(1,oX 193 (M.aAL.en p0))/\s.h 2=(1,oB 193 [cI 0,.nil])/\s.h 3=(1,oB 193 [cI p0.aAB,.row 7050000 ae])/\s.h 7050000=(ae,oW 195 7 M.aAR.en aa))/\kE p0 m v4 aa=some r
 have e1:=@kE.eq_2
 unfold vQ at h
 exact sgo 36 [.cell 2 193] Tryz.func230
instance:cA 230 (type_of% @Ys):=⟨@Ys⟩
theorem TU (p0 r) (h:cX p0=some r):Sc 133 [aX (M.aF.en p0)] [(true,M.aF.rs r)]:=by
 have i1:=DW [.b 3 0 7050000 193 2] λm s=>∃v4:Int,∃aa:List M.aAL,∃ae:Nat,(s.t 1=vP 1 1 0/\s.t 2=vP 2 1 0/\s.t 3=vP 3 1 0/\s.t 4=vI v4/\s.h 1=(1,oX 31 (M.aF.en p0))/\s.h 2=(1,oB 31 [.nil])/\s.h 3=(1,oB 31 [.row 7050000 ae])/\s.h 7050000=(ae,oW 193 2 M.aAL.en aa))/\mF p0 m v4 aa=some r
 have e1:=@mF.eq_2
 unfold cX at h
 exact sgo 25 [.cell 2 31] Tryz.func133
instance:cA 133 (type_of% @TU):=⟨@TU⟩
theorem c53 (p0 p1 p2 r) (h:lZ p0 p1 p2=some r):Sc 53 [aX (M.aJ.en p0),aS p1,aS p2] [rI r]:=by
 have i1:=inv λm s=>∃v7:Int,(s.t 1=vS p1/\s.t 2=vS p2/\s.t 3=vP 3 1 0/\s.t 7=vI v7/\s.h 3=(1,oX 26 (M.aJ.en p0)))/\fP p0 p1 p2 m v7=some r
 have e1:=@fP.eq_2
 unfold lZ at h
 exact sgo 34 [.tmp 6] Tryz.func53
instance:cA 53 (type_of% @c53):=⟨@c53⟩
theorem c55 (p0 p1 p2 r) (h:uN p0 p1 p2=some r):Sc 55 [aX (M.aO.en p0),aS p1,aS p2] [rB r]:=by unfold uN at h;exact sgo 23 [.tmp 6] Tryz.func55
instance:cA 55 (type_of% @c55):=⟨@c55⟩
theorem ZS (p0 p1 p2 r) (h:wU p0 p1 p2=some r):Sc 196 [aX (M.aAL.en p0),aS p1,aS p2] [rI r]:=by
 have i1:=inv λm s=>∃v7:Int,(s.t 1=vS p1/\s.t 2=vS p2/\s.t 3=vP 3 1 0/\s.t 7=vI v7/\s.h 3=(1,oX 193 (M.aAL.en p0)))/\jR p0 p1 p2 m v7=some r
 have e1:=@jR.eq_2
 unfold wU at h
 exact sgo 34 [.tmp 6] Tryz.func196
theorem Zw (p0 p1 r) (h:zX p0 p1=some r):Sc 389 [aX (M.aAA.en p0),aX (M.iW.en p1)] [rI r]:=by
 have i1:=inv λm s=>∃v5:Int,(s.t 2=vP 2 1 0/\s.t 3=vP 3 1 0/\s.t 5=vI v5/\s.h 2=(1,oX 35 (M.aAA.en p0))/\s.h 3=(1,oX 380 (M.iW.en p1)))/\lM p0 p1 m v5=some r
 have e1:=@lM.eq_2
 unfold zX at h
 exact sgo 34 [.tmp 4] Tryz.func389
theorem YC (p0 p1 r) (h:gA p0 p1=some r):Sc 355 [aI p0,aI p1] [rI r]:=by unfold gA at h;exact sgo 10 [.tmp 4] Tryz.func355
instance:cA 355 (type_of% @YC):=⟨@YC⟩
theorem Wf (p0 r) (h:gM p0=some r):Sc 356 [aI p0] [rI r]:=by
 have i1:=inv λm s=>∃v3:Int,∃v4:Int,(s.t 0=vI p0/\s.t 3=vI v3/\s.t 4=vI v4)/\lV p0 m v3 v4=some r
 have e1:=@lV.eq_2
 unfold gM at h
 exact sgo 17 [.tmp 2] Tryz.func356
instance:cA 356 (type_of% @Wf):=⟨@Wf⟩
theorem YV (p0 r) (h:pX p0=some r):Sc 254 [aL M.Instr.en p0] [rW 216 4 M.Instr.en r]:=by unfold pX at h;exact sgo 6 [.tmp 2] Tryz.func254
instance:cA 254 (type_of% @YV):=⟨@YV⟩
theorem XQ (p0 r) (h:xB p0=some r):Sc 268 [aX (M.aAJ.en p0)] [(true,M.aAJ.rs r)]:=by unfold xB at h;exact sgo 15 [.cell 2 94] Tryz.func268
instance:cA 268 (type_of% @XQ):=⟨@XQ⟩
theorem Xm (p0 r) (h:mH p0=some r):Sc 177 [aX (M.bV.en p0)] [(true,M.bV.rs r)]:=by unfold mH at h;exact sgo 15 [.cell 2 96] Tryz.func177
instance:cA 177 (type_of% @Xm):=⟨@Xm⟩
end Go.Proofs.YtipmihbgjolaaaaGreat.gen
