/-
  Helper text. No conditions.
-/
import Derived.Test.YtipmihbgjolaaaaGreatWorldsTi
import Derived.Test.YtipmihbgjolaaaaGreatWorldsWimpl0
import Derived.Test.YtipmihbgjolaaaaGreatWorldsWimpl1
set_option linter.unusedVariables false
set_option linter.unusedSimpArgs false
namespace Go.Proofs.YtipmihbgjolaaaaGreat.gen
open Go Go.Sh
set_option maxRecDepth 20000
set_option maxHeartbeats 4000000
theorem c19 (p0 r) (h:vW p0=some r):Sc 19 [aI p0] [(true,M.World.rs r)]:=by
 unfold vW at h
 simp only [EN]
 refine sgn 37 [.cell 2 75] Tryz.func19 λbase wd => ?_
 refine sq (rn ?_)
 refine an (sq (sq ?_))
 obtain ⟨x1,h2,h⟩:=bind_some h
 refine rn1 (c70 _ _ _ _ h2) ?_
 refine an ?_
 rcases nY (!x1) with b3 | b3
 ·replace h:=cF b3 h;refine ct (sq (rn ?_));refine an (rt ?_);cases h;simp [Ret,TB,EN, *]
 replace h:=cE b3 h
 refine cf (sk (an (sq (rn ?_))))
 refine an (sq (sq (rn ?_)))
 refine an (bk ?_)
 refine cu (λs=>s.t 2=vP 2 1 0/\s.t 3=vP 3 1 0/\s.t 12=vR 100012 1/\s.t 13=vI ((3:Nat):Int)/\s.t 14=vI 0/\s.h 2=(1,Ln)/\s.h 3=(1,oB 75 [cI 0,cB true,cI p0,.nil,.nil,cI 1,.nil,.nil,.nil,.nil])/\s.h 100012=(1,oW 9 1 enS ([(⟨#[98,97,110,107]⟩:ByteArray),(⟨#[110,101,119,115]⟩:ByteArray),(⟨#[115,104,111,112]⟩:ByteArray)]))/\True) ?_
 rintro s4 f5
 refine Dc ((Gho.trans (ghC 3 8 7050000 85 4) (ghC 3 9 7050001 137 5))) ?_
 refine BL (λm s=>∃ai:Int,∃af:List M.aAO,∃ah:List M.aAI,∃aa:Nat,∃ae:Nat,s.t 2=vP 2 1 0/\s.t 3=vP 3 1 0/\s.t 12=vR 100012 1/\s.t 13=vI ((3:Nat):Int)/\s.t 14=vI ai/\s.h 2=(1,Ln)/\s.h 3=(1,oB 75 [cI 0,cB true,cI p0,.nil,.nil,cI 1,.nil,.nil,.row 7050000 aa,.row 7050001 ae])/\s.h 100012=(1,oW 9 1 enS ([(⟨#[98,97,110,107]⟩:ByteArray),(⟨#[110,101,119,115]⟩:ByteArray),(⟨#[115,104,111,112]⟩:ByteArray)]))/\s.h 7050000=(aa,oW 85 4 M.aAO.en af)/\s.h 7050001=(ae,oW 137 5 M.aAI.en ah)/\rO p0 m ai af ah=some r) fuel ?_ ?_
 ·refine ⟨0,([]:List M.aAO),([]:List M.aAI),((s4.h 7050000).1+1),((s4.h 7050001).1+1),?_,?_,?_,?_,?_,?_,?_,?_,?_,?_,h⟩;all_goals simp +decide only [F,reduceIte,Nat.reduceAdd,qB,qC,EN, *,-h]
 rintro mL1 av ⟨ai,af,ah,aa,ae,f14,f15,f16,f17,f18,f19,f20,f21,f22,f23,h⟩
 rcases mL1 with _ | mL1
 ·exact absurd h (by simp [rO])
 simp only [rO] at h
 refine sq (rn ?_)
 refine an (sq ?_)
 rcases zD (decide (ai<((3:Nat):Int))) with ak | ak
 ·replace h:=cE ak h;refine cf (xt (BA (Br (E7 (an (sq (rn ?_)))))));refine an (rt ?_);cases h;simp [Ret,TB,EN, *]
 replace h:=cF ak h
 refine ct (sk (an (sq (bk (sq ?_)))))
 obtain ⟨aj,al,h⟩:=bind_some h
 obtain ⟨aw,ax,ao⟩:=tT al
 have q27m:=congrArg (Option.map enS) (show ([(⟨#[98,97,110,107]⟩:ByteArray),(⟨#[110,101,119,115]⟩:ByteArray),(⟨#[115,104,111,112]⟩:ByteArray)])[ai.toNat]? = some aj by assumption)
 simp only [<-List.getElem?_map,List.map_cons,List.map_nil,Option.map_some,EN] at q27m
 simp only [qJ,qK,Nat.reduceAdd] at ao
 refine rn ?_
 refine an (sq ?_)
 obtain ⟨ay,aq,h⟩:=bind_some h
 refine rn1 aq ?_
 refine an ?_
 refine cu (λs=>s.t 2=vP 2 1 0/\s.t 3=vP 3 1 0/\s.t 12=vR 100012 1/\s.t 13=vI ((3:Nat):Int)/\s.t 14=vI ai/\s.h 2=(1,Ln)/\s.h 3=(1,oB 75 [cI 0,cB true,cI p0,.nil,.nil,cI 1,.nil,.nil,.row 7050000 (aa+1),.row 7050001 ae])/\s.h 100012=(1,oW 9 1 enS ([(⟨#[98,97,110,107]⟩:ByteArray),(⟨#[110,101,119,115]⟩:ByteArray),(⟨#[115,104,111,112]⟩:ByteArray)]))/\s.h 7050000=((aa+1),oW 85 4 M.aAO.en (af++[(⟨aj,1,[(⟨#[99,111,100,101]⟩:ByteArray),(⟨#[100,97,116,97]⟩:ByteArray),(⟨#[105,110,100,101,120]⟩:ByteArray),(⟨#[115,116,121,108,101]⟩:ByteArray)],(aj.toList==(⟨#[110,101,119,115]⟩:ByteArray).toList)⟩:M.aAO)]))/\s.h 7050001=(ae,oW 137 5 M.aAI.en ah)/\True) ?_
 rintro az f33
 obtain ⟨b7,ar,h⟩:=bind_some h
 refine rn1 ar ?_
 refine ab (an ?_)
 refine cu (λs=>s.t 2=vP 2 1 0/\s.t 3=vP 3 1 0/\s.t 12=vR 100012 1/\s.t 13=vI ((3:Nat):Int)/\s.t 14=vI ai/\s.h 2=(1,Ln)/\s.h 3=(1,oB 75 [cI 0,cB true,cI p0,.nil,.nil,cI 1,.nil,.nil,.row 7050000 (aa+1),.row 7050001 (ae+1)])/\s.h 100012=(1,oW 9 1 enS ([(⟨#[98,97,110,107]⟩:ByteArray),(⟨#[110,101,119,115]⟩:ByteArray),(⟨#[115,104,111,112]⟩:ByteArray)]))/\s.h 7050000=((aa+1),oW 85 4 M.aAO.en (af++[(⟨aj,1,[(⟨#[99,111,100,101]⟩:ByteArray),(⟨#[100,97,116,97]⟩:ByteArray),(⟨#[105,110,100,101,120]⟩:ByteArray),(⟨#[115,116,121,108,101]⟩:ByteArray)],(aj.toList==(⟨#[110,101,119,115]⟩:ByteArray).toList)⟩:M.aAO)]))/\s.h 7050001=((ae+1),oW 137 5 M.aAI.en (ah++[(⟨(⟨(⟨#[110,111,116,101,115]⟩:ByteArray),([]:List M.aAQ),0⟩:M.aA),([]:List M.aK),([]:List M.bA)⟩:M.aAI)]))/\True) ?_
 rintro ba f46
 refine rn ?_
 refine gF ⟨_,(Gho.trans (ghB 3 8 7050000 7050000) (ghB 3 9 7050001 7050001)),mL1,qb,(IntKind.i64.wrap (ai+1)),(af++[(⟨aj,1,[(⟨#[99,111,100,101]⟩:ByteArray),(⟨#[100,97,116,97]⟩:ByteArray),(⟨#[105,110,100,101,120]⟩:ByteArray),(⟨#[115,116,121,108,101]⟩:ByteArray)],(aj.toList==(⟨#[110,101,119,115]⟩:ByteArray).toList)⟩:M.aAO)]),(ah++[(⟨(⟨(⟨#[110,111,116,101,115]⟩:ByteArray),([]:List M.aAQ),0⟩:M.aA),([]:List M.aK),([]:List M.bA)⟩:M.aAI)]),((aa+1)+1),((ae+1)+1),?_,?_,?_,?_,?_,?_,?_,?_,?_,?_,h⟩
 all_goals simp +decide only [F,reduceIte,Nat.reduceAdd,qB,qC,EN, *,-h]
theorem X5 (p0 p1 p2 r) (h:wC p0 p1 p2=some r):Sc 249 [aS p0,aI p1,aB p2] [rB r]:=by
 have i1:=inv λm s=>∃v7:Int,(s.t 0=vS p0/\s.t 1=vI p1/\s.t 2=vB p2/\s.t 7=vI v7)/\gN p0 p1 p2 m v7=some r
 have e1:=@gN.eq_2
 unfold wC at h
 exact sgo 38 [.tmp 6] Tryz.func249
instance:cA 249 (type_of% @X5):=⟨@X5⟩
theorem Y0 (p0 p1 p2 r) (h:uP p0 p1 p2=some r):Sc 189 [aX (M.aAL.en p0),aS p1,aS p2] [rI r]:=by
 unfold uP at h
 simp only [EN]
 refine sgn 11 [.tmp 6] Tryz.func189 λbase wd => ?_
 refine sq (rn ?_)
 refine an (sq ?_)
 obtain ⟨x1,h2,h⟩:=bind_some h
 refine rn1 (ZZ p0.aAN (λz0=>uA z0 p1 p2) 272 [.ptr [.str p1],.ptr [.str p2]] (λz0 r hr=>ZK z0 p1 p2 r hr) x1 h2) ?_
 refine an (rt ?_)
 cases h
 simp [Ret,TB,EN, *]
instance:cA 189 (type_of% @Y0):=⟨@Y0⟩
theorem WC (p0 r) (h:oM p0=some r):Sc 305 [aX (M.aAM.en p0)] [rB r]:=by unfold oM at h;exact sgo 22 [.tmp 2] Tryz.func305
instance:cA 305 (type_of% @WC):=⟨@WC⟩
theorem Xc (p0 r) (h:rH p0=some r):Sc 250 [aX (M.Key.en p0)] [rB r]:=by unfold rH at h;exact sgo 39 [.tmp 2] Tryz.func250
instance:cA 250 (type_of% @Xc):=⟨@Xc⟩
theorem We (p0 p1 r) (h:wE p0 p1=some r):Sc 327 [aS p0,aS p1] [rI r]:=by unfold wE at h;exact sgo 8 [.tmp 4] Tryz.func327
instance:cA 327 (type_of% @We):=⟨@We⟩
theorem YJ (p0 p1 r) (h:tZ p0 p1=some r):Sc 306 [aX (M.aAA.en p0),aS p1] [rI r]:=by
 unfold tZ at h
 simp only [EN]
 refine sgn 9 [.tmp 4] Tryz.func306 λbase wd => ?_
 refine sq (rn ?_)
 refine an (sq ?_)
 obtain ⟨x1,h2,h⟩:=bind_some h
 refine rn1 (Zx p0.aAH (λz0=>rJ z0 p1) 362 [.ptr [.str p1]] (λz0 r hr=>Zt z0 p1 r hr) x1 h2) ?_
 refine an (rt ?_)
 cases h
 simp [Ret,TB,EN, *]
instance:cA 306 (type_of% @YJ):=⟨@YJ⟩
theorem WM (p0 p1 r) (h:gY p0 p1=some r):Sc 307 [aL M.aN.en p0,aX (M.aN.en p1)] [rB r]:=by unfold gY at h;exact sgo 9 [.tmp 4] Tryz.func307
instance:cA 307 (type_of% @WM):=⟨@WM⟩
theorem WD (p0 p1 r) (h:zV p0 p1=some r):Sc 394 [aX (M.aC.en p0),aS p1] [rI r]:=by
 unfold zV at h
 simp only [EN]
 refine sgn 9 [.tmp 4] Tryz.func394 λbase wd => ?_
 refine sq (rn ?_)
 refine an (sq ?_)
 obtain ⟨x1,h2,h⟩:=bind_some h
 refine rn1 (Zn p0.aAF (λz0=>tX z0 p1) 407 [.ptr [.str p1]] (λz0 r hr=>ZP z0 p1 r hr) x1 h2) ?_
 refine an (rt ?_)
 cases h
 simp [Ret,TB,EN, *]
instance:cA 394 (type_of% @WD):=⟨@WD⟩
theorem Wx (p0 r) (h:vX p0=some r):Sc 302 [aX (M.aAQ.en p0)] [(true,M.aAQ.rs r)]:=by unfold vX at h;exact sgo 9 [.cell 2 284] Tryz.func302
instance:cA 302 (type_of% @Wx):=⟨@Wx⟩
theorem Y1 (p0 r) (h:tI p0=some r):Sc 146 [aX (M.aF.en p0)] [rI r]:=by
 have i1:=inv λm s=>∃v3:Int,∃v11:Int,(s.t 3=vI v3/\s.t 9=vL M.aAL.en p0.aAE/\s.t 10=vI (List.length p0.aAE:Int)/\s.t 11=vI v11)/\eC p0 m v3 v11=some r
 have e1:=@eC.eq_2
 have i2:=λ(v11:Int) (x7:M.aAL) (af:Int->Int->Option Int)=>inv λm s=>∃ae:Int,∃aa:Int,(s.t 3=vI ae/\s.t 9=vL M.aAL.en p0.aAE/\s.t 10=vI (List.length p0.aAE:Int)/\s.t 11=vI v11/\s.t 16=vL M.aAR.en x7.aAN/\s.t 17=vI (List.length x7.aAN:Int)/\s.t 18=vI aa)/\hJ x7 af m ae aa=some r
 have e2:=@hJ.eq_2
 unfold tI at h
 exact sgo 34 [.tmp 2] Tryz.func146
instance:cA 146 (type_of% @Y1):=⟨@Y1⟩
theorem Wz (p0 p1 r) (h:hH p0 p1=some r):Sc 323 [aL enB p0,aI p1] [rW 5 1 enB r]:=by
 have i1:=inv λm s=>∃v1:Int,∃r7:List Int,∃u7:Nat,(s.t 1=vI v1/\s.t 5=vR 100007 u7/\s.h 100007=(u7,oW 5 1 enB r7))/\fC m v1 r7=some r
 have e1:=@fC.eq_2
 unfold hH at h
 exact sgo 28 [.tmp 4] Tryz.func323
instance:cA 323 (type_of% @Wz):=⟨@Wz⟩
theorem c12 (p0 p1 p2 r) (h:oL p0 p1 p2=some r):Sc 12 [aX (M.aJ.en p0),aS p1,aS p2] [rI r]:=by
 unfold oL at h
 simp only [EN]
 refine sgn 11 [.tmp 6] Tryz.func12 λbase wd => ?_
 refine sq (rn ?_)
 refine an (sq ?_)
 obtain ⟨x1,h2,h⟩:=bind_some h
 refine rn1 (c59 p0.aAG (λz0=>oZ z0 p1 p2) 60 [.ptr [.str p1],.ptr [.str p2]] (λz0 r hr=>c60 z0 p1 p2 r hr) x1 h2) ?_
 refine an (rt ?_)
 cases h
 simp [Ret,TB,EN, *]
instance:cA 12 (type_of% @c12):=⟨@c12⟩
theorem c24 (p0 r) (h:oO p0=some r):Sc 24 [aS p0] [rI r]:=by unfold oO at h;exact sgo 6 [.tmp 2] Tryz.func24
instance:cA 24 (type_of% @c24):=⟨@c24⟩
theorem c23 (p0 p1 r) (h:uK p0 p1=some r):Sc 23 [aX (M.World.en p0),aI p1] [rI r]:=by
 unfold uK at h
 simp only [EN]
 refine sgn 9 [.tmp 4] Tryz.func23 λbase wd => ?_
 refine sq (rn ?_)
 refine an (sq ?_)
 obtain ⟨x1,h2,h⟩:=bind_some h
 refine rn1 (c79 p0.aAX (λz0=>rT z0 p1) 80 [.ptr [.int .i64 p1]] (λz0 r hr=>c80 z0 p1 r hr) x1 h2) ?_
 refine an (rt ?_)
 cases h
 simp [Ret,TB,EN, *]
theorem Xe (p0 p1 r) (h:oK p0 p1=some r):Sc 109 [aL enB p0,aL enB p1] [rB r]:=by unfold oK at h;exact sgo 8 [.tmp 4] Tryz.func109
instance:cA 109 (type_of% @Xe):=⟨@Xe⟩
theorem Y7 (p0 p1 r) (h:pA p0 p1=some r):Sc 331 [aX (M.aC.en p0),aX (M.aC.en p1)] [rB r]:=by unfold pA at h;exact sgo 10 [.tmp 4] Tryz.func331
instance:cA 331 (type_of% @Y7):=⟨@Y7⟩
theorem XI (p0 p1 r) (h:oC p0 p1=some r):Sc 322 [aX (M.aH.en p0),aX (M.aH.en p1)] [rB r]:=by unfold oC at h;exact sgo 24 [.tmp 4] Tryz.func322
instance:cA 322 (type_of% @XI):=⟨@XI⟩
theorem X6 (p0 p1 r) (h:nU p0 p1=some r):Sc 162 [aX (M.aAJ.en p0),aX (M.aAJ.en p1)] [rB r]:=by unfold nU at h;exact sgo 45 [.tmp 4] Tryz.func162
instance:cA 162 (type_of% @X6):=⟨@X6⟩
theorem c94 (p0 p1 r) (h:lP p0 p1=some r):Sc 94 [aX (M.aAO.en p0),aX (M.aAO.en p1)] [rB r]:=by unfold lP at h;exact sgo 31 [.tmp 4] Tryz.func94
end Go.Proofs.YtipmihbgjolaaaaGreat.gen
