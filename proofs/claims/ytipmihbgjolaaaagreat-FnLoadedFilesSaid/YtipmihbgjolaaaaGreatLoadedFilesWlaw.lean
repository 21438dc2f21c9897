/-
  Helper text. No conditions.
-/
import Derived.Test.YtipmihbgjolaaaaGreatLoadedFilesTi
import Derived.Test.YtipmihbgjolaaaaGreatLoadedFilesWimpl5
import Derived.Test.YtipmihbgjolaaaaGreatLoadedFilesWimpl8
import Derived.Test.YtipmihbgjolaaaaGreatLoadedFilesWmark
import Derived.Test.YtipmihbgjolaaaaGreatLoadedFilesWspec10
import Derived.Test.YtipmihbgjolaaaaGreatLoadedFilesWspec2
import Derived.Test.YtipmihbgjolaaaaGreatLoadedFilesWspec9
set_option linter.unusedVariables false
set_option linter.unusedSimpArgs false
namespace Go.Proofs.YtipmihbgjolaaaaGreat.gen
open Go Go.Sh
set_option maxRecDepth 20000
set_option maxHeartbeats 4000000
theorem FP (p0 r) (h:rL p0=some r):Sc 5 [aL enB p0] [rB r]:=by
 unfold rL at h
 simp only [EN]
 refine sgn 120 [.tmp 2] Tryz.func5 λbase wd => ?_
 refine sq (rn ?_)
 refine an (sq (sq ?_))
 obtain ⟨x1,h2,h⟩:=bind_some h
 refine rn1 (c7 _ _ h2) ?_
 refine an ?_
 rcases nX x1 with b3 | b3
 ·replace h:=cN b3 h;refine ct (sq (rn ?_));refine an (rt ?_);cases h;simp [Ret,TB,EN, *]
 replace h:=cM b3 h
 refine cf (sk (an (sq ?_)))
 obtain ⟨x4,h5,h⟩:=bind_some h
 refine rn1 (c30 _ _ h5) ?_
 refine an (sq ?_)
 obtain ⟨x6,h7,h⟩:=bind_some h
 refine rn1 (c31 _ _ _ _ h7) ?_
 refine an (sq ?_)
 obtain ⟨x8,h9,h⟩:=bind_some h
 refine rn1 (c32 _ _ _ _ h9) ?_
 refine an (sq ?_)
 obtain ⟨bj,ai,h⟩:=bind_some h
 refine tN (λs=>s.t 3=vP 3 1 0/\s.t 4=vI x4.2.1/\s.t 6=vP 6 1 0/\s.t 7=vI x6.2/\s.t 45=vB bj/\s.h 3=(1,oB 75 [cI x4.1.Now,cB x4.1.aFW,cI x4.1.aFC,.row 400019 1,.row 500019 1,cI x4.1.aFJ,.row 700019 1,.row 800019 1,.row 900019 1,.row 1000019 1])/\s.h 6=(1,oB 75 [cI x6.1.Now,cB x6.1.aFW,cI x6.1.aFC,.row 400027 1,.row 500027 1,cI x6.1.aFJ,.row 700027 1,.row 800027 1,.row 900027 1,.row 1000027 1])/\s.h 400019=(1,oW 49 24 M.aJ.en x4.1.aA.aE8)/\s.h 400027=(1,oW 49 24 M.aJ.en x6.1.aA.aE8)/\s.h 500019=(1,oW 96 11 M.bC.en x4.1.aFF)/\s.h 500027=(1,oW 96 11 M.bC.en x6.1.aFF)/\s.h 700019=(1,oW 154 4 M.mZ.en x4.1.aFM.aFM)/\s.h 700027=(1,oW 154 4 M.mZ.en x6.1.aFM.aFM)/\s.h 800019=(1,oW 157 3 M.tB.en x4.1.aFB.aFa)/\s.h 800027=(1,oW 157 3 M.tB.en x6.1.aFB.aFa)/\s.h 900019=(1,oW 85 4 M.aFD.en x4.1.aFR)/\s.h 900027=(1,oW 85 4 M.aFD.en x6.1.aFR)/\s.h 1000019=(1,oW 137 5 M.aFG.en x4.1.aFN)/\s.h 1000027=(1,oW 137 5 M.aFG.en x6.1.aFN)/\True) ?_ ?_
 ·replace h:=ai;clear ai;rcases nX (x6.2 != x8.2) with aj | aj;(replace h:=cN aj h;refine rn ?_;cases h;refine jB ⟨?_,?_,?_,?_,?_,?_,?_,?_,?_,?_,?_,?_,?_,?_,?_,?_,?_,?_,?_,trivial⟩<;>(try simp +decide only [F,reduceIte,Nat.reduceAdd,qB,qC,EN, *,-h]));replace h:=cM aj h;obtain ⟨cw,bo,h⟩:=bind_some h;refine rn1 (c27 _ _ _ bo) ?_;cases h;refine jB ⟨?_,?_,?_,?_,?_,?_,?_,?_,?_,?_,?_,?_,?_,?_,?_,?_,?_,?_,?_,trivial⟩<;>(try simp +decide only [F,reduceIte,Nat.reduceAdd,qB,qC,EN, *,-h])
 clear ai
 rintro bl f13
 rcases nX bj with ak | ak
 ·replace h:=cN ak h;refine ct (sq (rn ?_));refine an (rt ?_);cases h;simp [Ret,TB,EN, *]
 replace h:=cM ak h
 refine cf (sk (an (sq ?_)))
 obtain ⟨ah,bq,h⟩:=bind_some h
 refine rn1 (c28 _ _ _ bq) ?_
 refine an (sq ?_)
 obtain ⟨bm,al,h⟩:=bind_some h
 refine tN (λs=>s.h 3=bl.h 3/\s.h 6=bl.h 6/\s.t 3=vP 3 1 0/\s.t 4=vI x4.2.1/\s.t 6=vP 6 1 0/\s.t 7=vI x6.2/\s.t 10=vI ah/\s.t 55=vB bm/\s.h 400019=(1,oW 49 24 M.aJ.en x4.1.aA.aE8)/\s.h 400027=(1,oW 49 24 M.aJ.en x6.1.aA.aE8)/\s.h 500019=(1,oW 96 11 M.bC.en x4.1.aFF)/\s.h 500027=(1,oW 96 11 M.bC.en x6.1.aFF)/\s.h 700019=(1,oW 154 4 M.mZ.en x4.1.aFM.aFM)/\s.h 700027=(1,oW 154 4 M.mZ.en x6.1.aFM.aFM)/\s.h 800019=(1,oW 157 3 M.tB.en x4.1.aFB.aFa)/\s.h 800027=(1,oW 157 3 M.tB.en x6.1.aFB.aFa)/\s.h 900019=(1,oW 85 4 M.aFD.en x4.1.aFR)/\s.h 900027=(1,oW 85 4 M.aFD.en x6.1.aFR)/\s.h 1000019=(1,oW 137 5 M.aFG.en x4.1.aFN)/\s.h 1000027=(1,oW 137 5 M.aFG.en x6.1.aFN)/\True) ?_ ?_
 ·replace h:=al;clear al;rcases nX (decide (ah<0)) with ao | ao;(replace h:=cN ao h;refine rn ?_;cases h;refine jB ⟨?_,?_,?_,?_,?_,?_,?_,?_,?_,?_,?_,?_,?_,?_,?_,?_,?_,?_,?_,?_,trivial⟩<;>(try simp +decide only [F,reduceIte,Nat.reduceAdd,qB,qC,EN, *,-h]));replace h:=cM ao h;obtain ⟨cx,br,h⟩:=bind_some h;refine rn1 (c26 _ _ br) ?_;cases h;refine jB ⟨?_,?_,?_,?_,?_,?_,?_,?_,?_,?_,?_,?_,?_,?_,?_,?_,?_,?_,?_,?_,trivial⟩<;>(try simp +decide only [F,reduceIte,Nat.reduceAdd,qB,qC,EN, *,-h])
 clear al
 rintro bn ⟨f47,f48,f41⟩
 replace f47:=f47.trans f13.2.2.2.2.2.1
 replace f48:=f48.trans f13.2.2.2.2.2.2.1
 rcases nX bm with aq | aq
 ·replace h:=cN aq h;refine ct ?_;obtain ⟨bt,ar,h⟩:=bind_some h;refine tN (λs=>s.t 2=vB bt/\True) ?_ ?_;(replace h:=ar;clear ar;rcases Cf (x6.2==(-1)) with av | av;(replace h:=cM av h;refine rn ?_;cases h;refine jB ⟨?_,trivial⟩<;>(try simp +decide only [F,reduceIte,Nat.reduceAdd,qB,qC,EN, *,-h]));replace h:=cN av h;obtain ⟨cy,bu,h⟩:=bind_some h;refine rn1 (c27 _ _ _ bu) ?_;cases h;refine jB ⟨?_,trivial⟩<;>(try simp +decide only [F,reduceIte,Nat.reduceAdd,qB,qC,EN, *,-h]));clear ar;rintro cz ⟨f68,_⟩;refine rt ?_;cases h;simp [Ret,TB,EN, *]
 replace h:=cM aq h
 refine cf (sk (an (sq (sq (rn ?_)))))
 refine an (bk ?_)
 refine Gn (λm s=>∃v11:Int,s.h 3=bn.h 3/\s.h 6=bn.h 6/\s.t 3=vP 3 1 0/\s.t 4=vI x4.2.1/\s.t 6=vP 6 1 0/\s.t 10=vI ah/\s.t 11=vI v11/\s.h 400019=(1,oW 49 24 M.aJ.en x4.1.aA.aE8)/\s.h 400027=(1,oW 49 24 M.aJ.en x6.1.aA.aE8)/\s.h 500019=(1,oW 96 11 M.bC.en x4.1.aFF)/\s.h 500027=(1,oW 96 11 M.bC.en x6.1.aFF)/\s.h 700019=(1,oW 154 4 M.mZ.en x4.1.aFM.aFM)/\s.h 700027=(1,oW 154 4 M.mZ.en x6.1.aFM.aFM)/\s.h 800019=(1,oW 157 3 M.tB.en x4.1.aFB.aFa)/\s.h 800027=(1,oW 157 3 M.tB.en x6.1.aFB.aFa)/\s.h 900019=(1,oW 85 4 M.aFD.en x4.1.aFR)/\s.h 900027=(1,oW 85 4 M.aFD.en x6.1.aFR)/\s.h 1000019=(1,oW 137 5 M.aFG.en x4.1.aFN)/\s.h 1000027=(1,oW 137 5 M.aFG.en x6.1.aFN)/\fQ x4 x6 ah m v11=some r) fuel ?_ ?_
 ·refine ⟨0,?_,?_,?_,?_,?_,?_,?_,?_,?_,?_,?_,?_,?_,?_,?_,?_,?_,?_,?_,h⟩;all_goals simp +decide only [F,reduceIte,Nat.reduceAdd,qB,qC,EN, *,-h]
 rintro mL1 da ⟨v11,f78,f79,f73,f74,f75,f76,f77,f80,f81,f82,f83,f84,f85,f86,f87,f88,f89,f90,f91,h⟩
 replace f78:=f78.trans f47
 replace f79:=f79.trans f48
 rcases mL1 with _ | mL1
 ·exact absurd h (by simp [fQ])
 simp only [fQ] at h
 refine sq (sq ?_)
 obtain ⟨bw,bx,h⟩:=bind_some h
 obtain ⟨db,df,dg⟩:=tL bx
 refine rn ?_
 refine an ?_
 rcases nX (decide (v11<(List.length bw.aU:Int))) with aw | aw
 ·replace h:=cN aw h;refine ct (sk (an (sq (bk (sq ?_)))));obtain ⟨bz,c9,h⟩:=bind_some h;obtain ⟨ca,cc,cd⟩:=tL c9;obtain ⟨ax,ay,h⟩:=bind_some h;obtain ⟨cg,cj,ck⟩:=tL ay;refine rd mixed ?_;refine an ?_;rcases nX (bz.aE3 != ax.aE3) with aa | aa;(replace h:=cN aa h;refine ct (sq (rn ?_));refine an (rt ?_);cases h;simp [Ret,TB,EN, *]);replace h:=cM aa h;refine cf (sk (ab (an (rn ?_))));refine jB ⟨mL1,qb,(IntKind.i64.wrap (v11+1)),?_,?_,?_,?_,?_,?_,?_,?_,?_,?_,?_,?_,?_,?_,?_,?_,?_,?_,?_,h⟩;all_goals simp +decide only [F,reduceIte,Nat.reduceAdd,qB,qC,EN, *,-h]
 replace h:=cM aw h
 refine cf (xt (DO (DB (Ie (an (sq ?_))))))
 obtain ⟨az,ba,h⟩:=bind_some h
 refine rn1 (c33 _ _ _ _ ba) ?_
 refine an (sq ?_)
 obtain ⟨cl,bd,h⟩:=bind_some h
 obtain ⟨cn,cp,cq⟩:=tL bd
 obtain ⟨bf,bg,h⟩:=bind_some h
 refine rd1 mixed (c34 _ _ _ _ bg) ?_
 refine an ?_
 obtain ⟨bh,ae,h⟩:=bind_some h
 refine tN (λs=>s.t 2=vB bh/\True) ?_ ?_
 ·replace h:=ae;clear ae;rcases nX (decide (az.2<=(IntKind.i64.wrap ((List.length bf:Int)-1)))) with af | af;(replace h:=cN af h;refine rn ?_;cases h;refine jB ⟨?_,trivial⟩<;>(try simp +decide only [F,reduceIte,Nat.reduceAdd,qB,qC,EN, *,-h]));replace h:=cM af h;refine rn ?_;cases h;refine jB ⟨?_,trivial⟩<;>(try simp +decide only [F,reduceIte,Nat.reduceAdd,qB,qC,EN, *,-h])
 clear ae
 rintro cr ⟨f121,_⟩
 refine rt ?_
 cases h
 simp [Ret,TB,EN, *]
end Go.Proofs.YtipmihbgjolaaaaGreat.gen
