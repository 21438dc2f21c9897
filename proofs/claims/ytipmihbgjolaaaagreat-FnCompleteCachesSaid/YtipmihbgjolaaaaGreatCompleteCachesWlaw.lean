/-
  Helper text. No conditions.
-/
import Derived.Test.YtipmihbgjolaaaaGreatCompleteCachesTi
import Derived.Test.YtipmihbgjolaaaaGreatCompleteCachesWimpl6
import Derived.Test.YtipmihbgjolaaaaGreatCompleteCachesWmark
import Derived.Test.YtipmihbgjolaaaaGreatCompleteCachesWspec10
import Derived.Test.YtipmihbgjolaaaaGreatCompleteCachesWspec11
import Derived.Test.YtipmihbgjolaaaaGreatCompleteCachesWspec12
import Derived.Test.YtipmihbgjolaaaaGreatCompleteCachesWspec7
import Derived.Test.YtipmihbgjolaaaaGreatCompleteCachesWspec8
import Derived.Test.YtipmihbgjolaaaaGreatCompleteCachesWspec9
set_option linter.unusedVariables false
set_option linter.unusedSimpArgs false
namespace Go.Proofs.YtipmihbgjolaaaaGreat.gen
open Go Go.Sh
set_option maxRecDepth 20000
set_option maxHeartbeats 4000000
theorem Er (p0 r) (h:nF p0=some r):Sc 6 [aL enB p0] [rB r]:=by
 unfold nF at h
 simp only [EN]
 refine sgn 94 [.tmp 2] Tryz.func6 λbase wd => ?_
 refine sq (rn ?_)
 refine an (sq (sq ?_))
 obtain ⟨x1,h2,h⟩:=bind_some h
 refine rn1 (c7 _ _ h2) ?_
 refine an ?_
 rcases oQ x1 with b3 | b3
 ·replace h:=cT b3 h;refine ct (sq (rn ?_));refine an (rt ?_);cases h;simp [Ret,TB,EN, *]
 replace h:=cR b3 h
 refine cf (sk (an (sq ?_)))
 obtain ⟨x4,h5,h⟩:=bind_some h
 refine rn1 (c35 _ _ h5) ?_
 refine an (sq ?_)
 obtain ⟨x6,h7,h⟩:=bind_some h
 refine rn1 (c36 _ _ _ _ h7) ?_
 refine an (sq (sq ?_))
 obtain ⟨x8,h9,h⟩:=bind_some h
 refine rn1 (c37 _ _ _ _ h9) ?_
 refine an ?_
 rcases oQ (!(x6==x8)) with aa | aa
 ·replace h:=cT aa h;refine ct (sq (rn ?_));refine an (rt ?_);cases h;simp [Ret,TB,EN, *]
 replace h:=cR aa h
 refine cf (sk (an (sq (sq (rn ?_)))))
 refine an (bk ?_)
 refine IB (λm s=>∃v7:Int,s.t 0=vL enB p0/\s.t 3=vP 3 1 0/\s.t 4=vP 4 1 0/\s.t 5=vI x4.2.2/\s.t 6=vB x6/\s.t 7=vI v7/\s.h 3=(1,oB 31 [.row 100019 1])/\s.h 4=(1,oB 85 [cS x4.2.1.Name,cI x4.2.1.aGg,.row 400019 1,cB x4.2.1.aHJ])/\s.h 100019=(1,oW 193 2 M.aGo.en x4.1.aGi)/\s.h 400019=(1,oW 9 1 enS x4.2.1.aG8)/\dV p0 x4 x6 m v7=some r) fuel ?_ ?_
 ·refine ⟨0,?_,?_,?_,?_,?_,?_,?_,?_,?_,?_,h⟩;all_goals simp +decide only [F,reduceIte,Nat.reduceAdd,qB,qC,EN, *,-h]
 rintro mL1 av ⟨v7,f12,f13,f14,f15,f16,f17,f18,f19,f20,f21,h⟩
 rcases mL1 with _ | mL1
 ·exact absurd h (by simp [dV])
 simp only [dV] at h
 refine sq ?_
 obtain ⟨aq,ae,h⟩:=bind_some h
 refine wT (λs=>s.h 4=av.h 4/\s.t 0=vL enB p0/\s.t 3=vP 3 1 0/\s.t 4=vP 4 1 0/\s.t 5=vI x4.2.2/\s.t 6=vB x6/\s.t 7=vI v7/\s.t 40=vB aq/\s.h 3=(1,oB 31 [.row 100019 1])/\s.h 100019=(1,oW 193 2 M.aGo.en x4.1.aGi)/\s.h 400019=(1,oW 9 1 enS x4.2.1.aG8)/\True) ?_ ?_
 ·replace h:=ae;clear ae;rcases oQ (decide (v7<(List.length x4.2.1.aG8:Int))) with af | af;(replace h:=cT af h;refine rn ?_;cases h;refine lJ ⟨?_,?_,?_,?_,?_,?_,?_,?_,?_,?_,?_,trivial⟩<;>(try simp +decide only [F,reduceIte,Nat.reduceAdd,qB,qC,EN, *,-h]));replace h:=cR af h;refine rn ?_;cases h;refine lJ ⟨?_,?_,?_,?_,?_,?_,?_,?_,?_,?_,?_,trivial⟩<;>(try simp +decide only [F,reduceIte,Nat.reduceAdd,qB,qC,EN, *,-h])
 clear ae
 rintro aw ⟨f33,f25⟩
 replace f33:=f33.trans f19
 rcases CH aq with ah | ah
 ·replace h:=cR ah h;refine cf (xt (E2 (EV (J0 (an (sq ?_))))));obtain ⟨bo,ax,h⟩:=bind_some h;refine rn1 (c41 _ _ ax) ?_;refine an (sq ?_);obtain ⟨ay,az,h⟩:=bind_some h;refine rn1 (c42 _ _ _ az) ?_;refine an (sq ?_);obtain ⟨ba,bd,h⟩:=bind_some h;refine rn1 (c43 _ _ _ bd) ?_;refine an ?_;obtain ⟨bf,ai,h⟩:=bind_some h;refine wT (λs=>s.t 2=vB bf/\True) ?_ ?_;(replace h:=ai;clear ai;rcases CH (ay.2==ba.2) with aj | aj;(replace h:=cR aj h;refine rn ?_;cases h;refine lJ ⟨?_,trivial⟩<;>(try simp +decide only [F,reduceIte,Nat.reduceAdd,qB,qC,EN, *,-h]));replace h:=cT aj h;obtain ⟨bq,bg,h⟩:=bind_some h;refine rn1 (c27 _ _ _ bg) ?_;cases h;refine lJ ⟨?_,trivial⟩<;>(try simp +decide only [F,reduceIte,Nat.reduceAdd,qB,qC,EN, *,-h]));clear ai;rintro br ⟨f74,_⟩;refine rt ?_;cases h;simp [Ret,TB,EN, *]
 replace h:=cT ah h
 refine ct (sk (an (sq (bk (sq ?_)))))
 obtain ⟨bt,bh,h⟩:=bind_some h
 obtain ⟨bu,bw,bx⟩:=Az bh
 obtain ⟨bj,bl,h⟩:=bind_some h
 refine rd1 mixed (c38 _ _ _ _ _ _ bl) ?_
 refine an ?_
 obtain ⟨ar,ak,h⟩:=bind_some h
 refine wT (λs=>s.h 4=aw.h 4/\s.t 0=vL enB p0/\s.t 3=vP 3 1 0/\s.t 4=vP 4 1 0/\s.t 5=vI x4.2.2/\s.t 6=vB x6/\s.t 7=vI v7/\s.t 68=vB ar/\s.h 3=(1,oB 31 [.row 100019 1])/\s.h 100019=(1,oW 193 2 M.aGo.en x4.1.aGi)/\s.h 400019=(1,oW 9 1 enS x4.2.1.aG8)/\True) ?_ ?_
 ·replace h:=ak;clear ak;rcases oQ (bj.aHO != 200) with al | al;(replace h:=cT al h;refine rd mixed ?_;cases h;refine lJ ⟨?_,?_,?_,?_,?_,?_,?_,?_,?_,?_,?_,trivial⟩<;>(try simp +decide only [F,reduceIte,Nat.reduceAdd,qB,qC,EN, *,-h]));replace h:=cR al h;obtain ⟨bz,bm,h⟩:=bind_some h;obtain ⟨c9,bn,h⟩:=bind_some h;refine rd2 mixed (c40 _ _ _ _ bm) (c39 _ _ _ bn) ?_;cases h;refine lJ ⟨?_,?_,?_,?_,?_,?_,?_,?_,?_,?_,?_,trivial⟩<;>(try simp +decide only [F,reduceIte,Nat.reduceAdd,qB,qC,EN, *,-h])
 clear ak
 rintro ca ⟨f56,f48⟩
 replace f56:=f56.trans f33
 rcases oQ ar with ao | ao
 ·replace h:=cT ao h;refine ct (sq (rn ?_));refine an (rt ?_);cases h;simp [Ret,TB,EN, *]
 replace h:=cR ao h
 refine cf (sk (ab (an (rn ?_))))
 refine lJ ⟨mL1,qb,(IntKind.i64.wrap (v7+1)),?_,?_,?_,?_,?_,?_,?_,?_,?_,?_,h⟩
 all_goals simp +decide only [F,reduceIte,Nat.reduceAdd,qB,qC,EN, *,-h]
end Go.Proofs.YtipmihbgjolaaaaGreat.gen
