/-
  Helper text. No conditions.
-/
import Derived.Test.YtbpbocchokbggaaGreatUpdatesWimpl7
import Derived.Test.YtbpbocchokbggaaGreatUpdatesWmark
import Derived.Test.YtbpbocchokbggaaGreatUpdatesWspec10
set_option linter.all false
namespace Go.Proofs.YtbpbocchokbggaaGreat.gen
open Go Go.Sh
set_option maxRecDepth 20000
set_option maxHeartbeats 4000000
theorem Lx(p0 r)(h:Au p0=some r):Sc 5 [aL enB p0] [rB r]:=by
 unfold Au at h
 simp only[EN]
 refine sgn 136 [.tmp 2] Tryz.func5 λbase wd => ?_
 refine sq (rn ?_)
 refine an (sq (sq ?_))
 obtain⟨x1,h2,h⟩:=bind_some h
 refine rn1 (c17 _ _ h2) ?_
 refine an ?_
 rcases mT x1 with b3 | b3
 ·replace h:=bZ b3 h;refine ct (sq (rn ?_));refine an (rt ?_);cases h;simp[Ret,TB,EN, *]
 replace h:=bY b3 h
 refine cf (sk (an (sq ?_)))
 obtain⟨x4,h5,h⟩:=bind_some h
 refine rn1 (c27 _ _ h5) ?_
 refine an (sq ?_)
 obtain⟨x6,h7,h⟩:=bind_some h
 refine rn1 (c28 _ _ _ _ h7) ?_
 refine an (sq ?_)
 obtain⟨x8,h9,h⟩:=bind_some h
 refine rn1 (c29.1 _ _ _ _ h9) ?_
 refine an (sq ?_)
 obtain⟨bz,U,h⟩:=bind_some h
 refine wJ (λs=>s.t 3=vP 3 1 0/\s.t 4=vS x4.2.1/\s.t 5=vS x4.2.2/\s.t 6=vP 6 1 0/\s.t 7=vB x6.2/\s.t 47=vB bz/\s.h 3=(1,oB 58 [cI x4.1.Now,cB x4.1.aJV,cI x4.1.aJA,.row 400021 1,.row 500021 1,cI x4.1.aJG,.row 700021 1,.row 800021 1,.row 900021 1,.row 1000021 1])/\s.h 6=(1,oB 58 [cI x6.1.Now,cB x6.1.aJV,cI x6.1.aJA,.row 400029 1,.row 500029 1,cI x6.1.aJG,.row 700029 1,.row 800029 1,.row 900029 1,.row 1000029 1])/\s.h 400021=(1,oW 126 24 M.aI3.en x4.1.aA.aI4)/\s.h 400029=(1,oW 126 24 M.aI3.en x6.1.aA.aI4)/\s.h 500021=(1,oW 67 11 M.bG.en x4.1.aJI)/\s.h 500029=(1,oW 67 11 M.bG.en x6.1.aJI)/\s.h 700021=(1,oW 196 4 M.mV.en x4.1.aJJ.aJJ)/\s.h 700029=(1,oW 196 4 M.mV.en x6.1.aJJ.aJJ)/\s.h 800021=(1,oW 199 3 M.AP.en x4.1.aJD.aJe)/\s.h 800029=(1,oW 199 3 M.AP.en x6.1.aJD.aJe)/\s.h 900021=(1,oW 92 4 M.aI7.en x4.1.aJL)/\s.h 900029=(1,oW 92 4 M.aI7.en x6.1.aJL)/\s.h 1000021=(1,oW 205 5 M.aJC.en x4.1.aJK)/\s.h 1000029=(1,oW 205 5 M.aJC.en x6.1.aJK)/\True) ?_ ?_
 ·replace h:=U;clear U;rcases mT (!(x6.2==x8.2))with bh | bh;(replace h:=bZ bh h;refine rn ?_;cases h;refine iU ⟨?_,?_,?_,?_,?_,?_,?_,?_,?_,?_,?_,?_,?_,?_,?_,?_,?_,?_,?_,?_,trivial⟩<;>(try simp +decide only[F,reduceIte,Nat.reduceAdd,qB,qC,EN, *,-h]));replace h:=bY bh h;obtain⟨dj,cg,h⟩:=bind_some h;refine rn1 (c21 _ _ _ cg) ?_;cases h;refine iU ⟨?_,?_,?_,?_,?_,?_,?_,?_,?_,?_,?_,?_,?_,?_,?_,?_,?_,?_,?_,?_,trivial⟩<;>(try simp +decide only[F,reduceIte,Nat.reduceAdd,qB,qC,EN, *,-h])
 clear U
 rintro cj f13
 rcases mT bz with bj | bj
 ·replace h:=bZ bj h;refine ct (sq (rn ?_));refine an (rt ?_);cases h;simp[Ret,TB,EN, *]
 replace h:=bY bj h
 refine cf (sk (an (sq ?_)))
 obtain⟨ck,cl,h⟩:=bind_some h
 refine rn1 (c30 _ _ _ _ cl) ?_
 refine an (sq ?_)
 obtain⟨c9,bl,h⟩:=bind_some h
 refine wJ (λs=>s.h 6=cj.h 6/\s.t 4=vS x4.2.1/\s.t 5=vS x4.2.2/\s.t 6=vP 6 1 0/\s.t 76=vB c9/\s.h 400029=(1,oW 126 24 M.aI3.en x6.1.aA.aI4)/\s.h 500029=(1,oW 67 11 M.bG.en x6.1.aJI)/\s.h 700029=(1,oW 196 4 M.mV.en x6.1.aJJ.aJJ)/\s.h 800029=(1,oW 199 3 M.AP.en x6.1.aJD.aJe)/\s.h 900029=(1,oW 92 4 M.aI7.en x6.1.aJL)/\s.h 1000029=(1,oW 205 5 M.aJC.en x6.1.aJK)/\True) ?_ ?_
 ·replace h:=bl;clear bl;rcases C1 x6.2 with bm | bm;(replace h:=bY bm h;refine rd mixed ?_;cases h;refine iU ⟨?_,?_,?_,?_,?_,?_,?_,?_,?_,?_,?_,trivial⟩<;>(try simp +decide only[F,reduceIte,Nat.reduceAdd,qB,qC,EN, *,-h]));replace h:=bZ bm h;rcases mT ((List.length ck:Int) != 3)with bn | bn;(replace h:=bZ bn h;refine rd mixed ?_;cases h;refine iU ⟨?_,?_,?_,?_,?_,?_,?_,?_,?_,?_,?_,trivial⟩<;>(try simp +decide only[F,reduceIte,Nat.reduceAdd,qB,qC,EN, *,-h]));replace h:=bY bn h;obtain⟨cn,cp,h⟩:=bind_some h;obtain⟨dk,dm,dn⟩:=wM cp;obtain⟨dq,ca,h⟩:=bind_some h;obtain⟨cq,cr,h⟩:=bind_some h;obtain⟨dr,du,dw⟩:=wM cr;rcases mT (cn != cq.aI0)with bo | bo;(replace h:=bZ bo h;refine rd1 mixed (c31.1 _ _ ca) ?_;cases h;refine iU ⟨?_,?_,?_,?_,?_,?_,?_,?_,?_,?_,?_,trivial⟩<;>(try simp +decide only[F,reduceIte,Nat.reduceAdd,qB,qC,EN, *,-h]));replace h:=bY bo h;obtain⟨dx,cw,h⟩:=bind_some h;obtain⟨dy,dz,ef⟩:=wM cw;refine rd1 mixed (c31.1 _ _ ca) ?_;cases h;refine iU ⟨?_,?_,?_,?_,?_,?_,?_,?_,?_,?_,?_,trivial⟩<;>(try simp +decide only[F,reduceIte,Nat.reduceAdd,qB,qC,EN, *,-h])
 clear bl
 rintro aa ⟨f46,f42⟩
 replace f46:=f46.trans f13.2.2.2.2.2.2.2.1
 rcases mT c9 with bq | bq
 ·replace h:=bZ bq h;refine ct (sq (rn ?_));refine an (rt ?_);cases h;simp[Ret,TB,EN, *]
 replace h:=bY bq h
 refine cf (sk (an (sq ?_)))
 obtain⟨j,cx,h⟩:=bind_some h
 refine rn1 (c32 _ _ _ _ cx) ?_
 refine an (sq ?_)
 obtain⟨cy,cz,h⟩:=bind_some h
 refine rn1 (c33.1 _ _ _ _ cz) ?_
 refine an (sq ?_)
 obtain⟨cc,br,h⟩:=bind_some h
 refine wJ (λs=>s.h 6=aa.h 6/\s.t 4=vS x4.2.1/\s.t 5=vS x4.2.2/\s.t 6=vP 6 1 0/\s.t 11=vP 11 ((aa.h 11).1+1) 0/\s.t 12=vB j.2/\s.t 99=vB cc/\s.h 11=((aa.h 11).1+1,oB 58 [cI j.1.Now,cB j.1.aJV,cI j.1.aJA,.row 400081 ((aa.h 400081).1+1),.row 500081 ((aa.h 500081).1+1),cI j.1.aJG,.row 700081 ((aa.h 700081).1+1),.row 800081 ((aa.h 800081).1+1),.row 900081 ((aa.h 900081).1+1),.row 1000081 ((aa.h 1000081).1+1)])/\s.h 400029=(1,oW 126 24 M.aI3.en x6.1.aA.aI4)/\s.h 400081=((aa.h 400081).1+1,oW 126 24 M.aI3.en j.1.aA.aI4)/\s.h 500029=(1,oW 67 11 M.bG.en x6.1.aJI)/\s.h 500081=((aa.h 500081).1+1,oW 67 11 M.bG.en j.1.aJI)/\s.h 700029=(1,oW 196 4 M.mV.en x6.1.aJJ.aJJ)/\s.h 700081=((aa.h 700081).1+1,oW 196 4 M.mV.en j.1.aJJ.aJJ)/\s.h 800029=(1,oW 199 3 M.AP.en x6.1.aJD.aJe)/\s.h 800081=((aa.h 800081).1+1,oW 199 3 M.AP.en j.1.aJD.aJe)/\s.h 900029=(1,oW 92 4 M.aI7.en x6.1.aJL)/\s.h 900081=((aa.h 900081).1+1,oW 92 4 M.aI7.en j.1.aJL)/\s.h 1000029=(1,oW 205 5 M.aJC.en x6.1.aJK)/\s.h 1000081=((aa.h 1000081).1+1,oW 205 5 M.aJC.en j.1.aJK)/\True) ?_ ?_
 ·replace h:=br;clear br;rcases mT (!(j.2==cy.2))with af | af;(replace h:=bZ af h;refine rn ?_;cases h;refine iU ⟨?_,?_,?_,?_,?_,?_,?_,?_,?_,?_,?_,?_,?_,?_,?_,?_,?_,?_,?_,?_,trivial⟩<;>(try simp +decide only[F,reduceIte,Nat.reduceAdd,qB,qC,EN, *,-h]));replace h:=bY af h;obtain⟨da,bt,h⟩:=bind_some h;refine rn1 (c21 _ _ _ bt) ?_;cases h;refine iU ⟨?_,?_,?_,?_,?_,?_,?_,?_,?_,?_,?_,?_,?_,?_,?_,?_,?_,?_,?_,?_,trivial⟩<;>(try simp +decide only[F,reduceIte,Nat.reduceAdd,qB,qC,EN, *,-h])
 clear br
 rintro cd ⟨f87,f81⟩
 replace f87:=f87.trans f46
 rcases mT cc with ah | ah
 ·replace h:=bZ ah h;refine ct (sq (rn ?_));refine an (rt ?_);cases h;simp[Ret,TB,EN, *]
 replace h:=bY ah h
 refine cf (sk (an (sq (sq (rn ?_)))))
 refine an (bk ?_)
 refine JX (λm s=>∃C:Int,s.h 6=cd.h 6/\s.h 11=cd.h 11/\s.t 4=vS x4.2.1/\s.t 5=vS x4.2.2/\s.t 6=vP 6 1 0/\s.t 11=vP 11 ((aa.h 11).1+1) 0/\s.t 12=vB j.2/\s.t 15=vI C/\s.h 400029=(1,oW 126 24 M.aI3.en x6.1.aA.aI4)/\s.h 400081=((aa.h 400081).1+1,oW 126 24 M.aI3.en j.1.aA.aI4)/\s.h 500029=(1,oW 67 11 M.bG.en x6.1.aJI)/\s.h 500081=((aa.h 500081).1+1,oW 67 11 M.bG.en j.1.aJI)/\s.h 700029=(1,oW 196 4 M.mV.en x6.1.aJJ.aJJ)/\s.h 700081=((aa.h 700081).1+1,oW 196 4 M.mV.en j.1.aJJ.aJJ)/\s.h 800029=(1,oW 199 3 M.AP.en x6.1.aJD.aJe)/\s.h 800081=((aa.h 800081).1+1,oW 199 3 M.AP.en j.1.aJD.aJe)/\s.h 900029=(1,oW 92 4 M.aI7.en x6.1.aJL)/\s.h 900081=((aa.h 900081).1+1,oW 92 4 M.aI7.en j.1.aJL)/\s.h 1000029=(1,oW 205 5 M.aJC.en x6.1.aJK)/\s.h 1000081=((aa.h 1000081).1+1,oW 205 5 M.aJC.en j.1.aJK)/\mG x4 x6 j m C=some r) fuel ?_ ?_
 ·refine⟨0,?_,?_,?_,?_,?_,?_,?_,?_,?_,?_,?_,?_,?_,?_,?_,?_,?_,?_,?_,?_,h⟩;all_goals simp +decide only[F,reduceIte,Nat.reduceAdd,qB,qC,EN, *,-h]
 rintro mL1 ax ⟨C,f112,f113,f106,f107,f108,f109,f110,f111,f114,f115,f116,f117,f118,f119,f120,f121,f122,f123,f124,f125,h⟩
 replace f112:=f112.trans f87
 replace f113:=f113.trans f81.2.2.2.2.2.2.1
 rcases mL1 with _ | mL1
 ·exact absurd h (by simp[mG])
 simp only[mG]at h
 refine sq ?_
 obtain⟨ay,I,h⟩:=bind_some h
 refine wJ (λs=>s.h 6=ax.h 6/\s.h 11=ax.h 11/\s.t 4=vS x4.2.1/\s.t 5=vS x4.2.2/\s.t 6=vP 6 1 0/\s.t 11=vP 11 ((aa.h 11).1+1) 0/\s.t 12=vB j.2/\s.t 15=vI C/\s.t 107=vB ay/\s.h 400029=(1,oW 126 24 M.aI3.en x6.1.aA.aI4)/\s.h 400081=((aa.h 400081).1+1,oW 126 24 M.aI3.en j.1.aA.aI4)/\s.h 500029=(1,oW 67 11 M.bG.en x6.1.aJI)/\s.h 500081=((aa.h 500081).1+1,oW 67 11 M.bG.en j.1.aJI)/\s.h 700029=(1,oW 196 4 M.mV.en x6.1.aJJ.aJJ)/\s.h 700081=((aa.h 700081).1+1,oW 196 4 M.mV.en j.1.aJJ.aJJ)/\s.h 800029=(1,oW 199 3 M.AP.en x6.1.aJD.aJe)/\s.h 800081=((aa.h 800081).1+1,oW 199 3 M.AP.en j.1.aJD.aJe)/\s.h 900029=(1,oW 92 4 M.aI7.en x6.1.aJL)/\s.h 900081=((aa.h 900081).1+1,oW 92 4 M.aI7.en j.1.aJL)/\s.h 1000029=(1,oW 205 5 M.aJC.en x6.1.aJK)/\s.h 1000081=((aa.h 1000081).1+1,oW 205 5 M.aJC.en j.1.aJK)/\True) ?_ ?_
 ·replace h:=I;clear I;rcases mT (decide (C<(List.length x6.1.aJI:Int)))with ak | ak;(replace h:=bZ ak h;refine rn ?_;cases h;refine iU ⟨?_,?_,?_,?_,?_,?_,?_,?_,?_,?_,?_,?_,?_,?_,?_,?_,?_,?_,?_,?_,?_,trivial⟩<;>(try simp +decide only[F,reduceIte,Nat.reduceAdd,qB,qC,EN, *,-h]));replace h:=bY ak h;refine rn ?_;cases h;refine iU ⟨?_,?_,?_,?_,?_,?_,?_,?_,?_,?_,?_,?_,?_,?_,?_,?_,?_,?_,?_,?_,?_,trivial⟩<;>(try simp +decide only[F,reduceIte,Nat.reduceAdd,qB,qC,EN, *,-h])
 clear I
 rintro az ⟨f136,f137,f129⟩
 replace f136:=f136.trans f112
 replace f137:=f137.trans f113
 rcases C1 ay with al | al
 ·replace h:=bY al h;refine cf (xt (Gn (Gg (Lk (an (sq (rn ?_)))))));refine an (rt ?_);cases h;simp[Ret,TB,EN, *]
 replace h:=bZ al h
 refine ct (sk (an (sq (bk (sq ?_)))))
 obtain⟨ba,bu,h⟩:=bind_some h
 obtain⟨db,df,dg⟩:=wM bu
 refine rn ?_
 refine an ?_
 obtain⟨bd,J,h⟩:=bind_some h
 refine wJ (λs=>s.h 6=az.h 6/\s.h 11=az.h 11/\s.t 4=vS x4.2.1/\s.t 5=vS x4.2.2/\s.t 6=vP 6 1 0/\s.t 11=vP 11 ((aa.h 11).1+1) 0/\s.t 12=vB j.2/\s.t 15=vI C/\s.t 135=vB bd/\s.h 400029=(1,oW 126 24 M.aI3.en x6.1.aA.aI4)/\s.h 400081=((aa.h 400081).1+1,oW 126 24 M.aI3.en j.1.aA.aI4)/\s.h 500029=(1,oW 67 11 M.bG.en x6.1.aJI)/\s.h 500081=((aa.h 500081).1+1,oW 67 11 M.bG.en j.1.aJI)/\s.h 700029=(1,oW 196 4 M.mV.en x6.1.aJJ.aJJ)/\s.h 700081=((aa.h 700081).1+1,oW 196 4 M.mV.en j.1.aJJ.aJJ)/\s.h 800029=(1,oW 199 3 M.AP.en x6.1.aJD.aJe)/\s.h 800081=((aa.h 800081).1+1,oW 199 3 M.AP.en j.1.aJD.aJe)/\s.h 900029=(1,oW 92 4 M.aI7.en x6.1.aJL)/\s.h 900081=((aa.h 900081).1+1,oW 92 4 M.aI7.en j.1.aJL)/\s.h 1000029=(1,oW 205 5 M.aJC.en x6.1.aJK)/\s.h 1000081=((aa.h 1000081).1+1,oW 205 5 M.aJC.en j.1.aJK)/\True) ?_ ?_
 ·replace h:=J;clear J;rcases C1 (ba.aI7.toList==x4.2.1.toList)with aq | aq;(replace h:=bY aq h;refine rn ?_;cases h;refine iU ⟨?_,?_,?_,?_,?_,?_,?_,?_,?_,?_,?_,?_,?_,?_,?_,?_,?_,?_,?_,?_,?_,trivial⟩<;>(try simp +decide only[F,reduceIte,Nat.reduceAdd,qB,qC,EN, *,-h]));replace h:=bZ aq h;rcases C1 (ba.Top.toList==x4.2.2.toList)with ar | ar;(replace h:=bY ar h;refine rn ?_;cases h;refine iU ⟨?_,?_,?_,?_,?_,?_,?_,?_,?_,?_,?_,?_,?_,?_,?_,?_,?_,?_,?_,?_,?_,trivial⟩<;>(try simp +decide only[F,reduceIte,Nat.reduceAdd,qB,qC,EN, *,-h]));replace h:=bZ ar h;obtain⟨bw,bf,h⟩:=bind_some h;rcases C1 bw with av | av;(replace h:=bY av h;refine rn1 (c34 _ _ _ _ bf) ?_;cases h;refine iU ⟨?_,?_,?_,?_,?_,?_,?_,?_,?_,?_,?_,?_,?_,?_,?_,?_,?_,?_,?_,?_,?_,trivial⟩<;>(try simp +decide only[F,reduceIte,Nat.reduceAdd,qB,qC,EN, *,-h]));replace h:=bZ av h;obtain⟨dh,bx,h⟩:=bind_some h;refine rn2 (c34 _ _ _ _ bf) (c34 _ _ _ _ bx) ?_;cases h;refine iU ⟨?_,?_,?_,?_,?_,?_,?_,?_,?_,?_,?_,?_,?_,?_,?_,?_,?_,?_,?_,?_,?_,trivial⟩<;>(try simp +decide only[F,reduceIte,Nat.reduceAdd,qB,qC,EN, *,-h])
 clear J
 rintro di ⟨f167,f168,f160⟩
 replace f167:=f167.trans f136
 replace f168:=f168.trans f137
 rcases mT bd with aw | aw
 ·replace h:=bZ aw h;refine ct (sq (rn ?_));refine an (rt ?_);cases h;simp[Ret,TB,EN, *]
 replace h:=bY aw h
 refine cf (sk (ab (an (rn ?_))))
 refine iU ⟨mL1,jB,IntKind.i64.wrap (C+1),?_,?_,?_,?_,?_,?_,?_,?_,?_,?_,?_,?_,?_,?_,?_,?_,?_,?_,?_,?_,h⟩
 all_goals simp +decide only[F,reduceIte,Nat.reduceAdd,qB,qC,EN, *,-h]
