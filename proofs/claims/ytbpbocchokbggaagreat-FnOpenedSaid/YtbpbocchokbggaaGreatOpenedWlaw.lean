/-
  Helper text. No conditions.
-/
import Derived.Test.YtbpbocchokbggaaGreatOpenedWimpl6
import Derived.Test.YtbpbocchokbggaaGreatOpenedWmark
import Derived.Test.YtbpbocchokbggaaGreatOpenedWspec9
set_option linter.all false
namespace Go.Proofs.YtbpbocchokbggaaGreat.gen
open Go Go.Sh
set_option maxRecDepth 20000
set_option maxHeartbeats 4000000
theorem Le(p0 r)(h:AM p0=some r):Sc 4 [aL enB p0] [rB r]:=by
 unfold AM at h
 simp only[EN]
 refine sgn 157 [.tmp 2] Tryz.func4 λbase wd => ?_
 refine sq (rn ?_)
 refine an (sq (sq ?_))
 obtain⟨x1,h2,h⟩:=bind_some h
 refine rn1 (c17 _ _ h2) ?_
 refine an ?_
 rcases dP x1 with b3 | b3
 ·replace h:=bG b3 h;refine ct (sq (rn ?_));refine an (rt ?_);cases h;simp[Ret,TB,EN, *]
 replace h:=bF b3 h
 refine cf (sk (an (sq ?_)))
 obtain⟨x4,h5,h⟩:=bind_some h
 refine rn1 (c18 _ _ h5) ?_
 refine an (sq ?_)
 obtain⟨x6,h7,h⟩:=bind_some h
 refine rn1 (c19 _ _ _ _ _ h7) ?_
 refine an (sq ?_)
 obtain⟨x8,h9,h⟩:=bind_some h
 refine rn1 (c20.1 _ _ _ _ _ h9) ?_
 refine an (sq ?_)
 obtain⟨bl,j,h⟩:=bind_some h
 refine sD (λs=>s.t 3=vP 3 1 0/\s.t 4=vS x4.2.1/\s.t 5=vS x4.2.2.1/\s.t 7=vP 7 1 0/\s.t 8=vI x6.2.1/\s.t 9=vB x6.2.2/\s.t 58=vB bl/\s.h 3=(1,oB 58 [cI x4.1.Now,cB x4.1.aHc,cI x4.1.aHI,.row 400022 1,.row 500022 1,cI x4.1.aHK,.row 700022 1,.row 800022 1,.row 900022 1,.row 1000022 1])/\s.h 7=(1,oB 58 [cI x6.1.Now,cB x6.1.aHc,cI x6.1.aHI,.row 400032 1,.row 500032 1,cI x6.1.aHK,.row 700032 1,.row 800032 1,.row 900032 1,.row 1000032 1])/\s.h 400022=(1,oW 126 24 M.aHD.en x4.1.aA.aHE)/\s.h 400032=(1,oW 126 24 M.aHD.en x6.1.aA.aHE)/\s.h 500022=(1,oW 67 11 M.bC.en x4.1.aHQ)/\s.h 500032=(1,oW 67 11 M.bC.en x6.1.aHQ)/\s.h 700022=(1,oW 196 4 M.dO.en x4.1.aHR.aHR)/\s.h 700032=(1,oW 196 4 M.dO.en x6.1.aHR.aHR)/\s.h 800022=(1,oW 199 3 M.mI.en x4.1.aHN.aHn)/\s.h 800032=(1,oW 199 3 M.mI.en x6.1.aHN.aHn)/\s.h 900022=(1,oW 92 4 M.aHL.en x4.1.aHZ)/\s.h 900032=(1,oW 92 4 M.aHL.en x6.1.aHZ)/\s.h 1000022=(1,oW 205 5 M.aHO.en x4.1.aHT)/\s.h 1000032=(1,oW 205 5 M.aHO.en x6.1.aHT)/\True) ?_ ?_
 ·replace h:=j;clear j;rcases dP (!(x6.2.2==x8.2.2))with aq | aq;(replace h:=bG aq h;refine rn ?_;cases h;refine dV ⟨?_,?_,?_,?_,?_,?_,?_,?_,?_,?_,?_,?_,?_,?_,?_,?_,?_,?_,?_,?_,?_,trivial⟩<;>(try simp +decide only[F,reduceIte,Nat.reduceAdd,qB,qC,EN, *,-h]));replace h:=bF aq h;rcases dP (x6.2.1 != x8.2.1)with ar | ar;(replace h:=bG ar h;refine rn ?_;cases h;refine dV ⟨?_,?_,?_,?_,?_,?_,?_,?_,?_,?_,?_,?_,?_,?_,?_,?_,?_,?_,?_,?_,?_,trivial⟩<;>(try simp +decide only[F,reduceIte,Nat.reduceAdd,qB,qC,EN, *,-h]));replace h:=bF ar h;obtain⟨cq,br,h⟩:=bind_some h;refine rn1 (c21 _ _ _ br) ?_;cases h;refine dV ⟨?_,?_,?_,?_,?_,?_,?_,?_,?_,?_,?_,?_,?_,?_,?_,?_,?_,?_,?_,?_,?_,trivial⟩<;>(try simp +decide only[F,reduceIte,Nat.reduceAdd,qB,qC,EN, *,-h])
 clear j
 rintro bm f13
 rcases dP bl with ae | ae
 ·replace h:=bG ae h;refine ct (sq (rn ?_));refine an (rt ?_);cases h;simp[Ret,TB,EN, *]
 replace h:=bF ae h
 refine cf (sk (an (sq (sq (rn ?_)))))
 refine an ?_
 rcases dP (!x6.2.2)with af | af
 ·replace h:=bG af h;refine ct (sq ?_);obtain⟨cr,bt,h⟩:=bind_some h;refine rn1 (c21 _ _ _ bt) ?_;refine an (rt ?_);cases h;simp[Ret,TB,EN, *]
 replace h:=bF af h
 refine cf (sk (an (sq ?_)))
 obtain⟨bn,bu,h⟩:=bind_some h
 refine rn1 (c22 _ _ _ bu) ?_
 refine an (sq ?_)
 obtain⟨bo,C,h⟩:=bind_some h
 refine sD (λs=>s.h 3=bm.h 3/\s.h 7=bm.h 7/\s.t 3=vP 3 1 0/\s.t 4=vS x4.2.1/\s.t 5=vS x4.2.2.1/\s.t 7=vP 7 1 0/\s.t 8=vI x6.2.1/\s.t 114=vB bo/\s.h 400022=(1,oW 126 24 M.aHD.en x4.1.aA.aHE)/\s.h 400032=(1,oW 126 24 M.aHD.en x6.1.aA.aHE)/\s.h 500022=(1,oW 67 11 M.bC.en x4.1.aHQ)/\s.h 500032=(1,oW 67 11 M.bC.en x6.1.aHQ)/\s.h 700022=(1,oW 196 4 M.dO.en x4.1.aHR.aHR)/\s.h 700032=(1,oW 196 4 M.dO.en x6.1.aHR.aHR)/\s.h 800022=(1,oW 199 3 M.mI.en x4.1.aHN.aHn)/\s.h 800032=(1,oW 199 3 M.mI.en x6.1.aHN.aHn)/\s.h 900022=(1,oW 92 4 M.aHL.en x4.1.aHZ)/\s.h 900032=(1,oW 92 4 M.aHL.en x6.1.aHZ)/\s.h 1000022=(1,oW 205 5 M.aHO.en x4.1.aHT)/\s.h 1000032=(1,oW 205 5 M.aHO.en x6.1.aHT)/\True) ?_ ?_
 ·replace h:=C;clear C;rcases dP (decide (bn<0))with aw | aw;(replace h:=bG aw h;refine rd mixed ?_;cases h;refine dV ⟨?_,?_,?_,?_,?_,?_,?_,?_,?_,?_,?_,?_,?_,?_,?_,?_,?_,?_,?_,?_,trivial⟩<;>(try simp +decide only[F,reduceIte,Nat.reduceAdd,qB,qC,EN, *,-h]));replace h:=bF aw h;rcases dP (decide (bn>=(List.length x6.1.aHQ:Int)))with ax | ax;(replace h:=bG ax h;refine rd mixed ?_;cases h;refine dV ⟨?_,?_,?_,?_,?_,?_,?_,?_,?_,?_,?_,?_,?_,?_,?_,?_,?_,?_,?_,?_,trivial⟩<;>(try simp +decide only[F,reduceIte,Nat.reduceAdd,qB,qC,EN, *,-h]));replace h:=bF ax h;obtain⟨bq,bw,h⟩:=bind_some h;obtain⟨cw,cx,cy⟩:=rR bw;rcases dP ((List.length bq.aT:Int) != 1)with ay | ay;(replace h:=bG ay h;refine rd mixed ?_;cases h;refine dV ⟨?_,?_,?_,?_,?_,?_,?_,?_,?_,?_,?_,?_,?_,?_,?_,?_,?_,?_,?_,?_,trivial⟩<;>(try simp +decide only[F,reduceIte,Nat.reduceAdd,qB,qC,EN, *,-h]));replace h:=bF ay h;obtain⟨bx,bz,h⟩:=bind_some h;obtain⟨cz,da,db⟩:=rR bz;rcases dP (bx.aHA != bq.aHA)with az | az;(replace h:=bG az h;refine rd mixed ?_;cases h;refine dV ⟨?_,?_,?_,?_,?_,?_,?_,?_,?_,?_,?_,?_,?_,?_,?_,?_,?_,?_,?_,?_,trivial⟩<;>(try simp +decide only[F,reduceIte,Nat.reduceAdd,qB,qC,EN, *,-h]));replace h:=bF az h;rcases dP (x6.2.1 != x4.1.aHK)with ba | ba;(replace h:=bG ba h;refine rd mixed ?_;cases h;refine dV ⟨?_,?_,?_,?_,?_,?_,?_,?_,?_,?_,?_,?_,?_,?_,?_,?_,?_,?_,?_,?_,trivial⟩<;>(try simp +decide only[F,reduceIte,Nat.reduceAdd,qB,qC,EN, *,-h]));replace h:=bF ba h;obtain⟨df,c9,h⟩:=bind_some h;refine rd1 mixed (c23.1 _ _ c9) ?_;cases h;refine dV ⟨?_,?_,?_,?_,?_,?_,?_,?_,?_,?_,?_,?_,?_,?_,?_,?_,?_,?_,?_,?_,trivial⟩<;>(try simp +decide only[F,reduceIte,Nat.reduceAdd,qB,qC,EN, *,-h])
 clear C
 rintro dg ⟨f53,f54,f47⟩
 replace f53:=f53.trans f13.2.2.2.2.2.2.2.1
 replace f54:=f54.trans f13.2.2.2.2.2.2.2.2.1
 rcases dP bo with ah | ah
 ·replace h:=bG ah h;refine ct (sq (rn ?_));refine an (rt ?_);cases h;simp[Ret,TB,EN, *]
 replace h:=bF ah h
 refine cf (sk (an (sq ?_)))
 obtain⟨ca,cd,h⟩:=bind_some h
 refine rn1 (c24 _ _ _ cd) ?_
 refine an (sq ?_)
 obtain⟨cg,cj,h⟩:=bind_some h
 refine rn1 (c24 _ _ _ cj) ?_
 refine an ?_
 obtain⟨ck,I,h⟩:=bind_some h
 refine sD (λs=>s.t 2=vB ck/\True) ?_ ?_
 ·replace h:=I
  clear I
  rcases Cw ca.2 with ai | ai
  ·replace h:=bF ai h;refine rd mixed ?_;cases h;refine dV ⟨?_,trivial⟩<;>(try simp +decide only[F,reduceIte,Nat.reduceAdd,qB,qC,EN, *,-h])
  replace h:=bG ai h
  rcases Cw (!cg.2)with aj | aj
  ·replace h:=bF aj h;refine rd mixed ?_;cases h;refine dV ⟨?_,trivial⟩<;>(try simp +decide only[F,reduceIte,Nat.reduceAdd,qB,qC,EN, *,-h])
  replace h:=bG aj h
  obtain⟨cl,J,h⟩:=bind_some h
  obtain⟨cn,U,h⟩:=bind_some h
  rcases Cw ((List.length cl:Int)==(List.length cn:Int))with ak | ak
  ·replace h:=bF ak h;refine rd2 mixed (c25 _ _ _ _ J) (c25 _ _ _ _ U) ?_;cases h;refine dV ⟨?_,trivial⟩<;>(try simp +decide only[F,reduceIte,Nat.reduceAdd,qB,qC,EN, *,-h])
  replace h:=bG ak h
  obtain⟨bh,al,h⟩:=bind_some h
  rcases Cw (decide (bh>=0))with aa | aa
  ·replace h:=bF aa h;refine rd3 mixed (c25 _ _ _ _ J) (c25 _ _ _ _ U) (c26.1 _ _ _ _ al) ?_;cases h;refine dV ⟨?_,trivial⟩<;>(try simp +decide only[F,reduceIte,Nat.reduceAdd,qB,qC,EN, *,-h])
  replace h:=bG aa h
  obtain⟨cp,bj,h⟩:=bind_some h
  apply BO mixed
  ·simp +decide only[E,reduceIte,Nat.reduceAdd,Nat.reduceMul,qB,qC,L,RL,O2,BM,EN,b3,ae,af,f53,f54,f47,ah,ai,aj,ak,aa]
   refine⟨_,c25 _ _ _ _ J,?_⟩
   try simp +decide only[E,reduceIte,Nat.reduceAdd,Nat.reduceMul,qB,qC,L,RL,O2,BM,EN,b3,ae,af,f53,f54,f47,ah,ai,aj,ak,aa]
   refine⟨_,c25 _ _ _ _ U,?_⟩
   try simp +decide only[E,reduceIte,Nat.reduceAdd,Nat.reduceMul,qB,qC,L,RL,O2,BM,EN,b3,ae,af,f53,f54,f47,ah,ai,aj,ak,aa]
   refine⟨_,c26.1 _ _ _ _ al,?_⟩
   try simp +decide only[E,reduceIte,Nat.reduceAdd,Nat.reduceMul,qB,qC,L,RL,O2,BM,EN,b3,ae,af,f53,f54,f47,ah,ai,aj,ak,aa]
   refine⟨_,c23.1 _ _ bj,?_⟩
   try simp +decide only[E,reduceIte,Nat.reduceAdd,Nat.reduceMul,qB,qC,L,RL,O2,BM,EN,b3,ae,af,f53,f54,f47,ah,ai,aj,ak,aa]
   exact⟨.mk jJ,Is.mk _⟩
  cases h
  refine dV ⟨?_,trivial⟩<;>(try simp +decide only[F,reduceIte,Nat.reduceAdd,qB,qC,EN, *,-h])
 clear I
 rintro dh ⟨f92,_⟩
 refine rt ?_
 cases h
 simp[Ret,TB,EN, *]
