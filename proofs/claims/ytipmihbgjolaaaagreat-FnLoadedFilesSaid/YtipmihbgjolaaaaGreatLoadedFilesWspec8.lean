/-
  Helper text. No conditions.
-/
import Derived.Test.YtipmihbgjolaaaaGreatLoadedFilesTi
import Derived.Test.YtipmihbgjolaaaaGreatLoadedFilesWspec0
import Derived.Test.YtipmihbgjolaaaaGreatLoadedFilesWspec1
import Derived.Test.YtipmihbgjolaaaaGreatLoadedFilesWspec2
import Derived.Test.YtipmihbgjolaaaaGreatLoadedFilesWspec3
import Derived.Test.YtipmihbgjolaaaaGreatLoadedFilesWspec4
import Derived.Test.YtipmihbgjolaaaaGreatLoadedFilesWspec5
import Derived.Test.YtipmihbgjolaaaaGreatLoadedFilesWspec6
import Derived.Test.YtipmihbgjolaaaaGreatLoadedFilesWspec7
set_option linter.unusedVariables false
set_option linter.unusedSimpArgs false
namespace Go.Proofs.YtipmihbgjolaaaaGreat.gen
open Go Go.Sh
set_option maxRecDepth 20000
set_option maxHeartbeats 4000000
theorem ZH (p0 r) (h:eB p0=some r):Sc 102 [aX (M.World.en p0)] [(true,M.World.rs r)]:=by
 have i1:=λ(x1:M.aA)=>inv λm s=>∃v4:Int,∃ae:List M.bC,∃af:Nat,(s.t 1=vP 1 1 0/\s.t 2=vP 2 1 0/\s.t 3=vP 3 1 0/\s.t 4=vI v4/\s.h 1=(1,oX 75 (M.World.en p0))/\s.h 2=(1,Qy)/\s.h 3=(1,oB 75 [cI p0.Now,cB p0.aFW,cI p0.aFC,.row 100010 1,.row 100012 af,cI p0.aFJ,cL M.mZ.en p0.aFM.aFM,cL M.tB.en p0.aFB.aFa,cL M.aFD.en p0.aFR,cL M.aFG.en p0.aFN])/\s.h 100010=(1,oW 49 24 M.aJ.en x1.aE8)/\s.h 100012=(af,oW 96 11 M.bC.en ae))/\lJ p0 x1 m v4 ae=some r
 have e1:=@lJ.eq_2
 have i2:=λ(x1:M.aA) (ae:List M.bC) (ah:M.aR) (ai:M.aFB) (aa:St) (af:Nat)=>inv λm s=>∃v5:Int,∃aj:List M.aFD,∃ak:Nat,(s.t 1=vP 1 1 0/\s.t 2=vP 2 1 0/\s.t 3=vP 3 1 0/\s.t 5=vI v5/\s.h 1=(1,oX 75 (M.World.en p0))/\s.h 2=(1,Qy)/\s.h 3=(1,oB 75 [cI p0.Now,cB p0.aFW,cI p0.aFC,.row 100010 1,.row 100012 af,cI p0.aFJ,.row 100034 ((aa.h 100034).1+1),.row 100038 ((aa.h 100038).1+1),.row 100040 ak,cL M.aFG.en p0.aFN])/\s.h 100010=(1,oW 49 24 M.aJ.en x1.aE8)/\s.h 100012=(af,oW 96 11 M.bC.en ae)/\s.h 100034=(((aa.h 100034).1+1),oW 154 4 M.mZ.en ah.aFM)/\s.h 100038=(((aa.h 100038).1+1),oW 157 3 M.tB.en ai.aFa)/\s.h 100040=(ak,oW 85 4 M.aFD.en aj))/\iV p0 x1 ae ah ai m v5 aj=some r
 have e2:=@iV.eq_2
 have i3:=λ(x1:M.aA) (ae:List M.bC) (ah:M.aR) (ai:M.aFB) (aj:List M.aFD) (aa:St) (af:Nat) (ak:Nat)=>inv λm s=>∃v6:Int,∃al:List M.aFG,∃ao:Nat,(s.t 1=vP 1 1 0/\s.t 2=vP 2 1 0/\s.t 3=vP 3 1 0/\s.t 6=vI v6/\s.h 1=(1,oX 75 (M.World.en p0))/\s.h 2=(1,Qy)/\s.h 3=(1,oB 75 [cI p0.Now,cB p0.aFW,cI p0.aFC,.row 100010 1,.row 100012 af,cI p0.aFJ,.row 100034 ((aa.h 100034).1+1),.row 100038 ((aa.h 100038).1+1),.row 100040 ak,.row 100060 ao])/\s.h 100010=(1,oW 49 24 M.aJ.en x1.aE8)/\s.h 100012=(af,oW 96 11 M.bC.en ae)/\s.h 100034=(((aa.h 100034).1+1),oW 154 4 M.mZ.en ah.aFM)/\s.h 100038=(((aa.h 100038).1+1),oW 157 3 M.tB.en ai.aFa)/\s.h 100040=(ak,oW 85 4 M.aFD.en aj)/\s.h 100060=(ao,oW 137 5 M.aFG.en al))/\iS p0 x1 ae ah ai aj m v6 al=some r
 have e3:=@iS.eq_2
 unfold eB at h
 exact sgo 81 [.cell 2 75] Tryz.func102
instance:bH 102 (type_of% @ZH):=⟨@ZH⟩
theorem aCn (p0 r) (h:AK p0=some r):Sc 238 [aX (M.aJ.en p0)] [rI r]:=by unfold AK at h;exact sgo 23 [.tmp 2] Tryz.func238
instance:bH 238 (type_of% @aCn):=⟨@aCn⟩
theorem aBf (p0 r) (h:wT p0=some r):Sc 136 [aX (M.aJ.en p0)] [rB r]:=by unfold wT at h;exact sgo 50 [.tmp 2] Tryz.func136
instance:bH 136 (type_of% @aBf):=⟨@aBf⟩
theorem c38 (p0 p1 p2 p3 p4 r) (h:jK p0 p1 p2 p3 p4=some r):Sc 38 [aX (M.aE.en p0),aX (M.aFD.en p1),aI p2,aS p3,aB p4] [(true,M.aE9.rs r)]:=by unfold jK at h;exact sgo 30 [.cell 10 105] Tryz.func38
instance:bH 38 (type_of% @c38):=⟨@c38⟩
theorem aDP (p0 p1 p2 r) (h:gB p0 p1 p2=some r):Sc 103 [aX (M.World.en p0),aX (M.bC.en p1),aS p2] [(true,M.aE9.rs r)]:=by unfold gB at h;exact sgo 44 [.cell 6 105] Tryz.func103
instance:bH 103 (type_of% @aDP):=⟨@aDP⟩
theorem aA7 (p0 p1 r) (h:AS p0 p1=some r):Sc 343 [aX (M.aE5.en p0),aX (M.Op.en p1)] [(true,M.aE5.rs r.1),rI r.2.1,rB r.2.2]:=by unfold AS at h;exact sgo 58 [.cell 4 35,.tmp 5,.tmp 6] Tryz.func343
instance:bH 343 (type_of% @aA7):=⟨@aA7⟩
theorem aCk (p0 p1 r) (h:xN p0 p1=some r):Sc 279 [aX (M.aE5.en p0),aL M.Op.en p1] [(true,M.aE5.rs r.1),rW 3 1 enI r.2.1,rB r.2.2]:=by
 have i1:=DV [.b 7 2 7050000 40 3,.b 7 3 7050001 282 2] λm s=>∃v9:Int,∃ai:ByteArray,∃aj:Int,∃ak:List Int,∃aa:List M.aC,∃ae:List M.aN,∃al:Nat,∃af:Nat,∃ah:Nat,(s.t 1=vL M.Op.en p1/\s.t 2=vP 2 1 0/\s.t 4=vP 4 1 0/\s.t 7=vP 7 1 0/\s.t 8=vR 100015 al/\s.t 9=vI v9/\s.h 2=(1,oX 35 (M.aE5.en p0))/\s.h 4=(1,K5)/\s.h 7=(1,oB 35 [cS ai,cI aj,.row 7050000 af,.row 7050001 ah])/\s.h 100015=(al,oW 3 1 enI ak)/\s.h 7050000=(af,oW 40 3 M.aC.en aa)/\s.h 7050001=(ah,oW 282 2 M.aN.en ae))/\tU p0 p1 m v9 ai aj ak aa ae=some r
 have e1:=@tU.eq_2
 unfold xN at h
 exact sgo 54 [.cell 4 35,.tmp 5,.tmp 6] Tryz.func279
instance:bH 279 (type_of% @aCk):=⟨@aCk⟩
theorem aAh (p0 r) (h:Ag p0=some r):Sc 284 [aX (M.aG.en p0)] [(true,M.aC.rs r)]:=by unfold Ag at h;exact sgo 10 [.cell 2 40] Tryz.func284
instance:bH 284 (type_of% @aAh):=⟨@aAh⟩
theorem ZC (p0 p1 p2 p3 r) (h:lI p0 p1 p2 p3=some r):Sc 210 [aX (M.aG.en p0),aX (M.Key.en p1),aS p2,aI p3] [(true,M.aG.rs r.1),rB r.2]:=by unfold lI at h;exact sgo 53 [.cell 8 47,.tmp 9] Tryz.func210
instance:bH 210 (type_of% @ZC):=⟨@ZC⟩
theorem aA0 (p0 p1 r) (h:kX p0 p1=some r):Sc 351 [aX (M.aE5.en p0),aX (M.kM.en p1)] [(true,M.aE5.rs r.1),rB r.2]:=by
 unfold kX at h
 simp only [EN]
 refine sgn 130 [.cell 4 35,.tmp 5] Tryz.func351 λbase wd => ?_
 refine sq (rn ?_)
 refine an (sq ?_)
 obtain ⟨x1,h2,h⟩:=bind_some h
 refine rn1 (WB _ _ h2) ?_
 refine an (sq ?_)
 obtain ⟨x3,h4,h⟩:=bind_some h
 refine rn1 (Z9 _ _ _ h4) ?_
 refine an (sq ?_)
 obtain ⟨x5,h6,h⟩:=bind_some h
 refine rn1 (aEQ _ _ _ h6) ?_
 refine an (sq (bk ?_))
 obtain ⟨x7,h8,h⟩:=bind_some h
 refine tN (λs=>s.t 2=vP 2 1 0/\s.t 3=vP 3 1 0/\s.t 4=vP 4 1 0/\s.t 6=vP 6 1 0/\s.t 7=vI x3/\s.t 8=vI x5/\s.t 21=vB x7/\s.h 2=(1,oX 35 (M.aE5.en p0))/\s.h 3=(1,oX 380 (M.kM.en p1))/\s.h 4=(1,K5)/\s.h 6=(1,oB 35 [cS x1.Name,cI x1.aE3,.row 300012 1,.row 400012 1])/\s.h 300012=(1,oW 40 3 M.aC.en x1.aFH)/\s.h 400012=(1,oW 282 2 M.aN.en x1.aFQ)/\True) ?_ ?_
 ·replace h:=h8;clear h8;rcases nX (p1.aFU==1) with cp | cp;(replace h:=cN cp h;refine rn ?_;cases h;refine jB ⟨?_,?_,?_,?_,?_,?_,?_,?_,?_,?_,?_,?_,?_,trivial⟩<;>(try simp +decide only [F,reduceIte,Nat.reduceAdd,qB,qC,EN, *,-h]));replace h:=cM cp h;refine rn ?_;cases h;refine jB ⟨?_,?_,?_,?_,?_,?_,?_,?_,?_,?_,?_,?_,?_,trivial⟩<;>(try simp +decide only [F,reduceIte,Nat.reduceAdd,qB,qC,EN, *,-h])
 clear h8
 rintro s9 f10
 rcases nX x7 with ah | ah
 ·replace h:=cN ah h
  refine ct (sq (rn ?_))
  refine an (sq (bk ?_))
  refine Gn (λm s=>∃v9:Int,s.t 2=vP 2 1 0/\s.t 3=vP 3 1 0/\s.t 4=vP 4 1 0/\s.t 6=vP 6 1 0/\s.t 9=vI v9/\s.h 2=(1,oX 35 (M.aE5.en p0))/\s.h 3=(1,oX 380 (M.kM.en p1))/\s.h 4=(1,K5)/\s.h 6=(1,oB 35 [cS x1.Name,cI x1.aE3,.row 300012 1,.row 400012 1])/\s.h 300012=(1,oW 40 3 M.aC.en x1.aFH)/\s.h 400012=(1,oW 282 2 M.aN.en x1.aFQ)/\nG p0 p1 x1 m v9=some r) fuel ?_ ?_
  ·refine ⟨0,?_,?_,?_,?_,?_,?_,?_,?_,?_,?_,?_,h⟩;all_goals simp +decide only [F,reduceIte,Nat.reduceAdd,qB,qC,EN, *,-h]
  rintro mL1 fy ⟨v9,f26,f27,f28,f29,f30,f31,f32,f33,f34,f35,f36,h⟩
  rcases mL1 with _ | mL1
  ·exact absurd h (by simp [nG])
  simp only [nG] at h
  refine sq ?_
  obtain ⟨du,cq,h⟩:=bind_some h
  refine tN (λs=>s.t 2=vP 2 1 0/\s.t 3=vP 3 1 0/\s.t 4=vP 4 1 0/\s.t 6=vP 6 1 0/\s.t 9=vI v9/\s.t 44=vB du/\s.h 2=(1,oX 35 (M.aE5.en p0))/\s.h 3=(1,oX 380 (M.kM.en p1))/\s.h 4=(1,K5)/\s.h 6=(1,oB 35 [cS x1.Name,cI x1.aE3,.row 300012 1,.row 400012 1])/\s.h 300012=(1,oW 40 3 M.aC.en x1.aFH)/\s.h 400012=(1,oW 282 2 M.aN.en x1.aFQ)/\True) ?_ ?_
  ·replace h:=cq;clear cq;rcases Cf (decide (v9<(List.length p0.aFH:Int))) with cr | cr;(replace h:=cM cr h;refine rd mixed ?_;cases h;refine jB ⟨?_,?_,?_,?_,?_,?_,?_,?_,?_,?_,?_,?_,trivial⟩<;>(try simp +decide only [F,reduceIte,Nat.reduceAdd,qB,qC,EN, *,-h]));replace h:=cN cr h;obtain ⟨fz,dx,h⟩:=bind_some h;obtain ⟨g0,g7,g8⟩:=tL dx;refine rd mixed ?_;cases h;refine jB ⟨?_,?_,?_,?_,?_,?_,?_,?_,?_,?_,?_,?_,trivial⟩<;>(try simp +decide only [F,reduceIte,Nat.reduceAdd,qB,qC,EN, *,-h])
  clear cq
  rintro bt f40
  rcases nX du with ak | ak
  ·replace h:=cN ak h;refine ct (sk (an (bk (rn ?_))));refine ab ?_;refine jB ⟨mL1,qb,(IntKind.i64.wrap (v9+1)),?_,?_,?_,?_,?_,?_,?_,?_,?_,?_,?_,h⟩;all_goals simp +decide only [F,reduceIte,Nat.reduceAdd,qB,qC,EN, *,-h]
  replace h:=cM ak h
  refine cf (xt (DO (DB (Ie (an (sq ?_))))))
  obtain ⟨g9,bu,h⟩:=bind_some h
  obtain ⟨ga,dy,h⟩:=bind_some h
  apply cW
  ·simp +decide only [E,reduceIte,Nat.reduceAdd,Nat.reduceMul,qB,qC,<-List.map_take,<-List.map_drop,L,Xz,Tk,Xv,M.aC.en,EN,ah,f40,ak]
   refine ⟨by first | exact rV bu | exact (rV bu).2 | exact (rV bu).2.2,?_⟩
   try simp +decide only [E,reduceIte,Nat.reduceAdd,Nat.reduceMul,qB,qC,<-List.map_take,<-List.map_drop,L,Xz,Tk,Xv,M.aC.en,EN,ah,f40,ak]
   refine ⟨by (have hb:=gF dy);simp [M.aC.en,qE,aP,<-List.map_take,<-List.map_drop,-List.map_take,-List.map_drop] at hb ⊢ <;> omega,?_⟩
   try simp +decide only [E,reduceIte,Nat.reduceAdd,Nat.reduceMul,qB,qC,<-List.map_take,<-List.map_drop,L,Xz,Tk,Xv,M.aC.en,EN,ah,f40,ak]
   exact Is.mk _
  refine an (sq ?_)
  refine cu (λs=>s.t 2=vP 2 1 0/\s.t 3=vP 3 1 0/\s.t 4=vP 4 1 0/\s.t 6=vP 6 1 0/\s.t 9=vI v9/\s.t 10=vR 100047 (((bt.h 100047).1+1)+1)/\s.h 2=(1,oX 35 (M.aE5.en p0))/\s.h 3=(1,oX 380 (M.kM.en p1))/\s.h 4=(1,K5)/\s.h 6=(1,oB 35 [cS x1.Name,cI x1.aE3,.row 300012 1,.row 400012 1])/\s.h 100047=((((bt.h 100047).1+1)+1),oW 40 3 M.aC.en (List.take v9.toNat x1.aFH))/\s.h 300012=(1,.row 40 3 (Jx 3 0 v9.toNat (List.map M.aC.en x1.aFH)) true)/\s.h 400012=(1,oW 282 2 M.aN.en x1.aFQ)/\True) ?_
  rintro gb f64
  obtain ⟨gd,dz,h⟩:=bind_some h
  refine rn1 dz ?_
  refine an ?_
  refine cu (λs=>s.t 2=vP 2 1 0/\s.t 4=vP 4 1 0/\s.t 6=vP 6 1 0/\s.t 9=vI v9/\s.t 10=vR 100047 ((((bt.h 100047).1+1)+1)+1)/\s.h 2=(1,oX 35 (M.aE5.en p0))/\s.h 4=(1,K5)/\s.h 6=(1,oB 35 [cS x1.Name,cI x1.aE3,.row 300012 1,.row 400012 1])/\s.h 100047=(((((bt.h 100047).1+1)+1)+1),oW 40 3 M.aC.en ((List.take v9.toNat x1.aFH)++[(⟨p1.aC,([]:List M.aFP),0⟩:M.aC)]))/\s.h 300012=(1,.row 40 3 (Jx 3 0 v9.toNat (List.map M.aC.en x1.aFH)) true)/\s.h 400012=(1,oW 282 2 M.aN.en x1.aFQ)/\True) ?_
  rintro gh f80
  obtain ⟨gi,ef,h⟩:=bind_some h
  apply cW
  ·simp +decide only [E,reduceIte,Nat.reduceAdd,Nat.reduceMul,qB,qC,<-List.map_take,<-List.map_drop,L,Xz,Tk,Xv,M.aC.en,EN,ah,ak,f80]
   refine ⟨by first | exact NN (rV bu).1 | exact (NN (rV bu).1).2 | exact (NN (rV bu).1).2.2,?_⟩
   try simp +decide only [E,reduceIte,Nat.reduceAdd,Nat.reduceMul,qB,qC,<-List.map_take,<-List.map_drop,L,Xz,Tk,Xv,M.aC.en,EN,ah,ak,f80]
   refine ⟨by (have hb:=gF ef);simp [M.aC.en,qE,aP,<-List.map_take,<-List.map_drop,-List.map_take,-List.map_drop] at hb ⊢ <;> omega,?_⟩
   try simp +decide only [E,reduceIte,Nat.reduceAdd,Nat.reduceMul,qB,qC,<-List.map_take,<-List.map_drop,L,Xz,Tk,Xv,M.aC.en,EN,ah,ak,f80]
   exact Is.mk _
  refine ab (an (sq ?_))
  refine cu (λs=>s.t 2=vP 2 1 0/\s.t 4=vP 4 1 0/\s.t 6=vP 6 1 0/\s.h 2=(1,oX 35 (M.aE5.en p0))/\s.h 4=(1,K5)/\s.h 6=(1,oB 35 [cS x1.Name,cI x1.aE3,.row 100047 (((((bt.h 100047).1+1)+1)+1)+1),.row 400012 1])/\s.h 100047=((((((bt.h 100047).1+1)+1)+1)+1),oW 40 3 M.aC.en (((List.take v9.toNat x1.aFH)++[(⟨p1.aC,([]:List M.aFP),0⟩:M.aC)])++(List.drop v9.toNat x1.aFH)))/\s.h 400012=(1,oW 282 2 M.aN.en x1.aFQ)/\True) ?_
  rintro dw f94
  obtain ⟨bw,aq,h⟩:=bind_some h
  refine tN (λs=>s.h 6=dw.h 6/\s.h 100047=dw.h 100047/\s.t 2=vP 2 1 0/\s.t 4=vP 4 1 0/\s.t 6=vP 6 1 0/\s.t 126=vB bw/\s.h 2=(1,oX 35 (M.aE5.en p0))/\s.h 4=(1,K5)/\s.h 400012=(1,oW 282 2 M.aN.en x1.aFQ)/\True) ?_ ?_
  ·replace h:=aq;clear aq;obtain ⟨cw,bx,h⟩:=bind_some h;rcases nX (!cw) with ar | ar;(replace h:=cN ar h;refine rn1 (Qp _ _ bx) ?_;cases h;refine jB ⟨?_,?_,?_,?_,?_,?_,?_,?_,?_,trivial⟩<;>(try simp +decide only [F,reduceIte,Nat.reduceAdd,qB,qC,EN, *,-h]));replace h:=cM ar h;obtain ⟨eg,cx,h⟩:=bind_some h;refine rn2 (Qp _ _ bx) (Qp _ _ cx) ?_;cases h;refine jB ⟨?_,?_,?_,?_,?_,?_,?_,?_,?_,trivial⟩<;>(try simp +decide only [F,reduceIte,Nat.reduceAdd,qB,qC,EN, *,-h])
  clear aq
  rintro eh ⟨f111,f112,f105⟩
  replace f111:=f111.trans f94.2.2.2.2.2.1
  replace f112:=f112.trans f94.2.2.2.2.2.2.1
  rcases Cf bw with av | av
  ·replace h:=cM av h;refine cf (sk (an (sq (rn ?_))));refine an (rt ?_);cases h;simp [Ret,TB,EN, *]
  replace h:=cN av h
  refine ct (sq ?_)
  obtain ⟨et,cy,h⟩:=bind_some h
  refine rn1 (WB _ _ cy) ?_
  refine an (rt ?_)
  cases h
  simp [Ret,TB,EN, *]
 replace h:=cM ah h
 refine cf ?_
 obtain ⟨bz,aw,h⟩:=bind_some h
 refine tN (λs=>s.t 2=vP 2 1 0/\s.t 3=vP 3 1 0/\s.t 4=vP 4 1 0/\s.t 6=vP 6 1 0/\s.t 7=vI x3/\s.t 8=vI x5/\s.t 66=vB bz/\s.h 2=(1,oX 35 (M.aE5.en p0))/\s.h 3=(1,oX 380 (M.kM.en p1))/\s.h 4=(1,K5)/\s.h 6=(1,oB 35 [cS x1.Name,cI x1.aE3,.row 300012 1,.row 400012 1])/\s.h 300012=(1,oW 40 3 M.aC.en x1.aFH)/\s.h 400012=(1,oW 282 2 M.aN.en x1.aFQ)/\True) ?_ ?_
 ·replace h:=aw;clear aw;rcases nX (p1.aFU==2) with ax | ax;(replace h:=cN ax h;refine rn ?_;cases h;refine jB ⟨?_,?_,?_,?_,?_,?_,?_,?_,?_,?_,?_,?_,?_,trivial⟩<;>(try simp +decide only [F,reduceIte,Nat.reduceAdd,qB,qC,EN, *,-h]));replace h:=cM ax h;refine rn ?_;cases h;refine jB ⟨?_,?_,?_,?_,?_,?_,?_,?_,?_,?_,?_,?_,?_,trivial⟩<;>(try simp +decide only [F,reduceIte,Nat.reduceAdd,qB,qC,EN, *,-h])
 clear aw
 rintro al f125
 rcases nX bz with aa | aa
 ·replace h:=cN aa h;refine ct ?_;obtain ⟨ao,cz,h⟩:=bind_some h;refine rn1 (aEr _ _ _ cz) ?_;refine ab (an (sq ?_));obtain ⟨c9,ay,h⟩:=bind_some h;refine tN (λs=>s.t 2=vP 2 1 0/\s.t 4=vP 4 1 0/\s.t 6=vP 6 1 0/\s.t 126=vB c9/\s.h 2=(1,oX 35 (M.aE5.en p0))/\s.h 4=(1,K5)/\s.h 6=(1,oB 35 [cS ao.Name,cI ao.aE3,.row 300077 ((al.h 300077).1+1),.row 400077 ((al.h 400077).1+1)])/\s.h 300077=(((al.h 300077).1+1),oW 40 3 M.aC.en ao.aFH)/\s.h 400077=(((al.h 400077).1+1),oW 282 2 M.aN.en ao.aFQ)/\True) ?_ ?_;(replace h:=ay;clear ay;obtain ⟨da,ca,h⟩:=bind_some h;rcases nX (!da) with az | az;(replace h:=cN az h;refine rn1 (Qp _ _ ca) ?_;cases h;refine jB ⟨?_,?_,?_,?_,?_,?_,?_,?_,?_,trivial⟩<;>(try simp +decide only [F,reduceIte,Nat.reduceAdd,qB,qC,EN, *,-h]));replace h:=cM az h;obtain ⟨eu,db,h⟩:=bind_some h;refine rn2 (Qp _ _ ca) (Qp _ _ db) ?_;cases h;refine jB ⟨?_,?_,?_,?_,?_,?_,?_,?_,?_,trivial⟩<;>(try simp +decide only [F,reduceIte,Nat.reduceAdd,qB,qC,EN, *,-h]));clear ay;rintro fa f145;rcases Cf c9 with ba | ba;(replace h:=cM ba h;refine cf (sk (an (sq (rn ?_))));refine an (rt ?_);cases h;simp [Ret,TB,EN, *]);replace h:=cN ba h;refine ct (sq ?_);obtain ⟨fc,df,h⟩:=bind_some h;refine rn1 (WB _ _ df) ?_;refine an (rt ?_);cases h;simp [Ret,TB,EN, *]
 replace h:=cM aa h
 refine cf ?_
 obtain ⟨cc,bd,h⟩:=bind_some h
 refine tN (λs=>s.t 2=vP 2 1 0/\s.t 3=vP 3 1 0/\s.t 4=vP 4 1 0/\s.t 6=vP 6 1 0/\s.t 8=vI x5/\s.t 78=vB cc/\s.h 2=(1,oX 35 (M.aE5.en p0))/\s.h 3=(1,oX 380 (M.kM.en p1))/\s.h 4=(1,K5)/\s.h 6=(1,oB 35 [cS x1.Name,cI x1.aE3,.row 300012 1,.row 400012 1])/\s.h 300012=(1,oW 40 3 M.aC.en x1.aFH)/\s.h 400012=(1,oW 282 2 M.aN.en x1.aFQ)/\True) ?_ ?_
 ·replace h:=bd;clear bd;rcases Cf (p1.aFU==3) with bf | bf;(replace h:=cM bf h;refine rn ?_;cases h;refine jB ⟨?_,?_,?_,?_,?_,?_,?_,?_,?_,?_,?_,?_,trivial⟩<;>(try simp +decide only [F,reduceIte,Nat.reduceAdd,qB,qC,EN, *,-h]));replace h:=cN bf h;rcases nX (decide (x3>=0)) with bg | bg;(replace h:=cN bg h;refine rn ?_;cases h;refine jB ⟨?_,?_,?_,?_,?_,?_,?_,?_,?_,?_,?_,?_,trivial⟩<;>(try simp +decide only [F,reduceIte,Nat.reduceAdd,qB,qC,EN, *,-h]));replace h:=cM bg h;refine rn ?_;cases h;refine jB ⟨?_,?_,?_,?_,?_,?_,?_,?_,?_,?_,?_,?_,trivial⟩<;>(try simp +decide only [F,reduceIte,Nat.reduceAdd,qB,qC,EN, *,-h])
 clear bd
 rintro fe f165
 rcases nX cc with ae | ae
 ·replace h:=cN ae h;refine ct ?_;obtain ⟨ff,dg,h⟩:=bind_some h;refine rn1 dg ?_;refine ab (an (sq ?_));refine cu (λs=>s.t 2=vP 2 1 0/\s.t 4=vP 4 1 0/\s.t 6=vP 6 1 0/\s.h 2=(1,oX 35 (M.aE5.en p0))/\s.h 4=(1,K5)/\s.h 6=(1,oB 35 [cS x1.Name,cI x1.aE3,.row 300012 1,.row 400012 2])/\s.h 300012=(1,oW 40 3 M.aC.en x1.aFH)/\s.h 400012=(2,oW 282 2 M.aN.en (x1.aFQ++[(⟨p1.aC,p1.Field⟩:M.aN)]))/\True) ?_;rintro dh f183;obtain ⟨cd,bh,h⟩:=bind_some h;refine tN (λs=>s.h 400012=dh.h 400012/\s.t 2=vP 2 1 0/\s.t 4=vP 4 1 0/\s.t 6=vP 6 1 0/\s.t 126=vB cd/\s.h 2=(1,oX 35 (M.aE5.en p0))/\s.h 4=(1,K5)/\s.h 6=(1,oB 35 [cS x1.Name,cI x1.aE3,.row 300012 1,.row 400012 2])/\s.h 300012=(1,oW 40 3 M.aC.en x1.aFH)/\True) ?_ ?_;(replace h:=bh;clear bh;obtain ⟨di,cg,h⟩:=bind_some h;rcases nX (!di) with bj | bj;(replace h:=cN bj h;refine rn1 (Qp _ _ cg) ?_;cases h;refine jB ⟨?_,?_,?_,?_,?_,?_,?_,?_,?_,trivial⟩<;>(try simp +decide only [F,reduceIte,Nat.reduceAdd,qB,qC,EN, *,-h]));replace h:=cM bj h;obtain ⟨fg,dj,h⟩:=bind_some h;refine rn2 (Qp _ _ cg) (Qp _ _ dj) ?_;cases h;refine jB ⟨?_,?_,?_,?_,?_,?_,?_,?_,?_,trivial⟩<;>(try simp +decide only [F,reduceIte,Nat.reduceAdd,qB,qC,EN, *,-h]));clear bh;rintro fh ⟨f202,f194⟩;replace f202:=f202.trans f183.2.2.2.2.2.2.2.1;rcases Cf cd with bl | bl;(replace h:=cM bl h;refine cf (sk (an (sq (rn ?_))));refine an (rt ?_);cases h;simp [Ret,TB,EN, *]);replace h:=cN bl h;refine ct (sq ?_);obtain ⟨fj,dk,h⟩:=bind_some h;refine rn1 (WB _ _ dk) ?_;refine an (rt ?_);cases h;simp [Ret,TB,EN, *]
 replace h:=cM ae h
 refine cf ?_
 obtain ⟨cj,bm,h⟩:=bind_some h
 refine tN (λs=>s.t 2=vP 2 1 0/\s.t 4=vP 4 1 0/\s.t 6=vP 6 1 0/\s.t 8=vI x5/\s.t 100=vB cj/\s.h 2=(1,oX 35 (M.aE5.en p0))/\s.h 4=(1,K5)/\s.h 6=(1,oB 35 [cS x1.Name,cI x1.aE3,.row 300012 1,.row 400012 1])/\s.h 300012=(1,oW 40 3 M.aC.en x1.aFH)/\s.h 400012=(1,oW 282 2 M.aN.en x1.aFQ)/\True) ?_ ?_
 ·replace h:=bm;clear bm;rcases nX (p1.aFU==4) with bn | bn;(replace h:=cN bn h;refine rn ?_;cases h;refine jB ⟨?_,?_,?_,?_,?_,?_,?_,?_,?_,?_,trivial⟩<;>(try simp +decide only [F,reduceIte,Nat.reduceAdd,qB,qC,EN, *,-h]));replace h:=cM bn h;refine rn ?_;cases h;refine jB ⟨?_,?_,?_,?_,?_,?_,?_,?_,?_,?_,trivial⟩<;>(try simp +decide only [F,reduceIte,Nat.reduceAdd,qB,qC,EN, *,-h])
 clear bm
 rintro fk f214
 rcases Cf cj with af | af
 ·replace h:=cM af h;refine cf (sq (rn ?_));refine an (rt ?_);cases h;simp [Ret,TB,EN, *]
 replace h:=cN af h
 refine ct ?_
 obtain ⟨fm,ai,h⟩:=bind_some h
 obtain ⟨fo,aj,h⟩:=bind_some h
 obtain ⟨fq,ck,h⟩:=bind_some h
 apply By mixed
 ·simp +decide only [E,reduceIte,Nat.reduceAdd,Nat.reduceMul,qB,qC,<-List.map_take,<-List.map_drop,Nat.sub_zero,L,YE,Tk,SN,M.aN.en,EN,ah,aa,ae,f214,af]
  refine ⟨by first | exact rV ai | exact (rV ai).2 | exact (rV ai).2.2,?_⟩
  try simp +decide only [E,reduceIte,Nat.reduceAdd,Nat.reduceMul,qB,qC,<-List.map_take,<-List.map_drop,Nat.sub_zero,L,YE,Tk,SN,M.aN.en,EN,ah,aa,ae,f214,af]
  refine ⟨by first | exact Fm aj | exact (Fm aj).2 | exact (Fm aj).2.2,?_⟩
  try simp +decide only [E,reduceIte,Nat.reduceAdd,Nat.reduceMul,qB,qC,<-List.map_take,<-List.map_drop,Nat.sub_zero,L,YE,Tk,SN,M.aN.en,EN,ah,aa,ae,f214,af]
  refine ⟨by first | exact Hy (f:=M.aN.en) (sz:=2) (λ_=>rfl) qe ai aj ck | (have hb:=Hy (f:=M.aN.en) (sz:=2) (λ_=>rfl) qe ai aj ck;simpa using hb),?_⟩
  try simp +decide only [E,reduceIte,Nat.reduceAdd,Nat.reduceMul,qB,qC,<-List.map_take,<-List.map_drop,Nat.sub_zero,L,YE,Tk,SN,M.aN.en,EN,ah,aa,ae,f214,af]
  exact ⟨.mk qf,Is.mk _⟩
 refine ab (an (sq ?_))
 refine cu (λs=>s.t 2=vP 2 1 0/\s.t 4=vP 4 1 0/\s.t 6=vP 6 1 0/\s.h 2=(1,oX 35 (M.aE5.en p0))/\s.h 4=(1,K5)/\s.h 6=(1,oB 35 [cS x1.Name,cI x1.aE3,.row 300012 1,.row 400012 2])/\s.h 300012=(1,oW 40 3 M.aC.en x1.aFH)/\s.h 400012=(2,oW 282 2 M.aN.en ((List.take x5.toNat x1.aFQ)++(List.drop (IntKind.i64.wrap (x5+1)).toNat x1.aFQ)))/\True) ?_
 rintro dm f233
 obtain ⟨cl,bo,h⟩:=bind_some h
 refine tN (λs=>s.h 400012=dm.h 400012/\s.t 2=vP 2 1 0/\s.t 4=vP 4 1 0/\s.t 6=vP 6 1 0/\s.t 126=vB cl/\s.h 2=(1,oX 35 (M.aE5.en p0))/\s.h 4=(1,K5)/\s.h 6=(1,oB 35 [cS x1.Name,cI x1.aE3,.row 300012 1,.row 400012 2])/\s.h 300012=(1,oW 40 3 M.aC.en x1.aFH)/\True) ?_ ?_
 ·replace h:=bo;clear bo;obtain ⟨dn,cn,h⟩:=bind_some h;rcases nX (!dn) with bq | bq;(replace h:=cN bq h;refine rn1 (Qp _ _ cn) ?_;cases h;refine jB ⟨?_,?_,?_,?_,?_,?_,?_,?_,?_,trivial⟩<;>(try simp +decide only [F,reduceIte,Nat.reduceAdd,qB,qC,EN, *,-h]));replace h:=cM bq h;obtain ⟨ft,dq,h⟩:=bind_some h;refine rn2 (Qp _ _ cn) (Qp _ _ dq) ?_;cases h;refine jB ⟨?_,?_,?_,?_,?_,?_,?_,?_,?_,trivial⟩<;>(try simp +decide only [F,reduceIte,Nat.reduceAdd,qB,qC,EN, *,-h])
 clear bo
 rintro fw ⟨f252,f244⟩
 replace f252:=f252.trans f233.2.2.2.2.2.2.2.1
 rcases Cf cl with br | br
 ·replace h:=cM br h;refine cf (sk (an (sq (rn ?_))));refine an (rt ?_);cases h;simp [Ret,TB,EN, *]
 replace h:=cN br h
 refine ct (sq ?_)
 obtain ⟨fx,dr,h⟩:=bind_some h
 refine rn1 (WB _ _ dr) ?_
 refine an (rt ?_)
 cases h
 simp [Ret,TB,EN, *]
instance:bH 351 (type_of% @aA0):=⟨@aA0⟩
theorem aAR (p0 r) (h:Bh p0=some r):Sc 286 [(false,[.ptr [.sl (List.map enB p0.b),.int .i64 p0.i,.int .i64 p0.h]])] [(false,[.edit (.lend 182 [.int .i64 r.1,.int .i64 r.2.1])]),(true,M.aE5.rs r.2.2)]:=by
 unfold Bh at h
 simp only [EN]
 refine sgB 34 [.cell 2 35] Tryz.func286 λbase wd B0 u0 hw0 => ?_
 refine eY (J:=λs=>s.t 0=vP 7059000 1 0/\s.h 7059000=(1,oB 182 [.old B0 (.sl (List.map enB p0.b)) (some u0),cI p0.i,cI p0.h])/\True) ?_ ?_
 ·and_intros<;>(try simp only [LN,List.map_cons,List.map_nil])<;>rfl
 rintro s1 f2
 exact sgX
instance:bH 286 (type_of% @aAR):=⟨@aAR⟩
theorem aCE (p0 r) (h:uA p0=some r):Sc 255 [(false,[.ptr [.sl (List.map enB p0.b),.int .i64 p0.i,.int .i64 p0.h]])] [(false,[.edit (.lend 182 [.int .i64 r.1,.int .i64 r.2.1])]),(true,M.aFG.rs r.2.2)]:=by
 unfold uA at h
 simp only [EN]
 refine sgB 36 [.cell 2 137] Tryz.func255 λbase wd B0 u0 hw0 => ?_
 refine eY (J:=λs=>s.t 0=vP 7059000 1 0/\s.h 7059000=(1,oB 182 [.old B0 (.sl (List.map enB p0.b)) (some u0),cI p0.i,cI p0.h])/\True) ?_ ?_
 ·and_intros<;>(try simp only [LN,List.map_cons,List.map_nil])<;>rfl
 rintro s1 f2
 have i1:=DV [.b 3 1 7050000 284 4,.b 3 3 7050001 207 2,.b 3 4 7050002 211 7] λm s=>∃v4:Int,∃ao:ByteArray,∃aq:Int,∃aa:Int,∃ae:Int,∃af:List M.aFP,∃ah:List M.aO,∃ai:List M.bD,∃aj:Nat,∃ak:Nat,∃al:Nat,(s.t 0=vP 7059000 1 0/\s.t 2=vP 2 ((s1.h 2).1+1) 0/\s.t 3=vP 3 ((s1.h 3).1+1) 0/\s.t 4=vI v4/\s.h 2=(((s1.h 2).1+1),UN)/\s.h 3=(((s1.h 3).1+1),oB 137 [cS ao,.row 7050000 aj,cI aq,.row 7050001 ak,.row 7050002 al])/\s.h 7050000=(aj,oW 284 4 M.aFP.en af)/\s.h 7050001=(ak,oW 207 2 M.aO.en ah)/\s.h 7050002=(al,oW 211 7 M.bD.en ai)/\s.h 7059000=(1,oB 182 [.old B0 (.sl (List.map enB p0.b)) (some u0),cI aa,cI ae]))/\kW p0 m v4 ao aq aa ae af ah ai=some r
 have e1:=@kW.eq_2
 exact sgX
instance:bH 255 (type_of% @aCE):=⟨@aCE⟩
theorem aCA (p0 p1 p2 p3 r) (h:zM p0 p1 p2 p3=some r):Sc 292 [aX (M.aFS.en p0),aX (M.aFG.en p1),aI p2,aI p3] [(true,M.aFS.rs r.1),(true,M.aFG.rs r.2.1),rI r.2.2]:=by unfold zM at h;exact sgo 113 [.cell 8 45,.cell 9 137,.tmp 10] Tryz.func292
instance:bH 292 (type_of% @aCA):=⟨@aCA⟩
theorem aDQ (p0 p1 r) (h:vH p0 p1=some r):Sc 295 [aX (M.aG.en p0),aX (M.aFG.en p1)] [(true,M.aG.rs r.1),rI r.2]:=by unfold vH at h;exact sgo 64 [.cell 4 47,.tmp 5] Tryz.func295
instance:bH 295 (type_of% @aDQ):=⟨@aDQ⟩
theorem aDe (p0 r) (h:AT p0=some r):Sc 219 [(false,[.ptr [.sl (List.map enB p0.b),.int .i64 p0.i,.int .i64 p0.h]])] [(false,[.edit (.lend 182 [.int .i64 r.1,.int .i64 r.2.1])]),(true,M.aC.rs r.2.2)]:=by
 unfold AT at h
 simp only [EN]
 refine sgB 50 [.cell 2 40] Tryz.func219 λbase wd B0 u0 hw0 => ?_
 refine eY (J:=λs=>s.t 0=vP 7059000 1 0/\s.h 7059000=(1,oB 182 [.old B0 (.sl (List.map enB p0.b)) (some u0),cI p0.i,cI p0.h])/\True) ?_ ?_
 ·and_intros<;>(try simp only [LN,List.map_cons,List.map_nil])<;>rfl
 rintro s1 f2
 have i1:=λ(ai:(Int×Int×Int)) (s16:St)=>DV [.b 3 1 7050000 284 4] λm s=>∃af:ByteArray,∃ah:Int,∃aa:List M.aFP,∃ae:Nat,(s.h 7059000=s16.h 7059000/\s.t 0=vP 7059000 1 0/\s.t 2=vP 2 ((s1.h 2).1+1) 0/\s.t 3=vP 3 ((s1.h 3).1+1) 0/\s.h 2=(((s1.h 2).1+1),oB 40 [cS (⟨#[]⟩:ByteArray),.nil,cI 0])/\s.h 3=(((s1.h 3).1+1),oB 40 [cS af,.row 7050000 ae,cI ah])/\s.h 7050000=(ae,oW 284 4 M.aFP.en aa))/\xE ai m af ah aa=some r
 have e1:=@xE.eq_2
 exact sgX
instance:bH 219 (type_of% @aDe):=⟨@aDe⟩
theorem aEG (p0 r) (h:Aa p0=some r):Sc 155 [(false,[.ptr [.sl (List.map enB p0.b),.int .i64 p0.i,.int .i64 p0.h]])] [(false,[.edit (.lend 182 [.int .i64 r.1,.int .i64 r.2.1])]),(true,M.bC.rs r.2.2)]:=by
 unfold Aa at h
 simp only [EN]
 refine sgB 51 [.cell 2 96] Tryz.func155 λbase wd B0 u0 hw0 => ?_
 refine eY (J:=λs=>s.t 0=vP 7059000 1 0/\s.h 7059000=(1,oB 182 [.old B0 (.sl (List.map enB p0.b)) (some u0),cI p0.i,cI p0.h])/\True) ?_ ?_
 ·and_intros<;>(try simp only [LN,List.map_cons,List.map_nil])<;>rfl
 rintro s1 f2
 have i1:=λ(x4:(Int×Int×M.bC)) (aa:(Int×Int×Int)) (ae:St)=>inv λm s=>∃r5:List M.aU,∃u5:Nat,(s.h 7059000=ae.h 7059000/\s.t 0=vP 7059000 1 0/\s.t 2=vP 2 ((s1.h 2).1+1) 0/\s.t 3=vP 3 ((s1.h 3).1+1) 0/\s.h 2=(((s1.h 2).1+1),Vr)/\s.h 3=(((s1.h 3).1+1),oB 96 [cI x4.2.2.Id,cS x4.2.2.aFD,cS x4.2.2.Top,cI x4.2.2.aE3,.row 500005 u5,.row 600005 ((s1.h 600005).1+1),cI x4.2.2.aFI.Pc,.row 800005 ((s1.h 800005).1+1),cI x4.2.2.aFI.aFs,cB x4.2.2.aFI.aF1,cB x4.2.2.aFI.aF3])/\s.h 500005=(u5,oW 98 2 M.aU.en r5)/\s.h 600005=(((s1.h 600005).1+1),oW 216 4 M.Instr.en x4.2.2.aFI.aFn)/\s.h 800005=(((s1.h 800005).1+1),oW 3 1 enI x4.2.2.aFI.aFv))/\tW x4 aa m r5=some r
 have e1:=@tW.eq_2
 exact sgX
theorem aEw (p0 r) (h:Ai p0=some r):Sc 156 [(false,[.ptr [.sl (List.map enB p0.b),.int .i64 p0.i,.int .i64 p0.h]])] [(false,[.edit (.lend 182 [.int .i64 r.1,.int .i64 r.2.1])]),(true,M.aFG.rs r.2.2)]:=by
 unfold Ai at h
 simp only [EN]
 refine sgB 52 [.cell 2 137] Tryz.func156 λbase wd B0 u0 hw0 => ?_
 refine eY (J:=λs=>s.t 0=vP 7059000 1 0/\s.h 7059000=(1,oB 182 [.old B0 (.sl (List.map enB p0.b)) (some u0),cI p0.i,cI p0.h])/\True) ?_ ?_
 ·and_intros<;>(try simp only [LN,List.map_cons,List.map_nil])<;>rfl
 rintro s1 f2
 have i1:=λ(x4:(Int×Int×M.aFG)) (af:(Int×Int×Int)) (ah:St)=>DV [.b 3 3 7050000 207 2] λm s=>∃v4:Int,∃aa:List M.aO,∃ae:Nat,(s.h 7059000=ah.h 7059000/\s.t 0=vP 7059000 1 0/\s.t 2=vP 2 ((s1.h 2).1+1) 0/\s.t 3=vP 3 ((s1.h 3).1+1) 0/\s.t 4=vI v4/\s.h 2=(((s1.h 2).1+1),UN)/\s.h 3=(((s1.h 3).1+1),oB 137 [cS x4.2.2.aC.Name,.row 200006 ((s1.h 200006).1+1),cI x4.2.2.aC.aFZ,.row 7050000 ae,.row 500006 ((s1.h 500006).1+1)])/\s.h 200006=(((s1.h 200006).1+1),oW 284 4 M.aFP.en x4.2.2.aC.aE7)/\s.h 500006=(((s1.h 500006).1+1),oW 211 7 M.bD.en x4.2.2.aFV)/\s.h 7050000=(ae,oW 207 2 M.aO.en aa))/\uK x4 af m v4 aa=some r
 have e1:=@uK.eq_2
 exact sgX
end Go.Proofs.YtipmihbgjolaaaaGreat.gen
