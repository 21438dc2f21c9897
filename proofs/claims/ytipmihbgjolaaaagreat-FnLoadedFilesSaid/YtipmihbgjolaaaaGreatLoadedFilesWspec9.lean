/-
  Helper text. No conditions.
-/
import Derived.Test.YtipmihbgjolaaaaGreatLoadedFilesTi
import Derived.Test.YtipmihbgjolaaaaGreatLoadedFilesWspec0
import Derived.Test.YtipmihbgjolaaaaGreatLoadedFilesWspec2
import Derived.Test.YtipmihbgjolaaaaGreatLoadedFilesWspec3
import Derived.Test.YtipmihbgjolaaaaGreatLoadedFilesWspec4
import Derived.Test.YtipmihbgjolaaaaGreatLoadedFilesWspec5
import Derived.Test.YtipmihbgjolaaaaGreatLoadedFilesWspec6
import Derived.Test.YtipmihbgjolaaaaGreatLoadedFilesWspec7
import Derived.Test.YtipmihbgjolaaaaGreatLoadedFilesWspec8
set_option linter.unusedVariables false
set_option linter.unusedSimpArgs false
namespace Go.Proofs.YtipmihbgjolaaaaGreat.gen
open Go Go.Sh
set_option maxRecDepth 20000
set_option maxHeartbeats 4000000
theorem c56 (p0 r) (h:cH p0=some r):Sc 56 [aX (M.aA.en p0)] [rB r]:=by
 have i1:=inv λm s=>∃v3:Int,(s.t 1=vP 1 1 0/\s.t 3=vI v3/\s.h 1=(1,oX 26 (M.aA.en p0)))/\gA p0 m v3=some r
 have e1:=@gA.eq_2
 unfold cH at h
 exact sgo 48 [.tmp 2] Tryz.func56
instance:bH 56 (type_of% @c56):=⟨@c56⟩
theorem c26 (p0 r) (h:iJ p0=some r):Sc 26 [aX (M.World.en p0)] [rB r]:=by
 have i1:=inv λm s=>∃v3:Int,(s.t 1=vP 1 1 0/\s.t 3=vI v3/\s.h 1=(1,oX 75 (M.World.en p0)))/\lF p0 m v3=some r
 have e1:=@lF.eq_2
 have i2:=inv λm s=>∃v4:Int,(s.t 1=vP 1 1 0/\s.t 4=vI v4/\s.h 1=(1,oX 75 (M.World.en p0)))/\dS p0 m v4=some r
 have e2:=@dS.eq_2
 unfold iJ at h
 exact sgo 126 [.tmp 2] Tryz.func26
instance:bH 26 (type_of% @c26):=⟨@c26⟩
theorem aBm (p0 p1 r) (h:tT p0 p1=some r):Sc 264 [aX (M.World.en p0),aI p1] [(true,M.World.rs r.1),rB r.2]:=by
 unfold tT at h
 simp only [EN]
 refine sgn 43 [.cell 4 75,.tmp 5] Tryz.func264 λbase wd => ?_
 refine sq (rn ?_)
 refine an (sq ?_)
 obtain ⟨x1,h2,h⟩:=bind_some h
 refine rn1 (ZH _ _ h2) ?_
 refine an (sq ?_)
 obtain ⟨x3,h4,h⟩:=bind_some h
 refine rn1 (c28 _ _ _ h4) ?_
 refine an (sq (sq ?_))
 obtain ⟨x5,h6,h⟩:=bind_some h
 rcases nX (!x5) with b7 | b7
 ·replace h:=cN b7 h;refine rn1 (c26 _ _ h6) ?_;refine an (ct (sq (rn ?_)));refine an (rt ?_);cases h;simp [Ret,TB,EN, *]
 replace h:=cM b7 h
 refine rn1 (c26 _ _ h6) ?_
 refine an ?_
 rcases nX (decide (x3<0)) with b8 | b8
 ·replace h:=cN b8 h;refine ct (sq (rn ?_));refine an (rt ?_);cases h;simp [Ret,TB,EN, *]
 replace h:=cM b8 h
 refine cf (sk (an (sq ?_)))
 obtain ⟨x9,aa,h⟩:=bind_some h
 obtain ⟨aj,ae,h⟩:=bind_some h
 obtain ⟨ak,af,h⟩:=bind_some h
 apply By mixed
 ·simp +decide only [E,reduceIte,Nat.reduceAdd,Nat.reduceMul,qB,qC,<-List.map_take,<-List.map_drop,Nat.sub_zero,L,Wa,Ct,Wf,M.bC.en,EN,b7,b8]
  refine ⟨by first | exact rV aa | exact (rV aa).2 | exact (rV aa).2.2,?_⟩
  try simp +decide only [E,reduceIte,Nat.reduceAdd,Nat.reduceMul,qB,qC,<-List.map_take,<-List.map_drop,Nat.sub_zero,L,Wa,Ct,Wf,M.bC.en,EN,b7,b8]
  refine ⟨by first | exact Fm ae | exact (Fm ae).2 | exact (Fm ae).2.2,?_⟩
  try simp +decide only [E,reduceIte,Nat.reduceAdd,Nat.reduceMul,qB,qC,<-List.map_take,<-List.map_drop,Nat.sub_zero,L,Wa,Ct,Wf,M.bC.en,EN,b7,b8]
  refine ⟨by first | exact Hy (f:=M.bC.en) (sz:=11) (λ_=>rfl) qe aa ae af | (have hb:=Hy (f:=M.bC.en) (sz:=11) (λ_=>rfl) qe aa ae af;simpa using hb),?_⟩
  try simp +decide only [E,reduceIte,Nat.reduceAdd,Nat.reduceMul,qB,qC,<-List.map_take,<-List.map_drop,Nat.sub_zero,L,Wa,Ct,Wf,M.bC.en,EN,b7,b8]
  exact ⟨.mk qf,Is.mk _⟩
 refine an (sq ?_)
 refine cu (λs=>s.t 1=vI p1/\s.t 2=vP 2 1 0/\s.t 4=vP 4 1 0/\s.t 6=vP 6 1 0/\s.h 2=(1,oX 75 (M.World.en p0))/\s.h 4=(1,Qy)/\s.h 6=(1,oB 75 [cI x1.Now,cB x1.aFW,cI x1.aFC,.row 400009 1,.row 500009 2,cI x1.aFJ,.row 700009 1,.row 800009 1,.row 900009 1,.row 1000009 1])/\s.h 400009=(1,oW 49 24 M.aJ.en x1.aA.aE8)/\s.h 500009=(2,oW 96 11 M.bC.en ((List.take x3.toNat x1.aFF)++(List.drop (IntKind.i64.wrap (x3+1)).toNat x1.aFF)))/\s.h 700009=(1,oW 154 4 M.mZ.en x1.aFM.aFM)/\s.h 800009=(1,oW 157 3 M.tB.en x1.aFB.aFa)/\s.h 900009=(1,oW 85 4 M.aFD.en x1.aFR)/\s.h 1000009=(1,oW 137 5 M.aFG.en x1.aFN)/\True) ?_
 rintro al f16
 obtain ⟨ao,ah,h⟩:=bind_some h
 refine rn1 (aEo _ _ _ ah) ?_
 refine an (sq ?_)
 obtain ⟨aq,ai,h⟩:=bind_some h
 refine rn1 (aD9 _ _ _ ai) ?_
 refine an (sq (rn ?_))
 refine an (rt ?_)
 cases h
 simp [Ret,TB,EN, *]
instance:bH 264 (type_of% @aBm):=⟨@aBm⟩
theorem aAJ (p0 p1 p2 r) (h:pQ p0 p1 p2=some r):Sc 206 [aS p0,aS p1,aI p2] [(true,M.aJ.rs r.1),rB r.2]:=by unfold pQ at h;exact sgo 42 [.cell 6 49,.tmp 7] Tryz.func206
instance:bH 206 (type_of% @aAJ):=⟨@aAJ⟩
theorem c10 (p0 p1 r) (h:iI p0 p1=some r):Sc 10 [aX (M.aA.en p0),aX (M.aJ.en p1)] [(true,M.aA.rs r.1),rB r.2]:=by
 have i1:=λ(x1:M.aA)=>inv λm s=>∃v8:Int,(s.t 2=vP 2 1 0/\s.t 3=vP 3 1 0/\s.t 4=vP 4 1 0/\s.t 6=vP 6 1 0/\s.t 8=vI v8/\s.h 2=(1,oX 26 (M.aA.en p0))/\s.h 3=(1,oX 49 (M.aJ.en p1))/\s.h 4=(1,oB 26 [.nil])/\s.h 6=(1,oB 26 [.row 100011 1])/\s.h 100011=(1,oW 49 24 M.aJ.en x1.aE8))/\kU p0 p1 x1 m v8=some r
 have e1:=@kU.eq_2
 unfold iI at h
 exact sgo 74 [.cell 4 26,.tmp 5] Tryz.func10
instance:bH 10 (type_of% @c10):=⟨@c10⟩
theorem aDn (p0 p1 p2 p3 r) (h:sP p0 p1 p2 p3=some r):Sc 266 [aX (M.World.en p0),aS p1,aS p2,aL M.Instr.en p3] [(true,M.World.rs r.1),rI r.2.1,rB r.2.2]:=by unfold sP at h;exact sgo 130 [.cell 8 75,.tmp 9,.tmp 10] Tryz.func266
instance:bH 266 (type_of% @aDn):=⟨@aDn⟩
theorem aBj (p0 r) (h:zJ p0=some r):Sc 278 [aX (M.bV.en p0)] [(true,M.aE5.rs r.1),rI r.2]:=by
 have i1:=λ(x3:((List (List Int))×Int))=>DV [.b 4 2 7050000 40 3,.b 4 3 7050001 282 2] λm s=>∃v7:Int,∃ai:ByteArray,∃aj:Int,∃aa:List M.aC,∃ae:List M.aN,∃af:Nat,∃ah:Nat,(s.t 2=vP 2 1 0/\s.t 4=vP 4 1 0/\s.t 5=vR 100019 1/\s.t 7=vI v7/\s.h 2=(1,K5)/\s.h 4=(1,oB 35 [cS ai,cI aj,.row 7050000 af,.row 7050001 ah])/\s.h 100019=(1,oW 22 1 (enL enB) x3.1)/\s.h 7050000=(af,oW 40 3 M.aC.en aa)/\s.h 7050001=(ah,oW 282 2 M.aN.en ae))/\pK x3 m v7 ai aj aa ae=some r
 have e1:=@pK.eq_2
 unfold zJ at h
 exact sgo 51 [.cell 2 35,.tmp 3] Tryz.func278
instance:bH 278 (type_of% @aBj):=⟨@aBj⟩
theorem Zl (p0 p1 r) (h:nK p0 p1=some r):Sc 207 [aX (M.bV.en p0),aL M.Op.en p1] [(true,M.bV.rs r.1),rB r.2]:=by unfold nK at h;exact sgo 64 [.cell 4 37,.tmp 5] Tryz.func207
instance:bH 207 (type_of% @Zl):=⟨@Zl⟩
theorem aCL (p0 r) (h:uG p0=some r):Sc 123 [(false,[.ptr [.sl (List.map enB p0.b),.int .i64 p0.i,.int .i64 p0.h]])] [(false,[.edit (.lend 182 [.int .i64 r.1,.int .i64 r.2.1])]),(true,M.aJ.rs r.2.2)]:=by
 unfold uG at h
 simp only [EN]
 refine sgB 90 [.cell 2 49] Tryz.func123 λbase wd B0 u0 hw0 => ?_
 refine eY (J:=λs=>s.t 0=vP 7059000 1 0/\s.h 7059000=(1,oB 182 [.old B0 (.sl (List.map enB p0.b)) (some u0),cI p0.i,cI p0.h])/\True) ?_ ?_
 ·and_intros<;>(try simp only [LN,List.map_cons,List.map_nil])<;>rfl
 rintro s1 f2
 refine sq (rn ?_)
 refine an (sq ?_)
 obtain ⟨x4,h5,h⟩:=bind_some h
 refine rn1 (X7 _ _ h5) ?_
 refine an (sq ?_)
 refine cu (λs=>s.t 0=vP 7059000 1 0/\s.t 2=vP 2 ((s1.h 2).1+1) 0/\s.t 3=vS x4.2.2/\s.h 2=(((s1.h 2).1+1),OI)/\s.h 7059000=(1,oB 182 [.old B0 (.sl (List.map enB p0.b)) (some u0),cI x4.1,cI x4.2.1])/\True) ?_
 rintro s6 f7
 refine rn ?_
 refine an ?_
 obtain ⟨cy,cz,h⟩:=bind_some h
 refine tN (λs=>s.t 0=vP 7059000 1 0/\s.t 2=vP 2 ((s1.h 2).1+1) 0/\s.t 3=vS x4.2.2/\s.t 4=vS cy.1/\s.h 2=(((s1.h 2).1+1),OI)/\s.h 7059000=(1,oB 182 [.old B0 (.sl (List.map enB p0.b)) (some u0),cI cy.2.1,cI cy.2.2])/\True) ?_ ?_
 ·replace h:=cz;clear cz;refine sq ?_;obtain ⟨cr,dz,h⟩:=bind_some h;refine rn1 (c75 _ _ _ dz) ?_;refine an ?_;refine cu (λs=>s.t 0=vP 7059000 1 0/\s.t 2=vP 2 ((s1.h 2).1+1) 0/\s.t 3=vS x4.2.2/\s.t 4=vS x4.2.2/\s.t 15=vB cr.2.2/\s.h 2=(((s1.h 2).1+1),OI)/\s.h 7059000=(1,oB 182 [.old B0 (.sl (List.map enB p0.b)) (some u0),cI cr.1,cI cr.2.1])/\True) ?_;rintro fo f24;rcases Cf cr.2.2 with da | da;(replace h:=cM da h;refine cf (sk ?_);cases h;refine jB ⟨?_,?_,?_,?_,?_,?_,trivial⟩<;>(try simp +decide only [F,reduceIte,Nat.reduceAdd,qB,qC,EN, *,-h]));replace h:=cN da h;refine ct ?_;obtain ⟨fq,ef,h⟩:=bind_some h;refine rn1 (X7 _ _ ef) ?_;cases h;refine jB ⟨?_,?_,?_,?_,?_,?_,trivial⟩<;>(try simp +decide only [F,reduceIte,Nat.reduceAdd,qB,qC,EN, *,-h])
 clear cz
 rintro ao f15
 refine sq ?_
 obtain ⟨dx,eg,h⟩:=bind_some h
 obtain ⟨aa,eh,h⟩:=bind_some h
 refine rn2 (c65 _ _ _ eg) (aAJ _ _ _ _ eh) ?_
 refine an (sq (sq ?_))
 refine cu (λs=>s.t 0=vP 7059000 1 0/\s.t 2=vP 2 ((s1.h 2).1+1) 0/\s.t 5=vP 5 ((ao.h 5).1+1) 0/\s.h 2=(((s1.h 2).1+1),OI)/\s.h 5=(((ao.h 5).1+1),oB 49 [cS aa.1.aFD,cS aa.1.Top,cS aa.1.aE4.aFD,cI aa.1.aE4.aFY,cI aa.1.aE4.aFg,cI aa.1.aE4.aFl,.row 700024 ((ao.h 700024).1+1),cS aa.1.bV.aFT.Name,cI aa.1.bV.aFT.aE3,.row 1000024 ((ao.h 1000024).1+1),.row 1100024 ((ao.h 1100024).1+1),.row 1200024 ((ao.h 1200024).1+1),cI aa.1.bV.aFk,cS aa.1.aG.aFT.Name,.row 1500024 ((ao.h 1500024).1+1),cI aa.1.aG.aFT.aFZ,cI aa.1.aG.aFq,cI aa.1.aG.aFS.aM.aFC,cI aa.1.aG.aFS.aM.aFd,.row 2000024 ((ao.h 2000024).1+1),cI aa.1.aG.aFS.aFi,cI aa.1.aG.aFS.aFX,cI aa.1.aFf,cB aa.1.aFc])/\s.h 700024=(((ao.h 700024).1+1),oW 193 2 M.aFE.en aa.1.aE6.aE6)/\s.h 1000024=(((ao.h 1000024).1+1),oW 40 3 M.aC.en aa.1.bV.aFT.aFH)/\s.h 1100024=(((ao.h 1100024).1+1),oW 282 2 M.aN.en aa.1.bV.aFT.aFQ)/\s.h 1200024=(((ao.h 1200024).1+1),oW 5 1 enB aa.1.bV.Log)/\s.h 1500024=(((ao.h 1500024).1+1),oW 284 4 M.aFP.en aa.1.aG.aFT.aE7)/\s.h 2000024=(((ao.h 2000024).1+1),oW 211 7 M.bD.en aa.1.aG.aFS.aM.aFO)/\s.h 7059000=(1,oB 182 [.old B0 (.sl (List.map enB p0.b)) (some u0),cI dx.1,cI dx.2.1])/\True) ?_
 rintro dy f39
 obtain ⟨cl,et,h⟩:=bind_some h
 refine rn1 (c65 _ _ _ et) ?_
 refine an (bk ?_)
 refine cu (λs=>s.h 5=dy.h 5/\s.h 2000024=dy.h 2000024/\s.t 0=vP 7059000 1 0/\s.t 2=vP 2 ((s1.h 2).1+1) 0/\s.t 5=vP 5 ((ao.h 5).1+1) 0/\s.t 7=vI cl.2.2/\s.h 2=(((s1.h 2).1+1),OI)/\s.h 700024=(((ao.h 700024).1+1),oW 193 2 M.aFE.en aa.1.aE6.aE6)/\s.h 1000024=(((ao.h 1000024).1+1),oW 40 3 M.aC.en aa.1.bV.aFT.aFH)/\s.h 1100024=(((ao.h 1100024).1+1),oW 282 2 M.aN.en aa.1.bV.aFT.aFQ)/\s.h 1200024=(((ao.h 1200024).1+1),oW 5 1 enB aa.1.bV.Log)/\s.h 1500024=(((ao.h 1500024).1+1),oW 284 4 M.aFP.en aa.1.aG.aFT.aE7)/\s.h 7059000=(1,oB 182 [.old B0 (.sl (List.map enB p0.b)) (some u0),cI cl.1,cI cl.2.1])/\True) ?_
 rintro cw ⟨f59,f65,f54⟩
 replace f59:=f59.trans f39.2.2.2.2.1
 replace f65:=f65.trans f39.2.2.2.2.2.2.2.2.2.2.1
 refine Hf ((Gho.trans (Gho.trans (ghB 5 9 7050000 1000024) (ghB 5 10 7050001 1100024)) (ghB 5 11 7050002 1200024))) ?_
 refine FB (λm s=>∃v7:Int,∃bq:ByteArray,∃br:Int,∃bn:Int,∃bl:Int,∃bm:Int,∃aq:List M.aC,∃ar:List M.aN,∃av:List Int,∃ah:Nat,∃ai:Nat,∃aj:Nat,s.h 2000024=cw.h 2000024/\s.t 0=vP 7059000 1 0/\s.t 2=vP 2 ((s1.h 2).1+1) 0/\s.t 5=vP 5 ((ao.h 5).1+1) 0/\s.t 7=vI v7/\s.h 2=(((s1.h 2).1+1),OI)/\s.h 5=(((ao.h 5).1+1),oB 49 [cS aa.1.aFD,cS aa.1.Top,cS aa.1.aE4.aFD,cI aa.1.aE4.aFY,cI aa.1.aE4.aFg,cI aa.1.aE4.aFl,.row 700024 ((ao.h 700024).1+1),cS bq,cI br,.row 7050000 ah,.row 7050001 ai,.row 7050002 aj,cI bn,cS aa.1.aG.aFT.Name,.row 1500024 ((ao.h 1500024).1+1),cI aa.1.aG.aFT.aFZ,cI aa.1.aG.aFq,cI aa.1.aG.aFS.aM.aFC,cI aa.1.aG.aFS.aM.aFd,.row 2000024 ((ao.h 2000024).1+1),cI aa.1.aG.aFS.aFi,cI aa.1.aG.aFS.aFX,cI aa.1.aFf,cB aa.1.aFc])/\s.h 700024=(((ao.h 700024).1+1),oW 193 2 M.aFE.en aa.1.aE6.aE6)/\s.h 1500024=(((ao.h 1500024).1+1),oW 284 4 M.aFP.en aa.1.aG.aFT.aE7)/\s.h 7050000=(ah,oW 40 3 M.aC.en aq)/\s.h 7050001=(ai,oW 282 2 M.aN.en ar)/\s.h 7050002=(aj,oW 5 1 enB av)/\s.h 7059000=(1,oB 182 [.old B0 (.sl (List.map enB p0.b)) (some u0),cI bl,cI bm])/\fU p0 aa m v7 bq br bn bl bm aq ar av=some r) fuel ?_ ?_
 ·refine ⟨cl.2.2,aa.1.bV.aFT.Name,aa.1.bV.aFT.aE3,aa.1.bV.aFk,cl.1,cl.2.1,aa.1.bV.aFT.aFH,aa.1.bV.aFT.aFQ,aa.1.bV.Log,((cw.h 7050000).1+1),((cw.h 7050001).1+1),((cw.h 7050002).1+1),?_,?_,?_,?_,?_,?_,?_,?_,?_,?_,?_,?_,?_,h⟩;all_goals simp +decide only [F,reduceIte,Nat.reduceAdd,qB,qC,EN, *,-h]
 rintro mL1 bw ⟨v7,bq,br,bn,bl,bm,aq,ar,av,ah,ai,aj,f76,f68,f69,f70,f71,f72,f73,f74,f75,f77,f78,f79,f80,h⟩
 replace f76:=f76.trans f65
 rcases mL1 with _ | mL1
 ·exact absurd h (by simp [fU])
 simp only [fU] at h
 refine sq (sq (rn ?_))
 refine an ?_
 rcases nX (decide (v7>0)) with cd | cd
 ·replace h:=cN cd h;refine ct (sk (an (sq (bk (sq ?_)))));obtain ⟨ft,eu,h⟩:=bind_some h;obtain ⟨cx,fa,h⟩:=bind_some h;obtain ⟨bx,fc,h⟩:=bind_some h;refine rd3 mixed (Y4 _ _ eu) (Zb _ _ fa) (Zl _ _ _ fc) ?_;refine an ?_;refine cu (λs=>s.h 5=bw.h 5/\s.h 2000024=bw.h 2000024/\s.t 0=vP 7059000 1 0/\s.t 2=vP 2 ((s1.h 2).1+1) 0/\s.t 5=vP 5 ((ao.h 5).1+1) 0/\s.t 7=vI v7/\s.t 8=vP 8 ((bw.h 8).1+1) 0/\s.h 2=(((s1.h 2).1+1),OI)/\s.h 8=(((bw.h 8).1+1),oB 37 [cS bx.1.aFT.Name,cI bx.1.aFT.aE3,.row 300042 ((bw.h 300042).1+1),.row 400042 ((bw.h 400042).1+1),.row 500042 ((bw.h 500042).1+1),cI bx.1.aFk])/\s.h 300042=(((bw.h 300042).1+1),oW 40 3 M.aC.en bx.1.aFT.aFH)/\s.h 400042=(((bw.h 400042).1+1),oW 282 2 M.aN.en bx.1.aFT.aFQ)/\s.h 500042=(((bw.h 500042).1+1),oW 5 1 enB bx.1.Log)/\s.h 700024=(((ao.h 700024).1+1),oW 193 2 M.aFE.en aa.1.aE6.aE6)/\s.h 1500024=(((ao.h 1500024).1+1),oW 284 4 M.aFP.en aa.1.aG.aFT.aE7)/\s.h 7050000=(ah,oW 40 3 M.aC.en aq)/\s.h 7050001=(ai,oW 282 2 M.aN.en ar)/\s.h 7050002=(aj,oW 5 1 enB av)/\s.h 7059000=(1,oB 182 [.old B0 (.sl (List.map enB p0.b)) (some u0),cI cx.1,cI cx.2.1])/\True) ?_;rintro fw ⟨f95,f102,f89⟩;replace f95:=f95.trans f73;replace f102:=f102.trans f76;refine rn ?_;refine ab (an (rn ?_));refine jB ⟨_,(Gho.trans (Gho.trans (ghB 5 9 7050000 300042) (ghB 5 10 7050001 400042)) (ghB 5 11 7050002 500042)),mL1,qb,(IntKind.i64.wrap (v7-1)),bx.1.aFT.Name,bx.1.aFT.aE3,bx.1.aFk,cx.1,cx.2.1,bx.1.aFT.aFH,bx.1.aFT.aFQ,bx.1.Log,(ah+1),(ai+1),(aj+1),?_,?_,?_,?_,?_,?_,?_,?_,?_,?_,?_,?_,?_,h⟩;all_goals simp +decide only [F,reduceIte,Nat.reduceAdd,qB,qC,EN, *,-h]
 replace h:=cM cd h
 refine cf (xt (DO (DB (Ie (an (sq (sq ?_)))))))
 obtain ⟨bu,db,h⟩:=bind_some h
 refine rn1 (c65 _ _ _ db) ?_
 refine an (bk ?_)
 refine cu (λs=>s.h 5=bw.h 5/\s.h 2000024=bw.h 2000024/\s.t 0=vP 7059000 1 0/\s.t 2=vP 2 ((s1.h 2).1+1) 0/\s.t 5=vP 5 ((ao.h 5).1+1) 0/\s.t 10=vI bu.2.2/\s.h 2=(((s1.h 2).1+1),OI)/\s.h 700024=(((ao.h 700024).1+1),oW 193 2 M.aFE.en aa.1.aE6.aE6)/\s.h 1500024=(((ao.h 1500024).1+1),oW 284 4 M.aFP.en aa.1.aG.aFT.aE7)/\s.h 7050000=(ah,oW 40 3 M.aC.en aq)/\s.h 7050001=(ai,oW 282 2 M.aN.en ar)/\s.h 7050002=(aj,oW 5 1 enB av)/\s.h 7059000=(1,oB 182 [.old B0 (.sl (List.map enB p0.b)) (some u0),cI bu.1,cI bu.2.1])/\True) ?_
 rintro cn ⟨f115,f118,f110⟩
 replace f115:=f115.trans f73
 replace f118:=f118.trans f76
 refine Hf ((Gho.trans (ghB 5 14 7050100 1500024) (ghB 5 19 7050101 2000024))) ?_
 refine FB (λm s=>∃bo:Int,∃ay:ByteArray,∃az:Int,∃ba:Int,∃bd:Int,∃bf:Int,∃bg:Int,∃bh:Int,∃aw:Int,∃ax:Int,∃ak:List M.aFP,∃al:List M.bD,∃ae:Nat,∃af:Nat,s.t 0=vP 7059000 1 0/\s.t 2=vP 2 ((s1.h 2).1+1) 0/\s.t 5=vP 5 ((ao.h 5).1+1) 0/\s.t 10=vI bo/\s.h 2=(((s1.h 2).1+1),OI)/\s.h 5=(((ao.h 5).1+1),oB 49 [cS aa.1.aFD,cS aa.1.Top,cS aa.1.aE4.aFD,cI aa.1.aE4.aFY,cI aa.1.aE4.aFg,cI aa.1.aE4.aFl,.row 700024 ((ao.h 700024).1+1),cS bq,cI br,.row 7050000 ah,.row 7050001 ai,.row 7050002 aj,cI bn,cS ay,.row 7050100 ae,cI az,cI ba,cI bd,cI bf,.row 7050101 af,cI bg,cI bh,cI aa.1.aFf,cB aa.1.aFc])/\s.h 700024=(((ao.h 700024).1+1),oW 193 2 M.aFE.en aa.1.aE6.aE6)/\s.h 7050000=(ah,oW 40 3 M.aC.en aq)/\s.h 7050001=(ai,oW 282 2 M.aN.en ar)/\s.h 7050002=(aj,oW 5 1 enB av)/\s.h 7050100=(ae,oW 284 4 M.aFP.en ak)/\s.h 7050101=(af,oW 211 7 M.bD.en al)/\s.h 7059000=(1,oB 182 [.old B0 (.sl (List.map enB p0.b)) (some u0),cI aw,cI ax])/\fR p0 aa bq br bn aq ar av m bo ay az ba bd bf bg bh aw ax ak al=some r) fuel ?_ ?_
 ·refine ⟨bu.2.2,aa.1.aG.aFT.Name,aa.1.aG.aFT.aFZ,aa.1.aG.aFq,aa.1.aG.aFS.aM.aFC,aa.1.aG.aFS.aM.aFd,aa.1.aG.aFS.aFi,aa.1.aG.aFS.aFX,bu.1,bu.2.1,aa.1.aG.aFT.aE7,aa.1.aG.aFS.aM.aFO,((cn.h 7050100).1+1),((cn.h 7050101).1+1),?_,?_,?_,?_,?_,?_,?_,?_,?_,?_,?_,?_,?_,h⟩;all_goals simp +decide only [F,reduceIte,Nat.reduceAdd,qB,qC,EN, *,-h]
 rintro mL2 bz ⟨bo,ay,az,ba,bd,bf,bg,bh,aw,ax,ak,al,ae,af,f124,f125,f126,f127,f128,f129,f130,f131,f132,f133,f134,f135,f136,h⟩
 rcases mL2 with _ | mL2
 ·exact absurd h (by simp [fR])
 simp only [fR] at h
 refine sq (sq (rn ?_))
 refine an ?_
 rcases nX (decide (bo>0)) with bt | bt
 ·replace h:=cN bt h
  refine ct (sk (an (sq (bk ?_))))
  obtain ⟨fe,df,h⟩:=bind_some h
  obtain ⟨ff,dg,h⟩:=bind_some h
  obtain ⟨c9,dh,h⟩:=bind_some h
  obtain ⟨bj,di,h⟩:=bind_some h
  apply By mixed
  ·simp +decide only [E,reduceIte,Nat.reduceAdd,Nat.reduceMul,qB,qC,L,X8,Ya,EN,cd,f124,f125,f126,f127,f128,f129,f130,f131,f132,f133,f134,f135,f136,bt]
   refine ⟨_,Y4 _ _ df,?_⟩
   try simp +decide only [E,reduceIte,Nat.reduceAdd,Nat.reduceMul,qB,qC,L,X8,Ya,EN,cd,f124,f125,f126,f127,f128,f129,f130,f131,f132,f133,f134,f135,f136,bt]
   refine ⟨_,ZK _ _ dg,?_⟩
   try simp +decide only [E,reduceIte,Nat.reduceAdd,Nat.reduceMul,qB,qC,L,X8,Ya,EN,cd,f124,f125,f126,f127,f128,f129,f130,f131,f132,f133,f134,f135,f136,bt]
   refine ⟨_,c65 _ _ _ dh,?_⟩
   try simp +decide only [E,reduceIte,Nat.reduceAdd,Nat.reduceMul,qB,qC,L,X8,Ya,EN,cd,f124,f125,f126,f127,f128,f129,f130,f131,f132,f133,f134,f135,f136,bt]
   refine ⟨_,ZC _ _ _ _ _ di,?_⟩
   try simp +decide only [E,reduceIte,Nat.reduceAdd,Nat.reduceMul,qB,qC,L,X8,Ya,EN,cd,f124,f125,f126,f127,f128,f129,f130,f131,f132,f133,f134,f135,f136,bt]
   exact ⟨.mk qf,Is.mk _⟩
  refine ab (an ?_)
  refine cu (λs=>s.t 0=vP 7059000 1 0/\s.t 2=vP 2 ((s1.h 2).1+1) 0/\s.t 5=vP 5 ((ao.h 5).1+1) 0/\s.t 10=vI bo/\s.h 2=(((s1.h 2).1+1),OI)/\s.h 5=(((ao.h 5).1+1),oB 49 [cS aa.1.aFD,cS aa.1.Top,cS aa.1.aE4.aFD,cI aa.1.aE4.aFY,cI aa.1.aE4.aFg,cI aa.1.aE4.aFl,.row 700024 ((ao.h 700024).1+1),cS bq,cI br,.row 7050000 ah,.row 7050001 ai,.row 7050002 aj,cI bn,cS bj.1.aFT.Name,.row 200062 ((bz.h 200062).1+1),cI bj.1.aFT.aFZ,cI bj.1.aFq,cI bj.1.aFS.aM.aFC,cI bj.1.aFS.aM.aFd,.row 700062 ((bz.h 700062).1+1),cI bj.1.aFS.aFi,cI bj.1.aFS.aFX,cI aa.1.aFf,cB aa.1.aFc])/\s.h 200062=(((bz.h 200062).1+1),oW 284 4 M.aFP.en bj.1.aFT.aE7)/\s.h 700024=(((ao.h 700024).1+1),oW 193 2 M.aFE.en aa.1.aE6.aE6)/\s.h 700062=(((bz.h 700062).1+1),oW 211 7 M.bD.en bj.1.aFS.aM.aFO)/\s.h 7050000=(ah,oW 40 3 M.aC.en aq)/\s.h 7050001=(ai,oW 282 2 M.aN.en ar)/\s.h 7050002=(aj,oW 5 1 enB av)/\s.h 7059000=(1,oB 182 [.old B0 (.sl (List.map enB p0.b)) (some u0),cI c9.1,cI c9.2.1])/\True) ?_
  rintro cp f147
  refine rn ?_
  refine jB ⟨_,(Gho.trans (ghB 5 14 7050100 200062) (ghB 5 19 7050101 700062)),mL2,qb,(IntKind.i64.wrap (bo-1)),bj.1.aFT.Name,bj.1.aFT.aFZ,bj.1.aFq,bj.1.aFS.aM.aFC,bj.1.aFS.aM.aFd,bj.1.aFS.aFi,bj.1.aFS.aFX,c9.1,c9.2.1,bj.1.aFT.aE7,bj.1.aFS.aM.aFO,((cp.h 7050100).1+1),((cp.h 7050101).1+1),?_,?_,?_,?_,?_,?_,?_,?_,?_,?_,?_,?_,?_,h⟩
  all_goals simp +decide only [F,reduceIte,Nat.reduceAdd,qB,qC,EN, *,-h]
 replace h:=cM bt h
 refine cf (xt (DO (DB (Ie (an (sq (sq ?_)))))))
 obtain ⟨ca,dj,h⟩:=bind_some h
 refine rn1 (c75 _ _ _ dj) ?_
 refine an ?_
 refine cu (λs=>s.h 5=bz.h 5/\s.t 0=vP 7059000 1 0/\s.t 2=vP 2 ((s1.h 2).1+1) 0/\s.t 5=vP 5 ((ao.h 5).1+1) 0/\s.t 67=vB ca.2.2/\s.h 2=(((s1.h 2).1+1),OI)/\s.h 700024=(((ao.h 700024).1+1),oW 193 2 M.aFE.en aa.1.aE6.aE6)/\s.h 7050000=(ah,oW 40 3 M.aC.en aq)/\s.h 7050001=(ai,oW 282 2 M.aN.en ar)/\s.h 7050002=(aj,oW 5 1 enB av)/\s.h 7050100=(ae,oW 284 4 M.aFP.en ak)/\s.h 7050101=(af,oW 211 7 M.bD.en al)/\s.h 7059000=(1,oB 182 [.old B0 (.sl (List.map enB p0.b)) (some u0),cI ca.1,cI ca.2.1])/\True) ?_
 rintro fg ⟨f168,f163⟩
 replace f168:=f168.trans f129
 rcases Cf ca.2.2 with cg | cg
 ·replace h:=cM cg h;refine cf (sk (an (sq ?_)));obtain ⟨cj,dk,h⟩:=bind_some h;refine rn1 (c65 _ _ _ dk) ?_;refine an (sq ?_);refine cu (λs=>s.t 0=vP 7059000 1 0/\s.t 2=vP 2 ((s1.h 2).1+1) 0/\s.t 5=vP 5 ((ao.h 5).1+1) 0/\s.h 2=(((s1.h 2).1+1),OI)/\s.h 5=(((ao.h 5).1+1),oB 49 [cS aa.1.aFD,cS aa.1.Top,cS aa.1.aE4.aFD,cI aa.1.aE4.aFY,cI aa.1.aE4.aFg,cI aa.1.aE4.aFl,.row 700024 ((ao.h 700024).1+1),cS bq,cI br,.row 7050000 ah,.row 7050001 ai,.row 7050002 aj,cI bn,cS ay,.row 7050100 ae,cI az,cI ba,cI bd,cI bf,.row 7050101 af,cI bg,cI bh,cI cj.2.2,cB aa.1.aFc])/\s.h 700024=(((ao.h 700024).1+1),oW 193 2 M.aFE.en aa.1.aE6.aE6)/\s.h 7050000=(ah,oW 40 3 M.aC.en aq)/\s.h 7050001=(ai,oW 282 2 M.aN.en ar)/\s.h 7050002=(aj,oW 5 1 enB av)/\s.h 7050100=(ae,oW 284 4 M.aFP.en ak)/\s.h 7050101=(af,oW 211 7 M.bD.en al)/\s.h 7059000=(1,oB 182 [.old B0 (.sl (List.map enB p0.b)) (some u0),cI cj.1,cI cj.2.1])/\True) ?_;rintro fh f214;obtain ⟨fj,dm,h⟩:=bind_some h;refine rn1 (c75 _ _ _ dm) ?_;refine an (sq (rn ?_));refine an (rt ?_);cases h;simp [HQ,Ret,TB,EN, *]
 replace h:=cN cg h
 refine ct (sq ?_)
 obtain ⟨cc,dn,h⟩:=bind_some h
 refine rn1 (c65 _ _ _ dn) ?_
 refine an ?_
 refine cu (λs=>s.t 0=vP 7059000 1 0/\s.t 2=vP 2 ((s1.h 2).1+1) 0/\s.t 5=vP 5 ((ao.h 5).1+1) 0/\s.h 2=(((s1.h 2).1+1),OI)/\s.h 5=(((ao.h 5).1+1),oB 49 [cS aa.1.aFD,cS aa.1.Top,cS aa.1.aE4.aFD,cI aa.1.aE4.aFY,cI aa.1.aE4.aFg,cI (IntKind.i64.wrap (1+cc.2.2)),.row 700024 ((ao.h 700024).1+1),cS bq,cI br,.row 7050000 ah,.row 7050001 ai,.row 7050002 aj,cI bn,cS ay,.row 7050100 ae,cI az,cI ba,cI bd,cI bf,.row 7050101 af,cI bg,cI bh,cI aa.1.aFf,cB aa.1.aFc])/\s.h 700024=(((ao.h 700024).1+1),oW 193 2 M.aFE.en aa.1.aE6.aE6)/\s.h 7050000=(ah,oW 40 3 M.aC.en aq)/\s.h 7050001=(ai,oW 282 2 M.aN.en ar)/\s.h 7050002=(aj,oW 5 1 enB av)/\s.h 7050100=(ae,oW 284 4 M.aFP.en ak)/\s.h 7050101=(af,oW 211 7 M.bD.en al)/\s.h 7059000=(1,oB 182 [.old B0 (.sl (List.map enB p0.b)) (some u0),cI cc.1,cI cc.2.1])/\True) ?_
 rintro cq f180
 obtain ⟨dq,dr,h⟩:=bind_some h
 refine rn1 (Y3 _ _ _ dr) ?_
 refine an (sq ?_)
 obtain ⟨ck,du,h⟩:=bind_some h
 refine rn1 (c65 _ _ _ du) ?_
 refine an (sq ?_)
 refine cu (λs=>s.t 0=vP 7059000 1 0/\s.t 2=vP 2 ((s1.h 2).1+1) 0/\s.t 5=vP 5 ((ao.h 5).1+1) 0/\s.h 2=(((s1.h 2).1+1),OI)/\s.h 5=(((ao.h 5).1+1),oB 49 [cS aa.1.aFD,cS aa.1.Top,cS aa.1.aE4.aFD,cI aa.1.aE4.aFY,cI aa.1.aE4.aFg,cI (IntKind.i64.wrap (1+cc.2.2)),.row 100079 ((cq.h 100079).1+1),cS bq,cI br,.row 7050000 ah,.row 7050001 ai,.row 7050002 aj,cI bn,cS ay,.row 7050100 ae,cI az,cI ba,cI bd,cI bf,.row 7050101 af,cI bg,cI bh,cI ck.2.2,cB aa.1.aFc])/\s.h 100079=(((cq.h 100079).1+1),oW 193 2 M.aFE.en dq.1.aE6)/\s.h 7050000=(ah,oW 40 3 M.aC.en aq)/\s.h 7050001=(ai,oW 282 2 M.aN.en ar)/\s.h 7050002=(aj,oW 5 1 enB av)/\s.h 7050100=(ae,oW 284 4 M.aFP.en ak)/\s.h 7050101=(af,oW 211 7 M.bD.en al)/\s.h 7059000=(1,oB 182 [.old B0 (.sl (List.map enB p0.b)) (some u0),cI ck.1,cI ck.2.1])/\True) ?_
 rintro fk f197
 obtain ⟨fm,dw,h⟩:=bind_some h
 refine rn1 (c75 _ _ _ dw) ?_
 refine an (sq (rn ?_))
 refine an (rt ?_)
 cases h
 simp [HQ,Ret,TB,EN, *]
instance:bH 123 (type_of% @aCL):=⟨@aCL⟩
theorem aBV (p0 r) (h:AA p0=some r):Sc 215 [(false,[.ptr [.sl (List.map enB p0.b),.int .i64 p0.i,.int .i64 p0.h]])] [(false,[.edit (.lend 182 [.int .i64 r.1,.int .i64 r.2.1])]),(true,M.bV.rs r.2.2)]:=by
 unfold AA at h
 simp only [EN]
 refine sgB 22 [.cell 2 37] Tryz.func215 λbase wd B0 u0 hw0 => ?_
 refine eY (J:=λs=>s.t 0=vP 7059000 1 0/\s.h 7059000=(1,oB 182 [.old B0 (.sl (List.map enB p0.b)) (some u0),cI p0.i,cI p0.h])/\True) ?_ ?_
 ·and_intros<;>(try simp only [LN,List.map_cons,List.map_nil])<;>rfl
 rintro s1 f2
 have i1:=DV [.b 3 2 7050000 40 3,.b 3 3 7050001 282 2,.b 3 4 7050002 5 1] λm s=>∃v4:Int,∃ao:ByteArray,∃aq:Int,∃ar:Int,∃aa:Int,∃ae:Int,∃af:List M.aC,∃ah:List M.aN,∃ai:List Int,∃aj:Nat,∃ak:Nat,∃al:Nat,(s.t 0=vP 7059000 1 0/\s.t 2=vP 2 ((s1.h 2).1+1) 0/\s.t 3=vP 3 ((s1.h 3).1+1) 0/\s.t 4=vI v4/\s.h 2=(((s1.h 2).1+1),aCf)/\s.h 3=(((s1.h 3).1+1),oB 37 [cS ao,cI aq,.row 7050000 aj,.row 7050001 ak,.row 7050002 al,cI ar])/\s.h 7050000=(aj,oW 40 3 M.aC.en af)/\s.h 7050001=(ak,oW 282 2 M.aN.en ah)/\s.h 7050002=(al,oW 5 1 enB ai)/\s.h 7059000=(1,oB 182 [.old B0 (.sl (List.map enB p0.b)) (some u0),cI aa,cI ae]))/\oI p0 m v4 ao aq ar aa ae af ah ai=some r
 have e1:=@oI.eq_2
 exact sgX
instance:bH 215 (type_of% @aBV):=⟨@aBV⟩
theorem aDG (p0 r) (h:AM p0=some r):Sc 218 [(false,[.ptr [.sl (List.map enB p0.b),.int .i64 p0.i,.int .i64 p0.h]])] [(false,[.edit (.lend 182 [.int .i64 r.1,.int .i64 r.2.1])]),(true,M.aG.rs r.2.2.1),(true,M.aFG.rs r.2.2.2)]:=by
 unfold AM at h
 simp only [EN]
 refine sgB 89 [.cell 2 47,.cell 3 137] Tryz.func218 λbase wd B0 u0 hw0 => ?_
 refine eY (J:=λs=>s.t 0=vP 7059000 1 0/\s.h 7059000=(1,oB 182 [.old B0 (.sl (List.map enB p0.b)) (some u0),cI p0.i,cI p0.h])/\True) ?_ ?_
 ·and_intros<;>(try simp only [LN,List.map_cons,List.map_nil])<;>rfl
 rintro s1 f2
 have i1:=λ(s6:St)=>DV [.b 5 1 7050000 284 4,.b 5 6 7050001 211 7,.b 4 1 7050002 284 4,.b 4 3 7050003 207 2,.b 4 4 7050004 211 7] λm s=>∃v7:Int,∃aw:ByteArray,∃ax:Int,∃ay:Int,∃az:Int,∃ba:Int,∃bd:Int,∃bf:Int,∃aa:Int,∃ae:Int,∃bg:ByteArray,∃bh:Int,∃af:List M.aFP,∃ah:List M.bD,∃ai:List M.aFP,∃aj:List M.aO,∃ak:List M.bD,∃al:Nat,∃ao:Nat,∃aq:Nat,∃ar:Nat,∃av:Nat,(s.t 0=vP 7059000 1 0/\s.t 2=vP 2 ((s1.h 2).1+1) 0/\s.t 3=vP 3 ((s1.h 3).1+1) 0/\s.t 4=vP 4 ((s1.h 4).1+1) 0/\s.t 5=vP 5 ((s6.h 5).1+1) 0/\s.t 7=vI v7/\s.h 2=(((s1.h 2).1+1),aAW)/\s.h 3=(((s1.h 3).1+1),UN)/\s.h 4=(((s1.h 4).1+1),oB 137 [cS bg,.row 7050002 al,cI bh,.row 7050003 ao,.row 7050004 aq])/\s.h 5=(((s6.h 5).1+1),oB 47 [cS aw,.row 7050000 ar,cI ax,cI ay,cI az,cI ba,.row 7050001 av,cI bd,cI bf])/\s.h 7050000=(ar,oW 284 4 M.aFP.en af)/\s.h 7050001=(av,oW 211 7 M.bD.en ah)/\s.h 7050002=(al,oW 284 4 M.aFP.en ai)/\s.h 7050003=(ao,oW 207 2 M.aO.en aj)/\s.h 7050004=(aq,oW 211 7 M.bD.en ak)/\s.h 7059000=(1,oB 182 [.old B0 (.sl (List.map enB p0.b)) (some u0),cI aa,cI ae]))/\eZ p0 m v7 aw ax ay az ba bd bf aa ae bg bh af ah ai aj ak=some r
 have e1:=@eZ.eq_2
 exact sgX
instance:bH 218 (type_of% @aDG):=⟨@aDG⟩
theorem aBK (p0 r) (h:Be p0=some r):Sc 126 [(false,[.ptr [.sl (List.map enB p0.b),.int .i64 p0.i,.int .i64 p0.h]])] [(false,[.edit (.lend 182 [.int .i64 r.1,.int .i64 r.2.1])]),(true,M.aG.rs r.2.2)]:=by
 unfold Be at h
 simp only [EN]
 refine sgB 30 [.cell 2 47] Tryz.func126 λbase wd B0 u0 hw0 => ?_
 refine eY (J:=λs=>s.t 0=vP 7059000 1 0/\s.h 7059000=(1,oB 182 [.old B0 (.sl (List.map enB p0.b)) (some u0),cI p0.i,cI p0.h])/\True) ?_ ?_
 ·and_intros<;>(try simp only [LN,List.map_cons,List.map_nil])<;>rfl
 rintro s1 f2
 exact sgX
instance:bH 126 (type_of% @aBK):=⟨@aBK⟩
theorem c32 (p0 p1 p2 r) (h:tA p0 p1 p2=some r):Sc 32 [aX (M.World.en p0),aI p1,aS p2] [(true,M.World.rs r.1),rI r.2]:=by unfold tA at h;exact sgo 54 [.cell 6 75,.tmp 7] Tryz.func32
end Go.Proofs.YtipmihbgjolaaaaGreat.gen
