/-
  Helper text. No conditions.
-/
import Derived.Test.YtipmihbgjolaaaaGreatWorldsTi
import Derived.Test.YtipmihbgjolaaaaGreatWorldsWspec0
import Derived.Test.YtipmihbgjolaaaaGreatWorldsWspec1
import Derived.Test.YtipmihbgjolaaaaGreatWorldsWspec2
import Derived.Test.YtipmihbgjolaaaaGreatWorldsWspec3
import Derived.Test.YtipmihbgjolaaaaGreatWorldsWspec4
import Derived.Test.YtipmihbgjolaaaaGreatWorldsWspec5
import Derived.Test.YtipmihbgjolaaaaGreatWorldsWspec6
import Derived.Test.YtipmihbgjolaaaaGreatWorldsWspec7
set_option linter.unusedVariables false
set_option linter.unusedSimpArgs false
namespace Go.Proofs.YtipmihbgjolaaaaGreat.gen
open Go Go.Sh
set_option maxRecDepth 20000
set_option maxHeartbeats 4000000
theorem Xd (p0 r) (h:tE p0=some r):Sc 136 [aX (M.aO.en p0)] [rB r]:=by unfold tE at h;exact sgo 50 [.tmp 2] Tryz.func136
instance:cA 136 (type_of% @Xd):=⟨@Xd⟩
theorem Z8 (p0 p1 p2 r) (h:pO p0 p1 p2=some r):Sc 206 [aS p0,aS p1,aI p2] [(true,M.aO.rs r.1),rB r.2]:=by unfold pO at h;exact sgo 42 [.cell 6 49,.tmp 7] Tryz.func206
theorem X9 (p0 p1 r) (h:tW p0 p1=some r):Sc 279 [aX (M.aAA.en p0),aL M.Op.en p1] [(true,M.aAA.rs r.1),rW 3 1 enI r.2.1,rB r.2.2]:=by
 have i1:=DW [.b 7 2 7050000 40 3,.b 7 3 7050001 282 2] λm s=>∃v9:Int,∃ai:ByteArray,∃aj:Int,∃ak:List Int,∃aa:List M.aA,∃ae:List M.aN,∃al:Nat,∃af:Nat,∃ah:Nat,(s.t 1=vL M.Op.en p1/\s.t 2=vP 2 1 0/\s.t 4=vP 4 1 0/\s.t 7=vP 7 1 0/\s.t 8=vR 100015 al/\s.t 9=vI v9/\s.h 2=(1,oX 35 (M.aAA.en p0))/\s.h 4=(1,H5)/\s.h 7=(1,oB 35 [cS ai,cI aj,.row 7050000 af,.row 7050001 ah])/\s.h 100015=(al,oW 3 1 enI ak)/\s.h 7050000=(af,oW 40 3 M.aA.en aa)/\s.h 7050001=(ah,oW 282 2 M.aN.en ae))/\pS p0 p1 m v9 ai aj ak aa ae=some r
 have e1:=@pS.eq_2
 unfold tW at h
 exact sgo 54 [.cell 4 35,.tmp 5,.tmp 6] Tryz.func279
instance:cA 279 (type_of% @X9):=⟨@X9⟩
theorem Xg (p0 r) (h:vN p0=some r):Sc 278 [aX (M.cR.en p0)] [(true,M.aAA.rs r.1),rI r.2]:=by
 have i1:=λ(x3:((List (List Int))×Int))=>DW [.b 4 2 7050000 40 3,.b 4 3 7050001 282 2] λm s=>∃v7:Int,∃ai:ByteArray,∃aj:Int,∃aa:List M.aA,∃ae:List M.aN,∃af:Nat,∃ah:Nat,(s.t 2=vP 2 1 0/\s.t 4=vP 4 1 0/\s.t 5=vR 100019 1/\s.t 7=vI v7/\s.h 2=(1,H5)/\s.h 4=(1,oB 35 [cS ai,cI aj,.row 7050000 af,.row 7050001 ah])/\s.h 100019=(1,oW 22 1 (enL enB) x3.1)/\s.h 7050000=(af,oW 40 3 M.aA.en aa)/\s.h 7050001=(ah,oW 282 2 M.aN.en ae))/\nE x3 m v7 ai aj aa ae=some r
 have e1:=@nE.eq_2
 unfold vN at h
 exact sgo 51 [.cell 2 35,.tmp 3] Tryz.func278
instance:cA 278 (type_of% @Xg):=⟨@Xg⟩
theorem Vr (p0 p1 r) (h:lL p0 p1=some r):Sc 207 [aX (M.cR.en p0),aL M.Op.en p1] [(true,M.cR.rs r.1),rB r.2]:=by unfold lL at h;exact sgo 64 [.cell 4 37,.tmp 5] Tryz.func207
instance:cA 207 (type_of% @Vr):=⟨@Vr⟩
theorem VG (p0 p1 p2 p3 r) (h:jN p0 p1 p2 p3=some r):Sc 210 [aX (M.aG.en p0),aX (M.Key.en p1),aS p2,aI p3] [(true,M.aG.rs r.1),rB r.2]:=by unfold jN at h;exact sgo 53 [.cell 8 47,.tmp 9] Tryz.func210
instance:cA 210 (type_of% @VG):=⟨@VG⟩
theorem XK (p0 r) (h:rA p0=some r):Sc 123 [(false,[.ptr [.sl (List.map enB p0.b),.int .i64 p0.i,.int .i64 p0.h]])] [(false,[.edit (.lend 182 [.int .i64 r.1,.int .i64 r.2.1])]),(true,M.aO.rs r.2.2)]:=by
 unfold rA at h
 simp only [EN]
 refine sgB 90 [.cell 2 49] Tryz.func123 λbase wd B0 u0 hw0 => ?_
 refine eJ (J:=λs=>s.t 0=vP 7059000 1 0/\s.h 7059000=(1,oB 182 [.old B0 (.sl (List.map enB p0.b)) (some u0),cI p0.i,cI p0.h])/\True) ?_ ?_
 ·and_intros<;>(try simp only [LN,List.map_cons,List.map_nil])<;>rfl
 rintro s1 f2
 refine sq (rn ?_)
 refine an (sq ?_)
 obtain ⟨x4,h5,h⟩:=bind_some h
 refine rn1 (Ug _ _ h5) ?_
 refine an (sq ?_)
 refine cu (λs=>s.t 0=vP 7059000 1 0/\s.t 2=vP 2 ((s1.h 2).1+1) 0/\s.t 3=vS x4.2.2/\s.h 2=(((s1.h 2).1+1),Lk)/\s.h 7059000=(1,oB 182 [.old B0 (.sl (List.map enB p0.b)) (some u0),cI x4.1,cI x4.2.1])/\True) ?_
 rintro s6 f7
 refine rn ?_
 refine an ?_
 obtain ⟨cx,cy,h⟩:=bind_some h
 refine sJ (λs=>s.t 0=vP 7059000 1 0/\s.t 2=vP 2 ((s1.h 2).1+1) 0/\s.t 3=vS x4.2.2/\s.t 4=vS cx.1/\s.h 2=(((s1.h 2).1+1),Lk)/\s.h 7059000=(1,oB 182 [.old B0 (.sl (List.map enB p0.b)) (some u0),cI cx.2.1,cI cx.2.2])/\True) ?_ ?_
 ·replace h:=cy;clear cy;refine sq ?_;obtain ⟨cq,dy,h⟩:=bind_some h;refine rn1 (c75 _ _ _ dy) ?_;refine an ?_;refine cu (λs=>s.t 0=vP 7059000 1 0/\s.t 2=vP 2 ((s1.h 2).1+1) 0/\s.t 3=vS x4.2.2/\s.t 4=vS x4.2.2/\s.t 15=vB cq.2.2/\s.h 2=(((s1.h 2).1+1),Lk)/\s.h 7059000=(1,oB 182 [.old B0 (.sl (List.map enB p0.b)) (some u0),cI cq.1,cI cq.2.1])/\True) ?_;rintro fm f24;rcases zD cq.2.2 with cz | cz;(replace h:=cE cz h;refine cf (sk ?_);cases h;refine gF ⟨?_,?_,?_,?_,?_,?_,trivial⟩<;>(try simp +decide only [F,reduceIte,Nat.reduceAdd,qB,qC,EN, *,-h]));replace h:=cF cz h;refine ct ?_;obtain ⟨fo,dz,h⟩:=bind_some h;refine rn1 (Ug _ _ dz) ?_;cases h;refine gF ⟨?_,?_,?_,?_,?_,?_,trivial⟩<;>(try simp +decide only [F,reduceIte,Nat.reduceAdd,qB,qC,EN, *,-h])
 clear cy
 rintro ao f15
 refine sq ?_
 obtain ⟨dw,ef,h⟩:=bind_some h
 obtain ⟨aa,eg,h⟩:=bind_some h
 refine rn2 (c65 _ _ _ ef) (Z8 _ _ _ _ eg) ?_
 refine an (sq (sq ?_))
 refine cu (λs=>s.t 0=vP 7059000 1 0/\s.t 2=vP 2 ((s1.h 2).1+1) 0/\s.t 5=vP 5 ((ao.h 5).1+1) 0/\s.h 2=(((s1.h 2).1+1),Lk)/\s.h 5=(((ao.h 5).1+1),oB 49 [cS aa.1.aAO,cS aa.1.Top,cS aa.1.aAC.aAO,cI aa.1.aAC.aAc,cI aa.1.aAC.aAl,cI aa.1.aAC.aAr,.row 700024 ((ao.h 700024).1+1),cS aa.1.cR.aAU.Name,cI aa.1.cR.aAU.aAB,.row 1000024 ((ao.h 1000024).1+1),.row 1100024 ((ao.h 1100024).1+1),.row 1200024 ((ao.h 1200024).1+1),cI aa.1.cR.aAn,cS aa.1.aG.aAU.Name,.row 1500024 ((ao.h 1500024).1+1),cI aa.1.aG.aAU.aAd,cI aa.1.aG.aAu,cI aa.1.aG.aAT.aH.aAK,cI aa.1.aG.aAT.aH.aAh,.row 2000024 ((ao.h 2000024).1+1),cI aa.1.aG.aAT.aAm,cI aa.1.aG.aAT.aAb,cI aa.1.aAk,cB aa.1.aAj])/\s.h 700024=(((ao.h 700024).1+1),oW 193 2 M.aAL.en aa.1.aAE.aAE)/\s.h 1000024=(((ao.h 1000024).1+1),oW 40 3 M.aA.en aa.1.cR.aAU.aAH)/\s.h 1100024=(((ao.h 1100024).1+1),oW 282 2 M.aN.en aa.1.cR.aAU.aAS)/\s.h 1200024=(((ao.h 1200024).1+1),oW 5 1 enB aa.1.cR.Log)/\s.h 1500024=(((ao.h 1500024).1+1),oW 284 4 M.aAQ.en aa.1.aG.aAU.aAD)/\s.h 2000024=(((ao.h 2000024).1+1),oW 211 7 M.bA.en aa.1.aG.aAT.aH.aAP)/\s.h 7059000=(1,oB 182 [.old B0 (.sl (List.map enB p0.b)) (some u0),cI dw.1,cI dw.2.1])/\True) ?_
 rintro dx f39
 obtain ⟨ck,eh,h⟩:=bind_some h
 refine rn1 (c65 _ _ _ eh) ?_
 refine an (bk ?_)
 refine cu (λs=>s.h 5=dx.h 5/\s.h 2000024=dx.h 2000024/\s.t 0=vP 7059000 1 0/\s.t 2=vP 2 ((s1.h 2).1+1) 0/\s.t 5=vP 5 ((ao.h 5).1+1) 0/\s.t 7=vI ck.2.2/\s.h 2=(((s1.h 2).1+1),Lk)/\s.h 700024=(((ao.h 700024).1+1),oW 193 2 M.aAL.en aa.1.aAE.aAE)/\s.h 1000024=(((ao.h 1000024).1+1),oW 40 3 M.aA.en aa.1.cR.aAU.aAH)/\s.h 1100024=(((ao.h 1100024).1+1),oW 282 2 M.aN.en aa.1.cR.aAU.aAS)/\s.h 1200024=(((ao.h 1200024).1+1),oW 5 1 enB aa.1.cR.Log)/\s.h 1500024=(((ao.h 1500024).1+1),oW 284 4 M.aAQ.en aa.1.aG.aAU.aAD)/\s.h 7059000=(1,oB 182 [.old B0 (.sl (List.map enB p0.b)) (some u0),cI ck.1,cI ck.2.1])/\True) ?_
 rintro cr ⟨f59,f65,f54⟩
 replace f59:=f59.trans f39.2.2.2.2.1
 replace f65:=f65.trans f39.2.2.2.2.2.2.2.2.2.2.1
 refine Dc ((Gho.trans (Gho.trans (ghB 5 9 7050000 1000024) (ghB 5 10 7050001 1100024)) (ghB 5 11 7050002 1200024))) ?_
 refine BL (λm s=>∃v7:Int,∃bo:ByteArray,∃bq:Int,∃bm:Int,∃bj:Int,∃bl:Int,∃aq:List M.aA,∃ar:List M.aN,∃av:List Int,∃ah:Nat,∃ai:Nat,∃aj:Nat,s.h 2000024=cr.h 2000024/\s.t 0=vP 7059000 1 0/\s.t 2=vP 2 ((s1.h 2).1+1) 0/\s.t 5=vP 5 ((ao.h 5).1+1) 0/\s.t 7=vI v7/\s.h 2=(((s1.h 2).1+1),Lk)/\s.h 5=(((ao.h 5).1+1),oB 49 [cS aa.1.aAO,cS aa.1.Top,cS aa.1.aAC.aAO,cI aa.1.aAC.aAc,cI aa.1.aAC.aAl,cI aa.1.aAC.aAr,.row 700024 ((ao.h 700024).1+1),cS bo,cI bq,.row 7050000 ah,.row 7050001 ai,.row 7050002 aj,cI bm,cS aa.1.aG.aAU.Name,.row 1500024 ((ao.h 1500024).1+1),cI aa.1.aG.aAU.aAd,cI aa.1.aG.aAu,cI aa.1.aG.aAT.aH.aAK,cI aa.1.aG.aAT.aH.aAh,.row 2000024 ((ao.h 2000024).1+1),cI aa.1.aG.aAT.aAm,cI aa.1.aG.aAT.aAb,cI aa.1.aAk,cB aa.1.aAj])/\s.h 700024=(((ao.h 700024).1+1),oW 193 2 M.aAL.en aa.1.aAE.aAE)/\s.h 1500024=(((ao.h 1500024).1+1),oW 284 4 M.aAQ.en aa.1.aG.aAU.aAD)/\s.h 7050000=(ah,oW 40 3 M.aA.en aq)/\s.h 7050001=(ai,oW 282 2 M.aN.en ar)/\s.h 7050002=(aj,oW 5 1 enB av)/\s.h 7059000=(1,oB 182 [.old B0 (.sl (List.map enB p0.b)) (some u0),cI bj,cI bl])/\fB p0 aa m v7 bo bq bm bj bl aq ar av=some r) fuel ?_ ?_
 ·refine ⟨ck.2.2,aa.1.cR.aAU.Name,aa.1.cR.aAU.aAB,aa.1.cR.aAn,ck.1,ck.2.1,aa.1.cR.aAU.aAH,aa.1.cR.aAU.aAS,aa.1.cR.Log,((cr.h 7050000).1+1),((cr.h 7050001).1+1),((cr.h 7050002).1+1),?_,?_,?_,?_,?_,?_,?_,?_,?_,?_,?_,?_,?_,h⟩;all_goals simp +decide only [F,reduceIte,Nat.reduceAdd,qB,qC,EN, *,-h]
 rintro mL1 bu ⟨v7,bo,bq,bm,bj,bl,aq,ar,av,ah,ai,aj,f76,f68,f69,f70,f71,f72,f73,f74,f75,f77,f78,f79,f80,h⟩
 replace f76:=f76.trans f65
 rcases mL1 with _ | mL1
 ·exact absurd h (by simp [fB])
 simp only [fB] at h
 refine sq (sq (rn ?_))
 refine an ?_
 rcases nY (decide (v7>0)) with cc | cc
 ·replace h:=cF cc h;refine ct (sk (an (sq (bk (sq ?_)))));obtain ⟨fq,et,h⟩:=bind_some h;obtain ⟨cw,eu,h⟩:=bind_some h;obtain ⟨bw,fa,h⟩:=bind_some h;refine rd3 mixed (Vb _ _ et) (Vj _ _ eu) (Vr _ _ _ fa) ?_;refine an ?_;refine cu (λs=>s.h 5=bu.h 5/\s.h 2000024=bu.h 2000024/\s.t 0=vP 7059000 1 0/\s.t 2=vP 2 ((s1.h 2).1+1) 0/\s.t 5=vP 5 ((ao.h 5).1+1) 0/\s.t 7=vI v7/\s.t 8=vP 8 ((bu.h 8).1+1) 0/\s.h 2=(((s1.h 2).1+1),Lk)/\s.h 8=(((bu.h 8).1+1),oB 37 [cS bw.1.aAU.Name,cI bw.1.aAU.aAB,.row 300042 ((bu.h 300042).1+1),.row 400042 ((bu.h 400042).1+1),.row 500042 ((bu.h 500042).1+1),cI bw.1.aAn])/\s.h 300042=(((bu.h 300042).1+1),oW 40 3 M.aA.en bw.1.aAU.aAH)/\s.h 400042=(((bu.h 400042).1+1),oW 282 2 M.aN.en bw.1.aAU.aAS)/\s.h 500042=(((bu.h 500042).1+1),oW 5 1 enB bw.1.Log)/\s.h 700024=(((ao.h 700024).1+1),oW 193 2 M.aAL.en aa.1.aAE.aAE)/\s.h 1500024=(((ao.h 1500024).1+1),oW 284 4 M.aAQ.en aa.1.aG.aAU.aAD)/\s.h 7050000=(ah,oW 40 3 M.aA.en aq)/\s.h 7050001=(ai,oW 282 2 M.aN.en ar)/\s.h 7050002=(aj,oW 5 1 enB av)/\s.h 7059000=(1,oB 182 [.old B0 (.sl (List.map enB p0.b)) (some u0),cI cw.1,cI cw.2.1])/\True) ?_;rintro ft ⟨f95,f102,f89⟩;replace f95:=f95.trans f73;replace f102:=f102.trans f76;refine rn ?_;refine ab (an (rn ?_));refine gF ⟨_,(Gho.trans (Gho.trans (ghB 5 9 7050000 300042) (ghB 5 10 7050001 400042)) (ghB 5 11 7050002 500042)),mL1,qb,(IntKind.i64.wrap (v7-1)),bw.1.aAU.Name,bw.1.aAU.aAB,bw.1.aAn,cw.1,cw.2.1,bw.1.aAU.aAH,bw.1.aAU.aAS,bw.1.Log,(ah+1),(ai+1),(aj+1),?_,?_,?_,?_,?_,?_,?_,?_,?_,?_,?_,?_,?_,h⟩;all_goals simp +decide only [F,reduceIte,Nat.reduceAdd,qB,qC,EN, *,-h]
 replace h:=cE cc h
 refine cf (xt (BA (Br (E7 (an (sq (sq ?_)))))))
 obtain ⟨bt,da,h⟩:=bind_some h
 refine rn1 (c65 _ _ _ da) ?_
 refine an (bk ?_)
 refine cu (λs=>s.h 5=bu.h 5/\s.h 2000024=bu.h 2000024/\s.t 0=vP 7059000 1 0/\s.t 2=vP 2 ((s1.h 2).1+1) 0/\s.t 5=vP 5 ((ao.h 5).1+1) 0/\s.t 10=vI bt.2.2/\s.h 2=(((s1.h 2).1+1),Lk)/\s.h 700024=(((ao.h 700024).1+1),oW 193 2 M.aAL.en aa.1.aAE.aAE)/\s.h 1500024=(((ao.h 1500024).1+1),oW 284 4 M.aAQ.en aa.1.aG.aAU.aAD)/\s.h 7050000=(ah,oW 40 3 M.aA.en aq)/\s.h 7050001=(ai,oW 282 2 M.aN.en ar)/\s.h 7050002=(aj,oW 5 1 enB av)/\s.h 7059000=(1,oB 182 [.old B0 (.sl (List.map enB p0.b)) (some u0),cI bt.1,cI bt.2.1])/\True) ?_
 rintro cl ⟨f115,f118,f110⟩
 replace f115:=f115.trans f73
 replace f118:=f118.trans f76
 refine Dc ((Gho.trans (ghB 5 14 7050100 1500024) (ghB 5 19 7050101 2000024))) ?_
 refine BL (λm s=>∃bn:Int,∃ay:ByteArray,∃az:Int,∃b7:Int,∃ba:Int,∃bd:Int,∃bf:Int,∃bg:Int,∃aw:Int,∃ax:Int,∃ak:List M.aAQ,∃al:List M.bA,∃ae:Nat,∃af:Nat,s.t 0=vP 7059000 1 0/\s.t 2=vP 2 ((s1.h 2).1+1) 0/\s.t 5=vP 5 ((ao.h 5).1+1) 0/\s.t 10=vI bn/\s.h 2=(((s1.h 2).1+1),Lk)/\s.h 5=(((ao.h 5).1+1),oB 49 [cS aa.1.aAO,cS aa.1.Top,cS aa.1.aAC.aAO,cI aa.1.aAC.aAc,cI aa.1.aAC.aAl,cI aa.1.aAC.aAr,.row 700024 ((ao.h 700024).1+1),cS bo,cI bq,.row 7050000 ah,.row 7050001 ai,.row 7050002 aj,cI bm,cS ay,.row 7050100 ae,cI az,cI b7,cI ba,cI bd,.row 7050101 af,cI bf,cI bg,cI aa.1.aAk,cB aa.1.aAj])/\s.h 700024=(((ao.h 700024).1+1),oW 193 2 M.aAL.en aa.1.aAE.aAE)/\s.h 7050000=(ah,oW 40 3 M.aA.en aq)/\s.h 7050001=(ai,oW 282 2 M.aN.en ar)/\s.h 7050002=(aj,oW 5 1 enB av)/\s.h 7050100=(ae,oW 284 4 M.aAQ.en ak)/\s.h 7050101=(af,oW 211 7 M.bA.en al)/\s.h 7059000=(1,oB 182 [.old B0 (.sl (List.map enB p0.b)) (some u0),cI aw,cI ax])/\eZ p0 aa bo bq bm aq ar av m bn ay az b7 ba bd bf bg aw ax ak al=some r) fuel ?_ ?_
 ·refine ⟨bt.2.2,aa.1.aG.aAU.Name,aa.1.aG.aAU.aAd,aa.1.aG.aAu,aa.1.aG.aAT.aH.aAK,aa.1.aG.aAT.aH.aAh,aa.1.aG.aAT.aAm,aa.1.aG.aAT.aAb,bt.1,bt.2.1,aa.1.aG.aAU.aAD,aa.1.aG.aAT.aH.aAP,((cl.h 7050100).1+1),((cl.h 7050101).1+1),?_,?_,?_,?_,?_,?_,?_,?_,?_,?_,?_,?_,?_,h⟩;all_goals simp +decide only [F,reduceIte,Nat.reduceAdd,qB,qC,EN, *,-h]
 rintro mL2 bx ⟨bn,ay,az,b7,ba,bd,bf,bg,aw,ax,ak,al,ae,af,f124,f125,f126,f127,f128,f129,f130,f131,f132,f133,f134,f135,f136,h⟩
 rcases mL2 with _ | mL2
 ·exact absurd h (by simp [eZ])
 simp only [eZ] at h
 refine sq (sq (rn ?_))
 refine an ?_
 rcases nY (decide (bn>0)) with br | br
 ·replace h:=cF br h
  refine ct (sk (an (sq (bk ?_))))
  obtain ⟨fc,db,h⟩:=bind_some h
  obtain ⟨fe,df,h⟩:=bind_some h
  obtain ⟨bz,dg,h⟩:=bind_some h
  obtain ⟨bh,dh,h⟩:=bind_some h
  apply tP mixed
  ·simp +decide only [E,reduceIte,Nat.reduceAdd,Nat.reduceMul,qB,qC,L,Uh,QE,EN,cc,f124,f125,f126,f127,f128,f129,f130,f131,f132,f133,f134,f135,f136,br]
   refine ⟨_,Vb _ _ db,?_⟩
   try simp +decide only [E,reduceIte,Nat.reduceAdd,Nat.reduceMul,qB,qC,L,Uh,QE,EN,cc,f124,f125,f126,f127,f128,f129,f130,f131,f132,f133,f134,f135,f136,br]
   refine ⟨_,VL _ _ df,?_⟩
   try simp +decide only [E,reduceIte,Nat.reduceAdd,Nat.reduceMul,qB,qC,L,Uh,QE,EN,cc,f124,f125,f126,f127,f128,f129,f130,f131,f132,f133,f134,f135,f136,br]
   refine ⟨_,c65 _ _ _ dg,?_⟩
   try simp +decide only [E,reduceIte,Nat.reduceAdd,Nat.reduceMul,qB,qC,L,Uh,QE,EN,cc,f124,f125,f126,f127,f128,f129,f130,f131,f132,f133,f134,f135,f136,br]
   refine ⟨_,VG _ _ _ _ _ dh,?_⟩
   try simp +decide only [E,reduceIte,Nat.reduceAdd,Nat.reduceMul,qB,qC,L,Uh,QE,EN,cc,f124,f125,f126,f127,f128,f129,f130,f131,f132,f133,f134,f135,f136,br]
   exact ⟨.mk qf,Is.mk _⟩
  refine ab (an ?_)
  refine cu (λs=>s.t 0=vP 7059000 1 0/\s.t 2=vP 2 ((s1.h 2).1+1) 0/\s.t 5=vP 5 ((ao.h 5).1+1) 0/\s.t 10=vI bn/\s.h 2=(((s1.h 2).1+1),Lk)/\s.h 5=(((ao.h 5).1+1),oB 49 [cS aa.1.aAO,cS aa.1.Top,cS aa.1.aAC.aAO,cI aa.1.aAC.aAc,cI aa.1.aAC.aAl,cI aa.1.aAC.aAr,.row 700024 ((ao.h 700024).1+1),cS bo,cI bq,.row 7050000 ah,.row 7050001 ai,.row 7050002 aj,cI bm,cS bh.1.aAU.Name,.row 200062 ((bx.h 200062).1+1),cI bh.1.aAU.aAd,cI bh.1.aAu,cI bh.1.aAT.aH.aAK,cI bh.1.aAT.aH.aAh,.row 700062 ((bx.h 700062).1+1),cI bh.1.aAT.aAm,cI bh.1.aAT.aAb,cI aa.1.aAk,cB aa.1.aAj])/\s.h 200062=(((bx.h 200062).1+1),oW 284 4 M.aAQ.en bh.1.aAU.aAD)/\s.h 700024=(((ao.h 700024).1+1),oW 193 2 M.aAL.en aa.1.aAE.aAE)/\s.h 700062=(((bx.h 700062).1+1),oW 211 7 M.bA.en bh.1.aAT.aH.aAP)/\s.h 7050000=(ah,oW 40 3 M.aA.en aq)/\s.h 7050001=(ai,oW 282 2 M.aN.en ar)/\s.h 7050002=(aj,oW 5 1 enB av)/\s.h 7059000=(1,oB 182 [.old B0 (.sl (List.map enB p0.b)) (some u0),cI bz.1,cI bz.2.1])/\True) ?_
  rintro cn f147
  refine rn ?_
  refine gF ⟨_,(Gho.trans (ghB 5 14 7050100 200062) (ghB 5 19 7050101 700062)),mL2,qb,(IntKind.i64.wrap (bn-1)),bh.1.aAU.Name,bh.1.aAU.aAd,bh.1.aAu,bh.1.aAT.aH.aAK,bh.1.aAT.aH.aAh,bh.1.aAT.aAm,bh.1.aAT.aAb,bz.1,bz.2.1,bh.1.aAU.aAD,bh.1.aAT.aH.aAP,((cn.h 7050100).1+1),((cn.h 7050101).1+1),?_,?_,?_,?_,?_,?_,?_,?_,?_,?_,?_,?_,?_,h⟩
  all_goals simp +decide only [F,reduceIte,Nat.reduceAdd,qB,qC,EN, *,-h]
 replace h:=cE br h
 refine cf (xt (BA (Br (E7 (an (sq (sq ?_)))))))
 obtain ⟨c9,di,h⟩:=bind_some h
 refine rn1 (c75 _ _ _ di) ?_
 refine an ?_
 refine cu (λs=>s.h 5=bx.h 5/\s.t 0=vP 7059000 1 0/\s.t 2=vP 2 ((s1.h 2).1+1) 0/\s.t 5=vP 5 ((ao.h 5).1+1) 0/\s.t 67=vB c9.2.2/\s.h 2=(((s1.h 2).1+1),Lk)/\s.h 700024=(((ao.h 700024).1+1),oW 193 2 M.aAL.en aa.1.aAE.aAE)/\s.h 7050000=(ah,oW 40 3 M.aA.en aq)/\s.h 7050001=(ai,oW 282 2 M.aN.en ar)/\s.h 7050002=(aj,oW 5 1 enB av)/\s.h 7050100=(ae,oW 284 4 M.aAQ.en ak)/\s.h 7050101=(af,oW 211 7 M.bA.en al)/\s.h 7059000=(1,oB 182 [.old B0 (.sl (List.map enB p0.b)) (some u0),cI c9.1,cI c9.2.1])/\True) ?_
 rintro ff ⟨f168,f163⟩
 replace f168:=f168.trans f129
 rcases zD c9.2.2 with cd | cd
 ·replace h:=cE cd h;refine cf (sk (an (sq ?_)));obtain ⟨cg,dj,h⟩:=bind_some h;refine rn1 (c65 _ _ _ dj) ?_;refine an (sq ?_);refine cu (λs=>s.t 0=vP 7059000 1 0/\s.t 2=vP 2 ((s1.h 2).1+1) 0/\s.t 5=vP 5 ((ao.h 5).1+1) 0/\s.h 2=(((s1.h 2).1+1),Lk)/\s.h 5=(((ao.h 5).1+1),oB 49 [cS aa.1.aAO,cS aa.1.Top,cS aa.1.aAC.aAO,cI aa.1.aAC.aAc,cI aa.1.aAC.aAl,cI aa.1.aAC.aAr,.row 700024 ((ao.h 700024).1+1),cS bo,cI bq,.row 7050000 ah,.row 7050001 ai,.row 7050002 aj,cI bm,cS ay,.row 7050100 ae,cI az,cI b7,cI ba,cI bd,.row 7050101 af,cI bf,cI bg,cI cg.2.2,cB aa.1.aAj])/\s.h 700024=(((ao.h 700024).1+1),oW 193 2 M.aAL.en aa.1.aAE.aAE)/\s.h 7050000=(ah,oW 40 3 M.aA.en aq)/\s.h 7050001=(ai,oW 282 2 M.aN.en ar)/\s.h 7050002=(aj,oW 5 1 enB av)/\s.h 7050100=(ae,oW 284 4 M.aAQ.en ak)/\s.h 7050101=(af,oW 211 7 M.bA.en al)/\s.h 7059000=(1,oB 182 [.old B0 (.sl (List.map enB p0.b)) (some u0),cI cg.1,cI cg.2.1])/\True) ?_;rintro fg f214;obtain ⟨fh,dk,h⟩:=bind_some h;refine rn1 (c75 _ _ _ dk) ?_;refine an (sq (rn ?_));refine an (rt ?_);cases h;simp [Iw,Ret,TB,EN, *]
 replace h:=cF cd h
 refine ct (sq ?_)
 obtain ⟨ca,dm,h⟩:=bind_some h
 refine rn1 (c65 _ _ _ dm) ?_
 refine an ?_
 refine cu (λs=>s.t 0=vP 7059000 1 0/\s.t 2=vP 2 ((s1.h 2).1+1) 0/\s.t 5=vP 5 ((ao.h 5).1+1) 0/\s.h 2=(((s1.h 2).1+1),Lk)/\s.h 5=(((ao.h 5).1+1),oB 49 [cS aa.1.aAO,cS aa.1.Top,cS aa.1.aAC.aAO,cI aa.1.aAC.aAc,cI aa.1.aAC.aAl,cI (IntKind.i64.wrap (1+ca.2.2)),.row 700024 ((ao.h 700024).1+1),cS bo,cI bq,.row 7050000 ah,.row 7050001 ai,.row 7050002 aj,cI bm,cS ay,.row 7050100 ae,cI az,cI b7,cI ba,cI bd,.row 7050101 af,cI bf,cI bg,cI aa.1.aAk,cB aa.1.aAj])/\s.h 700024=(((ao.h 700024).1+1),oW 193 2 M.aAL.en aa.1.aAE.aAE)/\s.h 7050000=(ah,oW 40 3 M.aA.en aq)/\s.h 7050001=(ai,oW 282 2 M.aN.en ar)/\s.h 7050002=(aj,oW 5 1 enB av)/\s.h 7050100=(ae,oW 284 4 M.aAQ.en ak)/\s.h 7050101=(af,oW 211 7 M.bA.en al)/\s.h 7059000=(1,oB 182 [.old B0 (.sl (List.map enB p0.b)) (some u0),cI ca.1,cI ca.2.1])/\True) ?_
 rintro cp f180
 obtain ⟨dn,dq,h⟩:=bind_some h
 refine rn1 (Va _ _ _ dq) ?_
 refine an (sq ?_)
 obtain ⟨cj,dr,h⟩:=bind_some h
 refine rn1 (c65 _ _ _ dr) ?_
 refine an (sq ?_)
 refine cu (λs=>s.t 0=vP 7059000 1 0/\s.t 2=vP 2 ((s1.h 2).1+1) 0/\s.t 5=vP 5 ((ao.h 5).1+1) 0/\s.h 2=(((s1.h 2).1+1),Lk)/\s.h 5=(((ao.h 5).1+1),oB 49 [cS aa.1.aAO,cS aa.1.Top,cS aa.1.aAC.aAO,cI aa.1.aAC.aAc,cI aa.1.aAC.aAl,cI (IntKind.i64.wrap (1+ca.2.2)),.row 100079 ((cp.h 100079).1+1),cS bo,cI bq,.row 7050000 ah,.row 7050001 ai,.row 7050002 aj,cI bm,cS ay,.row 7050100 ae,cI az,cI b7,cI ba,cI bd,.row 7050101 af,cI bf,cI bg,cI cj.2.2,cB aa.1.aAj])/\s.h 100079=(((cp.h 100079).1+1),oW 193 2 M.aAL.en dn.1.aAE)/\s.h 7050000=(ah,oW 40 3 M.aA.en aq)/\s.h 7050001=(ai,oW 282 2 M.aN.en ar)/\s.h 7050002=(aj,oW 5 1 enB av)/\s.h 7050100=(ae,oW 284 4 M.aAQ.en ak)/\s.h 7050101=(af,oW 211 7 M.bA.en al)/\s.h 7059000=(1,oB 182 [.old B0 (.sl (List.map enB p0.b)) (some u0),cI cj.1,cI cj.2.1])/\True) ?_
 rintro fj f197
 obtain ⟨fk,du,h⟩:=bind_some h
 refine rn1 (c75 _ _ _ du) ?_
 refine an (sq (rn ?_))
 refine an (rt ?_)
 cases h
 simp [Iw,Ret,TB,EN, *]
instance:cA 123 (type_of% @XK):=⟨@XK⟩
theorem c56 (p0 r) (h:bZ p0=some r):Sc 56 [aX (M.aJ.en p0)] [rB r]:=by
 have i1:=inv λm s=>∃v3:Int,(s.t 1=vP 1 1 0/\s.t 3=vI v3/\s.h 1=(1,oX 26 (M.aJ.en p0)))/\fG p0 m v3=some r
 have e1:=@fG.eq_2
 unfold bZ at h
 exact sgo 48 [.tmp 2] Tryz.func56
instance:cA 56 (type_of% @c56):=⟨@c56⟩
theorem c10 (p0 p1 r) (h:nJ p0 p1=some r):Sc 10 [aX (M.aJ.en p0),aX (M.aO.en p1)] [(true,M.aJ.rs r.1),rB r.2]:=by
 have i1:=λ(x1:M.aJ)=>inv λm s=>∃v8:Int,(s.t 2=vP 2 1 0/\s.t 3=vP 3 1 0/\s.t 4=vP 4 1 0/\s.t 6=vP 6 1 0/\s.t 8=vI v8/\s.h 2=(1,oX 26 (M.aJ.en p0))/\s.h 3=(1,oX 49 (M.aO.en p1))/\s.h 4=(1,oB 26 [.nil])/\s.h 6=(1,oB 26 [.row 100011 1])/\s.h 100011=(1,oW 49 24 M.aO.en x1.aAG))/\jC p0 p1 x1 m v8=some r
 have e1:=@jC.eq_2
 unfold nJ at h
 exact sgo 74 [.cell 4 26,.tmp 5] Tryz.func10
instance:cA 10 (type_of% @c10):=⟨@c10⟩
theorem Wh (p0 r) (h:yN p0=some r):Sc 286 [(false,[.ptr [.sl (List.map enB p0.b),.int .i64 p0.i,.int .i64 p0.h]])] [(false,[.edit (.lend 182 [.int .i64 r.1,.int .i64 r.2.1])]),(true,M.aAA.rs r.2.2)]:=by
 unfold yN at h
 simp only [EN]
 refine sgB 34 [.cell 2 35] Tryz.func286 λbase wd B0 u0 hw0 => ?_
 refine eJ (J:=λs=>s.t 0=vP 7059000 1 0/\s.h 7059000=(1,oB 182 [.old B0 (.sl (List.map enB p0.b)) (some u0),cI p0.i,cI p0.h])/\True) ?_ ?_
 ·and_intros<;>(try simp only [LN,List.map_cons,List.map_nil])<;>rfl
 rintro s1 f2
 exact sgX
instance:cA 286 (type_of% @Wh):=⟨@Wh⟩
theorem W4 (p0 r) (h:wZ p0=some r):Sc 215 [(false,[.ptr [.sl (List.map enB p0.b),.int .i64 p0.i,.int .i64 p0.h]])] [(false,[.edit (.lend 182 [.int .i64 r.1,.int .i64 r.2.1])]),(true,M.cR.rs r.2.2)]:=by
 unfold wZ at h
 simp only [EN]
 refine sgB 22 [.cell 2 37] Tryz.func215 λbase wd B0 u0 hw0 => ?_
 refine eJ (J:=λs=>s.t 0=vP 7059000 1 0/\s.h 7059000=(1,oB 182 [.old B0 (.sl (List.map enB p0.b)) (some u0),cI p0.i,cI p0.h])/\True) ?_ ?_
 ·and_intros<;>(try simp only [LN,List.map_cons,List.map_nil])<;>rfl
 rintro s1 f2
 have i1:=DW [.b 3 2 7050000 40 3,.b 3 3 7050001 282 2,.b 3 4 7050002 5 1] λm s=>∃v4:Int,∃ao:ByteArray,∃aq:Int,∃ar:Int,∃aa:Int,∃ae:Int,∃af:List M.aA,∃ah:List M.aN,∃ai:List Int,∃aj:Nat,∃ak:Nat,∃al:Nat,(s.t 0=vP 7059000 1 0/\s.t 2=vP 2 ((s1.h 2).1+1) 0/\s.t 3=vP 3 ((s1.h 3).1+1) 0/\s.t 4=vI v4/\s.h 2=(((s1.h 2).1+1),X0)/\s.h 3=(((s1.h 3).1+1),oB 37 [cS ao,cI aq,.row 7050000 aj,.row 7050001 ak,.row 7050002 al,cI ar])/\s.h 7050000=(aj,oW 40 3 M.aA.en af)/\s.h 7050001=(ak,oW 282 2 M.aN.en ah)/\s.h 7050002=(al,oW 5 1 enB ai)/\s.h 7059000=(1,oB 182 [.old B0 (.sl (List.map enB p0.b)) (some u0),cI aa,cI ae]))/\mE p0 m v4 ao aq ar aa ae af ah ai=some r
 have e1:=@mE.eq_2
 exact sgX
instance:cA 215 (type_of% @W4):=⟨@W4⟩
theorem Yz (p0 r) (h:xJ p0=some r):Sc 218 [(false,[.ptr [.sl (List.map enB p0.b),.int .i64 p0.i,.int .i64 p0.h]])] [(false,[.edit (.lend 182 [.int .i64 r.1,.int .i64 r.2.1])]),(true,M.aG.rs r.2.2.1),(true,M.aAI.rs r.2.2.2)]:=by
 unfold xJ at h
 simp only [EN]
 refine sgB 89 [.cell 2 47,.cell 3 137] Tryz.func218 λbase wd B0 u0 hw0 => ?_
 refine eJ (J:=λs=>s.t 0=vP 7059000 1 0/\s.h 7059000=(1,oB 182 [.old B0 (.sl (List.map enB p0.b)) (some u0),cI p0.i,cI p0.h])/\True) ?_ ?_
 ·and_intros<;>(try simp only [LN,List.map_cons,List.map_nil])<;>rfl
 rintro s1 f2
 have i1:=λ(s6:St)=>DW [.b 5 1 7050000 284 4,.b 5 6 7050001 211 7,.b 4 1 7050002 284 4,.b 4 3 7050003 207 2,.b 4 4 7050004 211 7] λm s=>∃v7:Int,∃aw:ByteArray,∃ax:Int,∃ay:Int,∃az:Int,∃b7:Int,∃ba:Int,∃bd:Int,∃aa:Int,∃ae:Int,∃bf:ByteArray,∃bg:Int,∃af:List M.aAQ,∃ah:List M.bA,∃ai:List M.aAQ,∃aj:List M.aK,∃ak:List M.bA,∃al:Nat,∃ao:Nat,∃aq:Nat,∃ar:Nat,∃av:Nat,(s.t 0=vP 7059000 1 0/\s.t 2=vP 2 ((s1.h 2).1+1) 0/\s.t 3=vP 3 ((s1.h 3).1+1) 0/\s.t 4=vP 4 ((s1.h 4).1+1) 0/\s.t 5=vP 5 ((s6.h 5).1+1) 0/\s.t 7=vI v7/\s.h 2=(((s1.h 2).1+1),Wk)/\s.h 3=(((s1.h 3).1+1),Q1)/\s.h 4=(((s1.h 4).1+1),oB 137 [cS bf,.row 7050002 al,cI bg,.row 7050003 ao,.row 7050004 aq])/\s.h 5=(((s6.h 5).1+1),oB 47 [cS aw,.row 7050000 ar,cI ax,cI ay,cI az,cI b7,.row 7050001 av,cI ba,cI bd])/\s.h 7050000=(ar,oW 284 4 M.aAQ.en af)/\s.h 7050001=(av,oW 211 7 M.bA.en ah)/\s.h 7050002=(al,oW 284 4 M.aAQ.en ai)/\s.h 7050003=(ao,oW 207 2 M.aK.en aj)/\s.h 7050004=(aq,oW 211 7 M.bA.en ak)/\s.h 7059000=(1,oB 182 [.old B0 (.sl (List.map enB p0.b)) (some u0),cI aa,cI ae]))/\eK p0 m v7 aw ax ay az b7 ba bd aa ae bf bg af ah ai aj ak=some r
 have e1:=@eK.eq_2
 exact sgX
instance:cA 218 (type_of% @Yz):=⟨@Yz⟩
theorem WW (p0 r) (h:yK p0=some r):Sc 126 [(false,[.ptr [.sl (List.map enB p0.b),.int .i64 p0.i,.int .i64 p0.h]])] [(false,[.edit (.lend 182 [.int .i64 r.1,.int .i64 r.2.1])]),(true,M.aG.rs r.2.2)]:=by
 unfold yK at h
 simp only [EN]
 refine sgB 30 [.cell 2 47] Tryz.func126 λbase wd B0 u0 hw0 => ?_
 refine eJ (J:=λs=>s.t 0=vP 7059000 1 0/\s.h 7059000=(1,oB 182 [.old B0 (.sl (List.map enB p0.b)) (some u0),cI p0.i,cI p0.h])/\True) ?_ ?_
 ·and_intros<;>(try simp only [LN,List.map_cons,List.map_nil])<;>rfl
 rintro s1 f2
 exact sgX
instance:cA 126 (type_of% @WW):=⟨@WW⟩
theorem Z3 (p0 r) (h:wM p0=some r):Sc 156 [(false,[.ptr [.sl (List.map enB p0.b),.int .i64 p0.i,.int .i64 p0.h]])] [(false,[.edit (.lend 182 [.int .i64 r.1,.int .i64 r.2.1])]),(true,M.aAI.rs r.2.2)]:=by
 unfold wM at h
 simp only [EN]
 refine sgB 52 [.cell 2 137] Tryz.func156 λbase wd B0 u0 hw0 => ?_
 refine eJ (J:=λs=>s.t 0=vP 7059000 1 0/\s.h 7059000=(1,oB 182 [.old B0 (.sl (List.map enB p0.b)) (some u0),cI p0.i,cI p0.h])/\True) ?_ ?_
 ·and_intros<;>(try simp only [LN,List.map_cons,List.map_nil])<;>rfl
 rintro s1 f2
 have i1:=λ(x4:(Int×Int×M.aAI)) (af:(Int×Int×Int)) (ah:St)=>DW [.b 3 3 7050000 207 2] λm s=>∃v4:Int,∃aa:List M.aK,∃ae:Nat,(s.h 7059000=ah.h 7059000/\s.t 0=vP 7059000 1 0/\s.t 2=vP 2 ((s1.h 2).1+1) 0/\s.t 3=vP 3 ((s1.h 3).1+1) 0/\s.t 4=vI v4/\s.h 2=(((s1.h 2).1+1),Q1)/\s.h 3=(((s1.h 3).1+1),oB 137 [cS x4.2.2.aA.Name,.row 200006 ((s1.h 200006).1+1),cI x4.2.2.aA.aAd,.row 7050000 ae,.row 500006 ((s1.h 500006).1+1)])/\s.h 200006=(((s1.h 200006).1+1),oW 284 4 M.aAQ.en x4.2.2.aA.aAD)/\s.h 500006=(((s1.h 500006).1+1),oW 211 7 M.bA.en x4.2.2.aAZ)/\s.h 7050000=(ae,oW 207 2 M.aK.en aa))/\rD x4 af m v4 aa=some r
 have e1:=@rD.eq_2
 exact sgX
theorem c26 (p0 r) (h:uS p0=some r):Sc 26 [aX (M.World.en p0)] [rB r]:=by
 have i1:=inv λm s=>∃v3:Int,(s.t 1=vP 1 1 0/\s.t 3=vI v3/\s.h 1=(1,oX 75 (M.World.en p0)))/\jK p0 m v3=some r
 have e1:=@jK.eq_2
 have i2:=inv λm s=>∃v4:Int,(s.t 1=vP 1 1 0/\s.t 4=vI v4/\s.h 1=(1,oX 75 (M.World.en p0)))/\dJ p0 m v4=some r
 have e2:=@dJ.eq_2
 unfold uS at h
 exact sgo 126 [.tmp 2] Tryz.func26
end Go.Proofs.YtipmihbgjolaaaaGreat.gen
