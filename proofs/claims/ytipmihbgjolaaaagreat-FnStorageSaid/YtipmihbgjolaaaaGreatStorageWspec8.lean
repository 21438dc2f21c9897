/-
  Helper text. No conditions.
-/
import Derived.Test.YtipmihbgjolaaaaGreatStorageTi
import Derived.Test.YtipmihbgjolaaaaGreatStorageWspec1
import Derived.Test.YtipmihbgjolaaaaGreatStorageWspec3
import Derived.Test.YtipmihbgjolaaaaGreatStorageWspec4
import Derived.Test.YtipmihbgjolaaaaGreatStorageWspec5
import Derived.Test.YtipmihbgjolaaaaGreatStorageWspec6
import Derived.Test.YtipmihbgjolaaaaGreatStorageWspec7
set_option linter.unusedVariables false
set_option linter.unusedSimpArgs false
namespace Go.Proofs.YtipmihbgjolaaaaGreat.gen
open Go Go.Sh
set_option maxRecDepth 20000
set_option maxHeartbeats 4000000
instance Ub:bR 207 (∀p0 p1 r (h:lF p0 p1=some r),Sc 207 [aX (M.bG.en p0),aL M.Op.en p1] [(true,M.bG.rs r.1),rB r.2]):=⟨λp0 p1 r h=>by unfold lF at h;exact sgo 64 [.cell 4 37,.tmp 5] Tryz.func207⟩
instance:bR 123 (∀p0 r (h:pP p0=some r),Sc 123 [(false,[.ptr [.sl (List.map enB p0.b),.int .i64 p0.i,.int .i64 p0.h]])] [(false,[.edit (.lend 182 [.int .i64 r.1,.int .i64 r.2.1])]),(true,M.aK.rs r.2.2)]):=⟨λp0 r h=>by
 unfold pP at h
 simp only[EN]
 refine sgB 90 [.cell 2 49] Tryz.func123 λbase wd B0 u0 hw0 => ?_
 refine gK (J:=λs=>s.t 0=vP 7059000 1 0/\s.h 7059000=(1,oB 182 [.old B0 (.sl (List.map enB p0.b)) (some u0),cI p0.i,cI p0.h])/\True) ?_ ?_
 ·and_intros<;>(try simp only[LN,List.map_cons,List.map_nil])<;>rfl
 rintro s1 f2
 refine sq (rn ?_)
 refine an (sq ?_)
 obtain⟨x4,h5,h⟩:=bind_some h
 refine rn1 (S2.1 _ _ h5) ?_
 refine an (sq ?_)
 refine cu (λs=>s.t 0=vP 7059000 1 0/\s.t 2=vP 2 ((s1.h 2).1+1) 0/\s.t 3=vS x4.2.2/\s.h 2=((s1.h 2).1+1,KG)/\s.h 7059000=(1,oB 182 [.old B0 (.sl (List.map enB p0.b)) (some u0),cI x4.1,cI x4.2.1])/\True) ?_
 rintro s6 f7
 refine rn ?_
 refine an ?_
 obtain⟨cz,da,h⟩:=bind_some h
 refine nT (λs=>s.t 0=vP 7059000 1 0/\s.t 2=vP 2 ((s1.h 2).1+1) 0/\s.t 3=vS x4.2.2/\s.t 4=vS cz.1/\s.h 2=((s1.h 2).1+1,KG)/\s.h 7059000=(1,oB 182 [.old B0 (.sl (List.map enB p0.b)) (some u0),cI cz.2.1,cI cz.2.2])/\True) ?_ ?_
 ·replace h:=da;clear da;refine sq ?_;obtain⟨cw,ec,h⟩:=bind_some h;refine rn1 (c75.1 _ _ _ ec) ?_;refine an ?_;refine cu (λs=>s.t 0=vP 7059000 1 0/\s.t 2=vP 2 ((s1.h 2).1+1) 0/\s.t 3=vS x4.2.2/\s.t 4=vS x4.2.2/\s.t 15=vB cw.2.2/\s.h 2=((s1.h 2).1+1,KG)/\s.h 7059000=(1,oB 182 [.old B0 (.sl (List.map enB p0.b)) (some u0),cI cw.1,cI cw.2.1])/\True) ?_;rintro fm f24;rcases AU cw.2.2 with db | db;(replace h:=bW db h;refine cf (sk ?_);cases h;refine fA ⟨?_,?_,?_,?_,?_,?_,trivial⟩<;>(try simp +decide only[F,reduceIte,Nat.reduceAdd,qB,qC,EN, *,-h]));replace h:=bX db h;refine ct ?_;obtain⟨fo,ef,h⟩:=bind_some h;refine rn1 (S2.1 _ _ ef) ?_;cases h;refine fA ⟨?_,?_,?_,?_,?_,?_,trivial⟩<;>(try simp +decide only[F,reduceIte,Nat.reduceAdd,qB,qC,EN, *,-h])
 clear da
 rintro ao f15
 refine sq ?_
 obtain⟨dy,eg,h⟩:=bind_some h
 obtain⟨aa,eh,h⟩:=bind_some h
 refine rn2 (c65.1 _ _ _ eg) (YV _ _ _ _ eh) ?_
 refine an (sq (sq ?_))
 refine cu (λs=>s.t 0=vP 7059000 1 0/\s.t 2=vP 2 ((s1.h 2).1+1) 0/\s.t 5=vP 5 ((ao.h 5).1+1) 0/\s.h 2=((s1.h 2).1+1,KG)/\s.h 5=((ao.h 5).1+1,oB 49 [cS aa.1.Zh,cS aa.1.Zw,cS aa.1.YZ.Zh,cI aa.1.YZ.Zm,cI aa.1.YZ.Zs,cI aa.1.YZ.Zv,.row 700024 ((ao.h 700024).1+1),cS aa.1.bG.Zf.Name,cI aa.1.bG.Zf.Y2,.row 1000024 ((ao.h 1000024).1+1),.row 1100024 ((ao.h 1100024).1+1),.row 1200024 ((ao.h 1200024).1+1),cI aa.1.bG.Zu,cS aa.1.aD.Zf.Name,.row 1500024 ((ao.h 1500024).1+1),cI aa.1.aD.Zf.Zn,cI aa.1.aD.Zx,cI aa.1.aD.Ze.aF.Zg,cI aa.1.aD.Ze.aF.Zr,.row 2000024 ((ao.h 2000024).1+1),cI aa.1.aD.Ze.Zt,cI aa.1.aD.Ze.Zj,cI aa.1.Zo,cB aa.1.Zl])/\s.h 700024=((ao.h 700024).1+1,oW 193 2 M.Y6.en aa.1.Y1.Y1)/\s.h 1000024=((ao.h 1000024).1+1,oW 40 3 M.aA.en aa.1.bG.Zf.Y5)/\s.h 1100024=((ao.h 1100024).1+1,oW 282 2 M.aM.en aa.1.bG.Zf.Za)/\s.h 1200024=((ao.h 1200024).1+1,oW 5 1 enB aa.1.bG.ZD)/\s.h 1500024=((ao.h 1500024).1+1,oW 284 4 M.Zd.en aa.1.aD.Zf.Y3)/\s.h 2000024=((ao.h 2000024).1+1,oW 211 7 M.aV.en aa.1.aD.Ze.aF.Y9)/\s.h 7059000=(1,oB 182 [.old B0 (.sl (List.map enB p0.b)) (some u0),cI dy.1,cI dy.2.1])/\True) ?_
 rintro dz f39
 obtain⟨cn,et,h⟩:=bind_some h
 refine rn1 (c65.1 _ _ _ et) ?_
 refine an (bk ?_)
 refine cu (λs=>s.h 5=dz.h 5/\s.h 2000024=dz.h 2000024/\s.t 0=vP 7059000 1 0/\s.t 2=vP 2 ((s1.h 2).1+1) 0/\s.t 5=vP 5 ((ao.h 5).1+1) 0/\s.t 7=vI cn.2.2/\s.h 2=((s1.h 2).1+1,KG)/\s.h 700024=((ao.h 700024).1+1,oW 193 2 M.Y6.en aa.1.Y1.Y1)/\s.h 1000024=((ao.h 1000024).1+1,oW 40 3 M.aA.en aa.1.bG.Zf.Y5)/\s.h 1100024=((ao.h 1100024).1+1,oW 282 2 M.aM.en aa.1.bG.Zf.Za)/\s.h 1200024=((ao.h 1200024).1+1,oW 5 1 enB aa.1.bG.ZD)/\s.h 1500024=((ao.h 1500024).1+1,oW 284 4 M.Zd.en aa.1.aD.Zf.Y3)/\s.h 7059000=(1,oB 182 [.old B0 (.sl (List.map enB p0.b)) (some u0),cI cn.1,cI cn.2.1])/\True) ?_
 rintro cx ⟨f59,f65,f54⟩
 replace f59:=f59.trans f39.2.2.2.2.1
 replace f65:=f65.trans f39.2.2.2.2.2.2.2.2.2.2.1
 refine FA (Gho.trans (Gho.trans (ghB 5 9 7050000 1000024) (ghB 5 10 7050001 1100024)) (ghB 5 11 7050002 1200024)) ?_
 refine CE (λm s=>∃v7:Int,∃bq:ByteArray,∃br:Int,∃bn:Int,∃bl:Int,∃bm:Int,∃aq:List M.aA,∃ar:List M.aM,∃av:List Int,∃ah:Nat,∃ai:Nat,∃aj:Nat,s.h 2000024=cx.h 2000024/\s.t 0=vP 7059000 1 0/\s.t 2=vP 2 ((s1.h 2).1+1) 0/\s.t 5=vP 5 ((ao.h 5).1+1) 0/\s.t 7=vI v7/\s.h 2=((s1.h 2).1+1,KG)/\s.h 5=((ao.h 5).1+1,oB 49 [cS aa.1.Zh,cS aa.1.Zw,cS aa.1.YZ.Zh,cI aa.1.YZ.Zm,cI aa.1.YZ.Zs,cI aa.1.YZ.Zv,.row 700024 ((ao.h 700024).1+1),cS bq,cI br,.row 7050000 ah,.row 7050001 ai,.row 7050002 aj,cI bn,cS aa.1.aD.Zf.Name,.row 1500024 ((ao.h 1500024).1+1),cI aa.1.aD.Zf.Zn,cI aa.1.aD.Zx,cI aa.1.aD.Ze.aF.Zg,cI aa.1.aD.Ze.aF.Zr,.row 2000024 ((ao.h 2000024).1+1),cI aa.1.aD.Ze.Zt,cI aa.1.aD.Ze.Zj,cI aa.1.Zo,cB aa.1.Zl])/\s.h 700024=((ao.h 700024).1+1,oW 193 2 M.Y6.en aa.1.Y1.Y1)/\s.h 1500024=((ao.h 1500024).1+1,oW 284 4 M.Zd.en aa.1.aD.Zf.Y3)/\s.h 7050000=(ah,oW 40 3 M.aA.en aq)/\s.h 7050001=(ai,oW 282 2 M.aM.en ar)/\s.h 7050002=(aj,oW 5 1 enB av)/\s.h 7059000=(1,oB 182 [.old B0 (.sl (List.map enB p0.b)) (some u0),cI bl,cI bm])/\eQ p0 aa m v7 bq br bn bl bm aq ar av=some r) fuel ?_ ?_
 ·refine⟨cn.2.2,aa.1.bG.Zf.Name,aa.1.bG.Zf.Y2,aa.1.bG.Zu,cn.1,cn.2.1,aa.1.bG.Zf.Y5,aa.1.bG.Zf.Za,aa.1.bG.ZD,(cx.h 7050000).1+1,(cx.h 7050001).1+1,(cx.h 7050002).1+1,?_,?_,?_,?_,?_,?_,?_,?_,?_,?_,?_,?_,?_,h⟩;all_goals simp +decide only[F,reduceIte,Nat.reduceAdd,qB,qC,EN, *,-h]
 rintro mL1 bw ⟨v7,bq,br,bn,bl,bm,aq,ar,av,ah,ai,aj,f76,f68,f69,f70,f71,f72,f73,f74,f75,f77,f78,f79,f80,h⟩
 replace f76:=f76.trans f65
 rcases mL1 with _ | mL1
 ·exact absurd h (by simp[eQ])
 simp only[eQ]at h
 refine sq (sq (rn ?_))
 refine an ?_
 rcases jR (decide (v7>0))with cg | cg
 ·replace h:=bX cg h;refine ct (sk (an (sq (bk (sq ?_)))));obtain⟨fq,eu,h⟩:=bind_some h;obtain⟨cy,ez,h⟩:=bind_some h;obtain⟨bx,fa,h⟩:=bind_some h;refine rd3 mixed (TT.1 _ _ eu) (T5.1 _ _ ez) (Ub.1 _ _ _ fa) ?_;refine an ?_;refine cu (λs=>s.h 5=bw.h 5/\s.h 2000024=bw.h 2000024/\s.t 0=vP 7059000 1 0/\s.t 2=vP 2 ((s1.h 2).1+1) 0/\s.t 5=vP 5 ((ao.h 5).1+1) 0/\s.t 7=vI v7/\s.t 8=vP 8 ((bw.h 8).1+1) 0/\s.h 2=((s1.h 2).1+1,KG)/\s.h 8=((bw.h 8).1+1,oB 37 [cS bx.1.Zf.Name,cI bx.1.Zf.Y2,.row 300042 ((bw.h 300042).1+1),.row 400042 ((bw.h 400042).1+1),.row 500042 ((bw.h 500042).1+1),cI bx.1.Zu])/\s.h 300042=((bw.h 300042).1+1,oW 40 3 M.aA.en bx.1.Zf.Y5)/\s.h 400042=((bw.h 400042).1+1,oW 282 2 M.aM.en bx.1.Zf.Za)/\s.h 500042=((bw.h 500042).1+1,oW 5 1 enB bx.1.ZD)/\s.h 700024=((ao.h 700024).1+1,oW 193 2 M.Y6.en aa.1.Y1.Y1)/\s.h 1500024=((ao.h 1500024).1+1,oW 284 4 M.Zd.en aa.1.aD.Zf.Y3)/\s.h 7050000=(ah,oW 40 3 M.aA.en aq)/\s.h 7050001=(ai,oW 282 2 M.aM.en ar)/\s.h 7050002=(aj,oW 5 1 enB av)/\s.h 7059000=(1,oB 182 [.old B0 (.sl (List.map enB p0.b)) (some u0),cI cy.1,cI cy.2.1])/\True) ?_;rintro ft ⟨f95,f102,f89⟩;replace f95:=f95.trans f73;replace f102:=f102.trans f76;refine rn ?_;refine ab (an (rn ?_));refine fA ⟨_,Gho.trans (Gho.trans (ghB 5 9 7050000 300042) (ghB 5 10 7050001 400042)) (ghB 5 11 7050002 500042),mL1,qc,IntKind.i64.wrap (v7-1),bx.1.Zf.Name,bx.1.Zf.Y2,bx.1.Zu,cy.1,cy.2.1,bx.1.Zf.Y5,bx.1.Zf.Za,bx.1.ZD,ah+1,ai+1,aj+1,?_,?_,?_,?_,?_,?_,?_,?_,?_,?_,?_,?_,?_,h⟩;all_goals simp +decide only[F,reduceIte,Nat.reduceAdd,qB,qC,EN, *,-h]
 replace h:=bW cg h
 refine cf (xt (Bl (Bb (EJ (an (sq (sq ?_)))))))
 obtain⟨bu,df,h⟩:=bind_some h
 refine rn1 (c65.1 _ _ _ df) ?_
 refine an (bk ?_)
 refine cu (λs=>s.h 5=bw.h 5/\s.h 2000024=bw.h 2000024/\s.t 0=vP 7059000 1 0/\s.t 2=vP 2 ((s1.h 2).1+1) 0/\s.t 5=vP 5 ((ao.h 5).1+1) 0/\s.t 10=vI bu.2.2/\s.h 2=((s1.h 2).1+1,KG)/\s.h 700024=((ao.h 700024).1+1,oW 193 2 M.Y6.en aa.1.Y1.Y1)/\s.h 1500024=((ao.h 1500024).1+1,oW 284 4 M.Zd.en aa.1.aD.Zf.Y3)/\s.h 7050000=(ah,oW 40 3 M.aA.en aq)/\s.h 7050001=(ai,oW 282 2 M.aM.en ar)/\s.h 7050002=(aj,oW 5 1 enB av)/\s.h 7059000=(1,oB 182 [.old B0 (.sl (List.map enB p0.b)) (some u0),cI bu.1,cI bu.2.1])/\True) ?_
 rintro cp ⟨f115,f118,f110⟩
 replace f115:=f115.trans f73
 replace f118:=f118.trans f76
 refine FA (Gho.trans (ghB 5 14 7050100 1500024) (ghB 5 19 7050101 2000024)) ?_
 refine CE (λm s=>∃bo:Int,∃ay:ByteArray,∃az:Int,∃ba:Int,∃bd:Int,∃bf:Int,∃bg:Int,∃bh:Int,∃aw:Int,∃ax:Int,∃ak:List M.Zd,∃al:List M.aV,∃ae:Nat,∃af:Nat,s.t 0=vP 7059000 1 0/\s.t 2=vP 2 ((s1.h 2).1+1) 0/\s.t 5=vP 5 ((ao.h 5).1+1) 0/\s.t 10=vI bo/\s.h 2=((s1.h 2).1+1,KG)/\s.h 5=((ao.h 5).1+1,oB 49 [cS aa.1.Zh,cS aa.1.Zw,cS aa.1.YZ.Zh,cI aa.1.YZ.Zm,cI aa.1.YZ.Zs,cI aa.1.YZ.Zv,.row 700024 ((ao.h 700024).1+1),cS bq,cI br,.row 7050000 ah,.row 7050001 ai,.row 7050002 aj,cI bn,cS ay,.row 7050100 ae,cI az,cI ba,cI bd,cI bf,.row 7050101 af,cI bg,cI bh,cI aa.1.Zo,cB aa.1.Zl])/\s.h 700024=((ao.h 700024).1+1,oW 193 2 M.Y6.en aa.1.Y1.Y1)/\s.h 7050000=(ah,oW 40 3 M.aA.en aq)/\s.h 7050001=(ai,oW 282 2 M.aM.en ar)/\s.h 7050002=(aj,oW 5 1 enB av)/\s.h 7050100=(ae,oW 284 4 M.Zd.en ak)/\s.h 7050101=(af,oW 211 7 M.aV.en al)/\s.h 7059000=(1,oB 182 [.old B0 (.sl (List.map enB p0.b)) (some u0),cI aw,cI ax])/\eO p0 aa bq br bn aq ar av m bo ay az ba bd bf bg bh aw ax ak al=some r) fuel ?_ ?_
 ·refine⟨bu.2.2,aa.1.aD.Zf.Name,aa.1.aD.Zf.Zn,aa.1.aD.Zx,aa.1.aD.Ze.aF.Zg,aa.1.aD.Ze.aF.Zr,aa.1.aD.Ze.Zt,aa.1.aD.Ze.Zj,bu.1,bu.2.1,aa.1.aD.Zf.Y3,aa.1.aD.Ze.aF.Y9,(cp.h 7050100).1+1,(cp.h 7050101).1+1,?_,?_,?_,?_,?_,?_,?_,?_,?_,?_,?_,?_,?_,h⟩;all_goals simp +decide only[F,reduceIte,Nat.reduceAdd,qB,qC,EN, *,-h]
 rintro mL2 bz ⟨bo,ay,az,ba,bd,bf,bg,bh,aw,ax,ak,al,ae,af,f124,f125,f126,f127,f128,f129,f130,f131,f132,f133,f134,f135,f136,h⟩
 rcases mL2 with _ | mL2
 ·exact absurd h (by simp[eO])
 simp only[eO]at h
 refine sq (sq (rn ?_))
 refine an ?_
 rcases jR (decide (bo>0))with bt | bt
 ·replace h:=bX bt h
  refine ct (sk (an (sq (bk ?_))))
  obtain⟨fc,dg,h⟩:=bind_some h
  obtain⟨fe,dh,h⟩:=bind_some h
  obtain⟨ca,di,h⟩:=bind_some h
  obtain⟨bj,dj,h⟩:=bind_some h
  apply AM mixed
  ·simp +decide only[E,reduceIte,Nat.reduceAdd,Nat.reduceMul,qB,qC,L,S3,S5,EN,cg,f124,f125,f126,f127,f128,f129,f130,f131,f132,f133,f134,f135,f136,bt]
   refine⟨_,TT.1 _ _ dg,?_⟩
   try simp +decide only[E,reduceIte,Nat.reduceAdd,Nat.reduceMul,qB,qC,L,S3,S5,EN,cg,f124,f125,f126,f127,f128,f129,f130,f131,f132,f133,f134,f135,f136,bt]
   refine⟨_,Uv.1 _ _ dh,?_⟩
   try simp +decide only[E,reduceIte,Nat.reduceAdd,Nat.reduceMul,qB,qC,L,S3,S5,EN,cg,f124,f125,f126,f127,f128,f129,f130,f131,f132,f133,f134,f135,f136,bt]
   refine⟨_,c65.1 _ _ _ di,?_⟩
   try simp +decide only[E,reduceIte,Nat.reduceAdd,Nat.reduceMul,qB,qC,L,S3,S5,EN,cg,f124,f125,f126,f127,f128,f129,f130,f131,f132,f133,f134,f135,f136,bt]
   refine⟨_,Up.1 _ _ _ _ _ dj,?_⟩
   try simp +decide only[E,reduceIte,Nat.reduceAdd,Nat.reduceMul,qB,qC,L,S3,S5,EN,cg,f124,f125,f126,f127,f128,f129,f130,f131,f132,f133,f134,f135,f136,bt]
   exact⟨.mk qg,Is.mk _⟩
  refine ab (an ?_)
  refine cu (λs=>s.t 0=vP 7059000 1 0/\s.t 2=vP 2 ((s1.h 2).1+1) 0/\s.t 5=vP 5 ((ao.h 5).1+1) 0/\s.t 10=vI bo/\s.h 2=((s1.h 2).1+1,KG)/\s.h 5=((ao.h 5).1+1,oB 49 [cS aa.1.Zh,cS aa.1.Zw,cS aa.1.YZ.Zh,cI aa.1.YZ.Zm,cI aa.1.YZ.Zs,cI aa.1.YZ.Zv,.row 700024 ((ao.h 700024).1+1),cS bq,cI br,.row 7050000 ah,.row 7050001 ai,.row 7050002 aj,cI bn,cS bj.1.Zf.Name,.row 200062 ((bz.h 200062).1+1),cI bj.1.Zf.Zn,cI bj.1.Zx,cI bj.1.Ze.aF.Zg,cI bj.1.Ze.aF.Zr,.row 700062 ((bz.h 700062).1+1),cI bj.1.Ze.Zt,cI bj.1.Ze.Zj,cI aa.1.Zo,cB aa.1.Zl])/\s.h 200062=((bz.h 200062).1+1,oW 284 4 M.Zd.en bj.1.Zf.Y3)/\s.h 700024=((ao.h 700024).1+1,oW 193 2 M.Y6.en aa.1.Y1.Y1)/\s.h 700062=((bz.h 700062).1+1,oW 211 7 M.aV.en bj.1.Ze.aF.Y9)/\s.h 7050000=(ah,oW 40 3 M.aA.en aq)/\s.h 7050001=(ai,oW 282 2 M.aM.en ar)/\s.h 7050002=(aj,oW 5 1 enB av)/\s.h 7059000=(1,oB 182 [.old B0 (.sl (List.map enB p0.b)) (some u0),cI ca.1,cI ca.2.1])/\True) ?_
  rintro cq f147
  refine rn ?_
  refine fA ⟨_,Gho.trans (ghB 5 14 7050100 200062) (ghB 5 19 7050101 700062),mL2,qc,IntKind.i64.wrap (bo-1),bj.1.Zf.Name,bj.1.Zf.Zn,bj.1.Zx,bj.1.Ze.aF.Zg,bj.1.Ze.aF.Zr,bj.1.Ze.Zt,bj.1.Ze.Zj,ca.1,ca.2.1,bj.1.Zf.Y3,bj.1.Ze.aF.Y9,(cq.h 7050100).1+1,(cq.h 7050101).1+1,?_,?_,?_,?_,?_,?_,?_,?_,?_,?_,?_,?_,?_,h⟩
  all_goals simp +decide only[F,reduceIte,Nat.reduceAdd,qB,qC,EN, *,-h]
 replace h:=bW bt h
 refine cf (xt (Bl (Bb (EJ (an (sq (sq ?_)))))))
 obtain⟨cc,dk,h⟩:=bind_some h
 refine rn1 (c75.1 _ _ _ dk) ?_
 refine an ?_
 refine cu (λs=>s.h 5=bz.h 5/\s.t 0=vP 7059000 1 0/\s.t 2=vP 2 ((s1.h 2).1+1) 0/\s.t 5=vP 5 ((ao.h 5).1+1) 0/\s.t 67=vB cc.2.2/\s.h 2=((s1.h 2).1+1,KG)/\s.h 700024=((ao.h 700024).1+1,oW 193 2 M.Y6.en aa.1.Y1.Y1)/\s.h 7050000=(ah,oW 40 3 M.aA.en aq)/\s.h 7050001=(ai,oW 282 2 M.aM.en ar)/\s.h 7050002=(aj,oW 5 1 enB av)/\s.h 7050100=(ae,oW 284 4 M.Zd.en ak)/\s.h 7050101=(af,oW 211 7 M.aV.en al)/\s.h 7059000=(1,oB 182 [.old B0 (.sl (List.map enB p0.b)) (some u0),cI cc.1,cI cc.2.1])/\True) ?_
 rintro ff ⟨f168,f163⟩
 replace f168:=f168.trans f129
 rcases AU cc.2.2 with cj | cj
 ·replace h:=bW cj h;refine cf (sk (an (sq ?_)));obtain⟨ck,dm,h⟩:=bind_some h;refine rn1 (c65.1 _ _ _ dm) ?_;refine an (sq ?_);refine cu (λs=>s.t 0=vP 7059000 1 0/\s.t 2=vP 2 ((s1.h 2).1+1) 0/\s.t 5=vP 5 ((ao.h 5).1+1) 0/\s.h 2=((s1.h 2).1+1,KG)/\s.h 5=((ao.h 5).1+1,oB 49 [cS aa.1.Zh,cS aa.1.Zw,cS aa.1.YZ.Zh,cI aa.1.YZ.Zm,cI aa.1.YZ.Zs,cI aa.1.YZ.Zv,.row 700024 ((ao.h 700024).1+1),cS bq,cI br,.row 7050000 ah,.row 7050001 ai,.row 7050002 aj,cI bn,cS ay,.row 7050100 ae,cI az,cI ba,cI bd,cI bf,.row 7050101 af,cI bg,cI bh,cI ck.2.2,cB aa.1.Zl])/\s.h 700024=((ao.h 700024).1+1,oW 193 2 M.Y6.en aa.1.Y1.Y1)/\s.h 7050000=(ah,oW 40 3 M.aA.en aq)/\s.h 7050001=(ai,oW 282 2 M.aM.en ar)/\s.h 7050002=(aj,oW 5 1 enB av)/\s.h 7050100=(ae,oW 284 4 M.Zd.en ak)/\s.h 7050101=(af,oW 211 7 M.aV.en al)/\s.h 7059000=(1,oB 182 [.old B0 (.sl (List.map enB p0.b)) (some u0),cI ck.1,cI ck.2.1])/\True) ?_;rintro fg f214;obtain⟨fh,dn,h⟩:=bind_some h;refine rn1 (c75.1 _ _ _ dn) ?_;refine an (sq (rn ?_));refine an (rt ?_);cases h;simp[HO,Ret,TB,EN, *]
 replace h:=bX cj h
 refine ct (sq ?_)
 obtain⟨cd,dq,h⟩:=bind_some h
 refine rn1 (c65.1 _ _ _ dq) ?_
 refine an ?_
 refine cu (λs=>s.t 0=vP 7059000 1 0/\s.t 2=vP 2 ((s1.h 2).1+1) 0/\s.t 5=vP 5 ((ao.h 5).1+1) 0/\s.h 2=((s1.h 2).1+1,KG)/\s.h 5=((ao.h 5).1+1,oB 49 [cS aa.1.Zh,cS aa.1.Zw,cS aa.1.YZ.Zh,cI aa.1.YZ.Zm,cI aa.1.YZ.Zs,cI (IntKind.i64.wrap (1+cd.2.2)),.row 700024 ((ao.h 700024).1+1),cS bq,cI br,.row 7050000 ah,.row 7050001 ai,.row 7050002 aj,cI bn,cS ay,.row 7050100 ae,cI az,cI ba,cI bd,cI bf,.row 7050101 af,cI bg,cI bh,cI aa.1.Zo,cB aa.1.Zl])/\s.h 700024=((ao.h 700024).1+1,oW 193 2 M.Y6.en aa.1.Y1.Y1)/\s.h 7050000=(ah,oW 40 3 M.aA.en aq)/\s.h 7050001=(ai,oW 282 2 M.aM.en ar)/\s.h 7050002=(aj,oW 5 1 enB av)/\s.h 7050100=(ae,oW 284 4 M.Zd.en ak)/\s.h 7050101=(af,oW 211 7 M.aV.en al)/\s.h 7059000=(1,oB 182 [.old B0 (.sl (List.map enB p0.b)) (some u0),cI cd.1,cI cd.2.1])/\True) ?_
 rintro cr f180
 obtain⟨dr,du,h⟩:=bind_some h
 refine rn1 (TS.1 _ _ _ du) ?_
 refine an (sq ?_)
 obtain⟨cl,dw,h⟩:=bind_some h
 refine rn1 (c65.1 _ _ _ dw) ?_
 refine an (sq ?_)
 refine cu (λs=>s.t 0=vP 7059000 1 0/\s.t 2=vP 2 ((s1.h 2).1+1) 0/\s.t 5=vP 5 ((ao.h 5).1+1) 0/\s.h 2=((s1.h 2).1+1,KG)/\s.h 5=((ao.h 5).1+1,oB 49 [cS aa.1.Zh,cS aa.1.Zw,cS aa.1.YZ.Zh,cI aa.1.YZ.Zm,cI aa.1.YZ.Zs,cI (IntKind.i64.wrap (1+cd.2.2)),.row 100079 ((cr.h 100079).1+1),cS bq,cI br,.row 7050000 ah,.row 7050001 ai,.row 7050002 aj,cI bn,cS ay,.row 7050100 ae,cI az,cI ba,cI bd,cI bf,.row 7050101 af,cI bg,cI bh,cI cl.2.2,cB aa.1.Zl])/\s.h 100079=((cr.h 100079).1+1,oW 193 2 M.Y6.en dr.1.Y1)/\s.h 7050000=(ah,oW 40 3 M.aA.en aq)/\s.h 7050001=(ai,oW 282 2 M.aM.en ar)/\s.h 7050002=(aj,oW 5 1 enB av)/\s.h 7050100=(ae,oW 284 4 M.Zd.en ak)/\s.h 7050101=(af,oW 211 7 M.aV.en al)/\s.h 7059000=(1,oB 182 [.old B0 (.sl (List.map enB p0.b)) (some u0),cI cl.1,cI cl.2.1])/\True) ?_
 rintro fj f197
 obtain⟨fk,dx,h⟩:=bind_some h
 refine rn1 (c75.1 _ _ _ dx) ?_
 refine an (sq (rn ?_))
 refine an (rt ?_)
 cases h
 simp[HO,Ret,TB,EN, *]⟩
instance c10:bR 10 (∀p0 p1 r (h:kS p0 p1=some r),Sc 10 [aX (M.aH.en p0),aX (M.aK.en p1)] [(true,M.aH.rs r.1),rB r.2]):=⟨λp0 p1 r h=>by
 have i1:=λ(x1:M.aH)=>inv λm s=>∃v8:Int,(s.t 2=vP 2 1 0/\s.t 3=vP 3 1 0/\s.t 4=vP 4 1 0/\s.t 6=vP 6 1 0/\s.t 8=vI v8/\s.h 2=(1,oX 26 (M.aH.en p0))/\s.h 3=(1,oX 49 (M.aK.en p1))/\s.h 4=(1,oB 26 [.nil])/\s.h 6=(1,oB 26 [.row 100011 1])/\s.h 100011=(1,oW 49 24 M.aK.en x1.Y0))/\iV p0 p1 x1 m v8=some r
 have e1:=@iV.eq_2
 unfold kS at h
 exact sgo 74 [.cell 4 26,.tmp 5] Tryz.func10⟩
instance:bR 215 (∀p0 r (h:wD p0=some r),Sc 215 [(false,[.ptr [.sl (List.map enB p0.b),.int .i64 p0.i,.int .i64 p0.h]])] [(false,[.edit (.lend 182 [.int .i64 r.1,.int .i64 r.2.1])]),(true,M.bG.rs r.2.2)]):=⟨λp0 r h=>by
 unfold wD at h
 simp only[EN]
 refine sgB 22 [.cell 2 37] Tryz.func215 λbase wd B0 u0 hw0=> ?_
 refine gK (J:=λs=>s.t 0=vP 7059000 1 0/\s.h 7059000=(1,oB 182 [.old B0 (.sl (List.map enB p0.b)) (some u0),cI p0.i,cI p0.h])/\True) ?_ ?_
 ·and_intros<;>(try simp only[LN,List.map_cons,List.map_nil])<;>rfl
 rintro s1 f2
 have i1:=CO [.b 3 2 7050000 40 3,.b 3 3 7050001 282 2,.b 3 4 7050002 5 1] λm s=>∃v4:Int,∃ao:ByteArray,∃aq:Int,∃ar:Int,∃aa:Int,∃ae:Int,∃af:List M.aA,∃ah:List M.aM,∃ai:List Int,∃aj:Nat,∃ak:Nat,∃al:Nat,(s.t 0=vP 7059000 1 0/\s.t 2=vP 2 ((s1.h 2).1+1) 0/\s.t 3=vP 3 ((s1.h 3).1+1) 0/\s.t 4=vI v4/\s.h 2=((s1.h 2).1+1,WK)/\s.h 3=((s1.h 3).1+1,oB 37 [cS ao,cI aq,.row 7050000 aj,.row 7050001 ak,.row 7050002 al,cI ar])/\s.h 7050000=(aj,oW 40 3 M.aA.en af)/\s.h 7050001=(ak,oW 282 2 M.aM.en ah)/\s.h 7050002=(al,oW 5 1 enB ai)/\s.h 7059000=(1,oB 182 [.old B0 (.sl (List.map enB p0.b)) (some u0),cI aa,cI ae]))/\lV p0 m v4 ao aq ar aa ae af ah ai=some r
 have e1:=@lV.eq_2
 exact sgX⟩
instance:bR 125 (∀p0 r (h:xQ p0=some r),Sc 125 [(false,[.ptr [.sl (List.map enB p0.b),.int .i64 p0.i,.int .i64 p0.h]])] [(false,[.edit (.lend 182 [.int .i64 r.1,.int .i64 r.2.1])]),(true,M.bG.rs r.2.2)]):=⟨λp0 r h=>by
 unfold xQ at h
 simp only[EN]
 refine sgB 38 [.cell 2 37] Tryz.func125 λbase wd B0 u0 hw0=> ?_
 refine gK (J:=λs=>s.t 0=vP 7059000 1 0/\s.h 7059000=(1,oB 182 [.old B0 (.sl (List.map enB p0.b)) (some u0),cI p0.i,cI p0.h])/\True) ?_ ?_
 ·and_intros<;>(try simp only[LN,List.map_cons,List.map_nil])<;>rfl
 rintro s1 f2
 exact sgX⟩
instance:bR 126 (∀p0 r (h:xN p0=some r),Sc 126 [(false,[.ptr [.sl (List.map enB p0.b),.int .i64 p0.i,.int .i64 p0.h]])] [(false,[.edit (.lend 182 [.int .i64 r.1,.int .i64 r.2.1])]),(true,M.aD.rs r.2.2)]):=⟨λp0 r h=>by
 unfold xN at h
 simp only[EN]
 refine sgB 30 [.cell 2 47] Tryz.func126 λbase wd B0 u0 hw0=> ?_
 refine gK (J:=λs=>s.t 0=vP 7059000 1 0/\s.h 7059000=(1,oB 182 [.old B0 (.sl (List.map enB p0.b)) (some u0),cI p0.i,cI p0.h])/\True) ?_ ?_
 ·and_intros<;>(try simp only[LN,List.map_cons,List.map_nil])<;>rfl
 rintro s1 f2
 exact sgX⟩
instance:bR 46 (∀p0 r (h:vG p0=some r),Sc 46 [(false,[.ptr [.sl (List.map enB p0.b),.int .i64 p0.i,.int .i64 p0.h]])] [(false,[.edit (.lend 182 [.int .i64 r.1,.int .i64 r.2.1])]),(true,M.aK.rs r.2.2)]):=⟨λp0 r h=>by
 unfold vG at h
 simp only[EN]
 refine sgB 50 [.cell 2 49] Tryz.func46 λbase wd B0 u0 hw0=> ?_
 refine gK (J:=λs=>s.t 0=vP 7059000 1 0/\s.h 7059000=(1,oB 182 [.old B0 (.sl (List.map enB p0.b)) (some u0),cI p0.i,cI p0.h])/\True) ?_ ?_
 ·and_intros<;>(try simp only[LN,List.map_cons,List.map_nil])<;>rfl
 rintro s1 f2
 have i1:=λ(x4:(Int×Int×M.aK)) (ae:(Int×Int×Int)) (aa:St)=>inv λm s=>∃r5:List Int,∃u5:Nat,(s.h 2000005=aa.h 2000005/\s.h 7059000=aa.h 7059000/\s.t 0=vP 7059000 1 0/\s.t 2=vP 2 ((s1.h 2).1+1) 0/\s.t 3=vP 3 ((s1.h 3).1+1) 0/\s.h 2=((s1.h 2).1+1,KG)/\s.h 3=((s1.h 3).1+1,oB 49 [cS x4.2.2.Zh,cS x4.2.2.Zw,cS x4.2.2.YZ.Zh,cI x4.2.2.YZ.Zm,cI x4.2.2.YZ.Zs,cI x4.2.2.YZ.Zv,.row 700005 ((s1.h 700005).1+1),cS x4.2.2.bG.Zf.Name,cI x4.2.2.bG.Zf.Y2,.row 1000005 ((s1.h 1000005).1+1),.row 1100005 ((s1.h 1100005).1+1),.row 1200005 u5,cI x4.2.2.bG.Zu,cS x4.2.2.aD.Zf.Name,.row 1500005 ((s1.h 1500005).1+1),cI x4.2.2.aD.Zf.Zn,cI x4.2.2.aD.Zx,cI x4.2.2.aD.Ze.aF.Zg,cI x4.2.2.aD.Ze.aF.Zr,.row 2000005 ((s1.h 2000005).1+1),cI x4.2.2.aD.Ze.Zt,cI x4.2.2.aD.Ze.Zj,cI x4.2.2.Zo,cB x4.2.2.Zl])/\s.h 700005=((s1.h 700005).1+1,oW 193 2 M.Y6.en x4.2.2.Y1.Y1)/\s.h 1000005=((s1.h 1000005).1+1,oW 40 3 M.aA.en x4.2.2.bG.Zf.Y5)/\s.h 1100005=((s1.h 1100005).1+1,oW 282 2 M.aM.en x4.2.2.bG.Zf.Za)/\s.h 1200005=(u5,oW 5 1 enB r5)/\s.h 1500005=((s1.h 1500005).1+1,oW 284 4 M.Zd.en x4.2.2.aD.Zf.Y3))/\kY x4 ae m r5=some r
 have e1:=@kY.eq_2
 exact sgX⟩
instance:bR 45 (∀p0 r (h:oH p0=some r),Sc 45 [(false,[.ptr [.sl (List.map enB p0.b),.int .i64 p0.i,.int .i64 p0.h]])] [(false,[.edit (.lend 182 [.int .i64 r.1,.int .i64 r.2.1])]),(true,M.aH.rs r.2.2)]):=⟨λp0 r h=>by
 unfold oH at h
 simp only[EN]
 refine sgB 29 [.cell 2 26] Tryz.func45 λbase wd B0 u0 hw0=> ?_
 refine gK (J:=λs=>s.t 0=vP 7059000 1 0/\s.h 7059000=(1,oB 182 [.old B0 (.sl (List.map enB p0.b)) (some u0),cI p0.i,cI p0.h])/\True) ?_ ?_
 ·and_intros<;>(try simp only[LN,List.map_cons,List.map_nil])<;>rfl
 rintro s1 f2
 have i1:=CO [.b 3 0 7050000 49 24] λm s=>∃v4:Int,∃aa:Int,∃ae:Int,∃af:List M.aK,∃ah:Nat,(s.t 0=vP 7059000 1 0/\s.t 2=vP 2 ((s1.h 2).1+1) 0/\s.t 3=vP 3 ((s1.h 3).1+1) 0/\s.t 4=vI v4/\s.h 2=((s1.h 2).1+1,oB 26 [.nil])/\s.h 3=((s1.h 3).1+1,oB 26 [.row 7050000 ah])/\s.h 7050000=(ah,oW 49 24 M.aK.en af)/\s.h 7059000=(1,oB 182 [.old B0 (.sl (List.map enB p0.b)) (some u0),cI aa,cI ae]))/\gM p0 m v4 aa ae af=some r
 have e1:=@gM.eq_2
 exact sgX⟩
theorem c8(p0 r)(h:nM p0=some r):Sc 8 [aL enB p0] [(true,M.aH.rs r.1),(true,M.aK.rs r.2)]:=by unfold nM at h;exact sgo 13 [.cell 2 26,.cell 3 49] Tryz.func8
theorem c14(p0 r)(h:lD p0=some r):Sc 14 [aL enB p0] [(true,M.aH.rs r.1),rW 96 11 M.fS.en r.2.1,rI r.2.2]:=by unfold lD at h;exact sgo 17 [.cell 2 26,.tmp 3,.tmp 4] Tryz.func14
end Go.Proofs.YtipmihbgjolaaaaGreat.gen
