/-
  Helper text. No conditions.
-/
import Derived.Test.YtndidbigdalbnaaGreatNotesWspec6
import Derived.Test.YtndidbigdalbnaaGreatNotesWspec7
set_option linter.all false
namespace Go.Proofs.YtndidbigdalbnaaGreat.gen
open Go Go.Sh Tryz
set_option maxRecDepth 20000
set_option maxHeartbeats 4000000
instance c27:bU 27 (∀p0 r (h:dM p0=some r),Sc 27 [aX (M.aE.en p0)] [(true,M.aE.rs r)]):=⟨λp0 r h=>by
 have i1:=λ(x1:M.aC)=>inv λm s=>∃v4:Int,∃ae:List M.bK,∃af:Nat,(s.t 1=vP 1 1 0/\s.t 2=vP 2 1 0/\s.t 3=vP 3 1 0/\s.t 4=vI v4/\s.h 1=(1,oX 37 (M.aE.en p0))/\s.h 2=(1,WY)/\s.h 3=(1,oB 37 [cI p0.Now,cB p0.aK4,cI p0.aKk,.row 100010 1,.row 100012 af,cI p0.aKn,cL M.vE.en p0.aKu.aKu,cL M.Eb.en p0.aKp.aLJ,cL M.aKl.en p0.aK0,cL M.aKt.en p0.aKr])/\s.h 100010=(1,oW 75 24 M.aKe.en x1.aKf)/\s.h 100012=(af,oW 44 11 M.bK.en ae))/\oE p0 x1 m v4 ae=some r
 have e1:=@oE.eq_2
 have i2:=λ(x1:M.aC) (ae:List M.bK) (ah:M.aW) (ai:M.aKp) (aa:St) (af:Nat)=>inv λm s=>∃v5:Int,∃aj:List M.aKl,∃ak:Nat,(s.t 1=vP 1 1 0/\s.t 2=vP 2 1 0/\s.t 3=vP 3 1 0/\s.t 5=vI v5/\s.h 1=(1,oX 37 (M.aE.en p0))/\s.h 2=(1,WY)/\s.h 3=(1,oB 37 [cI p0.Now,cB p0.aK4,cI p0.aKk,.row 100010 1,.row 100012 af,cI p0.aKn,.row 100034 ((aa.h 100034).1+1),.row 100038 ((aa.h 100038).1+1),.row 100040 ak,cL M.aKt.en p0.aKr])/\s.h 100010=(1,oW 75 24 M.aKe.en x1.aKf)/\s.h 100012=(af,oW 44 11 M.bK.en ae)/\s.h 100034=((aa.h 100034).1+1,oW 113 4 M.vE.en ah.aKu)/\s.h 100038=((aa.h 100038).1+1,oW 116 3 M.Eb.en ai.aLJ)/\s.h 100040=(ak,oW 120 4 M.aKl.en aj))/\lM p0 x1 ae ah ai m v5 aj=some r
 have e2:=@lM.eq_2
 have i3:=λ(x1:M.aC) (ae:List M.bK) (ah:M.aW) (ai:M.aKp) (aj:List M.aKl) (aa:St) (af:Nat) (ak:Nat)=>inv λm s=>∃v6:Int,∃al:List M.aKt,∃ao:Nat,(s.t 1=vP 1 1 0/\s.t 2=vP 2 1 0/\s.t 3=vP 3 1 0/\s.t 6=vI v6/\s.h 1=(1,oX 37 (M.aE.en p0))/\s.h 2=(1,WY)/\s.h 3=(1,oB 37 [cI p0.Now,cB p0.aK4,cI p0.aKk,.row 100010 1,.row 100012 af,cI p0.aKn,.row 100034 ((aa.h 100034).1+1),.row 100038 ((aa.h 100038).1+1),.row 100040 ak,.row 100060 ao])/\s.h 100010=(1,oW 75 24 M.aKe.en x1.aKf)/\s.h 100012=(af,oW 44 11 M.bK.en ae)/\s.h 100034=((aa.h 100034).1+1,oW 113 4 M.vE.en ah.aKu)/\s.h 100038=((aa.h 100038).1+1,oW 116 3 M.Eb.en ai.aLJ)/\s.h 100040=(ak,oW 120 4 M.aKl.en aj)/\s.h 100060=(ao,oW 125 5 M.aKt.en al))/\lI p0 x1 ae ah ai aj m v6 al=some r
 have e3:=@lI.eq_2
 unfold dM at h
 exact sgo 81 [.cell 2 37] func27⟩
instance:bU 213 (∀p0 r (h:Dc p0=some r),Sc 213 [aX (M.aKe.en p0)] [rI r]):=⟨λp0 r h=>by unfold Dc at h;exact sgo 23 [.tmp 2] func213⟩
instance:bU 293 (∀p0 p1 p2 p3 p4 r (h:lY p0 p1 p2 p3 p4=some r),Sc 293 [aX (M.aN.en p0),aX (M.aKl.en p1),aI p2,aS p3,aB p4] [(true,M.aKo.rs r)]):=⟨λp0 p1 p2 p3 p4 r h=>by unfold lY at h;exact sgo 30 [.cell 10 244] func293⟩
instance:bU 150 (∀p0 p1 r (h:Du p0 p1=some r),Sc 150 [aX (M.aKc.en p0),aX (M.fA.en p1)] [(true,M.aKc.rs r.1),rI r.2.1,rB r.2.2]):=⟨λp0 p1 r h=>by unfold Du at h;exact sgo 58 [.cell 4 56,.tmp 5,.tmp 6] func150⟩
instance:bU 337 (∀p0 r (h:CH p0=some r),Sc 337 [aX (M.aH.en p0)] [(true,M.aD.rs r)]):=⟨λp0 r h=>by unfold CH at h;exact sgo 10 [.cell 2 66] func337⟩
instance:bU 369 (∀p0 p1 r (h:nN p0 p1=some r),Sc 369 [aX (M.aKc.en p0),aX (M.tC.en p1)] [(true,M.aKc.rs r.1),rB r.2]):=⟨λp0 p1 r h=>by
 unfold nN at h
 simp only[EN]
 refine sgn 130 [.cell 4 56,.tmp 5] func369 λbase wd=> ?_
 refine sq (rn ?_)
 refine an (sq ?_)
 obtain⟨x1,h2,h⟩:=aA h
 refine rn1 (aC0.1 _ _ h2) ?_
 refine an (sq ?_)
 obtain⟨x3,h4,h⟩:=aA h
 refine rn1 (c83.1 _ _ _ h4) ?_
 refine an (sq ?_)
 obtain⟨x5,h6,h⟩:=aA h
 refine rn1 (aJj _ _ _ h6) ?_
 refine an (sq (bk ?_))
 obtain⟨x7,h8,h⟩:=aA h
 obtain⟨V1,eV1⟩:=nmH ((1,oB 56 [cS x1.Name,cI x1.aKb,.row 300012 1,.row 400012 1]))
 obtain⟨V3,eV3⟩:=nmH ((1,oW 248 2 M.aV.en x1.aKz))
 obtain⟨V4,eV4⟩:=nmH ((1,WT))
 obtain⟨V5,eV5⟩:=nmT (vP 2 1 0)
 obtain⟨V6,eV6⟩:=nmT (vP 4 1 0)
 obtain⟨V7,eV7⟩:=nmT (vP 6 1 0)
 refine yN (λs=>s.t 2=V5/\s.t 3=vP 3 1 0/\s.t 4=V6/\s.t 6=V7/\s.t 7=vI x3/\s.t 8=vI x5/\s.t 21=vB x7/\s.h 2=(1,oX 56 (M.aKc.en p0))/\s.h 3=(1,oX 404 (M.tC.en p1))/\s.h 4=V4/\s.h 6=V1/\s.h 300012=(1,oW 66 3 M.aD.en x1.aKm)/\s.h 400012=V3/\True) ?_ ?_
 ·replace h:=h8;clear h8;rcases gK (p1.aKx==1)with cq|cq;(replace h:=bQ cq h;refine rn ?_;cases h;exact fB zM);replace h:=bP cq h;refine rn ?_;cases h;exact fB zM
 clear h8
 rintro s9 f10
 rcases gK x7 with ah|ah
 ·replace h:=bQ ah h
  refine ct (sq (rn ?_))
  refine an (sq (bk ?_))
  refine HG (λm s=>∃v9:Int,s.t 2=V5/\s.t 3=vP 3 1 0/\s.t 4=V6/\s.t 6=V7/\s.t 9=vI v9/\s.h 2=(1,oX 56 (M.aKc.en p0))/\s.h 3=(1,oX 404 (M.tC.en p1))/\s.h 4=V4/\s.h 6=V1/\s.h 300012=(1,oW 66 3 M.aD.en x1.aKm)/\s.h 400012=V3/\rN p0 p1 x1 m v9=some r) aJ ?_ ?_
  ·exact⟨0,zM⟩
  rintro mL1 gi ⟨v9,f26,f27,f28,f29,f30,f31,f32,f33,f34,f35,f36,h⟩
  rcases mL1 with _|mL1
  ·exact absurd h (by simp[rN])
  simp only[rN]at h
  refine sq ?_
  obtain⟨dx,cr,h⟩:=aA h
  refine yN (λs=>s.t 2=V5/\s.t 3=vP 3 1 0/\s.t 4=V6/\s.t 6=V7/\s.t 9=vI v9/\s.t 44=vB dx/\s.h 2=(1,oX 56 (M.aKc.en p0))/\s.h 3=(1,oX 404 (M.tC.en p1))/\s.h 4=V4/\s.h 6=V1/\s.h 300012=(1,oW 66 3 M.aD.en x1.aKm)/\s.h 400012=V3/\True) ?_ ?_
  ·replace h:=cr;clear cr;rcases CP (decide (v9<(List.length p0.aKm:Int)))with cw|cw;(replace h:=bP cw h;refine rd mixed ?_;cases h;exact fB zM);replace h:=bQ cw h;obtain⟨gj,dz,h⟩:=aA h;obtain⟨gk,gm,gn⟩:=pK dz;refine rd mixed ?_;cases h;exact fB zM
  clear cr
  rintro bt f40
  rcases gK dx with ak|ak
  ·replace h:=bQ ak h;refine ct (sk (an (bk (rn ?_))));refine ab ?_;exact fB ⟨mL1,wg,IntKind.i64.wrap (v9+1),zM⟩
  replace h:=bP ak h
  refine cf (xt (CO (CL (Gs (an (sq ?_))))))
  obtain⟨gp,bu,h⟩:=aA h
  obtain⟨gq,ef,h⟩:=aA h
  apply AA
  ·simp+decide only[E,reduceIte,Nat.reduceAdd,Nat.reduceMul,qB,qC,<-List.map_take,<-List.map_drop,L,aCN,X5,WH,M.aD.en,EN,ah,f40,ak,eV1,eV3,eV4,eV5,eV6,eV7]
   refine⟨by first|exact vU bu|exact(vU bu).2|exact(vU bu).2.2,?_⟩
   try simp+decide only[E,reduceIte,Nat.reduceAdd,Nat.reduceMul,qB,qC,<-List.map_take,<-List.map_drop,L,aCN,X5,WH,M.aD.en,EN,ah,f40,ak,eV1,eV3,eV4,eV5,eV6,eV7]
   refine⟨by(have hb:=fJ ef);simp[M.aD.en,qE,aP,<-List.map_take,<-List.map_drop,-List.map_take,-List.map_drop]at hb⊢ <;>omega,?_⟩
   try simp+decide only[E,reduceIte,Nat.reduceAdd,Nat.reduceMul,qB,qC,<-List.map_take,<-List.map_drop,L,aCN,X5,WH,M.aD.en,EN,ah,f40,ak,eV1,eV3,eV4,eV5,eV6,eV7]
   exact Is.mk _
  refine an (sq ?_)
  refine cu (λs=>s.t 2=V5/\s.t 3=vP 3 1 0/\s.t 4=V6/\s.t 6=V7/\s.t 9=vI v9/\s.t 10=vR 100047 (((bt.h 100047).1+1)+1)/\s.h 2=(1,oX 56 (M.aKc.en p0))/\s.h 3=(1,oX 404 (M.tC.en p1))/\s.h 4=V4/\s.h 6=V1/\s.h 100047=(((bt.h 100047).1+1)+1,oW 66 3 M.aD.en (List.take v9.toNat x1.aKm))/\s.h 300012=(1,.row 66 3 (NK 3 0 v9.toNat (List.map M.aD.en x1.aKm)) true)/\s.h 400012=V3/\True) ?_
  rintro gr f64
  obtain⟨gu,et,h⟩:=aA h
  refine rn1 et ?_
  refine an ?_
  refine cu (λs=>s.t 2=V5/\s.t 4=V6/\s.t 6=V7/\s.t 9=vI v9/\s.t 10=vR 100047 ((((bt.h 100047).1+1)+1)+1)/\s.h 2=(1,oX 56 (M.aKc.en p0))/\s.h 4=V4/\s.h 6=V1/\s.h 100047=((((bt.h 100047).1+1)+1)+1,oW 66 3 M.aD.en ((List.take v9.toNat x1.aKm)++[(⟨p1.aD,([]:List M.aKy),0⟩:M.aD)]))/\s.h 300012=(1,.row 66 3 (NK 3 0 v9.toNat (List.map M.aD.en x1.aKm)) true)/\s.h 400012=V3/\True) ?_
  rintro gv f80
  obtain⟨gw,eu,h⟩:=aA h
  apply AA
  ·simp+decide only[E,reduceIte,Nat.reduceAdd,Nat.reduceMul,qB,qC,<-List.map_take,<-List.map_drop,L,aCN,X5,WH,M.aD.en,EN,ah,ak,f80,eV1,eV3,eV4,eV5,eV6,eV7]
   refine⟨by first|exact SU (vU bu).1|exact(SU (vU bu).1).2|exact(SU (vU bu).1).2.2,?_⟩
   try simp+decide only[E,reduceIte,Nat.reduceAdd,Nat.reduceMul,qB,qC,<-List.map_take,<-List.map_drop,L,aCN,X5,WH,M.aD.en,EN,ah,ak,f80,eV1,eV3,eV4,eV5,eV6,eV7]
   refine⟨by(have hb:=fJ eu);simp[M.aD.en,qE,aP,<-List.map_take,<-List.map_drop,-List.map_take,-List.map_drop]at hb⊢ <;>omega,?_⟩
   try simp+decide only[E,reduceIte,Nat.reduceAdd,Nat.reduceMul,qB,qC,<-List.map_take,<-List.map_drop,L,aCN,X5,WH,M.aD.en,EN,ah,ak,f80,eV1,eV3,eV4,eV5,eV6,eV7]
   exact Is.mk _
  refine ab (an (sq ?_))
  refine cu (λs=>s.t 2=V5/\s.t 4=V6/\s.t 6=V7/\s.h 2=(1,oX 56 (M.aKc.en p0))/\s.h 4=V4/\s.h 6=(1,oB 56 [cS x1.Name,cI x1.aKb,.row 100047 (((((bt.h 100047).1+1)+1)+1)+1),.row 400012 1])/\s.h 100047=(((((bt.h 100047).1+1)+1)+1)+1,oW 66 3 M.aD.en (((List.take v9.toNat x1.aKm)++[(⟨p1.aD,([]:List M.aKy),0⟩:M.aD)])++(List.drop v9.toNat x1.aKm)))/\s.h 400012=V3/\True) ?_
  rintro dy f94
  obtain⟨bw,aq,h⟩:=aA h
  refine yN (λs=>s.h 6=dy.h 6/\s.h 100047=dy.h 100047/\s.t 2=V5/\s.t 4=V6/\s.t 6=V7/\s.t 126=vB bw/\s.h 2=(1,oX 56 (M.aKc.en p0))/\s.h 4=V4/\s.h 400012=V3/\True) ?_ ?_
  ·replace h:=aq;clear aq;obtain⟨cx,bx,h⟩:=aA h;rcases gK (!cx)with ar|ar;(replace h:=bQ ar h;refine rn1 (VP.1 _ _ bx) ?_;cases h;exact fB zM);replace h:=bP ar h;obtain⟨fa,cy,h⟩:=aA h;refine rn2 (VP.1 _ _ bx) (VP.1 _ _ cy) ?_;cases h;exact fB zM
  clear aq
  rintro fc ⟨f111,f112,f105⟩
  replace f111:=f111.trans f94.2.2.2.2.2.1
  replace f112:=f112.trans f94.2.2.2.2.2.2.1
  rcases CP bw with av|av
  ·replace h:=bP av h;refine cf (sk (an (sq (rn ?_))));exact an (rt zR)
  replace h:=bQ av h
  refine ct (sq ?_)
  obtain⟨fe,cz,h⟩:=aA h
  refine rn1 (aC0.1 _ _ cz) ?_
  exact an (rt zR)
 replace h:=bP ah h
 refine cf ?_
 obtain⟨bz,aw,h⟩:=aA h
 refine yN (λs=>s.t 2=V5/\s.t 3=vP 3 1 0/\s.t 4=V6/\s.t 6=V7/\s.t 7=vI x3/\s.t 8=vI x5/\s.t 66=vB bz/\s.h 2=(1,oX 56 (M.aKc.en p0))/\s.h 3=(1,oX 404 (M.tC.en p1))/\s.h 4=V4/\s.h 6=V1/\s.h 300012=(1,oW 66 3 M.aD.en x1.aKm)/\s.h 400012=V3/\True) ?_ ?_
 ·replace h:=aw;clear aw;rcases gK (p1.aKx==2)with ax|ax;(replace h:=bQ ax h;refine rn ?_;cases h;exact fB zM);replace h:=bP ax h;refine rn ?_;cases h;exact fB zM
 clear aw
 rintro al f125
 rcases gK bz with aa|aa
 ·replace h:=bQ aa h;refine ct ?_;obtain⟨ao,da,h⟩:=aA h;refine rn1 (aKL _ _ _ da) ?_;refine ab (an (sq ?_));obtain⟨ca,ay,h⟩:=aA h;refine yN (λs=>s.t 2=V5/\s.t 4=V6/\s.t 6=V7/\s.t 126=vB ca/\s.h 2=(1,oX 56 (M.aKc.en p0))/\s.h 4=V4/\s.h 6=(1,oB 56 [cS ao.Name,cI ao.aKb,.row 300077 ((al.h 300077).1+1),.row 400077 ((al.h 400077).1+1)])/\s.h 300077=((al.h 300077).1+1,oW 66 3 M.aD.en ao.aKm)/\s.h 400077=((al.h 400077).1+1,oW 248 2 M.aV.en ao.aKz)/\True) ?_ ?_;(replace h:=ay;clear ay;obtain⟨db,cc,h⟩:=aA h;rcases gK (!db)with az|az;(replace h:=bQ az h;refine rn1 (VP.1 _ _ cc) ?_;cases h;exact fB zM);replace h:=bP az h;obtain⟨ff,df,h⟩:=aA h;refine rn2 (VP.1 _ _ cc) (VP.1 _ _ df) ?_;cases h;exact fB zM);clear ay;rintro fg f145;rcases CP ca with ba|ba;(replace h:=bP ba h;refine cf (sk (an (sq (rn ?_))));exact an (rt zR));replace h:=bQ ba h;refine ct (sq ?_);obtain⟨fh,dg,h⟩:=aA h;refine rn1 (aC0.1 _ _ dg) ?_;exact an (rt zR)
 replace h:=bP aa h
 refine cf ?_
 obtain⟨cd,bd,h⟩:=aA h
 refine yN (λs=>s.t 2=V5/\s.t 3=vP 3 1 0/\s.t 4=V6/\s.t 6=V7/\s.t 8=vI x5/\s.t 78=vB cd/\s.h 2=(1,oX 56 (M.aKc.en p0))/\s.h 3=(1,oX 404 (M.tC.en p1))/\s.h 4=V4/\s.h 6=V1/\s.h 300012=(1,oW 66 3 M.aD.en x1.aKm)/\s.h 400012=V3/\True) ?_ ?_
 ·replace h:=bd;clear bd;rcases CP (p1.aKx==3)with bf|bf;(replace h:=bP bf h;refine rn ?_;cases h;exact fB zM);replace h:=bQ bf h;rcases gK (decide (x3>=0))with bg|bg;(replace h:=bQ bg h;refine rn ?_;cases h;exact fB zM);replace h:=bP bg h;refine rn ?_;cases h;exact fB zM
 clear bd
 rintro fj f165
 obtain⟨V2,eV2⟩:=nmH ((1,oB 56 [cS x1.Name,cI x1.aKb,.row 300012 1,.row 400012 2]))
 rcases gK cd with ae|ae
 ·replace h:=bQ ae h;refine ct ?_;obtain⟨fk,dh,h⟩:=aA h;refine rn1 dh ?_;refine ab (an (sq ?_));refine cu (λs=>s.t 2=V5/\s.t 4=V6/\s.t 6=V7/\s.h 2=(1,oX 56 (M.aKc.en p0))/\s.h 4=V4/\s.h 6=V2/\s.h 300012=(1,oW 66 3 M.aD.en x1.aKm)/\s.h 400012=(2,oW 248 2 M.aV.en (x1.aKz++[(⟨p1.aD,p1.Field⟩:M.aV)]))/\True) ?_;rintro di f183;obtain⟨cg,bh,h⟩:=aA h;refine yN (λs=>s.h 400012=di.h 400012/\s.t 2=V5/\s.t 4=V6/\s.t 6=V7/\s.t 126=vB cg/\s.h 2=(1,oX 56 (M.aKc.en p0))/\s.h 4=V4/\s.h 6=V2/\s.h 300012=(1,oW 66 3 M.aD.en x1.aKm)/\True) ?_ ?_;(replace h:=bh;clear bh;obtain⟨dj,cj,h⟩:=aA h;rcases gK (!dj)with bj|bj;(replace h:=bQ bj h;refine rn1 (VP.1 _ _ cj) ?_;cases h;exact fB zM);replace h:=bP bj h;obtain⟨fm,dk,h⟩:=aA h;refine rn2 (VP.1 _ _ cj) (VP.1 _ _ dk) ?_;cases h;exact fB zM);clear bh;rintro fq ⟨f202,f194⟩;replace f202:=f202.trans f183.2.2.2.2.2.2.2.1;rcases CP cg with bl|bl;(replace h:=bP bl h;refine cf (sk (an (sq (rn ?_))));exact an (rt zR));replace h:=bQ bl h;refine ct (sq ?_);obtain⟨ft,dm,h⟩:=aA h;refine rn1 (aC0.1 _ _ dm) ?_;exact an (rt zR)
 replace h:=bP ae h
 refine cf ?_
 obtain⟨ck,bm,h⟩:=aA h
 refine yN (λs=>s.t 2=V5/\s.t 4=V6/\s.t 6=V7/\s.t 8=vI x5/\s.t 100=vB ck/\s.h 2=(1,oX 56 (M.aKc.en p0))/\s.h 4=V4/\s.h 6=V1/\s.h 300012=(1,oW 66 3 M.aD.en x1.aKm)/\s.h 400012=V3/\True) ?_ ?_
 ·replace h:=bm;clear bm;rcases gK (p1.aKx==4)with bn|bn;(replace h:=bQ bn h;refine rn ?_;cases h;exact fB zM);replace h:=bP bn h;refine rn ?_;cases h;exact fB zM
 clear bm
 rintro fw f214
 rcases CP ck with af|af
 ·replace h:=bP af h;refine cf (sq (rn ?_));exact an (rt zR)
 replace h:=bQ af h
 refine ct ?_
 obtain⟨fy,ai,h⟩:=aA h
 obtain⟨fz,aj,h⟩:=aA h
 obtain⟨ga,cl,h⟩:=aA h
 apply Em mixed
 ·simp+decide only[E,reduceIte,Nat.reduceAdd,Nat.reduceMul,qB,qC,<-List.map_take,<-List.map_drop,jO,L,aEL,X5,Za,M.aV.en,EN,ah,aa,ae,f214,af,eV1,eV3,eV4,eV5,eV6,eV7,eV2]
  refine⟨by first|exact vU ai|exact(vU ai).2|exact(vU ai).2.2,?_⟩
  try simp+decide only[E,reduceIte,Nat.reduceAdd,Nat.reduceMul,qB,qC,<-List.map_take,<-List.map_drop,jO,L,aEL,X5,Za,M.aV.en,EN,ah,aa,ae,f214,af,eV1,eV3,eV4,eV5,eV6,eV7,eV2]
  refine⟨by first|exact Gn aj|exact(Gn aj).2|exact(Gn aj).2.2,?_⟩
  try simp+decide only[E,reduceIte,Nat.reduceAdd,Nat.reduceMul,qB,qC,<-List.map_take,<-List.map_drop,jO,L,aEL,X5,Za,M.aV.en,EN,ah,aa,ae,f214,af,eV1,eV3,eV4,eV5,eV6,eV7,eV2]
  refine⟨by first|exact LM (f:=M.aV.en) (sz:=2) (λ_=>rfl) we ai aj cl|(have hb:=LM (f:=M.aV.en) (sz:=2) (λ_=>rfl) we ai aj cl;simpa using hb),?_⟩
  try simp+decide only[E,reduceIte,Nat.reduceAdd,Nat.reduceMul,qB,qC,<-List.map_take,<-List.map_drop,jO,L,aEL,X5,Za,M.aV.en,EN,ah,aa,ae,f214,af,eV1,eV3,eV4,eV5,eV6,eV7,eV2]
  exact⟨.mk wL,Is.mk _⟩
 refine ab (an (sq ?_))
 refine cu (λs=>s.t 2=V5/\s.t 4=V6/\s.t 6=V7/\s.h 2=(1,oX 56 (M.aKc.en p0))/\s.h 4=V4/\s.h 6=V2/\s.h 300012=(1,oW 66 3 M.aD.en x1.aKm)/\s.h 400012=(2,oW 248 2 M.aV.en ((List.take x5.toNat x1.aKz)++(List.drop (IntKind.i64.wrap (x5+1)).toNat x1.aKz)))/\True) ?_
 rintro dn f233
 obtain⟨cn,bo,h⟩:=aA h
 refine yN (λs=>s.h 400012=dn.h 400012/\s.t 2=V5/\s.t 4=V6/\s.t 6=V7/\s.t 126=vB cn/\s.h 2=(1,oX 56 (M.aKc.en p0))/\s.h 4=V4/\s.h 6=V2/\s.h 300012=(1,oW 66 3 M.aD.en x1.aKm)/\True) ?_ ?_
 ·replace h:=bo;clear bo;obtain⟨dq,cp,h⟩:=aA h;rcases gK (!dq)with bq|bq;(replace h:=bQ bq h;refine rn1 (VP.1 _ _ cp) ?_;cases h;exact fB zM);replace h:=bP bq h;obtain⟨gb,du,h⟩:=aA h;refine rn2 (VP.1 _ _ cp) (VP.1 _ _ du) ?_;cases h;exact fB zM
 clear bo
 rintro gd ⟨f252,f244⟩
 replace f252:=f252.trans f233.2.2.2.2.2.2.2.1
 rcases CP cn with br|br
 ·replace h:=bP br h;refine cf (sk (an (sq (rn ?_))));exact an (rt zR)
 replace h:=bQ br h
 refine ct (sq ?_)
 obtain⟨gh,dw,h⟩:=aA h
 refine rn1 (aC0.1 _ _ dw) ?_
 exact an (rt zR)⟩
instance:bU 233 (∀p0 r (h:BE p0=some r),Sc 233 [(false,[.ptr [.sl (List.map enB p0.b),.int .i64 p0.i,.int .i64 p0.h]])] [(false,[.edit (.lend 138 [.int .i64 r.1,.int .i64 r.2.1])]),(true,M.aKt.rs r.2.2)]):=⟨λp0 r h=>by
 unfold BE at h
 simp only[EN]
 refine sgB 36 [.cell 2 125] func233 λbase wd B0 u0 hw0=> ?_
 refine bY (J:=λs=>s.t 0=vP 7059000 1 0/\s.h 7059000=(1,oB 138 [.old B0 (.sl (List.map enB p0.b)) (some u0),cI p0.i,cI p0.h])/\True) ?_ ?_
 ·and_intros<;>(try simp only[LN,jJ,jK])<;>rfl
 rintro s1 f2
 have i1:=He [.b 3 1 7050000 153 4,.b 3 3 7050001 179 2,.b 3 4 7050002 182 7] λm s=>∃v4:Int,∃ao:ByteArray,∃aq:Int,∃aa:Int,∃ae:Int,∃af:List M.aKy,∃ah:List M.aQ,∃ai:List M.cH,∃aj:Nat,∃ak:Nat,∃al:Nat,(s.t 0=vP 7059000 1 0/\s.t 2=vP 2 ((s1.h 2).1+1) 0/\s.t 3=vP 3 ((s1.h 3).1+1) 0/\s.t 4=vI v4/\s.h 2=((s1.h 2).1+1,aAF)/\s.h 3=((s1.h 3).1+1,oB 125 [cS ao,.row 7050000 aj,cI aq,.row 7050001 ak,.row 7050002 al])/\s.h 7050000=(aj,oW 153 4 M.aKy.en af)/\s.h 7050001=(ak,oW 179 2 M.aQ.en ah)/\s.h 7050002=(al,oW 182 7 M.cH.en ai)/\s.h 7059000=(1,oB 138 [.old B0 (.sl (List.map enB p0.b)) (some u0),cI aa,cI ae]))/\sL p0 m v4 ao aq aa ae af ah ai=some r
 have e1:=@sL.eq_2
 exact sgX⟩
instance:bU 361 (∀p0 p1 p2 p3 r (h:Cn p0 p1 p2 p3=some r),Sc 361 [aX (M.aK3.en p0),aX (M.aKt.en p1),aI p2,aI p3] [(true,M.aK3.rs r.1),(true,M.aKt.rs r.2.1),rI r.2.2]):=⟨λp0 p1 p2 p3 r h=>by unfold Cn at h;exact sgo 113 [.cell 8 71,.cell 9 125,.tmp 10] func361⟩
instance:bU 362 (∀p0 p1 r (h:An p0 p1=some r),Sc 362 [aX (M.aH.en p0),aX (M.aKt.en p1)] [(true,M.aH.rs r.1),rI r.2]):=⟨λp0 p1 r h=>by unfold An at h;exact sgo 64 [.cell 4 73,.tmp 5] func362⟩
instance:bU 234 (∀p0 r (h:EX p0=some r),Sc 234 [(false,[.ptr [.sl (List.map enB p0.b),.int .i64 p0.i,.int .i64 p0.h]])] [(false,[.edit (.lend 138 [.int .i64 r.1,.int .i64 r.2.1])]),(true,M.aD.rs r.2.2)]):=⟨λp0 r h=>by
 unfold EX at h
 simp only[EN]
 refine sgB 50 [.cell 2 66] func234 λbase wd B0 u0 hw0=> ?_
 refine bY (J:=λs=>s.t 0=vP 7059000 1 0/\s.h 7059000=(1,oB 138 [.old B0 (.sl (List.map enB p0.b)) (some u0),cI p0.i,cI p0.h])/\True) ?_ ?_
 ·and_intros<;>(try simp only[LN,jJ,jK])<;>rfl
 rintro s1 f2
 have i1:=λ(ai:(Int×Int×Int)) (s16:St)=>He [.b 3 1 7050000 153 4] λm s=>∃af:ByteArray,∃ah:Int,∃aa:List M.aKy,∃ae:Nat,(s.h 7059000=s16.h 7059000/\s.t 0=vP 7059000 1 0/\s.t 2=vP 2 ((s1.h 2).1+1) 0/\s.t 3=vP 3 ((s1.h 3).1+1) 0/\s.h 2=((s1.h 2).1+1,oB 66 [cS (⟨#[]⟩:ByteArray),.nil,cI 0])/\s.h 3=((s1.h 3).1+1,oB 66 [cS af,.row 7050000 ae,cI ah])/\s.h 7050000=(ae,oW 153 4 M.aKy.en aa))/\A9 ai m af ah aa=some r
 have e1:=@A9.eq_2
 exact sgX⟩
theorem aJs(p0 r)(h:DL p0=some r):Sc 173 [(false,[.ptr [.sl (List.map enB p0.b),.int .i64 p0.i,.int .i64 p0.h]])] [(false,[.edit (.lend 138 [.int .i64 r.1,.int .i64 r.2.1])]),(true,M.bK.rs r.2.2)]:=by
 unfold DL at h
 simp only[EN]
 refine sgB 51 [.cell 2 44] func173 λbase wd I u0 hw0=> ?_
 refine bY (J:=λs=>s.t 0=vP 7059000 1 0/\s.h 7059000=(1,oB 138 [.old I (.sl (List.map enB p0.b)) (some u0),cI p0.i,cI p0.h])/\True) ?_ ?_
 ·and_intros<;>(try simp only[LN,jJ,jK])<;>rfl
 rintro s1 f2
 have i1:=λ(x4:(Int×Int×M.bK)) (U:(Int×Int×Int)) (ae:St)=>inv λm s=>∃j:List M.aT,∃C:Nat,(s.h 7059000=ae.h 7059000/\s.t 0=vP 7059000 1 0/\s.t 2=vP 2 ((s1.h 2).1+1) 0/\s.t 3=vP 3 ((s1.h 3).1+1) 0/\s.h 2=((s1.h 2).1+1,aBc)/\s.h 3=((s1.h 3).1+1,oB 44 [cI x4.2.2.Id,cS x4.2.2.aKl,cS x4.2.2.Top,cI x4.2.2.aKb,.row 500005 C,.row 600005 ((s1.h 600005).1+1),cI x4.2.2.aKh.Pc,.row 800005 ((s1.h 800005).1+1),cI x4.2.2.aKh.aLM,cB x4.2.2.aKh.aLU,cB x4.2.2.aKh.aLR])/\s.h 500005=(C,oW 173 2 M.aT.en j)/\s.h 600005=((s1.h 600005).1+1,oW 229 4 M.aY.en x4.2.2.aKh.aLA)/\s.h 800005=((s1.h 800005).1+1,oW 3 1 enI x4.2.2.aKh.aLN))/\yZ x4 U m j=some r
 have e1:=@yZ.eq_2
 exact sgX
