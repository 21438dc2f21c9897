/-
  Helper text. No conditions.
-/
import Derived.Test.YtjlnkcoeghonfaaGreatRunningPagesWspec9
set_option linter.all false
namespace Go.Proofs.YtjlnkcoeghonfaaGreat.gen
open Go Go.Sh Tryz
set_option maxRecDepth 20000
set_option maxHeartbeats 4000000
instance c29:bK 29 (∀p0 r (h:dJ p0=some r),Sc 29 [aX (M.aD.en p0)] [(true,M.aD.rs r)]):=⟨λp0 r h=>by
 have i1:=λ(x1:M.aC)=>inv λm s=>∃v4:Int,∃ae:List M.bO,∃af:Nat,(s.t 1=vP 1 1 0/\s.t 2=vP 2 1 0/\s.t 3=vP 3 1 0/\s.t 4=vI v4/\s.h 1=(1,oX 50 (M.aD.en p0))/\s.h 2=(1,Vo)/\s.h 3=(1,oB 50 [cI p0.Now,cB p0.aLt,cI p0.aLZ,.row 100010 1,.row 100012 af,cI p0.aLd,cL M.uY.en p0.aLk.aLk,cL M.Fy.en p0.aLe.aL8,cL M.aLa.en p0.aLp,cL M.aLj.en p0.aLh])/\s.h 100010=(1,oW 84 24 M.Bucket.en x1.Buckets)/\s.h 100012=(af,oW 91 11 M.bO.en ae))/\oV p0 x1 m v4 ae=some r
 have e1:=@oV.eq_2
 have i2:=λ(x1:M.aC) (ae:List M.bO) (ah:M.aT) (ai:M.aLe) (aa:St) (af:Nat)=>inv λm s=>∃v5:Int,∃aj:List M.aLa,∃ak:Nat,(s.t 1=vP 1 1 0/\s.t 2=vP 2 1 0/\s.t 3=vP 3 1 0/\s.t 5=vI v5/\s.h 1=(1,oX 50 (M.aD.en p0))/\s.h 2=(1,Vo)/\s.h 3=(1,oB 50 [cI p0.Now,cB p0.aLt,cI p0.aLZ,.row 100010 1,.row 100012 af,cI p0.aLd,.row 100034 ((aa.h 100034).1+1),.row 100038 ((aa.h 100038).1+1),.row 100040 ak,cL M.aLj.en p0.aLh])/\s.h 100010=(1,oW 84 24 M.Bucket.en x1.Buckets)/\s.h 100012=(af,oW 91 11 M.bO.en ae)/\s.h 100034=((aa.h 100034).1+1,oW 144 4 M.uY.en ah.aLk)/\s.h 100038=((aa.h 100038).1+1,oW 147 3 M.Fy.en ai.aL8)/\s.h 100040=(ak,oW 151 4 M.aLa.en aj))/\lZ p0 x1 ae ah ai m v5 aj=some r
 have e2:=@lZ.eq_2
 have i3:=λ(x1:M.aC) (ae:List M.bO) (ah:M.aT) (ai:M.aLe) (aj:List M.aLa) (aa:St) (af:Nat) (ak:Nat)=>inv λm s=>∃v6:Int,∃al:List M.aLj,∃ao:Nat,(s.t 1=vP 1 1 0/\s.t 2=vP 2 1 0/\s.t 3=vP 3 1 0/\s.t 6=vI v6/\s.h 1=(1,oX 50 (M.aD.en p0))/\s.h 2=(1,Vo)/\s.h 3=(1,oB 50 [cI p0.Now,cB p0.aLt,cI p0.aLZ,.row 100010 1,.row 100012 af,cI p0.aLd,.row 100034 ((aa.h 100034).1+1),.row 100038 ((aa.h 100038).1+1),.row 100040 ak,.row 100060 ao])/\s.h 100010=(1,oW 84 24 M.Bucket.en x1.Buckets)/\s.h 100012=(af,oW 91 11 M.bO.en ae)/\s.h 100034=((aa.h 100034).1+1,oW 144 4 M.uY.en ah.aLk)/\s.h 100038=((aa.h 100038).1+1,oW 147 3 M.Fy.en ai.aL8)/\s.h 100040=(ak,oW 151 4 M.aLa.en aj)/\s.h 100060=(ao,oW 156 5 M.aLj.en al))/\lV p0 x1 ae ah ai aj m v6 al=some r
 have e3:=@lV.eq_2
 unfold dJ at h
 exact sgo 81 [.cell 2 50] func29⟩
instance:bK 322 (∀p0 r (h:DZ p0=some r),Sc 322 [aX (M.Bucket.en p0)] [rI r]):=⟨λp0 r h=>by unfold DZ at h;exact sgo 23 [.tmp 2] func322⟩
instance:bK 116 (∀p0 p1 p2 p3 p4 r (h:mL p0 p1 p2 p3 p4=some r),Sc 116 [aX (M.aJ.en p0),aX (M.aLa.en p1),aI p2,aS p3,aB p4] [(true,M.aLb.rs r)]):=⟨λp0 p1 p2 p3 p4 r h=>by unfold mL at h;exact sgo 30 [.cell 10 107] func116⟩
instance:bK 345 (∀p0 p1 r (h:Ef p0 p1=some r),Sc 345 [aX (M.aLS.en p0),aX (M.gN.en p1)] [(true,M.aLS.rs r.1),rI r.2.1,rB r.2.2]):=⟨λp0 p1 r h=>by unfold Ef at h;exact sgo 58 [.cell 4 70,.tmp 5,.tmp 6] func345⟩
instance:bK 242 (∀p0 r (h:Dt p0=some r),Sc 242 [aX (M.aG.en p0)] [(true,M.aE.rs r)]):=⟨λp0 r h=>by unfold Dt at h;exact sgo 10 [.cell 2 75] func242⟩
instance:bK 613 (∀p0 p1 r (h:oD p0 p1=some r),Sc 613 [aX (M.aLS.en p0),aX (M.pR.en p1)] [(true,M.aLS.rs r.1),rB r.2]):=⟨λp0 p1 r h=>by
 unfold oD at h
 simp only[EN]
 refine sgn 130 [.cell 4 70,.tmp 5] func613 λbase wd=> ?_
 refine sq (rn ?_)
 refine an (sq ?_)
 obtain⟨x1,h2,h⟩:=aA h
 refine rn1 (aB7.1 _ _ h2) ?_
 refine an (sq ?_)
 obtain⟨x3,h4,h⟩:=aA h
 refine rn1 (aFt.1 _ _ _ h4) ?_
 refine an (sq ?_)
 obtain⟨x5,h6,h⟩:=aA h
 refine rn1 (aKk _ _ _ h6) ?_
 refine an (sq (bk ?_))
 obtain⟨x7,h8,h⟩:=aA h
 obtain⟨V1,eV1⟩:=nmH ((1,oB 70 [cS x1.Name,cI x1.aLT,.row 300012 1,.row 400012 1]))
 obtain⟨V3,eV3⟩:=nmH ((1,oW 382 2 M.aU.en x1.aLm))
 obtain⟨V4,eV4⟩:=nmH ((1,WI))
 obtain⟨V5,eV5⟩:=nmT (vP 2 1 0)
 obtain⟨V6,eV6⟩:=nmT (vP 4 1 0)
 obtain⟨V7,eV7⟩:=nmT (vP 6 1 0)
 refine tV (λs=>s.t 2=V5/\s.t 3=vP 3 1 0/\s.t 4=V6/\s.t 6=V7/\s.t 7=vI x3/\s.t 8=vI x5/\s.t 21=vB x7/\s.h 2=(1,oX 70 (M.aLS.en p0))/\s.h 3=(1,oX 609 (M.pR.en p1))/\s.h 4=V4/\s.h 6=V1/\s.h 300012=(1,oW 75 3 M.aE.en x1.aLc)/\s.h 400012=V3/\True) ?_ ?_
 ·replace h:=h8;clear h8;rcases dX (p1.aLn==1)with cq|cq;(replace h:=bN cq h;refine rn ?_;cases h;exact cZ zM);replace h:=bM cq h;refine rn ?_;cases h;exact cZ zM
 clear h8
 rintro s9 f10
 rcases dX x7 with ah|ah
 ·replace h:=bN ah h
  refine ct (sq (rn ?_))
  refine an (sq (bk ?_))
  refine Hn (λm s=>∃v9:Int,s.t 2=V5/\s.t 3=vP 3 1 0/\s.t 4=V6/\s.t 6=V7/\s.t 9=vI v9/\s.h 2=(1,oX 70 (M.aLS.en p0))/\s.h 3=(1,oX 609 (M.pR.en p1))/\s.h 4=V4/\s.h 6=V1/\s.h 300012=(1,oW 75 3 M.aE.en x1.aLc)/\s.h 400012=V3/\sL p0 p1 x1 m v9=some r) aH ?_ ?_
  ·exact⟨0,zM⟩
  rintro mL1 gj ⟨v9,f26,f27,f28,f29,f30,f31,f32,f33,f34,f35,f36,h⟩
  rcases mL1 with _|mL1
  ·exact absurd h (by simp[sL])
  simp only[sL]at h
  refine sq ?_
  obtain⟨dx,cr,h⟩:=aA h
  refine tV (λs=>s.t 2=V5/\s.t 3=vP 3 1 0/\s.t 4=V6/\s.t 6=V7/\s.t 9=vI v9/\s.t 44=vB dx/\s.h 2=(1,oX 70 (M.aLS.en p0))/\s.h 3=(1,oX 609 (M.pR.en p1))/\s.h 4=V4/\s.h 6=V1/\s.h 300012=(1,oW 75 3 M.aE.en x1.aLc)/\s.h 400012=V3/\True) ?_ ?_
  ·replace h:=cr;clear cr;rcases Dz (decide (v9<(List.length p0.aLc:Int)))with cw|cw;(replace h:=bM cw h;refine rd mixed ?_;cases h;exact cZ zM);replace h:=bN cw h;obtain⟨gk,dz,h⟩:=aA h;obtain⟨gm,gn,gp⟩:=nJ dz;refine rd mixed ?_;cases h;exact cZ zM
  clear cr
  rintro bt f40
  rcases dX dx with ak|ak
  ·replace h:=bN ak h;refine ct (sk (an (bk (rn ?_))));refine ab ?_;exact cZ ⟨mL1,wi,IntKind.i64.wrap (v9+1),zM⟩
  replace h:=bM ak h
  refine cf (xt (Da (CW (GI (an (sq ?_))))))
  obtain⟨gq,bu,h⟩:=aA h
  obtain⟨gr,ef,h⟩:=aA h
  apply Bk
  ·simp+decide only[E,reduceIte,Nat.reduceAdd,Nat.reduceMul,qB,qC,<-List.map_take,<-List.map_drop,L,aCJ,XS,WW,M.aE.en,EN,ah,f40,ak,eV1,eV3,eV4,eV5,eV6,eV7]
   refine⟨by first|exact xZ bu|exact(xZ bu).2|exact(xZ bu).2.2,?_⟩
   try simp+decide only[E,reduceIte,Nat.reduceAdd,Nat.reduceMul,qB,qC,<-List.map_take,<-List.map_drop,L,aCJ,XS,WW,M.aE.en,EN,ah,f40,ak,eV1,eV3,eV4,eV5,eV6,eV7]
   refine⟨by(have hb:=fP ef);simp[M.aE.en,qE,aP,<-List.map_take,<-List.map_drop,-List.map_take,-List.map_drop]at hb⊢ <;>omega,?_⟩
   try simp+decide only[E,reduceIte,Nat.reduceAdd,Nat.reduceMul,qB,qC,<-List.map_take,<-List.map_drop,L,aCJ,XS,WW,M.aE.en,EN,ah,f40,ak,eV1,eV3,eV4,eV5,eV6,eV7]
   exact Is.mk _
  refine an (sq ?_)
  refine cu (λs=>s.t 2=V5/\s.t 3=vP 3 1 0/\s.t 4=V6/\s.t 6=V7/\s.t 9=vI v9/\s.t 10=vR 100047 (((bt.h 100047).1+1)+1)/\s.h 2=(1,oX 70 (M.aLS.en p0))/\s.h 3=(1,oX 609 (M.pR.en p1))/\s.h 4=V4/\s.h 6=V1/\s.h 100047=(((bt.h 100047).1+1)+1,oW 75 3 M.aE.en (List.take v9.toNat x1.aLc))/\s.h 300012=(1,.row 75 3 (NU 3 0 v9.toNat (List.map M.aE.en x1.aLc)) true)/\s.h 400012=V3/\True) ?_
  rintro gu f64
  obtain⟨gv,et,h⟩:=aA h
  refine rn1 et ?_
  refine an ?_
  refine cu (λs=>s.t 2=V5/\s.t 4=V6/\s.t 6=V7/\s.t 9=vI v9/\s.t 10=vR 100047 ((((bt.h 100047).1+1)+1)+1)/\s.h 2=(1,oX 70 (M.aLS.en p0))/\s.h 4=V4/\s.h 6=V1/\s.h 100047=((((bt.h 100047).1+1)+1)+1,oW 75 3 M.aE.en ((List.take v9.toNat x1.aLc)++[(⟨p1.aE,([]:List M.aLo),0⟩:M.aE)]))/\s.h 300012=(1,.row 75 3 (NU 3 0 v9.toNat (List.map M.aE.en x1.aLc)) true)/\s.h 400012=V3/\True) ?_
  rintro gw f80
  obtain⟨gx,eu,h⟩:=aA h
  apply Bk
  ·simp+decide only[E,reduceIte,Nat.reduceAdd,Nat.reduceMul,qB,qC,<-List.map_take,<-List.map_drop,L,aCJ,XS,WW,M.aE.en,EN,ah,ak,f80,eV1,eV3,eV4,eV5,eV6,eV7]
   refine⟨by first|exact SR (xZ bu).1|exact(SR (xZ bu).1).2|exact(SR (xZ bu).1).2.2,?_⟩
   try simp+decide only[E,reduceIte,Nat.reduceAdd,Nat.reduceMul,qB,qC,<-List.map_take,<-List.map_drop,L,aCJ,XS,WW,M.aE.en,EN,ah,ak,f80,eV1,eV3,eV4,eV5,eV6,eV7]
   refine⟨by(have hb:=fP eu);simp[M.aE.en,qE,aP,<-List.map_take,<-List.map_drop,-List.map_take,-List.map_drop]at hb⊢ <;>omega,?_⟩
   try simp+decide only[E,reduceIte,Nat.reduceAdd,Nat.reduceMul,qB,qC,<-List.map_take,<-List.map_drop,L,aCJ,XS,WW,M.aE.en,EN,ah,ak,f80,eV1,eV3,eV4,eV5,eV6,eV7]
   exact Is.mk _
  refine ab (an (sq ?_))
  refine cu (λs=>s.t 2=V5/\s.t 4=V6/\s.t 6=V7/\s.h 2=(1,oX 70 (M.aLS.en p0))/\s.h 4=V4/\s.h 6=(1,oB 70 [cS x1.Name,cI x1.aLT,.row 100047 (((((bt.h 100047).1+1)+1)+1)+1),.row 400012 1])/\s.h 100047=(((((bt.h 100047).1+1)+1)+1)+1,oW 75 3 M.aE.en (((List.take v9.toNat x1.aLc)++[(⟨p1.aE,([]:List M.aLo),0⟩:M.aE)])++(List.drop v9.toNat x1.aLc)))/\s.h 400012=V3/\True) ?_
  rintro dy f94
  obtain⟨bw,aq,h⟩:=aA h
  refine tV (λs=>s.h 6=dy.h 6/\s.h 100047=dy.h 100047/\s.t 2=V5/\s.t 4=V6/\s.t 6=V7/\s.t 126=vB bw/\s.h 2=(1,oX 70 (M.aLS.en p0))/\s.h 4=V4/\s.h 400012=V3/\True) ?_ ?_
  ·replace h:=aq;clear aq;obtain⟨cx,bx,h⟩:=aA h;rcases dX (!cx)with ar|ar;(replace h:=bN ar h;refine rn1 (Vq.1 _ _ bx) ?_;cases h;exact cZ zM);replace h:=bM ar h;obtain⟨fa,cy,h⟩:=aA h;refine rn2 (Vq.1 _ _ bx) (Vq.1 _ _ cy) ?_;cases h;exact cZ zM
  clear aq
  rintro fc ⟨f111,f112,f105⟩
  replace f111:=f111.trans f94.2.2.2.2.2.1
  replace f112:=f112.trans f94.2.2.2.2.2.2.1
  rcases Dz bw with av|av
  ·replace h:=bM av h;refine cf (sk (an (sq (rn ?_))));exact an (rt zR)
  replace h:=bN av h
  refine ct (sq ?_)
  obtain⟨fe,cz,h⟩:=aA h
  refine rn1 (aB7.1 _ _ cz) ?_
  exact an (rt zR)
 replace h:=bM ah h
 refine cf ?_
 obtain⟨bz,aw,h⟩:=aA h
 refine tV (λs=>s.t 2=V5/\s.t 3=vP 3 1 0/\s.t 4=V6/\s.t 6=V7/\s.t 7=vI x3/\s.t 8=vI x5/\s.t 66=vB bz/\s.h 2=(1,oX 70 (M.aLS.en p0))/\s.h 3=(1,oX 609 (M.pR.en p1))/\s.h 4=V4/\s.h 6=V1/\s.h 300012=(1,oW 75 3 M.aE.en x1.aLc)/\s.h 400012=V3/\True) ?_ ?_
 ·replace h:=aw;clear aw;rcases dX (p1.aLn==2)with ax|ax;(replace h:=bN ax h;refine rn ?_;cases h;exact cZ zM);replace h:=bM ax h;refine rn ?_;cases h;exact cZ zM
 clear aw
 rintro al f125
 rcases dX bz with aa|aa
 ·replace h:=bN aa h;refine ct ?_;obtain⟨ao,da,h⟩:=aA h;refine rn1 (aLB _ _ _ da) ?_;refine ab (an (sq ?_));obtain⟨ca,ay,h⟩:=aA h;refine tV (λs=>s.t 2=V5/\s.t 4=V6/\s.t 6=V7/\s.t 126=vB ca/\s.h 2=(1,oX 70 (M.aLS.en p0))/\s.h 4=V4/\s.h 6=(1,oB 70 [cS ao.Name,cI ao.aLT,.row 300077 ((al.h 300077).1+1),.row 400077 ((al.h 400077).1+1)])/\s.h 300077=((al.h 300077).1+1,oW 75 3 M.aE.en ao.aLc)/\s.h 400077=((al.h 400077).1+1,oW 382 2 M.aU.en ao.aLm)/\True) ?_ ?_;(replace h:=ay;clear ay;obtain⟨db,cc,h⟩:=aA h;rcases dX (!db)with az|az;(replace h:=bN az h;refine rn1 (Vq.1 _ _ cc) ?_;cases h;exact cZ zM);replace h:=bM az h;obtain⟨ff,df,h⟩:=aA h;refine rn2 (Vq.1 _ _ cc) (Vq.1 _ _ df) ?_;cases h;exact cZ zM);clear ay;rintro fg f145;rcases Dz ca with ba|ba;(replace h:=bM ba h;refine cf (sk (an (sq (rn ?_))));exact an (rt zR));replace h:=bN ba h;refine ct (sq ?_);obtain⟨fh,dg,h⟩:=aA h;refine rn1 (aB7.1 _ _ dg) ?_;exact an (rt zR)
 replace h:=bM aa h
 refine cf ?_
 obtain⟨cd,bd,h⟩:=aA h
 refine tV (λs=>s.t 2=V5/\s.t 3=vP 3 1 0/\s.t 4=V6/\s.t 6=V7/\s.t 8=vI x5/\s.t 78=vB cd/\s.h 2=(1,oX 70 (M.aLS.en p0))/\s.h 3=(1,oX 609 (M.pR.en p1))/\s.h 4=V4/\s.h 6=V1/\s.h 300012=(1,oW 75 3 M.aE.en x1.aLc)/\s.h 400012=V3/\True) ?_ ?_
 ·replace h:=bd;clear bd;rcases Dz (p1.aLn==3)with bf|bf;(replace h:=bM bf h;refine rn ?_;cases h;exact cZ zM);replace h:=bN bf h;rcases dX (decide (x3>=0))with bg|bg;(replace h:=bN bg h;refine rn ?_;cases h;exact cZ zM);replace h:=bM bg h;refine rn ?_;cases h;exact cZ zM
 clear bd
 rintro fj f165
 obtain⟨V2,eV2⟩:=nmH ((1,oB 70 [cS x1.Name,cI x1.aLT,.row 300012 1,.row 400012 2]))
 rcases dX cd with ae|ae
 ·replace h:=bN ae h;refine ct ?_;obtain⟨fk,dh,h⟩:=aA h;refine rn1 dh ?_;refine ab (an (sq ?_));refine cu (λs=>s.t 2=V5/\s.t 4=V6/\s.t 6=V7/\s.h 2=(1,oX 70 (M.aLS.en p0))/\s.h 4=V4/\s.h 6=V2/\s.h 300012=(1,oW 75 3 M.aE.en x1.aLc)/\s.h 400012=(2,oW 382 2 M.aU.en (x1.aLm++[(⟨p1.aE,p1.Field⟩:M.aU)]))/\True) ?_;rintro di f183;obtain⟨cg,bh,h⟩:=aA h;refine tV (λs=>s.h 400012=di.h 400012/\s.t 2=V5/\s.t 4=V6/\s.t 6=V7/\s.t 126=vB cg/\s.h 2=(1,oX 70 (M.aLS.en p0))/\s.h 4=V4/\s.h 6=V2/\s.h 300012=(1,oW 75 3 M.aE.en x1.aLc)/\True) ?_ ?_;(replace h:=bh;clear bh;obtain⟨dj,cj,h⟩:=aA h;rcases dX (!dj)with bj|bj;(replace h:=bN bj h;refine rn1 (Vq.1 _ _ cj) ?_;cases h;exact cZ zM);replace h:=bM bj h;obtain⟨fm,dk,h⟩:=aA h;refine rn2 (Vq.1 _ _ cj) (Vq.1 _ _ dk) ?_;cases h;exact cZ zM);clear bh;rintro fq ⟨f202,f194⟩;replace f202:=f202.trans f183.2.2.2.2.2.2.2.1;rcases Dz cg with bl|bl;(replace h:=bM bl h;refine cf (sk (an (sq (rn ?_))));exact an (rt zR));replace h:=bN bl h;refine ct (sq ?_);obtain⟨ft,dm,h⟩:=aA h;refine rn1 (aB7.1 _ _ dm) ?_;exact an (rt zR)
 replace h:=bM ae h
 refine cf ?_
 obtain⟨ck,bm,h⟩:=aA h
 refine tV (λs=>s.t 2=V5/\s.t 4=V6/\s.t 6=V7/\s.t 8=vI x5/\s.t 100=vB ck/\s.h 2=(1,oX 70 (M.aLS.en p0))/\s.h 4=V4/\s.h 6=V1/\s.h 300012=(1,oW 75 3 M.aE.en x1.aLc)/\s.h 400012=V3/\True) ?_ ?_
 ·replace h:=bm;clear bm;rcases dX (p1.aLn==4)with bn|bn;(replace h:=bN bn h;refine rn ?_;cases h;exact cZ zM);replace h:=bM bn h;refine rn ?_;cases h;exact cZ zM
 clear bm
 rintro fw f214
 rcases Dz ck with af|af
 ·replace h:=bM af h;refine cf (sq (rn ?_));exact an (rt zR)
 replace h:=bN af h
 refine ct ?_
 obtain⟨fy,ai,h⟩:=aA h
 obtain⟨ga,aj,h⟩:=aA h
 obtain⟨gb,cl,h⟩:=aA h
 apply D8 mixed
 ·simp+decide only[E,reduceIte,Nat.reduceAdd,Nat.reduceMul,qB,qC,<-List.map_take,<-List.map_drop,jN,L,aDo,XS,Yx,M.aU.en,EN,ah,aa,ae,f214,af,eV1,eV3,eV4,eV5,eV6,eV7,eV2]
  refine⟨by first|exact xZ ai|exact(xZ ai).2|exact(xZ ai).2.2,?_⟩
  try simp+decide only[E,reduceIte,Nat.reduceAdd,Nat.reduceMul,qB,qC,<-List.map_take,<-List.map_drop,jN,L,aDo,XS,Yx,M.aU.en,EN,ah,aa,ae,f214,af,eV1,eV3,eV4,eV5,eV6,eV7,eV2]
  refine⟨by first|exact GW aj|exact(GW aj).2|exact(GW aj).2.2,?_⟩
  try simp+decide only[E,reduceIte,Nat.reduceAdd,Nat.reduceMul,qB,qC,<-List.map_take,<-List.map_drop,jN,L,aDo,XS,Yx,M.aU.en,EN,ah,aa,ae,f214,af,eV1,eV3,eV4,eV5,eV6,eV7,eV2]
  refine⟨by first|exact LX (f:=M.aU.en) (sz:=2) (λ_=>rfl) wh ai aj cl|(have hb:=LX (f:=M.aU.en) (sz:=2) (λ_=>rfl) wh ai aj cl;simpa using hb),?_⟩
  try simp+decide only[E,reduceIte,Nat.reduceAdd,Nat.reduceMul,qB,qC,<-List.map_take,<-List.map_drop,jN,L,aDo,XS,Yx,M.aU.en,EN,ah,aa,ae,f214,af,eV1,eV3,eV4,eV5,eV6,eV7,eV2]
  exact⟨.mk wM,Is.mk _⟩
 refine ab (an (sq ?_))
 refine cu (λs=>s.t 2=V5/\s.t 4=V6/\s.t 6=V7/\s.h 2=(1,oX 70 (M.aLS.en p0))/\s.h 4=V4/\s.h 6=V2/\s.h 300012=(1,oW 75 3 M.aE.en x1.aLc)/\s.h 400012=(2,oW 382 2 M.aU.en ((List.take x5.toNat x1.aLm)++(List.drop (IntKind.i64.wrap (x5+1)).toNat x1.aLm)))/\True) ?_
 rintro dn f233
 obtain⟨cn,bo,h⟩:=aA h
 refine tV (λs=>s.h 400012=dn.h 400012/\s.t 2=V5/\s.t 4=V6/\s.t 6=V7/\s.t 126=vB cn/\s.h 2=(1,oX 70 (M.aLS.en p0))/\s.h 4=V4/\s.h 6=V2/\s.h 300012=(1,oW 75 3 M.aE.en x1.aLc)/\True) ?_ ?_
 ·replace h:=bo;clear bo;obtain⟨dq,cp,h⟩:=aA h;rcases dX (!dq)with bq|bq;(replace h:=bN bq h;refine rn1 (Vq.1 _ _ cp) ?_;cases h;exact cZ zM);replace h:=bM bq h;obtain⟨gd,du,h⟩:=aA h;refine rn2 (Vq.1 _ _ cp) (Vq.1 _ _ du) ?_;cases h;exact cZ zM
 clear bo
 rintro gh ⟨f252,f244⟩
 replace f252:=f252.trans f233.2.2.2.2.2.2.2.1
 rcases Dz cn with br|br
 ·replace h:=bM br h;refine cf (sk (an (sq (rn ?_))));exact an (rt zR)
 replace h:=bN br h
 refine ct (sq ?_)
 obtain⟨gi,dw,h⟩:=aA h
 refine rn1 (aB7.1 _ _ dw) ?_
 exact an (rt zR)⟩
instance:bK 431 (∀p0 r (h:Ao p0=some r),Sc 431 [(false,[.ptr [.sl (List.map enB p0.b),.int .i64 p0.i,.int .i64 p0.h]])] [(false,[.edit (.lend 256 [.int .i64 r.1,.int .i64 r.2.1])]),(true,M.aLj.rs r.2.2)]):=⟨λp0 r h=>by
 unfold Ao at h
 simp only[EN]
 refine sgB 36 [.cell 2 156] func431 λbase wd B0 u0 hw0=> ?_
 refine cY (J:=λs=>s.t 0=vP 7059000 1 0/\s.h 7059000=(1,oB 256 [.old B0 (.sl (List.map enB p0.b)) (some u0),cI p0.i,cI p0.h])/\True) ?_ ?_
 ·and_intros<;>(try simp only[LN,jI,jJ])<;>rfl
 rintro s1 f2
 have i1:=G8 [.b 3 1 7050000 320 4,.b 3 3 7050001 266 2,.b 3 4 7050002 269 7] λm s=>∃v4:Int,∃ao:ByteArray,∃aq:Int,∃aa:Int,∃ae:Int,∃af:List M.aLo,∃ah:List M.aQ,∃ai:List M.bR,∃aj:Nat,∃ak:Nat,∃al:Nat,(s.t 0=vP 7059000 1 0/\s.t 2=vP 2 ((s1.h 2).1+1) 0/\s.t 3=vP 3 ((s1.h 3).1+1) 0/\s.t 4=vI v4/\s.h 2=((s1.h 2).1+1,Z5)/\s.h 3=((s1.h 3).1+1,oB 156 [cS ao,.row 7050000 aj,cI aq,.row 7050001 ak,.row 7050002 al])/\s.h 7050000=(aj,oW 320 4 M.aLo.en af)/\s.h 7050001=(ak,oW 266 2 M.aQ.en ah)/\s.h 7050002=(al,oW 269 7 M.bR.en ai)/\s.h 7059000=(1,oB 256 [.old B0 (.sl (List.map enB p0.b)) (some u0),cI aa,cI ae]))/\oC p0 m v4 ao aq aa ae af ah ai=some r
 have e1:=@oC.eq_2
 exact sgX⟩
instance:bK 602 (∀p0 p1 p2 p3 r (h:C0 p0 p1 p2 p3=some r),Sc 602 [aX (M.aLs.en p0),aX (M.aLj.en p1),aI p2,aI p3] [(true,M.aLs.rs r.1),(true,M.aLj.rs r.2.1),rI r.2.2]):=⟨λp0 p1 p2 p3 r h=>by unfold C0 at h;exact sgo 113 [.cell 8 80,.cell 9 156,.tmp 10] func602⟩
instance:bK 603 (∀p0 p1 r (h:A8 p0 p1=some r),Sc 603 [aX (M.aG.en p0),aX (M.aLj.en p1)] [(true,M.aG.rs r.1),rI r.2]):=⟨λp0 p1 r h=>by unfold A8 at h;exact sgo 64 [.cell 4 82,.tmp 5] func603⟩
instance:bK 432 (∀p0 r (h:FE p0=some r),Sc 432 [(false,[.ptr [.sl (List.map enB p0.b),.int .i64 p0.i,.int .i64 p0.h]])] [(false,[.edit (.lend 256 [.int .i64 r.1,.int .i64 r.2.1])]),(true,M.aE.rs r.2.2)]):=⟨λp0 r h=>by
 unfold FE at h
 simp only[EN]
 refine sgB 50 [.cell 2 75] func432 λbase wd B0 u0 hw0=> ?_
 refine cY (J:=λs=>s.t 0=vP 7059000 1 0/\s.h 7059000=(1,oB 256 [.old B0 (.sl (List.map enB p0.b)) (some u0),cI p0.i,cI p0.h])/\True) ?_ ?_
 ·and_intros<;>(try simp only[LN,jI,jJ])<;>rfl
 rintro s1 f2
 have i1:=λ(ai:(Int×Int×Int)) (s16:St)=>G8 [.b 3 1 7050000 320 4] λm s=>∃af:ByteArray,∃ah:Int,∃aa:List M.aLo,∃ae:Nat,(s.h 7059000=s16.h 7059000/\s.t 0=vP 7059000 1 0/\s.t 2=vP 2 ((s1.h 2).1+1) 0/\s.t 3=vP 3 ((s1.h 3).1+1) 0/\s.h 2=((s1.h 2).1+1,oB 75 [cS (⟨#[]⟩:ByteArray),.nil,cI 0])/\s.h 3=((s1.h 3).1+1,oB 75 [cS af,.row 7050000 ae,cI ah])/\s.h 7050000=(ae,oW 320 4 M.aLo.en aa))/\BT ai m af ah aa=some r
 have e1:=@BT.eq_2
 exact sgX⟩
theorem aLE(p0 r)(h:Dh p0=some r):Sc 308 [(false,[.ptr [.sl (List.map enB p0.b),.int .i64 p0.i,.int .i64 p0.h]])] [(false,[.edit (.lend 256 [.int .i64 r.1,.int .i64 r.2.1])]),(true,M.bO.rs r.2.2)]:=by
 unfold Dh at h
 simp only[EN]
 refine sgB 51 [.cell 2 91] func308 λbase wd I u0 hw0=> ?_
 refine cY (J:=λs=>s.t 0=vP 7059000 1 0/\s.h 7059000=(1,oB 256 [.old I (.sl (List.map enB p0.b)) (some u0),cI p0.i,cI p0.h])/\True) ?_ ?_
 ·and_intros<;>(try simp only[LN,jI,jJ])<;>rfl
 rintro s1 f2
 have i1:=λ(x4:(Int×Int×M.bO)) (U:(Int×Int×Int)) (ae:St)=>inv λm s=>∃j:List M.aW,∃C:Nat,(s.h 7059000=ae.h 7059000/\s.t 0=vP 7059000 1 0/\s.t 2=vP 2 ((s1.h 2).1+1) 0/\s.t 3=vP 3 ((s1.h 3).1+1) 0/\s.h 2=((s1.h 2).1+1,aFA)/\s.h 3=((s1.h 3).1+1,oB 91 [cI x4.2.2.Id,cS x4.2.2.aLa,cS x4.2.2.Top,cI x4.2.2.aLT,.row 500005 C,.row 600005 ((s1.h 600005).1+1),cI x4.2.2.aLX.Pc,.row 800005 ((s1.h 800005).1+1),cI x4.2.2.aLX.aME,cB x4.2.2.aLX.aMJ,cB x4.2.2.aLX.aMI])/\s.h 500005=(C,oW 204 2 M.aW.en j)/\s.h 600005=((s1.h 600005).1+1,oW 197 4 M.aZ.en x4.2.2.aLX.aLz)/\s.h 800005=((s1.h 800005).1+1,oW 3 1 enI x4.2.2.aLX.aMC))/\Ak x4 U m j=some r
 have e1:=@Ak.eq_2
 exact sgX
