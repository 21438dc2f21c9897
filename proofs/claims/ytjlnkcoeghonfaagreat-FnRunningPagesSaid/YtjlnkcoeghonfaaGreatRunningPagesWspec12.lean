/-
  Helper text. No conditions.
-/
import Derived.Test.YtjlnkcoeghonfaaGreatRunningPagesWspec11
set_option linter.all false
namespace Go.Proofs.YtjlnkcoeghonfaaGreat.gen
open Go Go.Sh Tryz
set_option maxRecDepth 20000
set_option maxHeartbeats 4000000
instance:bK 423 (∀p0 p1 r (h:Af p0 p1=some r),Sc 423 [aX (M.aD.en p0),aI p1] [(true,M.aD.rs r.1),rB r.2]):=⟨λp0 p1 r h=>by
 unfold Af at h
 simp only[EN]
 refine sgn 43 [.cell 4 50,.tmp 5] func423 λbase wd=> ?_
 refine sq (rn ?_)
 refine an (sq ?_)
 obtain⟨x1,h2,h⟩:=aA h
 refine rn1 (c29.1 _ _ h2) ?_
 refine an (sq ?_)
 obtain⟨x3,h4,h⟩:=aA h
 refine rn1 (c18.1 _ _ _ h4) ?_
 refine an (sq (sq ?_))
 obtain⟨x5,h6,h⟩:=aA h
 rcases dX (!x5)with b7|b7
 ·replace h:=bN b7 h;refine rn1 (c19.1 _ _ h6) ?_;refine an (ct (sq (rn ?_)));exact an (rt zR)
 replace h:=bM b7 h
 refine rn1 (c19.1 _ _ h6) ?_
 refine an ?_
 rcases dX (decide (x3<0))with b8|b8
 ·replace h:=bN b8 h;refine ct (sq (rn ?_));exact an (rt zR)
 replace h:=bM b8 h
 refine cf (sk (an (sq ?_)))
 obtain⟨x9,aa,h⟩:=aA h
 obtain⟨aj,ae,h⟩:=aA h
 obtain⟨ak,af,h⟩:=aA h
 apply D8 mixed
 ·simp+decide only[E,reduceIte,Nat.reduceAdd,Nat.reduceMul,qB,qC,<-List.map_take,<-List.map_drop,jN,L,aBc,Ir,aBN,M.bO.en,EN,b7,b8]
  refine⟨by first|exact xZ aa|exact(xZ aa).2|exact(xZ aa).2.2,?_⟩
  try simp+decide only[E,reduceIte,Nat.reduceAdd,Nat.reduceMul,qB,qC,<-List.map_take,<-List.map_drop,jN,L,aBc,Ir,aBN,M.bO.en,EN,b7,b8]
  refine⟨by first|exact GW ae|exact(GW ae).2|exact(GW ae).2.2,?_⟩
  try simp+decide only[E,reduceIte,Nat.reduceAdd,Nat.reduceMul,qB,qC,<-List.map_take,<-List.map_drop,jN,L,aBc,Ir,aBN,M.bO.en,EN,b7,b8]
  refine⟨by first|exact LX (f:=M.bO.en) (sz:=11) (λ_=>rfl) wh aa ae af|(have hb:=LX (f:=M.bO.en) (sz:=11) (λ_=>rfl) wh aa ae af;simpa using hb),?_⟩
  try simp+decide only[E,reduceIte,Nat.reduceAdd,Nat.reduceMul,qB,qC,<-List.map_take,<-List.map_drop,jN,L,aBc,Ir,aBN,M.bO.en,EN,b7,b8]
  exact⟨.mk wM,Is.mk _⟩
 refine an (sq ?_)
 refine cu (λs=>s.t 1=vI p1/\s.t 2=vP 2 1 0/\s.t 4=vP 4 1 0/\s.t 6=vP 6 1 0/\s.h 2=(1,oX 50 (M.aD.en p0))/\s.h 4=(1,Vo)/\s.h 6=(1,oB 50 [cI x1.Now,cB x1.aLt,cI x1.aLZ,.row 400009 1,.row 500009 2,cI x1.aLd,.row 700009 1,.row 800009 1,.row 900009 1,.row 1000009 1])/\s.h 400009=(1,oW 84 24 M.Bucket.en x1.aC.Buckets)/\s.h 500009=(2,oW 91 11 M.bO.en ((List.take x3.toNat x1.aLf)++(List.drop (IntKind.i64.wrap (x3+1)).toNat x1.aLf)))/\s.h 700009=(1,oW 144 4 M.uY.en x1.aLk.aLk)/\s.h 800009=(1,oW 147 3 M.Fy.en x1.aLe.aL8)/\s.h 900009=(1,oW 151 4 M.aLa.en x1.aLp)/\s.h 1000009=(1,oW 156 5 M.aLj.en x1.aLh)/\True) ?_
 rintro al f16
 obtain⟨ao,ah,h⟩:=aA h
 refine rn1 (aKY _ _ _ ah) ?_
 refine an (sq ?_)
 obtain⟨aq,ai,h⟩:=aA h
 refine rn1 (aK5 _ _ _ ai) ?_
 refine an (sq (rn ?_))
 exact an (rt zR)⟩
instance:bK 425 (∀p0 p1 p2 p3 r (h:yW p0 p1 p2 p3=some r),Sc 425 [aX (M.aD.en p0),aS p1,aS p2,aL M.aZ.en p3] [(true,M.aD.rs r.1),rI r.2.1,rB r.2.2]):=⟨λp0 p1 p2 p3 r h=>by unfold yW at h;exact sgo 130 [.cell 8 50,.tmp 9,.tmp 10] func425⟩
instance:bK 305 (∀p0 r (h:CO p0=some r),Sc 305 [(false,[.ptr [.sl (List.map enB p0.b),.int .i64 p0.i,.int .i64 p0.h]])] [(false,[.edit (.lend 256 [.int .i64 r.1,.int .i64 r.2.1])]),(true,M.aD.rs r.2.2)]):=⟨λp0 r h=>by
 unfold CO at h
 simp only[EN]
 refine sgB 68 [.cell 2 50] func305 λbase wd B0 u0 hw0=> ?_
 refine cY (J:=λs=>s.t 0=vP 7059000 1 0/\s.h 7059000=(1,oB 256 [.old B0 (.sl (List.map enB p0.b)) (some u0),cI p0.i,cI p0.h])/\True) ?_ ?_
 ·and_intros<;>(try simp only[LN,jI,jJ])<;>rfl
 rintro s1 f2
 have i1:=G8 [.b 3 3 7050000 84 24,.b 3 4 7050001 91 11,.b 3 6 7050002 144 4,.b 3 7 7050003 147 3,.b 3 8 7050004 151 4,.b 3 9 7050005 156 5] λm s=>∃v4:Int,∃ay:Int,∃az:Bool,∃ba:Int,∃bd:Int,∃aa:Int,∃ae:Int,∃af:List M.Bucket,∃ah:List M.bO,∃ai:List M.uY,∃aj:List M.Fy,∃ak:List M.aLa,∃al:List M.aLj,∃ao:Nat,∃aq:Nat,∃ar:Nat,∃av:Nat,∃aw:Nat,∃ax:Nat,(s.t 0=vP 7059000 1 0/\s.t 2=vP 2 ((s1.h 2).1+1) 0/\s.t 3=vP 3 ((s1.h 3).1+1) 0/\s.t 4=vI v4/\s.h 2=((s1.h 2).1+1,Vo)/\s.h 3=((s1.h 3).1+1,oB 50 [cI ay,cB az,cI ba,.row 7050000 ao,.row 7050001 aq,cI bd,.row 7050002 ar,.row 7050003 av,.row 7050004 aw,.row 7050005 ax])/\s.h 7050000=(ao,oW 84 24 M.Bucket.en af)/\s.h 7050001=(aq,oW 91 11 M.bO.en ah)/\s.h 7050002=(ar,oW 144 4 M.uY.en ai)/\s.h 7050003=(av,oW 147 3 M.Fy.en aj)/\s.h 7050004=(aw,oW 151 4 M.aLa.en ak)/\s.h 7050005=(ax,oW 156 5 M.aLj.en al)/\s.h 7059000=(1,oB 256 [.old B0 (.sl (List.map enB p0.b)) (some u0),cI aa,cI ae]))/\gY p0 m v4 ay az ba bd aa ae af ah ai aj ak al=some r
 have e1:=@gY.eq_2
 exact sgX⟩
instance:bK 35 (∀p0 p1 p2 p3 r (h:Bw p0 p1 p2 p3=some r),Sc 35 [aX (M.aD.en p0),aX (M.bO.en p1),aI p2,aS p3] [rI r]):=⟨λp0 p1 p2 p3 r h=>by unfold Bw at h;exact sgo 44 [.tmp 8] func35⟩
instance:bK 124 (∀p0 p1 p2 r (h:uB p0 p1 p2=some r),Sc 124 [aX (M.aD.en p0),aX (M.Bucket.en p1),aB p2] [(true,M.aD.rs r.1),rB r.2]):=⟨λp0 p1 p2 r h=>by unfold uB at h;exact sgo 30 [.cell 6 50,.tmp 7] func124⟩
instance:bK 36 (∀p0 p1 p2 p3 p4 r (h:Ad p0 p1 p2 p3 p4=some r),Sc 36 [aX (M.aD.en p0),aX (M.bO.en p1),aI p2,aS p3,aI p4] [(true,M.aD.rs r.1),rB r.2]):=⟨λp0 p1 p2 p3 p4 r h=>by unfold Ad at h;exact sgo 84 [.cell 10 50,.tmp 11] func36⟩
instance:bK 38 (∀p0 p1 p2 p3 p4 r (h:Bm p0 p1 p2 p3 p4=some r),Sc 38 [aX (M.aD.en p0),aX (M.bO.en p1),aI p2,aS p3,aI p4] [(true,M.aD.rs r.1),rB r.2]):=⟨λp0 p1 p2 p3 p4 r h=>by unfold Bm at h;exact sgo 60 [.cell 10 50,.tmp 11] func38⟩
instance:bK 427 (∀p0 r (h:Aw p0=some r),Sc 427 [(false,[.ptr [.sl (List.map enB p0.b),.int .i64 p0.i,.int .i64 p0.h]])] [(false,[.edit (.lend 256 [.int .i64 r.1,.int .i64 r.2.1])]),(true,M.Bucket.rs r.2.2)]):=⟨λp0 r h=>by
 unfold Aw at h
 simp only[EN]
 refine sgB 90 [.cell 2 84] func427 λbase wd B0 u0 hw0 => ?_
 refine cY (J:=λs=>s.t 0=vP 7059000 1 0/\s.h 7059000=(1,oB 256 [.old B0 (.sl (List.map enB p0.b)) (some u0),cI p0.i,cI p0.h])/\True) ?_ ?_
 ·and_intros<;>(try simp only[LN,jI,jJ])<;>rfl
 rintro s1 f2
 refine sq (rn ?_)
 refine an (sq ?_)
 obtain⟨x4,h5,h⟩:=aA h
 refine rn1 (aDI.1 _ _ h5) ?_
 refine an (sq ?_)
 obtain⟨V11,eV11⟩:=nmH (((s1.h 2).1+1,aFG))
 obtain⟨V13,eV13⟩:=nmT (vP 2 ((s1.h 2).1+1) 0)
 obtain⟨V14,eV14⟩:=nmT (vP 7059000 1 0)
 refine cu (λs=>s.t 0=V14/\s.t 2=V13/\s.t 3=vS x4.2.2/\s.h 2=V11/\s.h 7059000=(1,oB 256 [.old B0 (.sl (List.map enB p0.b)) (some u0),cI x4.1,cI x4.2.1])/\True) ?_
 rintro s6 f7
 refine rn ?_
 refine an ?_
 obtain⟨cz,da,h⟩:=aA h
 refine tV (λs=>s.t 0=V14/\s.t 2=V13/\s.t 3=vS x4.2.2/\s.t 4=vS cz.1/\s.h 2=V11/\s.h 7059000=(1,oB 256 [.old B0 (.sl (List.map enB p0.b)) (some u0),cI cz.2.1,cI cz.2.2])/\True) ?_ ?_
 ·replace h:=da;clear da;refine sq ?_;obtain⟨cw,et,h⟩:=aA h;refine rn1 (c76.1 _ _ _ et) ?_;refine an ?_;refine cu (λs=>s.t 0=V14/\s.t 2=V13/\s.t 3=vS x4.2.2/\s.t 4=vS x4.2.2/\s.t 15=vB cw.2.2/\s.h 2=V11/\s.h 7059000=(1,oB 256 [.old B0 (.sl (List.map enB p0.b)) (some u0),cI cw.1,cI cw.2.1])/\True) ?_;rintro ga f24;rcases Dz cw.2.2 with db | db;(replace h:=bM db h;refine cf (sk ?_);cases h;exact cZ zM);replace h:=bN db h;refine ct ?_;obtain⟨gb,eu,h⟩:=aA h;refine rn1 (aDI.1 _ _ eu) ?_;cases h;exact cZ zM
 clear da
 rintro bj f15
 refine sq ?_
 obtain⟨dz,fa,h⟩:=aA h
 obtain⟨aa,fc,h⟩:=aA h
 refine rn2 (c77.1 _ _ _ fa) (aFK.1 _ _ _ _ fc) ?_
 refine an (sq (sq ?_))
 obtain⟨V1,eV1⟩:=nmH (((bj.h 1100024).1+1,oW 382 2 M.aU.en aa.1.bP.aLq.aLm))
 obtain⟨V2,eV2⟩:=nmH (((bj.h 1500024).1+1,oW 320 4 M.aLo.en aa.1.aG.aLq.aLV))
 obtain⟨V3,eV3⟩:=nmH (((bj.h 1000024).1+1,oW 75 3 M.aE.en aa.1.bP.aLq.aLc))
 obtain⟨V4,eV4⟩:=nmH (((bj.h 700024).1+1,oW 277 2 M.aLi.en aa.1.aLW.aLW))
 obtain⟨V5,eV5⟩:=nmH (((bj.h 1200024).1+1,oW 5 1 enB aa.1.bP.Log))
 obtain⟨V12,eV12⟩:=nmT (vP 5 ((bj.h 5).1+1) 0)
 refine cu (λs=>s.t 0=V14/\s.t 2=V13/\s.t 5=V12/\s.h 2=V11/\s.h 5=((bj.h 5).1+1,oB 84 [cS aa.1.aLa,cS aa.1.Top,cS aa.1.aLU.aLa,cI aa.1.aLU.aL0,cI aa.1.aLU.aL6,cI aa.1.aLU.aMA,.row 700024 ((bj.h 700024).1+1),cS aa.1.bP.aLq.Name,cI aa.1.bP.aLq.aLT,.row 1000024 ((bj.h 1000024).1+1),.row 1100024 ((bj.h 1100024).1+1),.row 1200024 ((bj.h 1200024).1+1),cI aa.1.bP.aL5,cS aa.1.aG.aLq.Name,.row 1500024 ((bj.h 1500024).1+1),cI aa.1.aG.aLq.aLx,cI aa.1.aG.aMG,cI aa.1.aG.aLs.aN.aLZ,cI aa.1.aG.aLs.aN.aL2,.row 2000024 ((bj.h 2000024).1+1),cI aa.1.aG.aLs.aL7,cI aa.1.aG.aLs.aLw,cI aa.1.aL1,cB aa.1.aLy])/\s.h 700024=V4/\s.h 1000024=V3/\s.h 1100024=V1/\s.h 1200024=V5/\s.h 1500024=V2/\s.h 2000024=((bj.h 2000024).1+1,oW 269 7 M.bR.en aa.1.aG.aLs.aN.aLl)/\s.h 7059000=(1,oB 256 [.old B0 (.sl (List.map enB p0.b)) (some u0),cI dz.1,cI dz.2.1])/\True) ?_
 rintro ef f39
 obtain⟨cn,fe,h⟩:=aA h
 refine rn1 (c77.1 _ _ _ fe) ?_
 refine an (bk ?_)
 refine cu (λs=>s.h 5=ef.h 5/\s.h 2000024=ef.h 2000024/\s.t 0=V14/\s.t 2=V13/\s.t 5=V12/\s.t 7=vI cn.2.2/\s.h 2=V11/\s.h 700024=V4/\s.h 1000024=V3/\s.h 1100024=V1/\s.h 1200024=V5/\s.h 1500024=V2/\s.h 7059000=(1,oB 256 [.old B0 (.sl (List.map enB p0.b)) (some u0),cI cn.1,cI cn.2.1])/\True) ?_
 rintro cx ⟨f59,f65,f54⟩
 replace f59:=f59.trans f39.2.2.2.2.1
 replace f65:=f65.trans f39.2.2.2.2.2.2.2.2.2.2.1
 refine Ey (Gho.trans (Gho.trans (ghB 5 9 7050000 1000024) (ghB 5 10 7050001 1100024)) (ghB 5 11 7050002 1200024)) ?_
 refine Hg (λm s=>∃v7:Int,∃bq:ByteArray,∃br:Int,∃bh:Int,∃bf:Int,∃bg:Int,∃bm:List M.aE,∃bn:List M.aU,∃bo:List Int,∃ah:Nat,∃ai:Nat,∃aj:Nat,s.h 2000024=cx.h 2000024/\s.t 0=V14/\s.t 2=V13/\s.t 5=V12/\s.t 7=vI v7/\s.h 2=V11/\s.h 5=((bj.h 5).1+1,oB 84 [cS aa.1.aLa,cS aa.1.Top,cS aa.1.aLU.aLa,cI aa.1.aLU.aL0,cI aa.1.aLU.aL6,cI aa.1.aLU.aMA,.row 700024 ((bj.h 700024).1+1),cS bq,cI br,.row 7050000 ah,.row 7050001 ai,.row 7050002 aj,cI bh,cS aa.1.aG.aLq.Name,.row 1500024 ((bj.h 1500024).1+1),cI aa.1.aG.aLq.aLx,cI aa.1.aG.aMG,cI aa.1.aG.aLs.aN.aLZ,cI aa.1.aG.aLs.aN.aL2,.row 2000024 ((bj.h 2000024).1+1),cI aa.1.aG.aLs.aL7,cI aa.1.aG.aLs.aLw,cI aa.1.aL1,cB aa.1.aLy])/\s.h 700024=V4/\s.h 1500024=V2/\s.h 7050000=(ah,oW 75 3 M.aE.en bm)/\s.h 7050001=(ai,oW 382 2 M.aU.en bn)/\s.h 7050002=(aj,oW 5 1 enB bo)/\s.h 7059000=(1,oB 256 [.old B0 (.sl (List.map enB p0.b)) (some u0),cI bf,cI bg])/\iJ p0 aa m v7 bq br bh bf bg bm bn bo=some r) aH ?_ ?_
 ·exact⟨cn.2.2,aa.1.bP.aLq.Name,aa.1.bP.aLq.aLT,aa.1.bP.aL5,cn.1,cn.2.1,aa.1.bP.aLq.aLc,aa.1.bP.aLq.aLm,aa.1.bP.Log,(cx.h 7050000).1+1,(cx.h 7050001).1+1,(cx.h 7050002).1+1,zM⟩
 rintro mL1 bw ⟨v7,bq,br,bh,bf,bg,bm,bn,bo,ah,ai,aj,f76,f68,f69,f70,f71,f72,f73,f74,f75,f77,f78,f79,f80,h⟩
 replace f76:=f76.trans f65
 rcases mL1 with _ | mL1
 ·exact absurd h (by simp[iJ])
 simp only[iJ]at h
 refine sq (sq (rn ?_))
 refine an ?_
 obtain⟨V8,eV8⟩:=nmH ((ai,oW 382 2 M.aU.en bn))
 obtain⟨V9,eV9⟩:=nmH ((ah,oW 75 3 M.aE.en bm))
 obtain⟨V10,eV10⟩:=nmH ((aj,oW 5 1 enB bo))
 rcases dX (decide (v7>0))with cg | cg
 ·replace h:=bN cg h;refine ct (sk (an (sq (bk (sq ?_)))));obtain⟨gd,ff,h⟩:=aA h;obtain⟨cy,fg,h⟩:=aA h;obtain⟨bx,fh,h⟩:=aA h;refine rd3 mixed (aEQ.1 _ _ ff) (aEc.1 _ _ fg) (aFF.1 _ _ _ fh) ?_;refine an ?_;refine cu (λs=>s.h 5=bw.h 5/\s.h 2000024=bw.h 2000024/\s.t 0=V14/\s.t 2=V13/\s.t 5=V12/\s.t 7=vI v7/\s.t 8=vP 8 ((bw.h 8).1+1) 0/\s.h 2=V11/\s.h 8=((bw.h 8).1+1,oB 72 [cS bx.1.aLq.Name,cI bx.1.aLq.aLT,.row 300042 ((bw.h 300042).1+1),.row 400042 ((bw.h 400042).1+1),.row 500042 ((bw.h 500042).1+1),cI bx.1.aL5])/\s.h 300042=((bw.h 300042).1+1,oW 75 3 M.aE.en bx.1.aLq.aLc)/\s.h 400042=((bw.h 400042).1+1,oW 382 2 M.aU.en bx.1.aLq.aLm)/\s.h 500042=((bw.h 500042).1+1,oW 5 1 enB bx.1.Log)/\s.h 700024=V4/\s.h 1500024=V2/\s.h 7050000=V9/\s.h 7050001=V8/\s.h 7050002=V10/\s.h 7059000=(1,oB 256 [.old B0 (.sl (List.map enB p0.b)) (some u0),cI cy.1,cI cy.2.1])/\True) ?_;rintro gh ⟨f95,f102,f89⟩;replace f95:=f95.trans f73;replace f102:=f102.trans f76;refine rn ?_;refine ab (an (rn ?_));exact cZ ⟨_,Gho.trans (Gho.trans (ghB 5 9 7050000 300042) (ghB 5 10 7050001 400042)) (ghB 5 11 7050002 500042),mL1,wi,IntKind.i64.wrap (v7-1),bx.1.aLq.Name,bx.1.aLq.aLT,bx.1.aL5,cy.1,cy.2.1,bx.1.aLq.aLc,bx.1.aLq.aLm,bx.1.Log,ah+1,ai+1,aj+1,zM⟩
 replace h:=bM cg h
 refine cf (xt (Da (CW (GI (an (sq (sq ?_)))))))
 obtain⟨bu,df,h⟩:=aA h
 refine rn1 (c77.1 _ _ _ df) ?_
 refine an (bk ?_)
 refine cu (λs=>s.h 5=bw.h 5/\s.h 2000024=bw.h 2000024/\s.t 0=V14/\s.t 2=V13/\s.t 5=V12/\s.t 10=vI bu.2.2/\s.h 2=V11/\s.h 700024=V4/\s.h 1500024=V2/\s.h 7050000=V9/\s.h 7050001=V8/\s.h 7050002=V10/\s.h 7059000=(1,oB 256 [.old B0 (.sl (List.map enB p0.b)) (some u0),cI bu.1,cI bu.2.1])/\True) ?_
 rintro cp ⟨f115,f118,f110⟩
 replace f115:=f115.trans f73
 replace f118:=f118.trans f76
 refine Ey (Gho.trans (ghB 5 14 7050100 1500024) (ghB 5 19 7050101 2000024)) ?_
 refine Hg (λm s=>∃bl:Int,∃ao:ByteArray,∃aq:Int,∃ar:Int,∃av:Int,∃aw:Int,∃ax:Int,∃ay:Int,∃ak:Int,∃al:Int,∃ba:List M.aLo,∃bd:List M.bR,∃ae:Nat,∃af:Nat,s.t 0=V14/\s.t 2=V13/\s.t 5=V12/\s.t 10=vI bl/\s.h 2=V11/\s.h 5=((bj.h 5).1+1,oB 84 [cS aa.1.aLa,cS aa.1.Top,cS aa.1.aLU.aLa,cI aa.1.aLU.aL0,cI aa.1.aLU.aL6,cI aa.1.aLU.aMA,.row 700024 ((bj.h 700024).1+1),cS bq,cI br,.row 7050000 ah,.row 7050001 ai,.row 7050002 aj,cI bh,cS ao,.row 7050100 ae,cI aq,cI ar,cI av,cI aw,.row 7050101 af,cI ax,cI ay,cI aa.1.aL1,cB aa.1.aLy])/\s.h 700024=V4/\s.h 7050000=V9/\s.h 7050001=V8/\s.h 7050002=V10/\s.h 7050100=(ae,oW 320 4 M.aLo.en ba)/\s.h 7050101=(af,oW 269 7 M.bR.en bd)/\s.h 7059000=(1,oB 256 [.old B0 (.sl (List.map enB p0.b)) (some u0),cI ak,cI al])/\iF p0 aa bq br bh bm bn bo m bl ao aq ar av aw ax ay ak al ba bd=some r) aH ?_ ?_
 ·exact⟨bu.2.2,aa.1.aG.aLq.Name,aa.1.aG.aLq.aLx,aa.1.aG.aMG,aa.1.aG.aLs.aN.aLZ,aa.1.aG.aLs.aN.aL2,aa.1.aG.aLs.aL7,aa.1.aG.aLs.aLw,bu.1,bu.2.1,aa.1.aG.aLq.aLV,aa.1.aG.aLs.aN.aLl,(cp.h 7050100).1+1,(cp.h 7050101).1+1,zM⟩
 rintro mL2 bz ⟨bl,ao,aq,ar,av,aw,ax,ay,ak,al,ba,bd,ae,af,f124,f125,f126,f127,f128,f129,f130,f131,f132,f133,f134,f135,f136,h⟩
 rcases mL2 with _ | mL2
 ·exact absurd h (by simp[iF])
 simp only[iF]at h
 refine sq (sq (rn ?_))
 refine an ?_
 rcases dX (decide (bl>0))with bt | bt
 ·replace h:=bN bt h
  refine ct (sk (an (sq (bk ?_))))
  obtain⟨fj,dg,h⟩:=aA h
  obtain⟨fk,dh,h⟩:=aA h
  obtain⟨ca,di,h⟩:=aA h
  obtain⟨az,dj,h⟩:=aA h
  apply D8 mixed
  ·simp +decide only[E,reduceIte,Nat.reduceAdd,Nat.reduceMul,qB,qC,L,aDK,QB,EN,cg,f124,f125,f126,f127,f128,f129,f130,f131,f132,f133,f134,f135,f136,bt,eV11,eV13,eV14,eV1,eV2,eV3,eV4,eV5,eV12,eV8,eV9,eV10]
   refine⟨_,aEQ.1 _ _ dg,?_⟩
   try simp +decide only[E,reduceIte,Nat.reduceAdd,Nat.reduceMul,qB,qC,L,aDK,QB,EN,cg,f124,f125,f126,f127,f128,f129,f130,f131,f132,f133,f134,f135,f136,bt,eV11,eV13,eV14,eV1,eV2,eV3,eV4,eV5,eV12,eV8,eV9,eV10]
   refine⟨_,aEk.1 _ _ dh,?_⟩
   try simp +decide only[E,reduceIte,Nat.reduceAdd,Nat.reduceMul,qB,qC,L,aDK,QB,EN,cg,f124,f125,f126,f127,f128,f129,f130,f131,f132,f133,f134,f135,f136,bt,eV11,eV13,eV14,eV1,eV2,eV3,eV4,eV5,eV12,eV8,eV9,eV10]
   refine⟨_,c77.1 _ _ _ di,?_⟩
   try simp +decide only[E,reduceIte,Nat.reduceAdd,Nat.reduceMul,qB,qC,L,aDK,QB,EN,cg,f124,f125,f126,f127,f128,f129,f130,f131,f132,f133,f134,f135,f136,bt,eV11,eV13,eV14,eV1,eV2,eV3,eV4,eV5,eV12,eV8,eV9,eV10]
   refine⟨_,aFW.1 _ _ _ _ _ dj,?_⟩
   try simp +decide only[E,reduceIte,Nat.reduceAdd,Nat.reduceMul,qB,qC,L,aDK,QB,EN,cg,f124,f125,f126,f127,f128,f129,f130,f131,f132,f133,f134,f135,f136,bt,eV11,eV13,eV14,eV1,eV2,eV3,eV4,eV5,eV12,eV8,eV9,eV10]
   exact⟨.mk wM,Is.mk _⟩
  refine ab (an ?_)
  refine cu (λs=>s.t 0=V14/\s.t 2=V13/\s.t 5=V12/\s.t 10=vI bl/\s.h 2=V11/\s.h 5=((bj.h 5).1+1,oB 84 [cS aa.1.aLa,cS aa.1.Top,cS aa.1.aLU.aLa,cI aa.1.aLU.aL0,cI aa.1.aLU.aL6,cI aa.1.aLU.aMA,.row 700024 ((bj.h 700024).1+1),cS bq,cI br,.row 7050000 ah,.row 7050001 ai,.row 7050002 aj,cI bh,cS az.1.aLq.Name,.row 200062 ((bz.h 200062).1+1),cI az.1.aLq.aLx,cI az.1.aMG,cI az.1.aLs.aN.aLZ,cI az.1.aLs.aN.aL2,.row 700062 ((bz.h 700062).1+1),cI az.1.aLs.aL7,cI az.1.aLs.aLw,cI aa.1.aL1,cB aa.1.aLy])/\s.h 200062=((bz.h 200062).1+1,oW 320 4 M.aLo.en az.1.aLq.aLV)/\s.h 700024=V4/\s.h 700062=((bz.h 700062).1+1,oW 269 7 M.bR.en az.1.aLs.aN.aLl)/\s.h 7050000=V9/\s.h 7050001=V8/\s.h 7050002=V10/\s.h 7059000=(1,oB 256 [.old B0 (.sl (List.map enB p0.b)) (some u0),cI ca.1,cI ca.2.1])/\True) ?_
  rintro cq f147
  refine rn ?_
  exact cZ ⟨_,Gho.trans (ghB 5 14 7050100 200062) (ghB 5 19 7050101 700062),mL2,wi,IntKind.i64.wrap (bl-1),az.1.aLq.Name,az.1.aLq.aLx,az.1.aMG,az.1.aLs.aN.aLZ,az.1.aLs.aN.aL2,az.1.aLs.aL7,az.1.aLs.aLw,ca.1,ca.2.1,az.1.aLq.aLV,az.1.aLs.aN.aLl,(cq.h 7050100).1+1,(cq.h 7050101).1+1,zM⟩
 replace h:=bM bt h
 refine cf (xt (Da (CW (GI (an (sq (sq ?_)))))))
 obtain⟨cc,dk,h⟩:=aA h
 refine rn1 (c76.1 _ _ _ dk) ?_
 refine an ?_
 obtain⟨V6,eV6⟩:=nmH ((af,oW 269 7 M.bR.en bd))
 obtain⟨V7,eV7⟩:=nmH ((ae,oW 320 4 M.aLo.en ba))
 refine cu (λs=>s.h 5=bz.h 5/\s.t 0=V14/\s.t 2=V13/\s.t 5=V12/\s.t 67=vB cc.2.2/\s.h 2=V11/\s.h 700024=V4/\s.h 7050000=V9/\s.h 7050001=V8/\s.h 7050002=V10/\s.h 7050100=V7/\s.h 7050101=V6/\s.h 7059000=(1,oB 256 [.old B0 (.sl (List.map enB p0.b)) (some u0),cI cc.1,cI cc.2.1])/\True) ?_
 rintro fm ⟨f168,f163⟩
 replace f168:=f168.trans f129
 rcases Dz cc.2.2 with cj | cj
 ·replace h:=bM cj h;refine cf (sk (an (sq ?_)));obtain⟨ck,dm,h⟩:=aA h;refine rn1 (c77.1 _ _ _ dm) ?_;refine an (sq ?_);refine cu (λs=>s.t 0=V14/\s.t 2=V13/\s.t 5=V12/\s.h 2=V11/\s.h 5=((bj.h 5).1+1,oB 84 [cS aa.1.aLa,cS aa.1.Top,cS aa.1.aLU.aLa,cI aa.1.aLU.aL0,cI aa.1.aLU.aL6,cI aa.1.aLU.aMA,.row 700024 ((bj.h 700024).1+1),cS bq,cI br,.row 7050000 ah,.row 7050001 ai,.row 7050002 aj,cI bh,cS ao,.row 7050100 ae,cI aq,cI ar,cI av,cI aw,.row 7050101 af,cI ax,cI ay,cI ck.2.2,cB aa.1.aLy])/\s.h 700024=V4/\s.h 7050000=V9/\s.h 7050001=V8/\s.h 7050002=V10/\s.h 7050100=V7/\s.h 7050101=V6/\s.h 7059000=(1,oB 256 [.old B0 (.sl (List.map enB p0.b)) (some u0),cI ck.1,cI ck.2.1])/\True) ?_;rintro fq f214;obtain⟨ft,dn,h⟩:=aA h;refine rn1 (c76.1 _ _ _ dn) ?_;refine an (sq (rn ?_));refine an (rt ?_);cases h;simp[Mi,Ret,TB,EN, *]
 replace h:=bN cj h
 refine ct (sq ?_)
 obtain⟨cd,dq,h⟩:=aA h
 refine rn1 (c77.1 _ _ _ dq) ?_
 refine an ?_
 refine cu (λs=>s.t 0=V14/\s.t 2=V13/\s.t 5=V12/\s.h 2=V11/\s.h 5=((bj.h 5).1+1,oB 84 [cS aa.1.aLa,cS aa.1.Top,cS aa.1.aLU.aLa,cI aa.1.aLU.aL0,cI aa.1.aLU.aL6,cI (IntKind.i64.wrap (1+cd.2.2)),.row 700024 ((bj.h 700024).1+1),cS bq,cI br,.row 7050000 ah,.row 7050001 ai,.row 7050002 aj,cI bh,cS ao,.row 7050100 ae,cI aq,cI ar,cI av,cI aw,.row 7050101 af,cI ax,cI ay,cI aa.1.aL1,cB aa.1.aLy])/\s.h 700024=V4/\s.h 7050000=V9/\s.h 7050001=V8/\s.h 7050002=V10/\s.h 7050100=V7/\s.h 7050101=V6/\s.h 7059000=(1,oB 256 [.old B0 (.sl (List.map enB p0.b)) (some u0),cI cd.1,cI cd.2.1])/\True) ?_
 rintro cr f180
 obtain⟨du,dw,h⟩:=aA h
 refine rn1 (aEa.1 _ _ _ dw) ?_
 refine an (sq ?_)
 obtain⟨cl,dx,h⟩:=aA h
 refine rn1 (c77.1 _ _ _ dx) ?_
 refine an (sq ?_)
 refine cu (λs=>s.t 0=V14/\s.t 2=V13/\s.t 5=V12/\s.h 2=V11/\s.h 5=((bj.h 5).1+1,oB 84 [cS aa.1.aLa,cS aa.1.Top,cS aa.1.aLU.aLa,cI aa.1.aLU.aL0,cI aa.1.aLU.aL6,cI (IntKind.i64.wrap (1+cd.2.2)),.row 100079 ((cr.h 100079).1+1),cS bq,cI br,.row 7050000 ah,.row 7050001 ai,.row 7050002 aj,cI bh,cS ao,.row 7050100 ae,cI aq,cI ar,cI av,cI aw,.row 7050101 af,cI ax,cI ay,cI cl.2.2,cB aa.1.aLy])/\s.h 100079=((cr.h 100079).1+1,oW 277 2 M.aLi.en du.1.aLW)/\s.h 7050000=V9/\s.h 7050001=V8/\s.h 7050002=V10/\s.h 7050100=V7/\s.h 7050101=V6/\s.h 7059000=(1,oB 256 [.old B0 (.sl (List.map enB p0.b)) (some u0),cI cl.1,cI cl.2.1])/\True) ?_
 rintro fw f197
 obtain⟨fy,dy,h⟩:=aA h
 refine rn1 (c76.1 _ _ _ dy) ?_
 refine an (sq (rn ?_))
 refine an (rt ?_)
 cases h
 simp[Mi,Ret,TB,EN, *]⟩
instance:bK 570 (∀p0 r (h:DL p0=some r),Sc 570 [(false,[.ptr [.sl (List.map enB p0.b),.int .i64 p0.i,.int .i64 p0.h]])] [(false,[.edit (.lend 256 [.int .i64 r.1,.int .i64 r.2.1])]),(true,M.bP.rs r.2.2)]):=⟨λp0 r h=>by
 unfold DL at h
 simp only[EN]
 refine sgB 22 [.cell 2 72] func570 λbase wd B0 u0 hw0=> ?_
 refine cY (J:=λs=>s.t 0=vP 7059000 1 0/\s.h 7059000=(1,oB 256 [.old B0 (.sl (List.map enB p0.b)) (some u0),cI p0.i,cI p0.h])/\True) ?_ ?_
 ·and_intros<;>(try simp only[LN,jI,jJ])<;>rfl
 rintro s1 f2
 have i1:=G8 [.b 3 2 7050000 75 3,.b 3 3 7050001 382 2,.b 3 4 7050002 5 1] λm s=>∃v4:Int,∃ao:ByteArray,∃aq:Int,∃ar:Int,∃aa:Int,∃ae:Int,∃af:List M.aE,∃ah:List M.aU,∃ai:List Int,∃aj:Nat,∃ak:Nat,∃al:Nat,(s.t 0=vP 7059000 1 0/\s.t 2=vP 2 ((s1.h 2).1+1) 0/\s.t 3=vP 3 ((s1.h 3).1+1) 0/\s.t 4=vI v4/\s.h 2=((s1.h 2).1+1,aKD)/\s.h 3=((s1.h 3).1+1,oB 72 [cS ao,cI aq,.row 7050000 aj,.row 7050001 ak,.row 7050002 al,cI ar])/\s.h 7050000=(aj,oW 75 3 M.aE.en af)/\s.h 7050001=(ak,oW 382 2 M.aU.en ah)/\s.h 7050002=(al,oW 5 1 enB ai)/\s.h 7059000=(1,oB 256 [.old B0 (.sl (List.map enB p0.b)) (some u0),cI aa,cI ae]))/\tY p0 m v4 ao aq ar aa ae af ah ai=some r
 have e1:=@tY.eq_2
 exact sgX⟩
instance:bK 513 (∀p0 r (h:EH p0=some r),Sc 513 [(false,[.ptr [.sl (List.map enB p0.b),.int .i64 p0.i,.int .i64 p0.h]])] [(false,[.edit (.lend 256 [.int .i64 r.1,.int .i64 r.2.1])]),(true,M.bP.rs r.2.2)]):=⟨λp0 r h=>by
 unfold EH at h
 simp only[EN]
 refine sgB 38 [.cell 2 72] func513 λbase wd B0 u0 hw0=> ?_
 refine cY (J:=λs=>s.t 0=vP 7059000 1 0/\s.h 7059000=(1,oB 256 [.old B0 (.sl (List.map enB p0.b)) (some u0),cI p0.i,cI p0.h])/\True) ?_ ?_
 ·and_intros<;>(try simp only[LN,jI,jJ])<;>rfl
 rintro s1 f2
 exact sgX⟩
