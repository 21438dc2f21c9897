/-
  Helper text. No conditions.
-/
import Derived.Test.YtndidbigdalbnaaGreatNotesWspec9
set_option linter.all false
namespace Go.Proofs.YtndidbigdalbnaaGreat.gen
open Go Go.Sh Tryz
set_option maxRecDepth 20000
set_option maxHeartbeats 4000000
instance aEj:bU 225 (∀p0 r (h:mO p0=some r),Sc 225 [aX (M.aE.en p0)] [rB r]):=⟨λp0 r h=>by
 have i1:=inv λm s=>∃v3:Int,(s.t 1=vP 1 1 0/\s.t 3=vI v3/\s.h 1=(1,oX 37 (M.aE.en p0)))/\nZ p0 m v3=some r
 have e1:=@nZ.eq_2
 have i2:=inv λm s=>∃v4:Int,(s.t 1=vP 1 1 0/\s.t 4=vI v4/\s.h 1=(1,oX 37 (M.aE.en p0)))/\gD p0 m v4=some r
 have e2:=@gD.eq_2
 unfold mO at h
 exact sgo 126 [.tmp 2] func225⟩
instance:bU 221 (∀p0 p1 r (h:yU p0 p1=some r),Sc 221 [aX (M.aE.en p0),aI p1] [(true,M.aE.rs r.1),rB r.2]):=⟨λp0 p1 r h=>by
 unfold yU at h
 simp only[EN]
 refine sgn 43 [.cell 4 37,.tmp 5] func221 λbase wd=> ?_
 refine sq (rn ?_)
 refine an (sq ?_)
 obtain⟨x1,h2,h⟩:=aA h
 refine rn1 (c27.1 _ _ h2) ?_
 refine an (sq ?_)
 obtain⟨x3,h4,h⟩:=aA h
 refine rn1 (aFN.1 _ _ _ h4) ?_
 refine an (sq (sq ?_))
 obtain⟨x5,h6,h⟩:=aA h
 rcases gK (!x5)with b7|b7
 ·replace h:=bQ b7 h;refine rn1 (aEj.1 _ _ h6) ?_;refine an (ct (sq (rn ?_)));exact an (rt zR)
 replace h:=bP b7 h
 refine rn1 (aEj.1 _ _ h6) ?_
 refine an ?_
 rcases gK (decide (x3<0))with b8|b8
 ·replace h:=bQ b8 h;refine ct (sq (rn ?_));exact an (rt zR)
 replace h:=bP b8 h
 refine cf (sk (an (sq ?_)))
 obtain⟨x9,aa,h⟩:=aA h
 obtain⟨aj,ae,h⟩:=aA h
 obtain⟨ak,af,h⟩:=aA h
 apply Em mixed
 ·simp+decide only[E,reduceIte,Nat.reduceAdd,Nat.reduceMul,qB,qC,<-List.map_take,<-List.map_drop,jO,L,aBv,JI,Qo,M.bK.en,EN,b7,b8]
  refine⟨by first|exact vU aa|exact(vU aa).2|exact(vU aa).2.2,?_⟩
  try simp+decide only[E,reduceIte,Nat.reduceAdd,Nat.reduceMul,qB,qC,<-List.map_take,<-List.map_drop,jO,L,aBv,JI,Qo,M.bK.en,EN,b7,b8]
  refine⟨by first|exact Gn ae|exact(Gn ae).2|exact(Gn ae).2.2,?_⟩
  try simp+decide only[E,reduceIte,Nat.reduceAdd,Nat.reduceMul,qB,qC,<-List.map_take,<-List.map_drop,jO,L,aBv,JI,Qo,M.bK.en,EN,b7,b8]
  refine⟨by first|exact LM (f:=M.bK.en) (sz:=11) (λ_=>rfl) we aa ae af|(have hb:=LM (f:=M.bK.en) (sz:=11) (λ_=>rfl) we aa ae af;simpa using hb),?_⟩
  try simp+decide only[E,reduceIte,Nat.reduceAdd,Nat.reduceMul,qB,qC,<-List.map_take,<-List.map_drop,jO,L,aBv,JI,Qo,M.bK.en,EN,b7,b8]
  exact⟨.mk wL,Is.mk _⟩
 refine an (sq ?_)
 refine cu (λs=>s.t 1=vI p1/\s.t 2=vP 2 1 0/\s.t 4=vP 4 1 0/\s.t 6=vP 6 1 0/\s.h 2=(1,oX 37 (M.aE.en p0))/\s.h 4=(1,WY)/\s.h 6=(1,oB 37 [cI x1.Now,cB x1.aK4,cI x1.aKk,.row 400009 1,.row 500009 2,cI x1.aKn,.row 700009 1,.row 800009 1,.row 900009 1,.row 1000009 1])/\s.h 400009=(1,oW 75 24 M.aKe.en x1.aC.aKf)/\s.h 500009=(2,oW 44 11 M.bK.en ((List.take x3.toNat x1.aKq)++(List.drop (IntKind.i64.wrap (x3+1)).toNat x1.aKq)))/\s.h 700009=(1,oW 113 4 M.vE.en x1.aKu.aKu)/\s.h 800009=(1,oW 116 3 M.Eb.en x1.aKp.aLJ)/\s.h 900009=(1,oW 120 4 M.aKl.en x1.aK0)/\s.h 1000009=(1,oW 125 5 M.aKt.en x1.aKr)/\True) ?_
 rintro al f16
 obtain⟨ao,ah,h⟩:=aA h
 refine rn1 (aJ6 _ _ _ ah) ?_
 refine an (sq ?_)
 obtain⟨aq,ai,h⟩:=aA h
 refine rn1 (aJ9 _ _ _ ai) ?_
 refine an (sq (rn ?_))
 exact an (rt zR)⟩
instance:bU 93 (∀p0 p1 r (h:hU p0 p1=some r),Sc 93 [aX (M.aC.en p0),aX (M.aKe.en p1)] [(true,M.aC.rs r.1),rB r.2]):=⟨λp0 p1 r h=>by
 have i1:=λ(x1:M.aC)=>inv λm s=>∃v8:Int,(s.t 2=vP 2 1 0/\s.t 3=vP 3 1 0/\s.t 4=vP 4 1 0/\s.t 6=vP 6 1 0/\s.t 8=vI v8/\s.h 2=(1,oX 26 (M.aC.en p0))/\s.h 3=(1,oX 75 (M.aKe.en p1))/\s.h 4=(1,oB 26 [.nil])/\s.h 6=(1,oB 26 [.row 100011 1])/\s.h 100011=(1,oW 75 24 M.aKe.en x1.aKf))/\nL p0 p1 x1 m v8=some r
 have e1:=@nL.eq_2
 unfold hU at h
 exact sgo 74 [.cell 4 26,.tmp 5] func93⟩
instance:bU 223 (∀p0 p1 p2 p3 r (h:xR p0 p1 p2 p3=some r),Sc 223 [aX (M.aE.en p0),aS p1,aS p2,aL M.aY.en p3] [(true,M.aE.rs r.1),rI r.2.1,rB r.2.2]):=⟨λp0 p1 p2 p3 r h=>by unfold xR at h;exact sgo 130 [.cell 8 37,.tmp 9,.tmp 10] func223⟩
instance:bU 170 (∀p0 r (h:DG p0=some r),Sc 170 [(false,[.ptr [.sl (List.map enB p0.b),.int .i64 p0.i,.int .i64 p0.h]])] [(false,[.edit (.lend 138 [.int .i64 r.1,.int .i64 r.2.1])]),(true,M.aE.rs r.2.2)]):=⟨λp0 r h=>by
 unfold DG at h
 simp only[EN]
 refine sgB 68 [.cell 2 37] func170 λbase wd B0 u0 hw0=> ?_
 refine bY (J:=λs=>s.t 0=vP 7059000 1 0/\s.h 7059000=(1,oB 138 [.old B0 (.sl (List.map enB p0.b)) (some u0),cI p0.i,cI p0.h])/\True) ?_ ?_
 ·and_intros<;>(try simp only[LN,jJ,jK])<;>rfl
 rintro s1 f2
 have i1:=He [.b 3 3 7050000 75 24,.b 3 4 7050001 44 11,.b 3 6 7050002 113 4,.b 3 7 7050003 116 3,.b 3 8 7050004 120 4,.b 3 9 7050005 125 5] λm s=>∃v4:Int,∃ay:Int,∃az:Bool,∃ba:Int,∃bd:Int,∃aa:Int,∃ae:Int,∃af:List M.aKe,∃ah:List M.bK,∃ai:List M.vE,∃aj:List M.Eb,∃ak:List M.aKl,∃al:List M.aKt,∃ao:Nat,∃aq:Nat,∃ar:Nat,∃av:Nat,∃aw:Nat,∃ax:Nat,(s.t 0=vP 7059000 1 0/\s.t 2=vP 2 ((s1.h 2).1+1) 0/\s.t 3=vP 3 ((s1.h 3).1+1) 0/\s.t 4=vI v4/\s.h 2=((s1.h 2).1+1,WY)/\s.h 3=((s1.h 3).1+1,oB 37 [cI ay,cB az,cI ba,.row 7050000 ao,.row 7050001 aq,cI bd,.row 7050002 ar,.row 7050003 av,.row 7050004 aw,.row 7050005 ax])/\s.h 7050000=(ao,oW 75 24 M.aKe.en af)/\s.h 7050001=(aq,oW 44 11 M.bK.en ah)/\s.h 7050002=(ar,oW 113 4 M.vE.en ai)/\s.h 7050003=(av,oW 116 3 M.Eb.en aj)/\s.h 7050004=(aw,oW 120 4 M.aKl.en ak)/\s.h 7050005=(ax,oW 125 5 M.aKt.en al)/\s.h 7059000=(1,oB 138 [.old B0 (.sl (List.map enB p0.b)) (some u0),cI aa,cI ae]))/\gP p0 m v4 ay az ba bd aa ae af ah ai aj ak al=some r
 have e1:=@gP.eq_2
 exact sgX⟩
instance:bU 28 (∀p0 p1 r (h:zL p0 p1=some r),Sc 28 [aX (M.aKe.en p0),aI p1] [(true,M.aF.rs r.1),rB r.2]):=⟨λp0 p1 r h=>by unfold zL at h;exact sgo 43 [.cell 4 90,.tmp 5] func28⟩
instance c14:bU 14 (∀p0 p1 p2 p3 r (h:mI p0 p1 p2 p3=some r),Sc 14 [aX (M.aE.en p0),aX (M.bK.en p1),aI p2,aS p3] [rI r]):=⟨λp0 p1 p2 p3 r h=>by unfold mI at h;exact sgo 44 [.tmp 8] func14⟩
instance c30:bU 30 (∀p0 p1 r (h:nR p0 p1=some r),Sc 30 [aX (M.bJ.en p0),aL M.fA.en p1] [(true,M.bJ.rs r.1),rB r.2]):=⟨λp0 p1 r h=>by unfold nR at h;exact sgo 64 [.cell 4 58,.tmp 5] func30⟩
instance:bU 32 (∀p0 p1 r (h:Aj p0 p1=some r),Sc 32 [aX (M.aKe.en p0),aX (M.bJ.en p1)] [(true,M.aKe.rs r.1),rB r.2]):=⟨λp0 p1 r h=>by
 unfold Aj at h
 simp only[EN]
 refine sgn 17 [.cell 4 75,.tmp 5] func32 λbase wd=> ?_
 refine sq (rn ?_)
 refine an (sq ?_)
 obtain⟨x1,h2,h⟩:=aA h
 refine rn1 (c91.1 _ _ h2) ?_
 refine an (sq ?_)
 obtain⟨x3,h4,h⟩:=aA h
 refine rn1 (c87.1 _ _ h4) ?_
 refine an (sq ?_)
 obtain⟨x5,h6,h⟩:=aA h
 rcases gK x5.2 with b7|b7
 ·replace h:=bQ b7 h;refine rn1 (aHd _ _ _ h6 b7) ?_;exact an (rt zR)
 replace h:=bP b7 h
 refine rn1 (aHj _ _ _ h6 b7) ?_
 exact an (rt zR)⟩
instance:bU 33 (∀p0 p1 p2 r (h:sW p0 p1 p2=some r),Sc 33 [aX (M.aE.en p0),aX (M.aKe.en p1),aB p2] [(true,M.aE.rs r.1),rB r.2]):=⟨λp0 p1 p2 r h=>by unfold sW at h;exact sgo 30 [.cell 6 37,.tmp 7] func33⟩
instance c7:bU 7 (∀p0 p1 p2 p3 p4 r (h:hY p0 p1 p2 p3 p4=some r),Sc 7 [aX (M.aE.en p0),aX (M.bK.en p1),aI p2,aS p3,aI p4] [(true,M.aE.rs r.1),rB r.2]):=⟨λp0 p1 p2 p3 p4 r h=>by unfold hY at h;exact sgo 84 [.cell 10 37,.tmp 11] func7⟩
instance:bU 295 (∀p0 p1 r (h:tJ p0 p1=some r),Sc 295 [aX (M.aKe.en p0),aX (M.aH.en p1)] [(true,M.aKe.rs r.1),rB r.2]):=⟨λp0 p1 r h=>by
 unfold tJ at h
 simp only[EN]
 refine sgn 17 [.cell 4 75,.tmp 5] func295 λbase wd=> ?_
 refine sq (rn ?_)
 refine an (sq ?_)
 obtain⟨x1,h2,h⟩:=aA h
 refine rn1 (c91.1 _ _ h2) ?_
 refine an (sq ?_)
 obtain⟨x3,h4,h⟩:=aA h
 refine rn1 (aFX.1 _ _ h4) ?_
 refine an (sq ?_)
 obtain⟨x5,h6,h⟩:=aA h
 rcases gK x5.2 with b7|b7
 ·replace h:=bQ b7 h;refine rn1 (aHd _ _ _ h6 b7) ?_;exact an (rt zR)
 replace h:=bP b7 h
 refine rn1 (aHj _ _ _ h6 b7) ?_
 exact an (rt zR)⟩
instance:bU 230 (∀p0 p1 p2 p3 p4 r (h:AF p0 p1 p2 p3 p4=some r),Sc 230 [aX (M.aE.en p0),aX (M.bK.en p1),aI p2,aS p3,aI p4] [(true,M.aE.rs r.1),rB r.2]):=⟨λp0 p1 p2 p3 p4 r h=>by unfold AF at h;exact sgo 60 [.cell 10 37,.tmp 11] func230⟩
instance:bU 231 (∀p0 r (h:BK p0=some r),Sc 231 [(false,[.ptr [.sl (List.map enB p0.b),.int .i64 p0.i,.int .i64 p0.h]])] [(false,[.edit (.lend 138 [.int .i64 r.1,.int .i64 r.2.1])]),(true,M.aKe.rs r.2.2)]):=⟨λp0 r h=>by
 unfold BK at h
 simp only[EN]
 refine sgB 90 [.cell 2 75] func231 λbase wd B0 u0 hw0 => ?_
 refine bY (J:=λs=>s.t 0=vP 7059000 1 0/\s.h 7059000=(1,oB 138 [.old B0 (.sl (List.map enB p0.b)) (some u0),cI p0.i,cI p0.h])/\True) ?_ ?_
 ·and_intros<;>(try simp only[LN,jJ,jK])<;>rfl
 rintro s1 f2
 refine sq (rn ?_)
 refine an (sq ?_)
 obtain⟨x4,h5,h⟩:=aA h
 refine rn1 (aDa.1 _ _ h5) ?_
 refine an (sq ?_)
 obtain⟨V11,eV11⟩:=nmH (((s1.h 2).1+1,aFr))
 obtain⟨V13,eV13⟩:=nmT (vP 2 ((s1.h 2).1+1) 0)
 obtain⟨V14,eV14⟩:=nmT (vP 7059000 1 0)
 refine cu (λs=>s.t 0=V14/\s.t 2=V13/\s.t 3=vS x4.2.2/\s.h 2=V11/\s.h 7059000=(1,oB 138 [.old B0 (.sl (List.map enB p0.b)) (some u0),cI x4.1,cI x4.2.1])/\True) ?_
 rintro s6 f7
 refine rn ?_
 refine an ?_
 obtain⟨cz,da,h⟩:=aA h
 refine yN (λs=>s.t 0=V14/\s.t 2=V13/\s.t 3=vS x4.2.2/\s.t 4=vS cz.1/\s.h 2=V11/\s.h 7059000=(1,oB 138 [.old B0 (.sl (List.map enB p0.b)) (some u0),cI cz.2.1,cI cz.2.2])/\True) ?_ ?_
 ·replace h:=da;clear da;refine sq ?_;obtain⟨cw,et,h⟩:=aA h;refine rn1 (c49.1 _ _ _ et) ?_;refine an ?_;refine cu (λs=>s.t 0=V14/\s.t 2=V13/\s.t 3=vS x4.2.2/\s.t 4=vS x4.2.2/\s.t 15=vB cw.2.2/\s.h 2=V11/\s.h 7059000=(1,oB 138 [.old B0 (.sl (List.map enB p0.b)) (some u0),cI cw.1,cI cw.2.1])/\True) ?_;rintro fz f24;rcases CP cw.2.2 with db | db;(replace h:=bP db h;refine cf (sk ?_);cases h;exact fB zM);replace h:=bQ db h;refine ct ?_;obtain⟨ga,eu,h⟩:=aA h;refine rn1 (aDa.1 _ _ eu) ?_;cases h;exact fB zM
 clear da
 rintro bj f15
 refine sq ?_
 obtain⟨dz,fa,h⟩:=aA h
 obtain⟨aa,fc,h⟩:=aA h
 refine rn2 (c48.1 _ _ _ fa) (aFC.1 _ _ _ _ fc) ?_
 refine an (sq (sq ?_))
 obtain⟨V1,eV1⟩:=nmH (((bj.h 1100024).1+1,oW 248 2 M.aV.en aa.1.bJ.aK1.aKz))
 obtain⟨V2,eV2⟩:=nmH (((bj.h 1500024).1+1,oW 153 4 M.aKy.en aa.1.aH.aK1.aKg))
 obtain⟨V3,eV3⟩:=nmH (((bj.h 1000024).1+1,oW 66 3 M.aD.en aa.1.bJ.aK1.aKm))
 obtain⟨V4,eV4⟩:=nmH (((bj.h 700024).1+1,oW 262 2 M.aKv.en aa.1.aKi.aKi))
 obtain⟨V5,eV5⟩:=nmH (((bj.h 1200024).1+1,oW 5 1 enB aa.1.bJ.Log))
 obtain⟨V12,eV12⟩:=nmT (vP 5 ((bj.h 5).1+1) 0)
 refine cu (λs=>s.t 0=V14/\s.t 2=V13/\s.t 5=V12/\s.h 2=V11/\s.h 5=((bj.h 5).1+1,oB 75 [cS aa.1.aKl,cS aa.1.Top,cS aa.1.aKd.aKl,cI aa.1.aKd.aLB,cI aa.1.aKd.aLH,cI aa.1.aKd.aLL,.row 700024 ((bj.h 700024).1+1),cS aa.1.bJ.aK1.Name,cI aa.1.bJ.aK1.aKb,.row 1000024 ((bj.h 1000024).1+1),.row 1100024 ((bj.h 1100024).1+1),.row 1200024 ((bj.h 1200024).1+1),cI aa.1.bJ.aLF,cS aa.1.aH.aK1.Name,.row 1500024 ((bj.h 1500024).1+1),cI aa.1.aH.aK1.aK7,cI aa.1.aH.aLT,cI aa.1.aH.aK3.aO.aKk,cI aa.1.aH.aK3.aO.aLE,.row 2000024 ((bj.h 2000024).1+1),cI aa.1.aH.aK3.aLI,cI aa.1.aH.aK3.aK8,cI aa.1.aLC,cB aa.1.aK9])/\s.h 700024=V4/\s.h 1000024=V3/\s.h 1100024=V1/\s.h 1200024=V5/\s.h 1500024=V2/\s.h 2000024=((bj.h 2000024).1+1,oW 182 7 M.cH.en aa.1.aH.aK3.aO.aKw)/\s.h 7059000=(1,oB 138 [.old B0 (.sl (List.map enB p0.b)) (some u0),cI dz.1,cI dz.2.1])/\True) ?_
 rintro ef f39
 obtain⟨cn,fe,h⟩:=aA h
 refine rn1 (c48.1 _ _ _ fe) ?_
 refine an (bk ?_)
 refine cu (λs=>s.h 5=ef.h 5/\s.h 2000024=ef.h 2000024/\s.t 0=V14/\s.t 2=V13/\s.t 5=V12/\s.t 7=vI cn.2.2/\s.h 2=V11/\s.h 700024=V4/\s.h 1000024=V3/\s.h 1100024=V1/\s.h 1200024=V5/\s.h 1500024=V2/\s.h 7059000=(1,oB 138 [.old B0 (.sl (List.map enB p0.b)) (some u0),cI cn.1,cI cn.2.1])/\True) ?_
 rintro cx ⟨f59,f65,f54⟩
 replace f59:=f59.trans f39.2.2.2.2.1
 replace f65:=f65.trans f39.2.2.2.2.2.2.2.2.2.2.1
 refine Cj (Gho.trans (Gho.trans (ghB 5 9 7050000 1000024) (ghB 5 10 7050001 1100024)) (ghB 5 11 7050002 1200024)) ?_
 refine GF (λm s=>∃v7:Int,∃bq:ByteArray,∃br:Int,∃bh:Int,∃bf:Int,∃bg:Int,∃bm:List M.aD,∃bn:List M.aV,∃bo:List Int,∃ah:Nat,∃ai:Nat,∃aj:Nat,s.h 2000024=cx.h 2000024/\s.t 0=V14/\s.t 2=V13/\s.t 5=V12/\s.t 7=vI v7/\s.h 2=V11/\s.h 5=((bj.h 5).1+1,oB 75 [cS aa.1.aKl,cS aa.1.Top,cS aa.1.aKd.aKl,cI aa.1.aKd.aLB,cI aa.1.aKd.aLH,cI aa.1.aKd.aLL,.row 700024 ((bj.h 700024).1+1),cS bq,cI br,.row 7050000 ah,.row 7050001 ai,.row 7050002 aj,cI bh,cS aa.1.aH.aK1.Name,.row 1500024 ((bj.h 1500024).1+1),cI aa.1.aH.aK1.aK7,cI aa.1.aH.aLT,cI aa.1.aH.aK3.aO.aKk,cI aa.1.aH.aK3.aO.aLE,.row 2000024 ((bj.h 2000024).1+1),cI aa.1.aH.aK3.aLI,cI aa.1.aH.aK3.aK8,cI aa.1.aLC,cB aa.1.aK9])/\s.h 700024=V4/\s.h 1500024=V2/\s.h 7050000=(ah,oW 66 3 M.aD.en bm)/\s.h 7050001=(ai,oW 248 2 M.aV.en bn)/\s.h 7050002=(aj,oW 5 1 enB bo)/\s.h 7059000=(1,oB 138 [.old B0 (.sl (List.map enB p0.b)) (some u0),cI bf,cI bg])/\kO p0 aa m v7 bq br bh bf bg bm bn bo=some r) aJ ?_ ?_
 ·exact⟨cn.2.2,aa.1.bJ.aK1.Name,aa.1.bJ.aK1.aKb,aa.1.bJ.aLF,cn.1,cn.2.1,aa.1.bJ.aK1.aKm,aa.1.bJ.aK1.aKz,aa.1.bJ.Log,(cx.h 7050000).1+1,(cx.h 7050001).1+1,(cx.h 7050002).1+1,zM⟩
 rintro mL1 bw ⟨v7,bq,br,bh,bf,bg,bm,bn,bo,ah,ai,aj,f76,f68,f69,f70,f71,f72,f73,f74,f75,f77,f78,f79,f80,h⟩
 replace f76:=f76.trans f65
 rcases mL1 with _ | mL1
 ·exact absurd h (by simp[kO])
 simp only[kO]at h
 refine sq (sq (rn ?_))
 refine an ?_
 obtain⟨V8,eV8⟩:=nmH ((ai,oW 248 2 M.aV.en bn))
 obtain⟨V9,eV9⟩:=nmH ((ah,oW 66 3 M.aD.en bm))
 obtain⟨V10,eV10⟩:=nmH ((aj,oW 5 1 enB bo))
 rcases gK (decide (v7>0))with cg | cg
 ·replace h:=bQ cg h;refine ct (sk (an (sq (bk (sq ?_)))));obtain⟨gb,ff,h⟩:=aA h;obtain⟨cy,fg,h⟩:=aA h;obtain⟨bx,fh,h⟩:=aA h;refine rd3 mixed (aEh.1 _ _ ff) (aEs.1 _ _ fg) (c30.1 _ _ _ fh) ?_;refine an ?_;refine cu (λs=>s.h 5=bw.h 5/\s.h 2000024=bw.h 2000024/\s.t 0=V14/\s.t 2=V13/\s.t 5=V12/\s.t 7=vI v7/\s.t 8=vP 8 ((bw.h 8).1+1) 0/\s.h 2=V11/\s.h 8=((bw.h 8).1+1,oB 58 [cS bx.1.aK1.Name,cI bx.1.aK1.aKb,.row 300042 ((bw.h 300042).1+1),.row 400042 ((bw.h 400042).1+1),.row 500042 ((bw.h 500042).1+1),cI bx.1.aLF])/\s.h 300042=((bw.h 300042).1+1,oW 66 3 M.aD.en bx.1.aK1.aKm)/\s.h 400042=((bw.h 400042).1+1,oW 248 2 M.aV.en bx.1.aK1.aKz)/\s.h 500042=((bw.h 500042).1+1,oW 5 1 enB bx.1.Log)/\s.h 700024=V4/\s.h 1500024=V2/\s.h 7050000=V9/\s.h 7050001=V8/\s.h 7050002=V10/\s.h 7059000=(1,oB 138 [.old B0 (.sl (List.map enB p0.b)) (some u0),cI cy.1,cI cy.2.1])/\True) ?_;rintro gd ⟨f95,f102,f89⟩;replace f95:=f95.trans f73;replace f102:=f102.trans f76;refine rn ?_;refine ab (an (rn ?_));exact fB ⟨_,Gho.trans (Gho.trans (ghB 5 9 7050000 300042) (ghB 5 10 7050001 400042)) (ghB 5 11 7050002 500042),mL1,wg,IntKind.i64.wrap (v7-1),bx.1.aK1.Name,bx.1.aK1.aKb,bx.1.aLF,cy.1,cy.2.1,bx.1.aK1.aKm,bx.1.aK1.aKz,bx.1.Log,ah+1,ai+1,aj+1,zM⟩
 replace h:=bP cg h
 refine cf (xt (CO (CL (Gs (an (sq (sq ?_)))))))
 obtain⟨bu,df,h⟩:=aA h
 refine rn1 (c48.1 _ _ _ df) ?_
 refine an (bk ?_)
 refine cu (λs=>s.h 5=bw.h 5/\s.h 2000024=bw.h 2000024/\s.t 0=V14/\s.t 2=V13/\s.t 5=V12/\s.t 10=vI bu.2.2/\s.h 2=V11/\s.h 700024=V4/\s.h 1500024=V2/\s.h 7050000=V9/\s.h 7050001=V8/\s.h 7050002=V10/\s.h 7059000=(1,oB 138 [.old B0 (.sl (List.map enB p0.b)) (some u0),cI bu.1,cI bu.2.1])/\True) ?_
 rintro cp ⟨f115,f118,f110⟩
 replace f115:=f115.trans f73
 replace f118:=f118.trans f76
 refine Cj (Gho.trans (ghB 5 14 7050100 1500024) (ghB 5 19 7050101 2000024)) ?_
 refine GF (λm s=>∃bl:Int,∃ao:ByteArray,∃aq:Int,∃ar:Int,∃av:Int,∃aw:Int,∃ax:Int,∃ay:Int,∃ak:Int,∃al:Int,∃ba:List M.aKy,∃bd:List M.cH,∃ae:Nat,∃af:Nat,s.t 0=V14/\s.t 2=V13/\s.t 5=V12/\s.t 10=vI bl/\s.h 2=V11/\s.h 5=((bj.h 5).1+1,oB 75 [cS aa.1.aKl,cS aa.1.Top,cS aa.1.aKd.aKl,cI aa.1.aKd.aLB,cI aa.1.aKd.aLH,cI aa.1.aKd.aLL,.row 700024 ((bj.h 700024).1+1),cS bq,cI br,.row 7050000 ah,.row 7050001 ai,.row 7050002 aj,cI bh,cS ao,.row 7050100 ae,cI aq,cI ar,cI av,cI aw,.row 7050101 af,cI ax,cI ay,cI aa.1.aLC,cB aa.1.aK9])/\s.h 700024=V4/\s.h 7050000=V9/\s.h 7050001=V8/\s.h 7050002=V10/\s.h 7050100=(ae,oW 153 4 M.aKy.en ba)/\s.h 7050101=(af,oW 182 7 M.cH.en bd)/\s.h 7059000=(1,oB 138 [.old B0 (.sl (List.map enB p0.b)) (some u0),cI ak,cI al])/\kJ p0 aa bq br bh bm bn bo m bl ao aq ar av aw ax ay ak al ba bd=some r) aJ ?_ ?_
 ·exact⟨bu.2.2,aa.1.aH.aK1.Name,aa.1.aH.aK1.aK7,aa.1.aH.aLT,aa.1.aH.aK3.aO.aKk,aa.1.aH.aK3.aO.aLE,aa.1.aH.aK3.aLI,aa.1.aH.aK3.aK8,bu.1,bu.2.1,aa.1.aH.aK1.aKg,aa.1.aH.aK3.aO.aKw,(cp.h 7050100).1+1,(cp.h 7050101).1+1,zM⟩
 rintro mL2 bz ⟨bl,ao,aq,ar,av,aw,ax,ay,ak,al,ba,bd,ae,af,f124,f125,f126,f127,f128,f129,f130,f131,f132,f133,f134,f135,f136,h⟩
 rcases mL2 with _ | mL2
 ·exact absurd h (by simp[kJ])
 simp only[kJ]at h
 refine sq (sq (rn ?_))
 refine an ?_
 rcases gK (decide (bl>0))with bt | bt
 ·replace h:=bQ bt h
  refine ct (sk (an (sq (bk ?_))))
  obtain⟨fj,dg,h⟩:=aA h
  obtain⟨fk,dh,h⟩:=aA h
  obtain⟨ca,di,h⟩:=aA h
  obtain⟨az,dj,h⟩:=aA h
  apply Em mixed
  ·simp +decide only[E,reduceIte,Nat.reduceAdd,Nat.reduceMul,qB,qC,L,aDZ,Qz,EN,cg,f124,f125,f126,f127,f128,f129,f130,f131,f132,f133,f134,f135,f136,bt,eV11,eV13,eV14,eV1,eV2,eV3,eV4,eV5,eV12,eV8,eV9,eV10]
   refine⟨_,aEh.1 _ _ dg,?_⟩
   try simp +decide only[E,reduceIte,Nat.reduceAdd,Nat.reduceMul,qB,qC,L,aDZ,Qz,EN,cg,f124,f125,f126,f127,f128,f129,f130,f131,f132,f133,f134,f135,f136,bt,eV11,eV13,eV14,eV1,eV2,eV3,eV4,eV5,eV12,eV8,eV9,eV10]
   refine⟨_,c50.1 _ _ dh,?_⟩
   try simp +decide only[E,reduceIte,Nat.reduceAdd,Nat.reduceMul,qB,qC,L,aDZ,Qz,EN,cg,f124,f125,f126,f127,f128,f129,f130,f131,f132,f133,f134,f135,f136,bt,eV11,eV13,eV14,eV1,eV2,eV3,eV4,eV5,eV12,eV8,eV9,eV10]
   refine⟨_,c48.1 _ _ _ di,?_⟩
   try simp +decide only[E,reduceIte,Nat.reduceAdd,Nat.reduceMul,qB,qC,L,aDZ,Qz,EN,cg,f124,f125,f126,f127,f128,f129,f130,f131,f132,f133,f134,f135,f136,bt,eV11,eV13,eV14,eV1,eV2,eV3,eV4,eV5,eV12,eV8,eV9,eV10]
   refine⟨_,aFR.1 _ _ _ _ _ dj,?_⟩
   try simp +decide only[E,reduceIte,Nat.reduceAdd,Nat.reduceMul,qB,qC,L,aDZ,Qz,EN,cg,f124,f125,f126,f127,f128,f129,f130,f131,f132,f133,f134,f135,f136,bt,eV11,eV13,eV14,eV1,eV2,eV3,eV4,eV5,eV12,eV8,eV9,eV10]
   exact⟨.mk wL,Is.mk _⟩
  refine ab (an ?_)
  refine cu (λs=>s.t 0=V14/\s.t 2=V13/\s.t 5=V12/\s.t 10=vI bl/\s.h 2=V11/\s.h 5=((bj.h 5).1+1,oB 75 [cS aa.1.aKl,cS aa.1.Top,cS aa.1.aKd.aKl,cI aa.1.aKd.aLB,cI aa.1.aKd.aLH,cI aa.1.aKd.aLL,.row 700024 ((bj.h 700024).1+1),cS bq,cI br,.row 7050000 ah,.row 7050001 ai,.row 7050002 aj,cI bh,cS az.1.aK1.Name,.row 200062 ((bz.h 200062).1+1),cI az.1.aK1.aK7,cI az.1.aLT,cI az.1.aK3.aO.aKk,cI az.1.aK3.aO.aLE,.row 700062 ((bz.h 700062).1+1),cI az.1.aK3.aLI,cI az.1.aK3.aK8,cI aa.1.aLC,cB aa.1.aK9])/\s.h 200062=((bz.h 200062).1+1,oW 153 4 M.aKy.en az.1.aK1.aKg)/\s.h 700024=V4/\s.h 700062=((bz.h 700062).1+1,oW 182 7 M.cH.en az.1.aK3.aO.aKw)/\s.h 7050000=V9/\s.h 7050001=V8/\s.h 7050002=V10/\s.h 7059000=(1,oB 138 [.old B0 (.sl (List.map enB p0.b)) (some u0),cI ca.1,cI ca.2.1])/\True) ?_
  rintro cq f147
  refine rn ?_
  exact fB ⟨_,Gho.trans (ghB 5 14 7050100 200062) (ghB 5 19 7050101 700062),mL2,wg,IntKind.i64.wrap (bl-1),az.1.aK1.Name,az.1.aK1.aK7,az.1.aLT,az.1.aK3.aO.aKk,az.1.aK3.aO.aLE,az.1.aK3.aLI,az.1.aK3.aK8,ca.1,ca.2.1,az.1.aK1.aKg,az.1.aK3.aO.aKw,(cq.h 7050100).1+1,(cq.h 7050101).1+1,zM⟩
 replace h:=bP bt h
 refine cf (xt (CO (CL (Gs (an (sq (sq ?_)))))))
 obtain⟨cc,dk,h⟩:=aA h
 refine rn1 (c49.1 _ _ _ dk) ?_
 refine an ?_
 obtain⟨V6,eV6⟩:=nmH ((af,oW 182 7 M.cH.en bd))
 obtain⟨V7,eV7⟩:=nmH ((ae,oW 153 4 M.aKy.en ba))
 refine cu (λs=>s.h 5=bz.h 5/\s.t 0=V14/\s.t 2=V13/\s.t 5=V12/\s.t 67=vB cc.2.2/\s.h 2=V11/\s.h 700024=V4/\s.h 7050000=V9/\s.h 7050001=V8/\s.h 7050002=V10/\s.h 7050100=V7/\s.h 7050101=V6/\s.h 7059000=(1,oB 138 [.old B0 (.sl (List.map enB p0.b)) (some u0),cI cc.1,cI cc.2.1])/\True) ?_
 rintro fm ⟨f168,f163⟩
 replace f168:=f168.trans f129
 rcases CP cc.2.2 with cj | cj
 ·replace h:=bP cj h;refine cf (sk (an (sq ?_)));obtain⟨ck,dm,h⟩:=aA h;refine rn1 (c48.1 _ _ _ dm) ?_;refine an (sq ?_);refine cu (λs=>s.t 0=V14/\s.t 2=V13/\s.t 5=V12/\s.h 2=V11/\s.h 5=((bj.h 5).1+1,oB 75 [cS aa.1.aKl,cS aa.1.Top,cS aa.1.aKd.aKl,cI aa.1.aKd.aLB,cI aa.1.aKd.aLH,cI aa.1.aKd.aLL,.row 700024 ((bj.h 700024).1+1),cS bq,cI br,.row 7050000 ah,.row 7050001 ai,.row 7050002 aj,cI bh,cS ao,.row 7050100 ae,cI aq,cI ar,cI av,cI aw,.row 7050101 af,cI ax,cI ay,cI ck.2.2,cB aa.1.aK9])/\s.h 700024=V4/\s.h 7050000=V9/\s.h 7050001=V8/\s.h 7050002=V10/\s.h 7050100=V7/\s.h 7050101=V6/\s.h 7059000=(1,oB 138 [.old B0 (.sl (List.map enB p0.b)) (some u0),cI ck.1,cI ck.2.1])/\True) ?_;rintro fq f214;obtain⟨ft,dn,h⟩:=aA h;refine rn1 (c49.1 _ _ _ dn) ?_;refine an (sq (rn ?_));refine an (rt ?_);cases h;simp[Ma,Ret,TB,EN, *]
 replace h:=bQ cj h
 refine ct (sq ?_)
 obtain⟨cd,dq,h⟩:=aA h
 refine rn1 (c48.1 _ _ _ dq) ?_
 refine an ?_
 refine cu (λs=>s.t 0=V14/\s.t 2=V13/\s.t 5=V12/\s.h 2=V11/\s.h 5=((bj.h 5).1+1,oB 75 [cS aa.1.aKl,cS aa.1.Top,cS aa.1.aKd.aKl,cI aa.1.aKd.aLB,cI aa.1.aKd.aLH,cI (IntKind.i64.wrap (1+cd.2.2)),.row 700024 ((bj.h 700024).1+1),cS bq,cI br,.row 7050000 ah,.row 7050001 ai,.row 7050002 aj,cI bh,cS ao,.row 7050100 ae,cI aq,cI ar,cI av,cI aw,.row 7050101 af,cI ax,cI ay,cI aa.1.aLC,cB aa.1.aK9])/\s.h 700024=V4/\s.h 7050000=V9/\s.h 7050001=V8/\s.h 7050002=V10/\s.h 7050100=V7/\s.h 7050101=V6/\s.h 7059000=(1,oB 138 [.old B0 (.sl (List.map enB p0.b)) (some u0),cI cd.1,cI cd.2.1])/\True) ?_
 rintro cr f180
 obtain⟨du,dw,h⟩:=aA h
 refine rn1 (aEg.1 _ _ _ dw) ?_
 refine an (sq ?_)
 obtain⟨cl,dx,h⟩:=aA h
 refine rn1 (c48.1 _ _ _ dx) ?_
 refine an (sq ?_)
 refine cu (λs=>s.t 0=V14/\s.t 2=V13/\s.t 5=V12/\s.h 2=V11/\s.h 5=((bj.h 5).1+1,oB 75 [cS aa.1.aKl,cS aa.1.Top,cS aa.1.aKd.aKl,cI aa.1.aKd.aLB,cI aa.1.aKd.aLH,cI (IntKind.i64.wrap (1+cd.2.2)),.row 100079 ((cr.h 100079).1+1),cS bq,cI br,.row 7050000 ah,.row 7050001 ai,.row 7050002 aj,cI bh,cS ao,.row 7050100 ae,cI aq,cI ar,cI av,cI aw,.row 7050101 af,cI ax,cI ay,cI cl.2.2,cB aa.1.aK9])/\s.h 100079=((cr.h 100079).1+1,oW 262 2 M.aKv.en du.1.aKi)/\s.h 7050000=V9/\s.h 7050001=V8/\s.h 7050002=V10/\s.h 7050100=V7/\s.h 7050101=V6/\s.h 7059000=(1,oB 138 [.old B0 (.sl (List.map enB p0.b)) (some u0),cI cl.1,cI cl.2.1])/\True) ?_
 rintro fw f197
 obtain⟨fy,dy,h⟩:=aA h
 refine rn1 (c49.1 _ _ _ dy) ?_
 refine an (sq (rn ?_))
 refine an (rt ?_)
 cases h
 simp[Ma,Ret,TB,EN, *]⟩
instance:bU 340 (∀p0 r (h:C2 p0=some r),Sc 340 [(false,[.ptr [.sl (List.map enB p0.b),.int .i64 p0.i,.int .i64 p0.h]])] [(false,[.edit (.lend 138 [.int .i64 r.1,.int .i64 r.2.1])]),(true,M.bJ.rs r.2.2)]):=⟨λp0 r h=>by
 unfold C2 at h
 simp only[EN]
 refine sgB 22 [.cell 2 58] func340 λbase wd B0 u0 hw0=> ?_
 refine bY (J:=λs=>s.t 0=vP 7059000 1 0/\s.h 7059000=(1,oB 138 [.old B0 (.sl (List.map enB p0.b)) (some u0),cI p0.i,cI p0.h])/\True) ?_ ?_
 ·and_intros<;>(try simp only[LN,jJ,jK])<;>rfl
 rintro s1 f2
 have i1:=He [.b 3 2 7050000 66 3,.b 3 3 7050001 248 2,.b 3 4 7050002 5 1] λm s=>∃v4:Int,∃ao:ByteArray,∃aq:Int,∃ar:Int,∃aa:Int,∃ae:Int,∃af:List M.aD,∃ah:List M.aV,∃ai:List Int,∃aj:Nat,∃ak:Nat,∃al:Nat,(s.t 0=vP 7059000 1 0/\s.t 2=vP 2 ((s1.h 2).1+1) 0/\s.t 3=vP 3 ((s1.h 3).1+1) 0/\s.t 4=vI v4/\s.h 2=((s1.h 2).1+1,aGK)/\s.h 3=((s1.h 3).1+1,oB 58 [cS ao,cI aq,.row 7050000 aj,.row 7050001 ak,.row 7050002 al,cI ar])/\s.h 7050000=(aj,oW 66 3 M.aD.en af)/\s.h 7050001=(ak,oW 248 2 M.aV.en ah)/\s.h 7050002=(al,oW 5 1 enB ai)/\s.h 7059000=(1,oB 138 [.old B0 (.sl (List.map enB p0.b)) (some u0),cI aa,cI ae]))/\xP p0 m v4 ao aq ar aa ae af ah ai=some r
 have e1:=@xP.eq_2
 exact sgX⟩
instance:bU 300 (∀p0 r (h:FH p0=some r),Sc 300 [(false,[.ptr [.sl (List.map enB p0.b),.int .i64 p0.i,.int .i64 p0.h]])] [(false,[.edit (.lend 138 [.int .i64 r.1,.int .i64 r.2.1])]),(true,M.bJ.rs r.2.2)]):=⟨λp0 r h=>by
 unfold FH at h
 simp only[EN]
 refine sgB 38 [.cell 2 58] func300 λbase wd B0 u0 hw0=> ?_
 refine bY (J:=λs=>s.t 0=vP 7059000 1 0/\s.h 7059000=(1,oB 138 [.old B0 (.sl (List.map enB p0.b)) (some u0),cI p0.i,cI p0.h])/\True) ?_ ?_
 ·and_intros<;>(try simp only[LN,jJ,jK])<;>rfl
 rintro s1 f2
 exact sgX⟩
instance:bU 301 (∀p0 r (h:FE p0=some r),Sc 301 [(false,[.ptr [.sl (List.map enB p0.b),.int .i64 p0.i,.int .i64 p0.h]])] [(false,[.edit (.lend 138 [.int .i64 r.1,.int .i64 r.2.1])]),(true,M.aH.rs r.2.2)]):=⟨λp0 r h=>by
 unfold FE at h
 simp only[EN]
 refine sgB 30 [.cell 2 73] func301 λbase wd B0 u0 hw0=> ?_
 refine bY (J:=λs=>s.t 0=vP 7059000 1 0/\s.h 7059000=(1,oB 138 [.old B0 (.sl (List.map enB p0.b)) (some u0),cI p0.i,cI p0.h])/\True) ?_ ?_
 ·and_intros<;>(try simp only[LN,jJ,jK])<;>rfl
 rintro s1 f2
 exact sgX⟩
