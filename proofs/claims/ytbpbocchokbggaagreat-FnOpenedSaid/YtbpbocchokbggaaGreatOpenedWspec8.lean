/-
  Helper text. No conditions.
-/
import Derived.Test.YtbpbocchokbggaaGreatOpenedWspec7
set_option linter.all false
namespace Go.Proofs.YtbpbocchokbggaaGreat.gen
open Go Go.Sh
set_option maxRecDepth 20000
set_option maxHeartbeats 4000000
instance:bK 252 (∀p0 r (h:yS p0=some r),Sc 252 [aX (M.aHD.en p0)] [rB r]):=⟨λp0 r h=>by unfold yS at h;exact sgo 50 [.tmp 2] Tryz.func252⟩
instance:bK 127 (∀p0 r (h:cN p0=some r),Sc 127 [aX (M.aA.en p0)] [rB r]):=⟨λp0 r h=>by
 have i1:=inv λm s=>∃v3:Int,(s.t 1=vP 1 1 0/\s.t 3=vI v3/\s.h 1=(1,oX 47 (M.aA.en p0)))/\gK p0 m v3=some r
 have e1:=@gK.eq_2
 unfold cN at h
 exact sgo 48 [.tmp 2] Tryz.func127⟩
instance c23:bK 23 (∀p0 r (h:iU p0=some r),Sc 23 [aX (M.World.en p0)] [rB r]):=⟨λp0 r h=>by
 have i1:=inv λm s=>∃v3:Int,(s.t 1=vP 1 1 0/\s.t 3=vI v3/\s.h 1=(1,oX 58 (M.World.en p0)))/\mS p0 m v3=some r
 have e1:=@mS.eq_2
 have i2:=inv λm s=>∃v4:Int,(s.t 1=vP 1 1 0/\s.t 4=vI v4/\s.h 1=(1,oX 58 (M.World.en p0)))/\dZ p0 m v4=some r
 have e2:=@dZ.eq_2
 unfold iU at h
 exact sgo 126 [.tmp 2] Tryz.func23⟩
instance:bK 374 (∀p0 p1 r (h:wB p0 p1=some r),Sc 374 [aX (M.World.en p0),aI p1] [(true,M.World.rs r.1),rB r.2]):=⟨λp0 p1 r h=>by
 unfold wB at h
 simp only[EN]
 refine sgn 43 [.cell 4 58,.tmp 5] Tryz.func374 λbase wd => ?_
 refine sq (rn ?_)
 refine an (sq ?_)
 obtain⟨x1,h2,h⟩:=bind_some h
 refine rn1 (c43.1 _ _ h2) ?_
 refine an (sq ?_)
 obtain⟨x3,h4,h⟩:=bind_some h
 refine rn1 (aGx _ _ _ h4) ?_
 refine an (sq (sq ?_))
 obtain⟨x5,h6,h⟩:=bind_some h
 rcases dP (!x5)with b7 | b7
 ·replace h:=bG b7 h;refine rn1 (c23.1 _ _ h6) ?_;refine an (ct (sq (rn ?_)));refine an (rt ?_);cases h;simp[Ret,TB,EN, *]
 replace h:=bF b7 h
 refine rn1 (c23.1 _ _ h6) ?_
 refine an ?_
 rcases dP (decide (x3<0))with b8 | b8
 ·replace h:=bG b8 h;refine ct (sq (rn ?_));refine an (rt ?_);cases h;simp[Ret,TB,EN, *]
 replace h:=bF b8 h
 refine cf (sk (an (sq ?_)))
 obtain⟨x9,aa,h⟩:=bind_some h
 obtain⟨aj,ae,h⟩:=bind_some h
 obtain⟨ak,af,h⟩:=bind_some h
 apply BO mixed
 ·simp +decide only[E,reduceIte,Nat.reduceAdd,Nat.reduceMul,qB,qC,<-List.map_take,<-List.map_drop,Nat.sub_zero,L,O2,BM,Tu,M.bC.en,EN,b7,b8]
  refine⟨by first | exact rM aa | exact(rM aa).2 | exact(rM aa).2.2,?_⟩
  try simp +decide only[E,reduceIte,Nat.reduceAdd,Nat.reduceMul,qB,qC,<-List.map_take,<-List.map_drop,Nat.sub_zero,L,O2,BM,Tu,M.bC.en,EN,b7,b8]
  refine⟨by first | exact AZ ae | exact(AZ ae).2 | exact(AZ ae).2.2,?_⟩
  try simp +decide only[E,reduceIte,Nat.reduceAdd,Nat.reduceMul,qB,qC,<-List.map_take,<-List.map_drop,Nat.sub_zero,L,O2,BM,Tu,M.bC.en,EN,b7,b8]
  refine⟨by first | exact EJ (f:=M.bC.en) (sz:=11) (λ_=>rfl) jI aa ae af | (have hb:=EJ (f:=M.bC.en) (sz:=11) (λ_=>rfl) jI aa ae af;simpa using hb),?_⟩
  try simp +decide only[E,reduceIte,Nat.reduceAdd,Nat.reduceMul,qB,qC,<-List.map_take,<-List.map_drop,Nat.sub_zero,L,O2,BM,Tu,M.bC.en,EN,b7,b8]
  exact⟨.mk jJ,Is.mk _⟩
 refine an (sq ?_)
 refine cu (λs=>s.t 1=vI p1/\s.t 2=vP 2 1 0/\s.t 4=vP 4 1 0/\s.t 6=vP 6 1 0/\s.h 2=(1,oX 58 (M.World.en p0))/\s.h 4=(1,My)/\s.h 6=(1,oB 58 [cI x1.Now,cB x1.aHc,cI x1.aHI,.row 400009 1,.row 500009 2,cI x1.aHK,.row 700009 1,.row 800009 1,.row 900009 1,.row 1000009 1])/\s.h 400009=(1,oW 126 24 M.aHD.en x1.aA.aHE)/\s.h 500009=(2,oW 67 11 M.bC.en ((List.take x3.toNat x1.aHQ)++(List.drop (IntKind.i64.wrap (x3+1)).toNat x1.aHQ)))/\s.h 700009=(1,oW 196 4 M.dO.en x1.aHR.aHR)/\s.h 800009=(1,oW 199 3 M.mI.en x1.aHN.aHn)/\s.h 900009=(1,oW 92 4 M.aHL.en x1.aHZ)/\s.h 1000009=(1,oW 205 5 M.aHO.en x1.aHT)/\True) ?_
 rintro al f16
 obtain⟨ao,ah,h⟩:=bind_some h
 refine rn1 (aGu _ _ _ ah) ?_
 refine an (sq ?_)
 obtain⟨aq,ai,h⟩:=bind_some h
 refine rn1 (aGe _ _ _ ai) ?_
 refine an (sq (rn ?_))
 refine an (rt ?_)
 cases h
 simp[Ret,TB,EN, *]⟩
instance aBf:bK 103 (∀p0 p1 p2 r (h:tB p0 p1 p2=some r),Sc 103 [aS p0,aS p1,aI p2] [(true,M.aHD.rs r.1),rB r.2]):=⟨λp0 p1 p2 r h=>by unfold tB at h;exact sgo 42 [.cell 6 126,.tmp 7] Tryz.func103⟩
instance:bK 106 (∀p0 p1 r (h:iS p0 p1=some r),Sc 106 [aX (M.aA.en p0),aX (M.aHD.en p1)] [(true,M.aA.rs r.1),rB r.2]):=⟨λp0 p1 r h=>by
 have i1:=λ(x1:M.aA)=>inv λm s=>∃v8:Int,(s.t 2=vP 2 1 0/\s.t 3=vP 3 1 0/\s.t 4=vP 4 1 0/\s.t 6=vP 6 1 0/\s.t 8=vI v8/\s.h 2=(1,oX 47 (M.aA.en p0))/\s.h 3=(1,oX 126 (M.aHD.en p1))/\s.h 4=(1,oB 47 [.nil])/\s.h 6=(1,oB 47 [.row 100011 1])/\s.h 100011=(1,oW 126 24 M.aHD.en x1.aHE))/\mF p0 p1 x1 m v8=some r
 have e1:=@mF.eq_2
 unfold iS at h
 exact sgo 74 [.cell 4 47,.tmp 5] Tryz.func106⟩
instance:bK 110 (∀p0 p1 p2 r (h:pA p0 p1 p2=some r),Sc 110 [aX (M.World.en p0),aX (M.bC.en p1),aS p2] [(true,M.aHH.rs r)]):=⟨λp0 p1 p2 r h=>by unfold pA at h;exact sgo 44 [.cell 6 189] Tryz.func110⟩
instance c20:bK 20 (∀p0 p1 p2 p3 r (h:nS p0 p1 p2 p3=some r),Sc 20 [aX (M.World.en p0),aS p1,aS p2,aL M.Instr.en p3] [(true,M.World.rs r.1),rI r.2.1,rB r.2.2]):=⟨λp0 p1 p2 p3 r h=>by unfold nS at h;exact sgo 130 [.cell 8 58,.tmp 9,.tmp 10] Tryz.func20⟩
instance:bK 171 (∀p0 p1 r (h:zP p0 p1=some r),Sc 171 [aX (M.aHB.en p0),aL M.Op.en p1] [(true,M.aHB.rs r.1),rW 3 1 enI r.2.1,rB r.2.2]):=⟨λp0 p1 r h=>by
 have i1:=ES [.b 7 2 7050000 117 3,.b 7 3 7050001 471 2] λm s=>∃v9:Int,∃ai:ByteArray,∃aj:Int,∃ak:List Int,∃aa:List M.aC,∃ae:List M.aN,∃al:Nat,∃af:Nat,∃ah:Nat,(s.t 1=vL M.Op.en p1/\s.t 2=vP 2 1 0/\s.t 4=vP 4 1 0/\s.t 7=vP 7 1 0/\s.t 8=vR 100015 al/\s.t 9=vI v9/\s.h 2=(1,oX 112 (M.aHB.en p0))/\s.h 4=(1,DY)/\s.h 7=(1,oB 112 [cS ai,cI aj,.row 7050000 af,.row 7050001 ah])/\s.h 100015=(al,oW 3 1 enI ak)/\s.h 7050000=(af,oW 117 3 M.aC.en aa)/\s.h 7050001=(ah,oW 471 2 M.aN.en ae))/\wC p0 p1 m v9 ai aj ak aa ae=some r
 have e1:=@wC.eq_2
 unfold zP at h
 exact sgo 54 [.cell 4 112,.tmp 5,.tmp 6] Tryz.func171⟩
instance:bK 165 (∀p0 r (h:AO p0=some r),Sc 165 [aX (M.bP.en p0)] [(true,M.aHB.rs r.1),rI r.2]):=⟨λp0 r h=>by
 have i1:=λ(x3:((List (List Int))×Int))=>ES [.b 4 2 7050000 117 3,.b 4 3 7050001 471 2] λm s=>∃v7:Int,∃ai:ByteArray,∃aj:Int,∃aa:List M.aC,∃ae:List M.aN,∃af:Nat,∃ah:Nat,(s.t 2=vP 2 1 0/\s.t 4=vP 4 1 0/\s.t 5=vR 100019 1/\s.t 7=vI v7/\s.h 2=(1,DY)/\s.h 4=(1,oB 112 [cS ai,cI aj,.row 7050000 af,.row 7050001 ah])/\s.h 100019=(1,oW 74 1 (enL enB) x3.1)/\s.h 7050000=(af,oW 117 3 M.aC.en aa)/\s.h 7050001=(ah,oW 471 2 M.aN.en ae))/\sV x3 m v7 ai aj aa ae=some r
 have e1:=@sV.eq_2
 unfold AO at h
 exact sgo 51 [.cell 2 112,.tmp 3] Tryz.func165⟩
instance c46:bK 46 (∀p0 p1 r (h:pP p0 p1=some r),Sc 46 [aX (M.bP.en p0),aL M.Op.en p1] [(true,M.bP.rs r.1),rB r.2]):=⟨λp0 p1 r h=>by unfold pP at h;exact sgo 64 [.cell 4 114,.tmp 5] Tryz.func46⟩
instance aAi:bK 547 (∀p0 p1 p2 p3 r (h:mW p0 p1 p2 p3=some r),Sc 547 [aX (M.aE.en p0),aX (M.Key.en p1),aS p2,aI p3] [(true,M.aE.rs r.1),rB r.2]):=⟨λp0 p1 p2 p3 r h=>by unfold mW at h;exact sgo 53 [.cell 8 124,.tmp 9] Tryz.func547⟩
instance:bK 470 (∀p0 r (h:wN p0=some r),Sc 470 [(false,[.ptr [.sl (List.map enB p0.b),.int .i64 p0.i,.int .i64 p0.h]])] [(false,[.edit (.lend 304 [.int .i64 r.1,.int .i64 r.2.1])]),(true,M.aHD.rs r.2.2)]):=⟨λp0 r h=>by
 unfold wN at h
 simp only[EN]
 refine sgB 90 [.cell 2 126] Tryz.func470 λbase wd B0 u0 hw0 => ?_
 refine eE (J:=λs=>s.t 0=vP 7059000 1 0/\s.h 7059000=(1,oB 304 [.old B0 (.sl (List.map enB p0.b)) (some u0),cI p0.i,cI p0.h])/\True) ?_ ?_
 ·and_intros<;>(try simp only[LN,List.map_cons,List.map_nil])<;>rfl
 rintro s1 f2
 refine sq (rn ?_)
 refine an (sq ?_)
 obtain⟨x4,h5,h⟩:=bind_some h
 refine rn1 (ZA.1 _ _ h5) ?_
 refine an (sq ?_)
 refine cu (λs=>s.t 0=vP 7059000 1 0/\s.t 2=vP 2 ((s1.h 2).1+1) 0/\s.t 3=vS x4.2.2/\s.h 2=((s1.h 2).1+1,GY)/\s.h 7059000=(1,oB 304 [.old B0 (.sl (List.map enB p0.b)) (some u0),cI x4.1,cI x4.2.1])/\True) ?_
 rintro s6 f7
 refine rn ?_
 refine an ?_
 obtain⟨cz,da,h⟩:=bind_some h
 refine sD (λs=>s.t 0=vP 7059000 1 0/\s.t 2=vP 2 ((s1.h 2).1+1) 0/\s.t 3=vS x4.2.2/\s.t 4=vS cz.1/\s.h 2=((s1.h 2).1+1,GY)/\s.h 7059000=(1,oB 304 [.old B0 (.sl (List.map enB p0.b)) (some u0),cI cz.2.1,cI cz.2.2])/\True) ?_ ?_
 ·replace h:=da;clear da;refine sq ?_;obtain⟨cw,ef,h⟩:=bind_some h;refine rn1 (c92.1 _ _ _ ef) ?_;refine an ?_;refine cu (λs=>s.t 0=vP 7059000 1 0/\s.t 2=vP 2 ((s1.h 2).1+1) 0/\s.t 3=vS x4.2.2/\s.t 4=vS x4.2.2/\s.t 15=vB cw.2.2/\s.h 2=((s1.h 2).1+1,GY)/\s.h 7059000=(1,oB 304 [.old B0 (.sl (List.map enB p0.b)) (some u0),cI cw.1,cI cw.2.1])/\True) ?_;rintro fo f24;rcases Cw cw.2.2 with db | db;(replace h:=bF db h;refine cf (sk ?_);cases h;refine dV ⟨?_,?_,?_,?_,?_,?_,trivial⟩<;>(try simp +decide only[F,reduceIte,Nat.reduceAdd,qB,qC,EN, *,-h]));replace h:=bG db h;refine ct ?_;obtain⟨fq,eg,h⟩:=bind_some h;refine rn1 (ZA.1 _ _ eg) ?_;cases h;refine dV ⟨?_,?_,?_,?_,?_,?_,trivial⟩<;>(try simp +decide only[F,reduceIte,Nat.reduceAdd,qB,qC,EN, *,-h])
 clear da
 rintro ao f15
 refine sq ?_
 obtain⟨dy,eh,h⟩:=bind_some h
 obtain⟨aa,el,h⟩:=bind_some h
 refine rn2 (Ob.1 _ _ _ eh) (aBf.1 _ _ _ _ el) ?_
 refine an (sq (sq ?_))
 refine cu (λs=>s.t 0=vP 7059000 1 0/\s.t 2=vP 2 ((s1.h 2).1+1) 0/\s.t 5=vP 5 ((ao.h 5).1+1) 0/\s.h 2=((s1.h 2).1+1,GY)/\s.h 5=((ao.h 5).1+1,oB 126 [cS aa.1.aHL,cS aa.1.Top,cS aa.1.aG9.aHL,cI aa.1.aG9.aHf,cI aa.1.aG9.aHm,cI aa.1.aG9.aHp,.row 700024 ((ao.h 700024).1+1),cS aa.1.bP.aHa.Name,cI aa.1.bP.aHa.aHA,.row 1000024 ((ao.h 1000024).1+1),.row 1100024 ((ao.h 1100024).1+1),.row 1200024 ((ao.h 1200024).1+1),cI aa.1.bP.aHs,cS aa.1.aE.aHa.Name,.row 1500024 ((ao.h 1500024).1+1),cI aa.1.aE.aHa.aHg,cI aa.1.aE.aHw,cI aa.1.aE.aHY.aJ.aHI,cI aa.1.aE.aHY.aJ.aHj,.row 2000024 ((ao.h 2000024).1+1),cI aa.1.aE.aHY.aHr,cI aa.1.aE.aHY.aHe,cI aa.1.aHk,cB aa.1.aHh])/\s.h 700024=((ao.h 700024).1+1,oW 345 2 M.aHM.en aa.1.aHC.aHC)/\s.h 1000024=((ao.h 1000024).1+1,oW 117 3 M.aC.en aa.1.bP.aHa.aHP)/\s.h 1100024=((ao.h 1100024).1+1,oW 471 2 M.aN.en aa.1.bP.aHa.aHX)/\s.h 1200024=((ao.h 1200024).1+1,oW 5 1 enB aa.1.bP.Log)/\s.h 1500024=((ao.h 1500024).1+1,oW 260 4 M.aHV.en aa.1.aE.aHa.aHF)/\s.h 2000024=((ao.h 2000024).1+1,oW 328 7 M.bB.en aa.1.aE.aHY.aJ.aHW)/\s.h 7059000=(1,oB 304 [.old B0 (.sl (List.map enB p0.b)) (some u0),cI dy.1,cI dy.2.1])/\True) ?_
 rintro dz f39
 obtain⟨cn,et,h⟩:=bind_some h
 refine rn1 (Ob.1 _ _ _ et) ?_
 refine an (bk ?_)
 refine cu (λs=>s.h 5=dz.h 5/\s.h 2000024=dz.h 2000024/\s.t 0=vP 7059000 1 0/\s.t 2=vP 2 ((s1.h 2).1+1) 0/\s.t 5=vP 5 ((ao.h 5).1+1) 0/\s.t 7=vI cn.2.2/\s.h 2=((s1.h 2).1+1,GY)/\s.h 700024=((ao.h 700024).1+1,oW 345 2 M.aHM.en aa.1.aHC.aHC)/\s.h 1000024=((ao.h 1000024).1+1,oW 117 3 M.aC.en aa.1.bP.aHa.aHP)/\s.h 1100024=((ao.h 1100024).1+1,oW 471 2 M.aN.en aa.1.bP.aHa.aHX)/\s.h 1200024=((ao.h 1200024).1+1,oW 5 1 enB aa.1.bP.Log)/\s.h 1500024=((ao.h 1500024).1+1,oW 260 4 M.aHV.en aa.1.aE.aHa.aHF)/\s.h 7059000=(1,oB 304 [.old B0 (.sl (List.map enB p0.b)) (some u0),cI cn.1,cI cn.2.1])/\True) ?_
 rintro cx ⟨f59,f65,f54⟩
 replace f59:=f59.trans f39.2.2.2.2.1
 replace f65:=f65.trans f39.2.2.2.2.2.2.2.2.2.2.1
 refine G7 (Gho.trans (Gho.trans (ghB 5 9 7050000 1000024) (ghB 5 10 7050001 1100024)) (ghB 5 11 7050002 1200024)) ?_
 refine GI (λm s=>∃v7:Int,∃bq:ByteArray,∃br:Int,∃bn:Int,∃bl:Int,∃bm:Int,∃aq:List M.aC,∃ar:List M.aN,∃av:List Int,∃ah:Nat,∃ai:Nat,∃aj:Nat,s.h 2000024=cx.h 2000024/\s.t 0=vP 7059000 1 0/\s.t 2=vP 2 ((s1.h 2).1+1) 0/\s.t 5=vP 5 ((ao.h 5).1+1) 0/\s.t 7=vI v7/\s.h 2=((s1.h 2).1+1,GY)/\s.h 5=((ao.h 5).1+1,oB 126 [cS aa.1.aHL,cS aa.1.Top,cS aa.1.aG9.aHL,cI aa.1.aG9.aHf,cI aa.1.aG9.aHm,cI aa.1.aG9.aHp,.row 700024 ((ao.h 700024).1+1),cS bq,cI br,.row 7050000 ah,.row 7050001 ai,.row 7050002 aj,cI bn,cS aa.1.aE.aHa.Name,.row 1500024 ((ao.h 1500024).1+1),cI aa.1.aE.aHa.aHg,cI aa.1.aE.aHw,cI aa.1.aE.aHY.aJ.aHI,cI aa.1.aE.aHY.aJ.aHj,.row 2000024 ((ao.h 2000024).1+1),cI aa.1.aE.aHY.aHr,cI aa.1.aE.aHY.aHe,cI aa.1.aHk,cB aa.1.aHh])/\s.h 700024=((ao.h 700024).1+1,oW 345 2 M.aHM.en aa.1.aHC.aHC)/\s.h 1500024=((ao.h 1500024).1+1,oW 260 4 M.aHV.en aa.1.aE.aHa.aHF)/\s.h 7050000=(ah,oW 117 3 M.aC.en aq)/\s.h 7050001=(ai,oW 471 2 M.aN.en ar)/\s.h 7050002=(aj,oW 5 1 enB av)/\s.h 7059000=(1,oB 304 [.old B0 (.sl (List.map enB p0.b)) (some u0),cI bl,cI bm])/\gG p0 aa m v7 bq br bn bl bm aq ar av=some r) fuel ?_ ?_
 ·refine⟨cn.2.2,aa.1.bP.aHa.Name,aa.1.bP.aHa.aHA,aa.1.bP.aHs,cn.1,cn.2.1,aa.1.bP.aHa.aHP,aa.1.bP.aHa.aHX,aa.1.bP.Log,(cx.h 7050000).1+1,(cx.h 7050001).1+1,(cx.h 7050002).1+1,?_,?_,?_,?_,?_,?_,?_,?_,?_,?_,?_,?_,?_,h⟩;all_goals simp +decide only[F,reduceIte,Nat.reduceAdd,qB,qC,EN, *,-h]
 rintro mL1 bw ⟨v7,bq,br,bn,bl,bm,aq,ar,av,ah,ai,aj,f76,f68,f69,f70,f71,f72,f73,f74,f75,f77,f78,f79,f80,h⟩
 replace f76:=f76.trans f65
 rcases mL1 with _ | mL1
 ·exact absurd h (by simp[gG])
 simp only[gG]at h
 refine sq (sq (rn ?_))
 refine an ?_
 rcases dP (decide (v7>0))with cg | cg
 ·replace h:=bG cg h;refine ct (sk (an (sq (bk (sq ?_)))));obtain⟨ft,eu,h⟩:=bind_some h;obtain⟨cy,fa,h⟩:=bind_some h;obtain⟨bx,fc,h⟩:=bind_some h;refine rd3 mixed (aAa.1 _ _ eu) (aAZ.1 _ _ fa) (c46.1 _ _ _ fc) ?_;refine an ?_;refine cu (λs=>s.h 5=bw.h 5/\s.h 2000024=bw.h 2000024/\s.t 0=vP 7059000 1 0/\s.t 2=vP 2 ((s1.h 2).1+1) 0/\s.t 5=vP 5 ((ao.h 5).1+1) 0/\s.t 7=vI v7/\s.t 8=vP 8 ((bw.h 8).1+1) 0/\s.h 2=((s1.h 2).1+1,GY)/\s.h 8=((bw.h 8).1+1,oB 114 [cS bx.1.aHa.Name,cI bx.1.aHa.aHA,.row 300042 ((bw.h 300042).1+1),.row 400042 ((bw.h 400042).1+1),.row 500042 ((bw.h 500042).1+1),cI bx.1.aHs])/\s.h 300042=((bw.h 300042).1+1,oW 117 3 M.aC.en bx.1.aHa.aHP)/\s.h 400042=((bw.h 400042).1+1,oW 471 2 M.aN.en bx.1.aHa.aHX)/\s.h 500042=((bw.h 500042).1+1,oW 5 1 enB bx.1.Log)/\s.h 700024=((ao.h 700024).1+1,oW 345 2 M.aHM.en aa.1.aHC.aHC)/\s.h 1500024=((ao.h 1500024).1+1,oW 260 4 M.aHV.en aa.1.aE.aHa.aHF)/\s.h 7050000=(ah,oW 117 3 M.aC.en aq)/\s.h 7050001=(ai,oW 471 2 M.aN.en ar)/\s.h 7050002=(aj,oW 5 1 enB av)/\s.h 7059000=(1,oB 304 [.old B0 (.sl (List.map enB p0.b)) (some u0),cI cy.1,cI cy.2.1])/\True) ?_;rintro fw ⟨f95,f102,f89⟩;replace f95:=f95.trans f73;replace f102:=f102.trans f76;refine rn ?_;refine ab (an (rn ?_));refine dV ⟨_,Gho.trans (Gho.trans (ghB 5 9 7050000 300042) (ghB 5 10 7050001 400042)) (ghB 5 11 7050002 500042),mL1,jF,IntKind.i64.wrap (v7-1),bx.1.aHa.Name,bx.1.aHa.aHA,bx.1.aHs,cy.1,cy.2.1,bx.1.aHa.aHP,bx.1.aHa.aHX,bx.1.Log,ah+1,ai+1,aj+1,?_,?_,?_,?_,?_,?_,?_,?_,?_,?_,?_,?_,?_,h⟩;all_goals simp +decide only[F,reduceIte,Nat.reduceAdd,qB,qC,EN, *,-h]
 replace h:=bF cg h
 refine cf (xt (EP (EF (Js (an (sq (sq ?_)))))))
 obtain⟨bu,df,h⟩:=bind_some h
 refine rn1 (Ob.1 _ _ _ df) ?_
 refine an (bk ?_)
 refine cu (λs=>s.h 5=bw.h 5/\s.h 2000024=bw.h 2000024/\s.t 0=vP 7059000 1 0/\s.t 2=vP 2 ((s1.h 2).1+1) 0/\s.t 5=vP 5 ((ao.h 5).1+1) 0/\s.t 10=vI bu.2.2/\s.h 2=((s1.h 2).1+1,GY)/\s.h 700024=((ao.h 700024).1+1,oW 345 2 M.aHM.en aa.1.aHC.aHC)/\s.h 1500024=((ao.h 1500024).1+1,oW 260 4 M.aHV.en aa.1.aE.aHa.aHF)/\s.h 7050000=(ah,oW 117 3 M.aC.en aq)/\s.h 7050001=(ai,oW 471 2 M.aN.en ar)/\s.h 7050002=(aj,oW 5 1 enB av)/\s.h 7059000=(1,oB 304 [.old B0 (.sl (List.map enB p0.b)) (some u0),cI bu.1,cI bu.2.1])/\True) ?_
 rintro cp ⟨f115,f118,f110⟩
 replace f115:=f115.trans f73
 replace f118:=f118.trans f76
 refine G7 (Gho.trans (ghB 5 14 7050100 1500024) (ghB 5 19 7050101 2000024)) ?_
 refine GI (λm s=>∃bo:Int,∃ay:ByteArray,∃az:Int,∃ba:Int,∃bd:Int,∃bf:Int,∃bg:Int,∃bh:Int,∃aw:Int,∃ax:Int,∃ak:List M.aHV,∃al:List M.bB,∃ae:Nat,∃af:Nat,s.t 0=vP 7059000 1 0/\s.t 2=vP 2 ((s1.h 2).1+1) 0/\s.t 5=vP 5 ((ao.h 5).1+1) 0/\s.t 10=vI bo/\s.h 2=((s1.h 2).1+1,GY)/\s.h 5=((ao.h 5).1+1,oB 126 [cS aa.1.aHL,cS aa.1.Top,cS aa.1.aG9.aHL,cI aa.1.aG9.aHf,cI aa.1.aG9.aHm,cI aa.1.aG9.aHp,.row 700024 ((ao.h 700024).1+1),cS bq,cI br,.row 7050000 ah,.row 7050001 ai,.row 7050002 aj,cI bn,cS ay,.row 7050100 ae,cI az,cI ba,cI bd,cI bf,.row 7050101 af,cI bg,cI bh,cI aa.1.aHk,cB aa.1.aHh])/\s.h 700024=((ao.h 700024).1+1,oW 345 2 M.aHM.en aa.1.aHC.aHC)/\s.h 7050000=(ah,oW 117 3 M.aC.en aq)/\s.h 7050001=(ai,oW 471 2 M.aN.en ar)/\s.h 7050002=(aj,oW 5 1 enB av)/\s.h 7050100=(ae,oW 260 4 M.aHV.en ak)/\s.h 7050101=(af,oW 328 7 M.bB.en al)/\s.h 7059000=(1,oB 304 [.old B0 (.sl (List.map enB p0.b)) (some u0),cI aw,cI ax])/\gD p0 aa bq br bn aq ar av m bo ay az ba bd bf bg bh aw ax ak al=some r) fuel ?_ ?_
 ·refine⟨bu.2.2,aa.1.aE.aHa.Name,aa.1.aE.aHa.aHg,aa.1.aE.aHw,aa.1.aE.aHY.aJ.aHI,aa.1.aE.aHY.aJ.aHj,aa.1.aE.aHY.aHr,aa.1.aE.aHY.aHe,bu.1,bu.2.1,aa.1.aE.aHa.aHF,aa.1.aE.aHY.aJ.aHW,(cp.h 7050100).1+1,(cp.h 7050101).1+1,?_,?_,?_,?_,?_,?_,?_,?_,?_,?_,?_,?_,?_,h⟩;all_goals simp +decide only[F,reduceIte,Nat.reduceAdd,qB,qC,EN, *,-h]
 rintro mL2 bz ⟨bo,ay,az,ba,bd,bf,bg,bh,aw,ax,ak,al,ae,af,f124,f125,f126,f127,f128,f129,f130,f131,f132,f133,f134,f135,f136,h⟩
 rcases mL2 with _ | mL2
 ·exact absurd h (by simp[gD])
 simp only[gD]at h
 refine sq (sq (rn ?_))
 refine an ?_
 rcases dP (decide (bo>0))with bt | bt
 ·replace h:=bG bt h
  refine ct (sk (an (sq (bk ?_))))
  obtain⟨fe,dg,h⟩:=bind_some h
  obtain⟨ff,dh,h⟩:=bind_some h
  obtain⟨c9,di,h⟩:=bind_some h
  obtain⟨bj,dj,h⟩:=bind_some h
  apply BO mixed
  ·simp +decide only[E,reduceIte,Nat.reduceAdd,Nat.reduceMul,qB,qC,L,S0,HX,EN,cg,f124,f125,f126,f127,f128,f129,f130,f131,f132,f133,f134,f135,f136,bt]
   refine⟨_,aAa.1 _ _ dg,?_⟩
   try simp +decide only[E,reduceIte,Nat.reduceAdd,Nat.reduceMul,qB,qC,L,S0,HX,EN,cg,f124,f125,f126,f127,f128,f129,f130,f131,f132,f133,f134,f135,f136,bt]
   refine⟨_,aBS.1 _ _ dh,?_⟩
   try simp +decide only[E,reduceIte,Nat.reduceAdd,Nat.reduceMul,qB,qC,L,S0,HX,EN,cg,f124,f125,f126,f127,f128,f129,f130,f131,f132,f133,f134,f135,f136,bt]
   refine⟨_,Ob.1 _ _ _ di,?_⟩
   try simp +decide only[E,reduceIte,Nat.reduceAdd,Nat.reduceMul,qB,qC,L,S0,HX,EN,cg,f124,f125,f126,f127,f128,f129,f130,f131,f132,f133,f134,f135,f136,bt]
   refine⟨_,aAi.1 _ _ _ _ _ dj,?_⟩
   try simp +decide only[E,reduceIte,Nat.reduceAdd,Nat.reduceMul,qB,qC,L,S0,HX,EN,cg,f124,f125,f126,f127,f128,f129,f130,f131,f132,f133,f134,f135,f136,bt]
   exact⟨.mk jJ,Is.mk _⟩
  refine ab (an ?_)
  refine cu (λs=>s.t 0=vP 7059000 1 0/\s.t 2=vP 2 ((s1.h 2).1+1) 0/\s.t 5=vP 5 ((ao.h 5).1+1) 0/\s.t 10=vI bo/\s.h 2=((s1.h 2).1+1,GY)/\s.h 5=((ao.h 5).1+1,oB 126 [cS aa.1.aHL,cS aa.1.Top,cS aa.1.aG9.aHL,cI aa.1.aG9.aHf,cI aa.1.aG9.aHm,cI aa.1.aG9.aHp,.row 700024 ((ao.h 700024).1+1),cS bq,cI br,.row 7050000 ah,.row 7050001 ai,.row 7050002 aj,cI bn,cS bj.1.aHa.Name,.row 200062 ((bz.h 200062).1+1),cI bj.1.aHa.aHg,cI bj.1.aHw,cI bj.1.aHY.aJ.aHI,cI bj.1.aHY.aJ.aHj,.row 700062 ((bz.h 700062).1+1),cI bj.1.aHY.aHr,cI bj.1.aHY.aHe,cI aa.1.aHk,cB aa.1.aHh])/\s.h 200062=((bz.h 200062).1+1,oW 260 4 M.aHV.en bj.1.aHa.aHF)/\s.h 700024=((ao.h 700024).1+1,oW 345 2 M.aHM.en aa.1.aHC.aHC)/\s.h 700062=((bz.h 700062).1+1,oW 328 7 M.bB.en bj.1.aHY.aJ.aHW)/\s.h 7050000=(ah,oW 117 3 M.aC.en aq)/\s.h 7050001=(ai,oW 471 2 M.aN.en ar)/\s.h 7050002=(aj,oW 5 1 enB av)/\s.h 7059000=(1,oB 304 [.old B0 (.sl (List.map enB p0.b)) (some u0),cI c9.1,cI c9.2.1])/\True) ?_
  rintro cq f147
  refine rn ?_
  refine dV ⟨_,Gho.trans (ghB 5 14 7050100 200062) (ghB 5 19 7050101 700062),mL2,jF,IntKind.i64.wrap (bo-1),bj.1.aHa.Name,bj.1.aHa.aHg,bj.1.aHw,bj.1.aHY.aJ.aHI,bj.1.aHY.aJ.aHj,bj.1.aHY.aHr,bj.1.aHY.aHe,c9.1,c9.2.1,bj.1.aHa.aHF,bj.1.aHY.aJ.aHW,(cq.h 7050100).1+1,(cq.h 7050101).1+1,?_,?_,?_,?_,?_,?_,?_,?_,?_,?_,?_,?_,?_,h⟩
  all_goals simp +decide only[F,reduceIte,Nat.reduceAdd,qB,qC,EN, *,-h]
 replace h:=bF bt h
 refine cf (xt (EP (EF (Js (an (sq (sq ?_)))))))
 obtain⟨ca,dk,h⟩:=bind_some h
 refine rn1 (c92.1 _ _ _ dk) ?_
 refine an ?_
 refine cu (λs=>s.h 5=bz.h 5/\s.t 0=vP 7059000 1 0/\s.t 2=vP 2 ((s1.h 2).1+1) 0/\s.t 5=vP 5 ((ao.h 5).1+1) 0/\s.t 67=vB ca.2.2/\s.h 2=((s1.h 2).1+1,GY)/\s.h 700024=((ao.h 700024).1+1,oW 345 2 M.aHM.en aa.1.aHC.aHC)/\s.h 7050000=(ah,oW 117 3 M.aC.en aq)/\s.h 7050001=(ai,oW 471 2 M.aN.en ar)/\s.h 7050002=(aj,oW 5 1 enB av)/\s.h 7050100=(ae,oW 260 4 M.aHV.en ak)/\s.h 7050101=(af,oW 328 7 M.bB.en al)/\s.h 7059000=(1,oB 304 [.old B0 (.sl (List.map enB p0.b)) (some u0),cI ca.1,cI ca.2.1])/\True) ?_
 rintro fg ⟨f168,f163⟩
 replace f168:=f168.trans f129
 rcases Cw ca.2.2 with cj | cj
 ·replace h:=bF cj h;refine cf (sk (an (sq ?_)));obtain⟨ck,dm,h⟩:=bind_some h;refine rn1 (Ob.1 _ _ _ dm) ?_;refine an (sq ?_);refine cu (λs=>s.t 0=vP 7059000 1 0/\s.t 2=vP 2 ((s1.h 2).1+1) 0/\s.t 5=vP 5 ((ao.h 5).1+1) 0/\s.h 2=((s1.h 2).1+1,GY)/\s.h 5=((ao.h 5).1+1,oB 126 [cS aa.1.aHL,cS aa.1.Top,cS aa.1.aG9.aHL,cI aa.1.aG9.aHf,cI aa.1.aG9.aHm,cI aa.1.aG9.aHp,.row 700024 ((ao.h 700024).1+1),cS bq,cI br,.row 7050000 ah,.row 7050001 ai,.row 7050002 aj,cI bn,cS ay,.row 7050100 ae,cI az,cI ba,cI bd,cI bf,.row 7050101 af,cI bg,cI bh,cI ck.2.2,cB aa.1.aHh])/\s.h 700024=((ao.h 700024).1+1,oW 345 2 M.aHM.en aa.1.aHC.aHC)/\s.h 7050000=(ah,oW 117 3 M.aC.en aq)/\s.h 7050001=(ai,oW 471 2 M.aN.en ar)/\s.h 7050002=(aj,oW 5 1 enB av)/\s.h 7050100=(ae,oW 260 4 M.aHV.en ak)/\s.h 7050101=(af,oW 328 7 M.bB.en al)/\s.h 7059000=(1,oB 304 [.old B0 (.sl (List.map enB p0.b)) (some u0),cI ck.1,cI ck.2.1])/\True) ?_;rintro fh f214;obtain⟨fj,dn,h⟩:=bind_some h;refine rn1 (c92.1 _ _ _ dn) ?_;refine an (sq (rn ?_));refine an (rt ?_);cases h;simp[I5,Ret,TB,EN, *]
 replace h:=bG cj h
 refine ct (sq ?_)
 obtain⟨cd,dq,h⟩:=bind_some h
 refine rn1 (Ob.1 _ _ _ dq) ?_
 refine an ?_
 refine cu (λs=>s.t 0=vP 7059000 1 0/\s.t 2=vP 2 ((s1.h 2).1+1) 0/\s.t 5=vP 5 ((ao.h 5).1+1) 0/\s.h 2=((s1.h 2).1+1,GY)/\s.h 5=((ao.h 5).1+1,oB 126 [cS aa.1.aHL,cS aa.1.Top,cS aa.1.aG9.aHL,cI aa.1.aG9.aHf,cI aa.1.aG9.aHm,cI (IntKind.i64.wrap (1+cd.2.2)),.row 700024 ((ao.h 700024).1+1),cS bq,cI br,.row 7050000 ah,.row 7050001 ai,.row 7050002 aj,cI bn,cS ay,.row 7050100 ae,cI az,cI ba,cI bd,cI bf,.row 7050101 af,cI bg,cI bh,cI aa.1.aHk,cB aa.1.aHh])/\s.h 700024=((ao.h 700024).1+1,oW 345 2 M.aHM.en aa.1.aHC.aHC)/\s.h 7050000=(ah,oW 117 3 M.aC.en aq)/\s.h 7050001=(ai,oW 471 2 M.aN.en ar)/\s.h 7050002=(aj,oW 5 1 enB av)/\s.h 7050100=(ae,oW 260 4 M.aHV.en ak)/\s.h 7050101=(af,oW 328 7 M.bB.en al)/\s.h 7059000=(1,oB 304 [.old B0 (.sl (List.map enB p0.b)) (some u0),cI cd.1,cI cd.2.1])/\True) ?_
 rintro cr f180
 obtain⟨dr,du,h⟩:=bind_some h
 refine rn1 (aAd.1 _ _ _ du) ?_
 refine an (sq ?_)
 obtain⟨cl,dw,h⟩:=bind_some h
 refine rn1 (Ob.1 _ _ _ dw) ?_
 refine an (sq ?_)
 refine cu (λs=>s.t 0=vP 7059000 1 0/\s.t 2=vP 2 ((s1.h 2).1+1) 0/\s.t 5=vP 5 ((ao.h 5).1+1) 0/\s.h 2=((s1.h 2).1+1,GY)/\s.h 5=((ao.h 5).1+1,oB 126 [cS aa.1.aHL,cS aa.1.Top,cS aa.1.aG9.aHL,cI aa.1.aG9.aHf,cI aa.1.aG9.aHm,cI (IntKind.i64.wrap (1+cd.2.2)),.row 100079 ((cr.h 100079).1+1),cS bq,cI br,.row 7050000 ah,.row 7050001 ai,.row 7050002 aj,cI bn,cS ay,.row 7050100 ae,cI az,cI ba,cI bd,cI bf,.row 7050101 af,cI bg,cI bh,cI cl.2.2,cB aa.1.aHh])/\s.h 100079=((cr.h 100079).1+1,oW 345 2 M.aHM.en dr.1.aHC)/\s.h 7050000=(ah,oW 117 3 M.aC.en aq)/\s.h 7050001=(ai,oW 471 2 M.aN.en ar)/\s.h 7050002=(aj,oW 5 1 enB av)/\s.h 7050100=(ae,oW 260 4 M.aHV.en ak)/\s.h 7050101=(af,oW 328 7 M.bB.en al)/\s.h 7059000=(1,oB 304 [.old B0 (.sl (List.map enB p0.b)) (some u0),cI cl.1,cI cl.2.1])/\True) ?_
 rintro fk f197
 obtain⟨fm,dx,h⟩:=bind_some h
 refine rn1 (c92.1 _ _ _ dx) ?_
 refine an (sq (rn ?_))
 refine an (rt ?_)
 cases h
 simp[I5,Ret,TB,EN, *]⟩
instance:bK 625 (∀p0 r (h:Ck p0=some r),Sc 625 [(false,[.ptr [.sl (List.map enB p0.b),.int .i64 p0.i,.int .i64 p0.h]])] [(false,[.edit (.lend 304 [.int .i64 r.1,.int .i64 r.2.1])]),(true,M.aHB.rs r.2.2)]):=⟨λp0 r h=>by
 unfold Ck at h
 simp only[EN]
 refine sgB 34 [.cell 2 112] Tryz.func625 λbase wd B0 u0 hw0=> ?_
 refine eE (J:=λs=>s.t 0=vP 7059000 1 0/\s.h 7059000=(1,oB 304 [.old B0 (.sl (List.map enB p0.b)) (some u0),cI p0.i,cI p0.h])/\True) ?_ ?_
 ·and_intros<;>(try simp only[LN,List.map_cons,List.map_nil])<;>rfl
 rintro s1 f2
 exact sgX⟩
instance:bK 602 (∀p0 r (h:Bv p0=some r),Sc 602 [(false,[.ptr [.sl (List.map enB p0.b),.int .i64 p0.i,.int .i64 p0.h]])] [(false,[.edit (.lend 304 [.int .i64 r.1,.int .i64 r.2.1])]),(true,M.bP.rs r.2.2)]):=⟨λp0 r h=>by
 unfold Bv at h
 simp only[EN]
 refine sgB 22 [.cell 2 114] Tryz.func602 λbase wd B0 u0 hw0=> ?_
 refine eE (J:=λs=>s.t 0=vP 7059000 1 0/\s.h 7059000=(1,oB 304 [.old B0 (.sl (List.map enB p0.b)) (some u0),cI p0.i,cI p0.h])/\True) ?_ ?_
 ·and_intros<;>(try simp only[LN,List.map_cons,List.map_nil])<;>rfl
 rintro s1 f2
 have i1:=ES [.b 3 2 7050000 117 3,.b 3 3 7050001 471 2,.b 3 4 7050002 5 1] λm s=>∃v4:Int,∃ao:ByteArray,∃aq:Int,∃ar:Int,∃aa:Int,∃ae:Int,∃af:List M.aC,∃ah:List M.aN,∃ai:List Int,∃aj:Nat,∃ak:Nat,∃al:Nat,(s.t 0=vP 7059000 1 0/\s.t 2=vP 2 ((s1.h 2).1+1) 0/\s.t 3=vP 3 ((s1.h 3).1+1) 0/\s.t 4=vI v4/\s.h 2=((s1.h 2).1+1,aAI)/\s.h 3=((s1.h 3).1+1,oB 114 [cS ao,cI aq,.row 7050000 aj,.row 7050001 ak,.row 7050002 al,cI ar])/\s.h 7050000=(aj,oW 117 3 M.aC.en af)/\s.h 7050001=(ak,oW 471 2 M.aN.en ah)/\s.h 7050002=(al,oW 5 1 enB ai)/\s.h 7059000=(1,oB 304 [.old B0 (.sl (List.map enB p0.b)) (some u0),cI aa,cI ae]))/\rO p0 m v4 ao aq ar aa ae af ah ai=some r
 have e1:=@rO.eq_2
 exact sgX⟩
instance:bK 604 (∀p0 r (h:BI p0=some r),Sc 604 [(false,[.ptr [.sl (List.map enB p0.b),.int .i64 p0.i,.int .i64 p0.h]])] [(false,[.edit (.lend 304 [.int .i64 r.1,.int .i64 r.2.1])]),(true,M.aE.rs r.2.2.1),(true,M.aHO.rs r.2.2.2)]):=⟨λp0 r h=>by
 unfold BI at h
 simp only[EN]
 refine sgB 89 [.cell 2 124,.cell 3 205] Tryz.func604 λbase wd B0 u0 hw0=> ?_
 refine eE (J:=λs=>s.t 0=vP 7059000 1 0/\s.h 7059000=(1,oB 304 [.old B0 (.sl (List.map enB p0.b)) (some u0),cI p0.i,cI p0.h])/\True) ?_ ?_
 ·and_intros<;>(try simp only[LN,List.map_cons,List.map_nil])<;>rfl
 rintro s1 f2
 have i1:=λ(s6:St)=>ES [.b 5 1 7050000 260 4,.b 5 6 7050001 328 7,.b 4 1 7050002 260 4,.b 4 3 7050003 325 2,.b 4 4 7050004 328 7] λm s=>∃v7:Int,∃aw:ByteArray,∃ax:Int,∃ay:Int,∃az:Int,∃ba:Int,∃bd:Int,∃bf:Int,∃aa:Int,∃ae:Int,∃bg:ByteArray,∃bh:Int,∃af:List M.aHV,∃ah:List M.bB,∃ai:List M.aHV,∃aj:List M.aO,∃ak:List M.bB,∃al:Nat,∃ao:Nat,∃aq:Nat,∃ar:Nat,∃av:Nat,(s.t 0=vP 7059000 1 0/\s.t 2=vP 2 ((s1.h 2).1+1) 0/\s.t 3=vP 3 ((s1.h 3).1+1) 0/\s.t 4=vP 4 ((s1.h 4).1+1) 0/\s.t 5=vP 5 ((s6.h 5).1+1) 0/\s.t 7=vI v7/\s.h 2=((s1.h 2).1+1,aAK)/\s.h 3=((s1.h 3).1+1,W5)/\s.h 4=((s1.h 4).1+1,oB 205 [cS bg,.row 7050002 al,cI bh,.row 7050003 ao,.row 7050004 aq])/\s.h 5=((s6.h 5).1+1,oB 124 [cS aw,.row 7050000 ar,cI ax,cI ay,cI az,cI ba,.row 7050001 av,cI bd,cI bf])/\s.h 7050000=(ar,oW 260 4 M.aHV.en af)/\s.h 7050001=(av,oW 328 7 M.bB.en ah)/\s.h 7050002=(al,oW 260 4 M.aHV.en ai)/\s.h 7050003=(ao,oW 325 2 M.aO.en aj)/\s.h 7050004=(aq,oW 328 7 M.bB.en ak)/\s.h 7059000=(1,oB 304 [.old B0 (.sl (List.map enB p0.b)) (some u0),cI aa,cI ae]))/\fL p0 m v7 aw ax ay az ba bd bf aa ae bg bh af ah ai aj ak=some r
 have e1:=@fL.eq_2
 exact sgX⟩
instance:bK 550 (∀p0 r (h:Ch p0=some r),Sc 550 [(false,[.ptr [.sl (List.map enB p0.b),.int .i64 p0.i,.int .i64 p0.h]])] [(false,[.edit (.lend 304 [.int .i64 r.1,.int .i64 r.2.1])]),(true,M.aE.rs r.2.2)]):=⟨λp0 r h=>by
 unfold Ch at h
 simp only[EN]
 refine sgB 30 [.cell 2 124] Tryz.func550 λbase wd B0 u0 hw0=> ?_
 refine eE (J:=λs=>s.t 0=vP 7059000 1 0/\s.h 7059000=(1,oB 304 [.old B0 (.sl (List.map enB p0.b)) (some u0),cI p0.i,cI p0.h])/\True) ?_ ?_
 ·and_intros<;>(try simp only[LN,List.map_cons,List.map_nil])<;>rfl
 rintro s1 f2
 exact sgX⟩
theorem aGZ(p0 r)(h:Bg p0=some r):Sc 378 [(false,[.ptr [.sl (List.map enB p0.b),.int .i64 p0.i,.int .i64 p0.h]])] [(false,[.edit (.lend 304 [.int .i64 r.1,.int .i64 r.2.1])]),(true,M.aHO.rs r.2.2)]:=by
 unfold Bg at h
 simp only[EN]
 refine sgB 52 [.cell 2 205] Tryz.func378 λbase wd U u0 hw0=> ?_
 refine eE (J:=λs=>s.t 0=vP 7059000 1 0/\s.h 7059000=(1,oB 304 [.old U (.sl (List.map enB p0.b)) (some u0),cI p0.i,cI p0.h])/\True) ?_ ?_
 ·and_intros<;>(try simp only[LN,List.map_cons,List.map_nil])<;>rfl
 rintro s1 f2
 have i1:=λ(x4:(Int×Int×M.aHO)) (af:(Int×Int×Int)) (ah:St)=>ES [.b 3 3 7050000 325 2] λm s=>∃I:Int,∃j:List M.aO,∃C:Nat,(s.h 7059000=ah.h 7059000/\s.t 0=vP 7059000 1 0/\s.t 2=vP 2 ((s1.h 2).1+1) 0/\s.t 3=vP 3 ((s1.h 3).1+1) 0/\s.t 4=vI I/\s.h 2=((s1.h 2).1+1,W5)/\s.h 3=((s1.h 3).1+1,oB 205 [cS x4.2.2.aC.Name,.row 200006 ((s1.h 200006).1+1),cI x4.2.2.aC.aHg,.row 7050000 C,.row 500006 ((s1.h 500006).1+1)])/\s.h 200006=((s1.h 200006).1+1,oW 260 4 M.aHV.en x4.2.2.aC.aHF)/\s.h 500006=((s1.h 500006).1+1,oW 328 7 M.bB.en x4.2.2.aHd)/\s.h 7050000=(C,oW 325 2 M.aO.en j))/\wR x4 af m I j=some r
 have e1:=@wR.eq_2
 exact sgX
