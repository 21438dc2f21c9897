/-
  Helper text. No conditions.
-/
import Derived.Test.YtbpbocchokbggaaGreatOpenedWimpl5
set_option linter.all false
namespace Go.Proofs.YtbpbocchokbggaaGreat.gen
open Go Go.Sh
set_option maxRecDepth 20000
set_option maxHeartbeats 4000000
theorem c58(p0 r)(h:iT p0=some r):Sc 58 [aX (M.World.en p0)] [(true,M.World.rs r)]:=by
 have i1:=λ(x1:M.aA) (x3:(List M.bC)) (x5:M.aM) (x7:M.aHN)=>ES [.b 3 8 7050000 92 4] λm s=>∃U:Int,∃j:List M.aHL,∃C:Nat,(s.t 1=vP 1 1 0/\s.t 2=vP 2 1 0/\s.t 3=vP 3 1 0/\s.t 27=vL M.aHL.en p0.aHZ/\s.t 28=vI (List.length p0.aHZ:Int)/\s.t 29=vI U/\s.h 1=(1,oX 58 (M.World.en p0))/\s.h 2=(1,My)/\s.h 3=(1,oB 58 [cI p0.Now,cB p0.aHc,cI p0.aHI,.row 100011 1,.row 100015 1,cI p0.aHK,.row 100019 1,.row 100023 1,.row 7050000 C,cL M.aHO.en p0.aHT])/\s.h 100011=(1,oW 126 24 M.aHD.en x1.aHE)/\s.h 100015=(1,oW 67 11 M.bC.en x3)/\s.h 100019=(1,oW 196 4 M.dO.en x5.aHR)/\s.h 100023=(1,oW 199 3 M.mI.en x7.aHn)/\s.h 7050000=(C,oW 92 4 M.aHL.en j))/\iP p0 x1 x3 x5 x7 m U j=some r
 have e1:=@iP.eq_2
 have i2:=λ(x1:M.aA) (x3:(List M.bC)) (x5:M.aM) (x7:M.aHN) (j:List M.aHL) (C:Nat)=>ES [.b 3 9 7050100 205 5] λm s=>∃aj:Int,∃I:List M.aHO,∃J:Nat,(s.t 2=vP 2 1 0/\s.t 3=vP 3 1 0/\s.t 43=vL M.aHO.en p0.aHT/\s.t 44=vI (List.length p0.aHT:Int)/\s.t 45=vI aj/\s.h 2=(1,My)/\s.h 3=(1,oB 58 [cI p0.Now,cB p0.aHc,cI p0.aHI,.row 100011 1,.row 100015 1,cI p0.aHK,.row 100019 1,.row 100023 1,.row 7050000 C,.row 7050100 J])/\s.h 100011=(1,oW 126 24 M.aHD.en x1.aHE)/\s.h 100015=(1,oW 67 11 M.bC.en x3)/\s.h 100019=(1,oW 196 4 M.dO.en x5.aHR)/\s.h 100023=(1,oW 199 3 M.mI.en x7.aHn)/\s.h 7050000=(C,oW 92 4 M.aHL.en j)/\s.h 7050100=(J,oW 205 5 M.aHO.en I))/\gE p0 x1 x3 x5 x7 j m aj I=some r
 have e2:=@gE.eq_2
 unfold iT at h
 exact sgo 58 [.cell 2 58] Tryz.func58
instance:bK 479 (∀p0 r (h:Cd p0=some r),Sc 479 [aX (M.bP.en p0)] [rI r]):=⟨λp0 r h=>by unfold Cd at h;exact sgo 10 [.tmp 2] Tryz.func479⟩
instance:bK 387 (∀p0 r (h:Br p0=some r),Sc 387 [aX (M.aHD.en p0)] [rI r]):=⟨λp0 r h=>by unfold Br at h;exact sgo 23 [.tmp 2] Tryz.func387⟩
instance:bK 247 (∀p0 r (h:yR p0=some r),Sc 247 [aX (M.aHD.en p0)] [rB r]):=⟨λp0 r h=>by unfold yR at h;exact sgo 50 [.tmp 2] Tryz.func247⟩
instance:bK 207 (∀p0 r (h:cO p0=some r),Sc 207 [aX (M.aA.en p0)] [rB r]):=⟨λp0 r h=>by
 have i1:=inv λm s=>∃v8:Int,(s.t 1=vP 1 1 0/\s.t 6=vL M.aHD.en p0.aHE/\s.t 7=vI (List.length p0.aHE:Int)/\s.t 8=vI v8/\s.h 1=(1,oX 47 (M.aA.en p0)))/\gI p0 m v8=some r
 have e1:=@gI.eq_2
 unfold cO at h
 exact sgo 36 [.tmp 2] Tryz.func207⟩
theorem c94(p0 r)(h:nL p0=some r):Sc 94 [aX (M.World.en p0)] [rB r]:=by
 have i1:=inv λm s=>∃C:Int,(s.t 1=vP 1 1 0/\s.t 54=vL M.bC.en p0.aHQ/\s.t 55=vI (List.length p0.aHQ:Int)/\s.t 56=vI C/\s.h 1=(1,oX 58 (M.World.en p0)))/\fI p0 m C=some r
 have e1:=@fI.eq_2
 have i2:=inv λm s=>∃j:Int,(s.t 1=vP 1 1 0/\s.t 99=vL M.aHL.en p0.aHZ/\s.t 100=vI (List.length p0.aHZ:Int)/\s.t 101=vI j/\s.h 1=(1,oX 58 (M.World.en p0)))/\kD p0 m j=some r
 have e2:=@kD.eq_2
 unfold nL at h
 exact sgo 126 [.tmp 2] Tryz.func94
theorem c96(p0 p1 p2 r)(h:Ab p0 p1 p2=some r):Sc 96 [aS p0,aS p1,aI p2] [(true,M.aHD.rs r.1),rB r.2]:=by unfold Ab at h;exact sgo 38 [.cell 6 126,.tmp 7] Tryz.func96
theorem aDb(p0 p1 p2 p3 p4 r)(h:oM p0 p1 p2 p3 p4=some r):Sc 102 [aX (M.aF.en p0),aX (M.aHL.en p1),aI p2,aS p3,aB p4] [(true,M.aHH.rs r)]:=by unfold oM at h;exact sgo 32 [.cell 10 189] Tryz.func102
theorem c66(p0 p1 r)(h:tE p0 p1=some r):Sc 66 [aX (M.aA.en p0),aX (M.aHD.en p1)] [(true,M.aA.rs r.1),rB r.2]:=by
 have i1:=λ(x1:M.aA)=>inv λm s=>∃j:Int,(s.t 2=vP 2 1 0/\s.t 3=vP 3 1 0/\s.t 4=vP 4 1 0/\s.t 6=vP 6 1 0/\s.t 8=vI j/\s.h 2=(1,oX 47 (M.aA.en p0))/\s.h 3=(1,oX 126 (M.aHD.en p1))/\s.h 4=(1,oB 47 [.nil])/\s.h 6=(1,oB 47 [.row 100010 1])/\s.h 100010=(1,oW 126 24 M.aHD.en x1.aHE))/\mC p0 p1 x1 m j=some r
 have e1:=@mC.eq_2
 unfold tE at h
 exact sgo 60 [.cell 4 47,.tmp 5] Tryz.func66
theorem c19(p0 p1 p2 p3 r)(h:yE p0 p1 p2 p3=some r):Sc 19 [aX (M.World.en p0),aS p1,aS p2,aL M.Instr.en p3] [(true,M.World.rs r.1),rI r.2.1,rB r.2.2]:=by
 unfold yE at h
 simp only[EN]
 refine sgn 130 [.cell 8 58,.tmp 9,.tmp 10] Tryz.func19 λbase wd => ?_
 refine sq (rn ?_)
 refine an (sq ?_)
 obtain⟨x1,h2,h⟩:=bind_some h
 refine rn1 (c58 _ _ h2) ?_
 refine an (sq (sq ?_))
 obtain⟨x3,h4,h⟩:=bind_some h
 rcases dP (!x3)with b5 | b5
 ·replace h:=bG b5 h;refine rn1 (c94 _ _ h4) ?_;refine an (ct (sq (rn ?_)));refine an (rt ?_);cases h;simp[Ret,TB,EN, *]
 replace h:=bF b5 h
 obtain⟨x6,h7,h⟩:=bind_some h
 rcases dP (decide (x6<0))with b8 | b8
 ·replace h:=bG b8 h;refine rn2 (c94 _ _ h4) (c95.1 _ _ h7) ?_;refine an (ct (sq (rn ?_)));refine an (rt ?_);cases h;simp[Ret,TB,EN, *]
 replace h:=bF b8 h
 obtain⟨x9,c9,h⟩:=bind_some h
 refine rn3 (c94 _ _ h4) (c95.1 _ _ h7) (c95.1 _ _ c9) ?_
 refine an ?_
 rcases dP (decide (x9<0))with aw | aw
 ·replace h:=bG aw h;refine ct (sq (rn ?_));refine an (rt ?_);cases h;simp[Ret,TB,EN, *]
 replace h:=bF aw h
 refine cf (sk (an (sq ?_)))
 obtain⟨br,bt,h⟩:=bind_some h
 rcases dP br.2 with ar | ar
 ·replace h:=bG ar h;obtain⟨dn,dq,ca⟩:=aG3 _ _ _ _ bt ar;refine rn1 ca ?_;refine an (sq (sq (rn ?_)));refine an (cf (sk (an (sq ?_))));obtain⟨dr,cd,h⟩:=bind_some h;refine rn1 (c98 _ _ _ cd) ?_;refine an (sq ?_);obtain⟨bu,cg,h⟩:=bind_some h;refine rn1 (c99 _ _ _ _ cg) ?_;refine an (sq ?_);obtain⟨bw,cj,h⟩:=bind_some h;refine rn1 (aET _ _ _ _ _ _ cj) ?_;refine an (sq ?_);obtain⟨du,ck,h⟩:=bind_some h;obtain⟨C,cl,h⟩:=bind_some h;refine rd2 mixed (aDb _ _ _ _ _ _ ck) (aCW _ _ _ _ cl) ?_;refine an (sq (sq ?_));refine cu (λs=>s.t 4=vP 4 1 0/\s.t 8=vP 8 1 0/\s.t 11=vP 11 1 0/\s.t 12=vP 12 1 0/\s.t 15=vI bu/\s.t 16=vP 16 1 0/\s.t 17=vB bw.2/\s.t 18=vB C.2/\s.h 4=(1,oX 58 (M.World.en p0))/\s.h 8=(1,My)/\s.h 11=(1,oB 58 [cI x1.Now,cB x1.aHc,cI x1.aHI,.row 400022 1,.row 500022 1,cI x1.aHK,.row 700022 1,.row 800022 1,.row 900022 1,.row 1000022 1])/\s.h 12=(1,oX 126 (M.aHD.en br.1))/\s.h 16=(1,oB 67 [cI C.1.Id,cS C.1.aHL,cS C.1.Top,cI C.1.aHA,.row 500082 1,.row 600082 1,cI C.1.aHJ.Pc,.row 800082 1,cI C.1.aHJ.aHy,cB C.1.aHJ.aH5,cB C.1.aHJ.aH6])/\s.h 400022=(1,oW 126 24 M.aHD.en x1.aA.aHE)/\s.h 500022=(1,oW 67 11 M.bC.en x1.aHQ)/\s.h 500082=(1,oW 81 2 M.aT.en C.1.aT)/\s.h 600082=(1,oW 308 4 M.Instr.en C.1.aHJ.aHt)/\s.h 700022=(1,oW 196 4 M.dO.en x1.aHR.aHR)/\s.h 800022=(1,oW 199 3 M.mI.en x1.aHN.aHn)/\s.h 800082=(1,oW 3 1 enI C.1.aHJ.aH1)/\s.h 900022=(1,oW 92 4 M.aHL.en x1.aHZ)/\s.h 1000022=(1,oW 205 5 M.aHO.en x1.aHT)/\True) ?_;rintro bx f29;rcases dP (bu==0)with ax | ax;(replace h:=bG ax h;refine rn ?_;refine an (ct (sq (rn ?_)));refine an (rt ?_);cases h;simp[Ret,TB,EN, *]);replace h:=bF ax h;rcases dP (!bw.2)with ay | ay;(replace h:=bG ay h;refine rn ?_;refine an (ct (sq (rn ?_)));refine an (rt ?_);cases h;simp[Ret,TB,EN, *]);replace h:=bF ay h;refine rn ?_;refine an ?_;rcases dP (!C.2)with az | az;(replace h:=bG az h;refine ct (sq (rn ?_));refine an (rt ?_);cases h;simp[Ret,TB,EN, *]);replace h:=bF az h;refine cf (sk (an (sq (rn ?_))));refine an (sq ?_);obtain⟨ba,cn,h⟩:=bind_some h;refine rn1 (c66 _ _ _ cn) ?_;refine an (sq (rn ?_));refine an (sq ?_);obtain⟨dw,cp,h⟩:=bind_some h;refine rn1 cp ?_;refine an (sq ?_);refine cu (λs=>s.t 4=vP 4 1 0/\s.t 8=vP 8 1 0/\s.t 11=vP 11 1 0/\s.t 16=vP 16 1 0/\s.t 20=vB ba.2/\s.h 4=(1,oX 58 (M.World.en p0))/\s.h 8=(1,My)/\s.h 11=(1,oB 58 [cI x1.Now,cB x1.aHc,cI x1.aHI,.row 100103 ((bx.h 100103).1+1),.row 500022 2,cI x1.aHK,.row 700022 1,.row 800022 1,.row 900022 1,.row 1000022 1])/\s.h 16=(1,oB 67 [cI C.1.Id,cS C.1.aHL,cS C.1.Top,cI C.1.aHA,.row 500082 1,.row 600082 1,cI C.1.aHJ.Pc,.row 800082 1,cI C.1.aHJ.aHy,cB C.1.aHJ.aH5,cB C.1.aHJ.aH6])/\s.h 100103=((bx.h 100103).1+1,oW 126 24 M.aHD.en ba.1.aHE)/\s.h 500022=(2,oW 67 11 M.bC.en (x1.aHQ++[C.1]))/\s.h 700022=(1,oW 196 4 M.dO.en x1.aHR.aHR)/\s.h 800022=(1,oW 199 3 M.mI.en x1.aHN.aHn)/\s.h 900022=(1,oW 92 4 M.aHL.en x1.aHZ)/\s.h 1000022=(1,oW 205 5 M.aHO.en x1.aHT)/\True) ?_;rintro dx f59;refine rn ?_;refine an (sq (sq ?_));rcases dP (!ba.2)with bd | bd;(replace h:=bG bd h;refine rn ?_;refine an (ct (sq ?_));obtain⟨dy,cq,h⟩:=bind_some h;refine rn1 (c58 _ _ cq) ?_;refine an (rt ?_);cases h;simp[Ret,TB,EN, *]);replace h:=bF bd h;obtain⟨cr,cw,h⟩:=bind_some h;refine rn1 (c94 _ _ cw) ?_;refine an ?_;rcases Cw (!cr)with bf | bf;(replace h:=bF bf h;refine cf (sk (an (sq (rd mixed ?_))));refine an (rt ?_);cases h;simp[Ret,TB,EN, *]);replace h:=bG bf h;refine ct (sq ?_);obtain⟨dz,cx,h⟩:=bind_some h;refine rn1 (c58 _ _ cx) ?_;refine an (rt ?_);cases h;simp[Ret,TB,EN, *]
 replace h:=bF ar h
 refine rn1 (aGE _ _ _ _ bt ar) ?_
 refine an (sq (sq (rn ?_)))
 refine an (ct ?_)
 obtain⟨ef,cy,h⟩:=bind_some h
 obtain⟨j,cz,h⟩:=bind_some h
 refine rn2 (c97 _ _ cy) (c96 _ _ _ _ cz) ?_
 refine an (sq ?_)
 obtain⟨da,db,h⟩:=bind_some h
 refine rn1 (c98 _ _ _ db) ?_
 refine an (sq ?_)
 obtain⟨bz,df,h⟩:=bind_some h
 refine rn1 (c99 _ _ _ _ df) ?_
 refine an (sq ?_)
 obtain⟨I,dg,h⟩:=bind_some h
 refine rn1 (aET _ _ _ _ _ _ dg) ?_
 refine an (sq ?_)
 refine cu (λs=>s.t 4=vP 4 1 0/\s.t 8=vP 8 1 0/\s.t 11=vP 11 1 0/\s.t 12=vP 12 1 0/\s.t 14=vP 14 1 0/\s.t 15=vI bz/\s.t 16=vP 16 1 0/\s.t 17=vB I.2/\s.h 4=(1,oX 58 (M.World.en p0))/\s.h 8=(1,My)/\s.h 11=(1,oB 58 [cI x1.Now,cB x1.aHc,cI x1.aHI,.row 400022 1,.row 500022 1,cI x1.aHK,.row 700022 1,.row 800022 1,.row 900022 1,.row 1000022 1])/\s.h 12=(1,oB 126 [cS j.1.aHL,cS j.1.Top,cS j.1.aG9.aHL,cI j.1.aG9.aHf,cI j.1.aG9.aHm,cI j.1.aG9.aHp,.row 700051 1,cS j.1.bP.aHa.Name,cI j.1.bP.aHa.aHA,.row 1000051 1,.row 1100051 1,.row 1200051 1,cI j.1.bP.aHs,cS j.1.aE.aHa.Name,.row 1500051 1,cI j.1.aE.aHa.aHg,cI j.1.aE.aHw,cI j.1.aE.aHY.aJ.aHI,cI j.1.aE.aHY.aJ.aHj,.row 2000051 1,cI j.1.aE.aHY.aHr,cI j.1.aE.aHY.aHe,cI j.1.aHk,cB j.1.aHh])/\s.h 14=(1,oX 92 (M.aHL.en da))/\s.h 16=(1,oB 67 [cI I.1.Id,cS I.1.aHL,cS I.1.Top,cI I.1.aHA,.row 500070 1,.row 600070 1,cI I.1.aHJ.Pc,.row 800070 1,cI I.1.aHJ.aHy,cB I.1.aHJ.aH5,cB I.1.aHJ.aH6])/\s.h 400022=(1,oW 126 24 M.aHD.en x1.aA.aHE)/\s.h 500022=(1,oW 67 11 M.bC.en x1.aHQ)/\s.h 500070=(1,oW 81 2 M.aT.en I.1.aT)/\s.h 600070=(1,oW 308 4 M.Instr.en I.1.aHJ.aHt)/\s.h 700022=(1,oW 196 4 M.dO.en x1.aHR.aHR)/\s.h 700051=(1,oW 345 2 M.aHM.en j.1.aHC.aHC)/\s.h 800022=(1,oW 199 3 M.mI.en x1.aHN.aHn)/\s.h 800070=(1,oW 3 1 enI I.1.aHJ.aH1)/\s.h 900022=(1,oW 92 4 M.aHL.en x1.aHZ)/\s.h 1000022=(1,oW 205 5 M.aHO.en x1.aHT)/\s.h 1000051=(1,oW 117 3 M.aC.en j.1.bP.aHa.aHP)/\s.h 1100051=(1,oW 471 2 M.aN.en j.1.bP.aHa.aHX)/\s.h 1200051=(1,oW 5 1 enB j.1.bP.Log)/\s.h 1500051=(1,oW 260 4 M.aHV.en j.1.aE.aHa.aHF)/\s.h 2000051=(1,oW 328 7 M.bB.en j.1.aE.aHY.aJ.aHW)/\True) ?_
 rintro av f93
 obtain⟨dh,bg,h⟩:=bind_some h
 obtain⟨J,bh,h⟩:=bind_some h
 refine rd2 mixed (aDb _ _ _ _ _ _ bg) (aCW _ _ _ _ bh) ?_
 refine an (sq (sq ?_))
 rcases dP (bz==0)with ai | ai
 ·replace h:=bG ai h;refine rn ?_;refine an (ct (sq (rn ?_)));refine an (rt ?_);cases h;simp[Ret,TB,EN, *]
 replace h:=bF ai h
 rcases dP (!I.2)with aj | aj
 ·replace h:=bG aj h;refine rn ?_;refine an (ct (sq (rn ?_)));refine an (rt ?_);cases h;simp[Ret,TB,EN, *]
 replace h:=bF aj h
 refine rn ?_
 refine an ?_
 rcases dP (!J.2)with ak | ak
 ·replace h:=bG ak h;refine ct (sq (rn ?_));refine an (rt ?_);cases h;simp[Ret,TB,EN, *]
 replace h:=bF ak h
 refine cf (sk (an (sq (rn ?_))))
 refine an (sq ?_)
 obtain⟨U,bj,h⟩:=bind_some h
 refine rn1 (c66 _ _ _ bj) ?_
 refine an (sq (rn ?_))
 refine an (sq ?_)
 obtain⟨di,bl,h⟩:=bind_some h
 refine rn1 bl ?_
 refine an (sq ?_)
 refine cu (λs=>s.t 4=vP 4 1 0/\s.t 8=vP 8 1 0/\s.t 11=vP 11 1 0/\s.t 16=vP 16 1 0/\s.t 20=vB U.2/\s.h 4=(1,oX 58 (M.World.en p0))/\s.h 8=(1,My)/\s.h 11=(1,oB 58 [cI x1.Now,cB x1.aHc,cI x1.aHI,.row 100103 ((av.h 100103).1+1),.row 500022 2,cI x1.aHK,.row 700022 1,.row 800022 1,.row 900022 1,.row 1000022 1])/\s.h 16=(1,oB 67 [cI J.1.Id,cS J.1.aHL,cS J.1.Top,cI J.1.aHA,.row 500082 ((av.h 500082).1+1),.row 600082 ((av.h 600082).1+1),cI J.1.aHJ.Pc,.row 800082 ((av.h 800082).1+1),cI J.1.aHJ.aHy,cB J.1.aHJ.aH5,cB J.1.aHJ.aH6])/\s.h 100103=((av.h 100103).1+1,oW 126 24 M.aHD.en U.1.aHE)/\s.h 500022=(2,oW 67 11 M.bC.en (x1.aHQ++[J.1]))/\s.h 700022=(1,oW 196 4 M.dO.en x1.aHR.aHR)/\s.h 800022=(1,oW 199 3 M.mI.en x1.aHN.aHn)/\s.h 900022=(1,oW 92 4 M.aHL.en x1.aHZ)/\s.h 1000022=(1,oW 205 5 M.aHO.en x1.aHT)/\True) ?_
 rintro dj f134
 refine rn ?_
 refine an (sq (sq ?_))
 rcases dP (!U.2)with ao | ao
 ·replace h:=bG ao h;refine rn ?_;refine an (ct (sq ?_));obtain⟨dk,bm,h⟩:=bind_some h;refine rn1 (c58 _ _ bm) ?_;refine an (rt ?_);cases h;simp[Ret,TB,EN, *]
 replace h:=bF ao h
 obtain⟨bn,bo,h⟩:=bind_some h
 refine rn1 (c94 _ _ bo) ?_
 refine an ?_
 rcases Cw (!bn)with aq | aq
 ·replace h:=bF aq h;refine cf (sk (an (sq (rd mixed ?_))));refine an (rt ?_);cases h;simp[Ret,TB,EN, *]
 replace h:=bG aq h
 refine ct (sq ?_)
 obtain⟨dm,bq,h⟩:=bind_some h
 refine rn1 (c58 _ _ bq) ?_
 refine an (rt ?_)
 cases h
 simp[Ret,TB,EN, *]
theorem Yj(p0 p1 r)(h:tX p0 p1=some r):Sc 111 [aX (M.aA.en p0),aX (M.aA.en p1)] [rB r]:=by
 unfold tX at h
 simp only[EN]
 refine sgn 10 [.tmp 4] Tryz.func111 λbase wd => ?_
 refine sq (rn ?_)
 refine an (sq ?_)
 obtain⟨x1,h2,h⟩:=bind_some h
 refine rn1 (aGo p0.aHE p1.aHE (λj C=>pY j C) 260 [] (λj C r I=>aG5 j C r I) x1 h2) ?_
 refine an (rt ?_)
 cases h
 simp[Ret,TB,EN, *]
theorem c21(p0 p1 r)(h:sS p0 p1=some r):Sc 21 [aX (M.World.en p0),aX (M.World.en p1)] [rB r]:=by
 unfold sS at h
 simp only[EN]
 refine sgn 77 [.tmp 4] Tryz.func21 λbase wd => ?_
 refine sq (rn ?_)
 refine an (sq ?_)
 rcases Cw (p0.Now==p1.Now)with b1 | b1
 ·replace h:=bF b1 h;refine rgo ?_;refine ec 20 ?_;refine ec 20 ?_;refine ec 20 ?_;refine ez ?_;refine an (rt ?_);cases h;simp[Ret,TB,EN, *]
 replace h:=bG b1 h
 rcases Cw (p0.aHc==p1.aHc)with b2 | b2
 ·replace h:=bF b2 h;refine rgo ?_;refine ec 20 ?_;refine ec 20 ?_;refine ec 20 ?_;refine ez ?_;refine an (rt ?_);cases h;simp[Ret,TB,EN, *]
 replace h:=bG b2 h
 rcases Cw (p0.aHI==p1.aHI)with b3 | b3
 ·replace h:=bF b3 h;refine rgo ?_;refine ec 20 ?_;refine ec 20 ?_;refine ec 20 ?_;refine ez ?_;refine an (rt ?_);cases h;simp[Ret,TB,EN, *]
 replace h:=bG b3 h
 obtain⟨x4,h5,h⟩:=bind_some h
 rcases Cw x4 with b6 | b6
 ·replace h:=bF b6 h;refine rgo ?_;refine ec 20 ?_;refine ec1 20 (Yj _ _ _ h5) ?_;refine ec 20 ?_;refine ez ?_;refine an (rt ?_);cases h;simp[Ret,TB,EN, *]
 replace h:=bG b6 h
 obtain⟨x7,h8,h⟩:=bind_some h
 rcases Cw x7 with b9 | b9
 ·replace h:=bF b9 h;refine rgo ?_;refine ec 20 ?_;refine ec2 20 (Yj _ _ _ h5) (Zu p0.aHQ p1.aHQ (λj C=>gM j C) 113 [] (λj C r I=>Zy j C r I) x7 h8) ?_;refine ec 20 ?_;refine ez ?_;refine an (rt ?_);cases h;simp[Ret,TB,EN, *]
 replace h:=bG b9 h
 rcases Cw (p0.aHK==p1.aHK)with ae | ae
 ·replace h:=bF ae h;refine rgo ?_;refine ec 20 ?_;refine ec2 20 (Yj _ _ _ h5) (Zu p0.aHQ p1.aHQ (λj C=>gM j C) 113 [] (λj C r I=>Zy j C r I) x7 h8) ?_;refine ec 20 ?_;refine ez ?_;refine an (rt ?_);cases h;simp[Ret,TB,EN, *]
 replace h:=bG ae h
 obtain⟨ao,J,h⟩:=bind_some h
 rcases Cw ao with af | af
 ·replace h:=bF af h;refine rgo ?_;refine ec 20 ?_;refine ec2 20 (Yj _ _ _ h5) (Zu p0.aHQ p1.aHQ (λj C=>gM j C) 113 [] (λj C r I=>Zy j C r I) x7 h8) ?_;refine ec1 20 (aAW _ _ _ J) ?_;refine ez ?_;refine an (rt ?_);cases h;simp[Ret,TB,EN, *]
 replace h:=bG af h
 obtain⟨aq,U,h⟩:=bind_some h
 rcases Cw aq with ai | ai
 ·replace h:=bF ai h;refine rgo ?_;refine ec 20 ?_;refine ec2 20 (Yj _ _ _ h5) (Zu p0.aHQ p1.aHQ (λj C=>gM j C) 113 [] (λj C r I=>Zy j C r I) x7 h8) ?_;refine ec2 20 (aAW _ _ _ J) (aBW _ _ _ U) ?_;refine ez ?_;refine an (rt ?_);cases h;simp[Ret,TB,EN, *]
 replace h:=bG ai h
 obtain⟨aj,al,h⟩:=bind_some h
 rcases Cw aj with ak | ak
 ·replace h:=bF ak h;refine rgo ?_;refine ec 20 ?_;refine ec2 20 (Yj _ _ _ h5) (Zu p0.aHQ p1.aHQ (λj C=>gM j C) 113 [] (λj C r I=>Zy j C r I) x7 h8) ?_;refine ec2 20 (aAW _ _ _ J) (aBW _ _ _ U) ?_;refine ez1 (aFm p0.aHZ p1.aHZ (λj C=>pT j C) 117 [] (λj C r I=>aB5 j C r I) aj al) ?_;refine an (rt ?_);cases h;simp[Ret,TB,EN, *]
 replace h:=bG ak h
 obtain⟨ar,av,h⟩:=bind_some h
 refine rgo ?_
 refine ec 20 ?_
 refine ec2 20 (Yj _ _ _ h5) (Zu p0.aHQ p1.aHQ (λj C=>gM j C) 113 [] (λj C r I=>Zy j C r I) x7 h8) ?_
 refine ec2 20 (aAW _ _ _ J) (aBW _ _ _ U) ?_
 refine ez2 (aFm p0.aHZ p1.aHZ (λj C=>pT j C) 117 [] (λj C r I=>aB5 j C r I) aj al) (aGm p0.aHT p1.aHT (λj C=>rG j C) 119 [] (λj C r I=>aGO j C r I) ar av) ?_
 refine an (rt ?_)
 cases h
 simp[Ret,TB,EN, *]
theorem c24(p0 p1 r)(h:tG p0 p1=some r):Sc 24 [aX (M.World.en p0),aI p1] [(true,M.World.rs r.1),rB r.2]:=by
 unfold tG at h
 simp only[EN]
 refine sgn 43 [.cell 4 58,.tmp 5] Tryz.func24 λbase wd => ?_
 refine sq (rn ?_)
 refine an (sq ?_)
 obtain⟨x1,h2,h⟩:=bind_some h
 refine rn1 (c58 _ _ h2) ?_
 refine an (sq ?_)
 obtain⟨x3,h4,h⟩:=bind_some h
 refine rn1 (c22 _ _ _ h4) ?_
 refine an (sq (sq ?_))
 obtain⟨x5,h6,h⟩:=bind_some h
 rcases dP (!x5)with b7 | b7
 ·replace h:=bG b7 h;refine rn1 (c94 _ _ h6) ?_;refine an (ct (sq (rn ?_)));refine an (rt ?_);cases h;simp[Ret,TB,EN, *]
 replace h:=bF b7 h
 refine rn1 (c94 _ _ h6) ?_
 refine an ?_
 rcases dP (decide (x3<0))with b8 | b8
 ·replace h:=bG b8 h;refine ct (sq (rn ?_));refine an (rt ?_);cases h;simp[Ret,TB,EN, *]
 replace h:=bF b8 h
 refine cf (sk (an (sq ?_)))
 obtain⟨x9,j,h⟩:=bind_some h
 obtain⟨aj,C,h⟩:=bind_some h
 obtain⟨ak,I,h⟩:=bind_some h
 apply BO mixed
 ·simp +decide only[E,reduceIte,Nat.reduceAdd,Nat.reduceMul,qB,qC,<-List.map_take,<-List.map_drop,Nat.sub_zero,L,O2,BM,Tu,M.bC.en,EN,b7,b8]
  refine⟨by first | exact rM j | exact(rM j).2 | exact(rM j).2.2,?_⟩
  try simp +decide only[E,reduceIte,Nat.reduceAdd,Nat.reduceMul,qB,qC,<-List.map_take,<-List.map_drop,Nat.sub_zero,L,O2,BM,Tu,M.bC.en,EN,b7,b8]
  refine⟨by first | exact AZ C | exact(AZ C).2 | exact(AZ C).2.2,?_⟩
  try simp +decide only[E,reduceIte,Nat.reduceAdd,Nat.reduceMul,qB,qC,<-List.map_take,<-List.map_drop,Nat.sub_zero,L,O2,BM,Tu,M.bC.en,EN,b7,b8]
  refine⟨by first | exact EJ (f:=M.bC.en) (sz:=11) (λ_=>rfl) jI j C I | (have hb:=EJ (f:=M.bC.en) (sz:=11) (λ_=>rfl) jI j C I;simpa using hb),?_⟩
  try simp +decide only[E,reduceIte,Nat.reduceAdd,Nat.reduceMul,qB,qC,<-List.map_take,<-List.map_drop,Nat.sub_zero,L,O2,BM,Tu,M.bC.en,EN,b7,b8]
  exact⟨.mk jJ,Is.mk _⟩
 refine an (sq ?_)
 refine cu (λs=>s.t 1=vI p1/\s.t 4=vP 4 1 0/\s.t 6=vP 6 1 0/\s.h 4=(1,My)/\s.h 6=(1,oB 58 [cI x1.Now,cB x1.aHc,cI x1.aHI,.row 400009 1,.row 500009 2,cI x1.aHK,.row 700009 1,.row 800009 1,.row 900009 1,.row 1000009 1])/\s.h 400009=(1,oW 126 24 M.aHD.en x1.aA.aHE)/\s.h 500009=(2,oW 67 11 M.bC.en ((List.take x3.toNat x1.aHQ)++(List.drop (IntKind.i64.wrap (x3+1)).toNat x1.aHQ)))/\s.h 700009=(1,oW 196 4 M.dO.en x1.aHR.aHR)/\s.h 800009=(1,oW 199 3 M.mI.en x1.aHN.aHn)/\s.h 900009=(1,oW 92 4 M.aHL.en x1.aHZ)/\s.h 1000009=(1,oW 205 5 M.aHO.en x1.aHT)/\True) ?_
 rintro al f16
 obtain⟨ao,J,h⟩:=bind_some h
 refine rn1 (aGK _ _ _ J) ?_
 refine an (sq ?_)
 obtain⟨aq,U,h⟩:=bind_some h
 refine rn1 (aGt _ _ _ U) ?_
 refine an (sq (rn ?_))
 refine an (rt ?_)
 cases h
 simp[Ret,TB,EN, *]
