/-
  Helper text. No conditions.
-/
import Derived.Test.YtndidbigdalbnaaGreatNotesWimpl6
set_option linter.all false
namespace Go.Proofs.YtndidbigdalbnaaGreat.gen
open Go Go.Sh Tryz
set_option maxRecDepth 20000
set_option maxHeartbeats 4000000
theorem aJw(p0 p1 r)(h:Dv p0 p1=some r):Sc 121 [aX (M.aKc.en p0),aX (M.fA.en p1)] [(true,M.aKc.ra r.1),rI r.2.1,rB r.2.2]:=by
 unfold Dv at h
 simp only[EN]
 refine sgn 58 [.cell 4 56,.tmp 5,.tmp 6] func121 λbase wd=> ?_
 refine sq (rn ?_)
 refine an (sq ?_)
 obtain⟨x1,h2,h⟩:=aA h
 refine rn1 (c58.1 _ _ h2) ?_
 refine an (sq ?_)
 obtain⟨x3,h4,h⟩:=aA h
 refine rn1 (c62.1 _ _ _ h4) ?_
 refine an (sq (sq ?_))
 obtain⟨x5,h6,h⟩:=aA h
 rcases gK (!x5)with b7|b7
 ·replace h:=bQ b7 h;refine rn1 (aBe.1 _ _ h6) ?_;refine an (ct (sq (rn ?_)));refine an (frb 4 2 300013 ?_);refine frb 4 3 400013 ?_;exact rt zR
 replace h:=bP b7 h
 obtain⟨x8,h9,h⟩:=aA h
 rcases gK (!x8)with ae|ae
 ·replace h:=bQ ae h;refine rn2 (aBe.1 _ _ h6) (aEm.1 _ _ h9) ?_;refine an (ct (sq (rn ?_)));refine an (frb 4 2 300013 ?_);refine frb 4 3 400013 ?_;exact rt zR
 replace h:=bP ae h
 refine rn2 (aBe.1 _ _ h6) (aEm.1 _ _ h9) ?_
 refine an ?_
 rcases gK (decide (x3<0))with af|af
 ·replace h:=bQ af h;refine ct (sq (rn ?_));refine an (frb 4 2 300013 ?_);refine frb 4 3 400013 ?_;exact rt zR
 replace h:=bP af h
 refine cf (sk (an (sq ?_)))
 obtain⟨av,C,h⟩:=aA h
 obtain⟨aw,ax,ay⟩:=pK C
 obtain⟨j,I,h⟩:=aA h
 refine rd1 mixed (aKU _ _ _ I) ?_
 refine an (sq (rn ?_))
 refine an (sq (sq ?_))
 refine cu (λs=>s.t 2=vP 2 1 0/\s.t 4=vP 4 1 0/\s.t 7=vP 7 1 0/\s.t 10=vI j.2.1/\s.t 11=vB j.2.2/\s.h 2=(1,oX 56 (M.aKc.en p0))/\s.h 4=(1,WT)/\s.h 7=(1,oB 56 [cS x1.Name,cI x1.aKb,.row 300013 1,.row 400013 1])/\s.h 300013=(1,.row 66 3 (List.map M.aD.en (List.set x1.aKm x3.toNat j.1)) false)/\s.h 400013=(1,oW 248 2 M.aV.en x1.aKz)/\True) ?_
 rintro az f20
 rcases gK (!j.2.2)with ah|ah
 ·replace h:=bQ ah h;refine rn ?_;refine an (ct (sq ?_));obtain⟨ba,J,h⟩:=aA h;refine rn1 (c58.1 _ _ J) ?_;refine an (frb 4 2 300055 ?_);refine frb 4 3 400055 ?_;exact rt zR
 replace h:=bP ah h
 obtain⟨U,aq,h⟩:=aA h
 refine rn1 (aBe.1 _ _ aq) ?_
 refine an ?_
 rcases CP (!U)with ai|ai
 ·replace h:=bP ai h;refine cf (sk (an (sq (rn ?_))));refine an (frb 4 2 300013 ?_);refine frb 4 3 400013 ?_;exact rt zR
 replace h:=bQ ai h
 refine ct (sq ?_)
 obtain⟨bd,ar,h⟩:=aA h
 refine rn1 (c58.1 _ _ ar) ?_
 refine an (frb 4 2 300055 ?_)
 refine frb 4 3 400055 ?_
 exact rt zR
instance c61:bU 61 (∀p0 p1 r (h:Bg p0 p1=some r),Sc 61 [aX (M.aKc.en p0),aL M.fA.en p1] [(true,M.aKc.ra r.1),(false,[.any (.sl (List.map enI r.2.1))]),rB r.2.2]):=⟨λp0 p1 r h=>by
 unfold Bg at h
 simp only[EN]
 refine sgn 53 [.cell 4 56,.tmp 5,.tmp 6] func61 λbase wd=> ?_
 refine sq (rn ?_)
 refine an (sq ?_)
 obtain⟨x1,h2,h⟩:=aA h
 refine rn1 (c58.1 _ _ h2) ?_
 refine an (sq (rn ?_))
 refine an (sq (sq ?_))
 obtain⟨V1,eV1⟩:=nmH ((1,oX 56 (M.aKc.en p0)))
 refine cu (λs=>s.t 1=vL M.fA.en p1/\s.t 2=vP 2 1 0/\s.t 4=vP 4 1 0/\s.t 7=vP 7 1 0/\s.t 8=vR 100016 1/\s.h 2=V1/\s.h 4=(1,WT)/\s.h 7=(1,oB 56 [cS x1.Name,cI x1.aKb,.row 300015 1,.row 400015 1])/\s.h 100016=(1,oW 3 1 enI ([]:List Int))/\s.h 300015=(1,oW 66 3 M.aD.en x1.aKm)/\s.h 400015=(1,oW 248 2 M.aV.en x1.aKz)/\True) ?_
 rintro s3 f4
 obtain⟨aw,av,h⟩:=aA h
 rcases gK (!aw)with al|al
 ·replace h:=bQ al h;refine rn1 (aBe.1 _ _ av) ?_;refine an (ct (sq (rn ?_)));refine an (frb 4 2 300015 ?_);refine frb 4 3 400015 ?_;refine frt 5 0 100016 ?_;exact rt zR
 replace h:=bP al h
 refine rn1 (aBe.1 _ _ av) ?_
 refine an ?_
 rcases gK (decide ((List.length p1:Int)>6))with ao|ao
 ·replace h:=bQ ao h;refine ct (sq (rn ?_));refine an (frb 4 2 300015 ?_);refine frb 4 3 400015 ?_;refine frt 5 0 100016 ?_;exact rt zR
 replace h:=bP ao h
 refine cf (sk (an (sq (sq (rn ?_)))))
 refine an (bk (frb 7 2 300015 ?_))
 refine frb 7 3 400015 ?_
 refine HG (λm s=>∃aj:Int,∃ae:ByteArray,∃af:Int,∃ak:List Int,∃ah:List M.aD,∃ai:List M.aV,∃u16:Nat,s.t 2=vP 2 1 0/\s.t 4=vP 4 1 0/\s.t 7=vP 7 1 0/\s.t 8=vR 100016 u16/\s.t 27=vL M.fA.en p1/\s.t 28=vI (List.length p1:Int)/\s.t 29=vI aj/\s.h 2=V1/\s.h 4=(1,WT)/\s.h 7=(1,oB 56 [cS ae,cI af,cL M.aD.en ah,cL M.aV.en ai])/\s.h 100016=(u16,oW 3 1 enI ak)/\uN p0 p1 m aj ae af ak ah ai=some r) aJ ?_ ?_
 ·exact⟨0,x1.Name,x1.aKb,([]:List Int),x1.aKm,x1.aKz,1,zM⟩
 rintro mL1 bd ⟨aj,ae,af,ak,ah,ai,u16,f20,f21,f22,f23,f24,f25,f26,f27,f28,f29,f30,h⟩
 rcases mL1 with _|mL1
 ·exact absurd h (by simp[uN])
 simp only[uN]at h
 refine sq (rn ?_)
 refine an (sq ?_)
 rcases CP (decide (aj<(List.length p1:Int)))with aq|aq
 ·replace h:=bP aq h;refine cf (xt (CO (CL (Gs (an (sq (rn ?_)))))));refine an (frt 5 0 100016 ?_);exact rt zR
 replace h:=bQ aq h
 refine ct (sk (an (sq (bk (sq ?_)))))
 obtain⟨bf,ax,h⟩:=aA h
 obtain⟨bg,bh,bj⟩:=pK ax
 refine rn ?_
 refine an (sq ?_)
 obtain⟨aa,ay,h⟩:=aA h
 refine rn1 (aJw _ _ _ ay) ?_
 refine an (sq (sq (rn ?_)))
 refine an ?_
 rcases gK (!aa.2.2)with ar|ar
 ·replace h:=bQ ar h;refine ct (sq ?_);obtain⟨bl,az,h⟩:=aA h;refine rn1 (c58.1 _ _ az) ?_;refine an (frb 4 2 300043 ?_);refine frb 4 3 400043 ?_;refine frt 5 0 100044 ?_;exact rt zR
 replace h:=bP ar h
 refine cf (sk (an (sq (rn ?_))))
 refine an ?_
 obtain⟨bm,ba,h⟩:=aA h
 refine rn1 ba ?_
 refine ab (an ?_)
 refine cu (λs=>s.t 2=vP 2 1 0/\s.t 4=vP 4 1 0/\s.t 7=vP 7 1 0/\s.t 8=vR 100016 (u16+1)/\s.t 27=vL M.fA.en p1/\s.t 28=vI (List.length p1:Int)/\s.t 29=vI aj/\s.h 2=V1/\s.h 4=(1,WT)/\s.h 7=(1,oX 56 (M.aKc.en aa.1))/\s.h 100016=(u16+1,oW 3 1 enI (ak++[aa.2.1]))/\True) ?_
 rintro bn f45
 refine rn ?_
 exact fB ⟨mL1,wg,IntKind.i64.wrap (aj+1),aa.1.Name,aa.1.aKb,ak++[aa.2.1],aa.1.aKm,aa.1.aKz,u16+1,zM⟩⟩
instance:bU 20 (∀p0 r (h:xU p0=some r),Sc 20 [aX (M.bJ.en p0)] [(true,M.aKc.ra r.1),rI r.2]):=⟨λp0 r h=>by
 unfold xU at h
 simp only[EN]
 refine sgn 47 [.cell 2 56,.tmp 3] func20 λbase wd=> ?_
 refine sq (rn ?_)
 refine an (sq ?_)
 obtain⟨x1,h2,h⟩:=aA h
 refine rn1 (c58.1 _ _ h2) ?_
 refine an (sq ?_)
 obtain⟨x3,h4,h⟩:=aA h
 refine rn1 (c59 _ _ h4) ?_
 refine an (sq (sq (rn ?_)))
 refine an (bk (frb 4 2 300013 ?_))
 refine frb 4 3 400013 ?_
 refine HG (λm s=>∃ai:Int,∃aa:ByteArray,∃ae:Int,∃af:List M.aD,∃ah:List M.aV,s.t 2=vP 2 1 0/\s.t 4=vP 4 1 0/\s.t 5=vR 100017 1/\s.t 20=vR 100017 1/\s.t 21=vI (List.length x3.1:Int)/\s.t 22=vI ai/\s.h 2=(1,WT)/\s.h 4=(1,oB 56 [cS aa,cI ae,cL M.aD.en af,cL M.aV.en ah])/\s.h 100017=(1,oW 22 1 (enL enB) x3.1)/\pD x3 m ai aa ae af ah=some r) aJ ?_ ?_
 ·exact⟨0,x1.Name,x1.aKb,x1.aKm,x1.aKz,zM⟩
 rintro mL1 s5 ⟨ai,aa,ae,af,ah,f6,f7,f8,f9,f10,f11,f12,f13,f14,h⟩
 rcases mL1 with _|mL1
 ·exact absurd h (by simp[pD])
 simp only[pD]at h
 refine sq (rn ?_)
 refine an (sq ?_)
 rcases CP (decide (ai<(List.length x3.1:Int)))with ak|ak
 ·replace h:=bP ak h;refine cf (xt (CO (CL (Gs (an (sq (rn ?_)))))));exact an (rt zR)
 replace h:=bQ ak h
 refine ct (sk (an (sq (bk (sq ?_)))))
 obtain⟨aw,ao,h⟩:=aA h
 obtain⟨ax,ay,az⟩:=pK ao
 refine rn ?_
 refine an (sq ?_)
 obtain⟨aq,ar,h⟩:=aA h
 refine rn1 (c60 _ _ ar) ?_
 refine an (sq (sq (rn ?_)))
 refine an ?_
 rcases gK (!aq.2)with al|al
 ·replace h:=bQ al h;refine ct (sq (rn ?_));exact an (rt zR)
 replace h:=bP al h
 refine cf (sk (an ?_))
 obtain⟨aj,av,h⟩:=aA h
 refine rn1 (c61.1 _ _ _ av) ?_
 refine ab (an (rn ?_))
 exact fB ⟨mL1,wg,IntKind.i64.wrap (ai+1),aj.1.Name,aj.1.aKb,aj.1.aKm,aj.1.aKz,zM⟩⟩
instance:bU 23 (∀p0 p1 r (h:AZ p0 p1=some r),Sc 23 [aX (M.bJ.en p0),aL M.fA.en p1] [(true,M.bJ.rs r.1),rB r.2]):=⟨λp0 p1 r h=>by unfold AZ at h;exact sgo 65 [.cell 4 58,.tmp 5] func23⟩
instance:bU 196 (∀p0 r (h:CY p0=some r),Sc 196 [aX (M.aKe.en p0)] [rI r]):=⟨λp0 r h=>by unfold CY at h;exact sgo 23 [.tmp 2] func196⟩
instance:bU 138 (∀p0 r (h:tG p0=some r),Sc 138 [aX (M.aKe.en p0)] [rB r]):=⟨λp0 r h=>by unfold tG at h;exact sgo 50 [.tmp 2] func138⟩
instance:bU 71 (∀p0 p1 r (h:pX p0 p1=some r),Sc 71 [aX (M.aKe.en p0),aX (M.aKe.en p1)] [(true,M.aKe.rs r.1),rB r.2]):=⟨λp0 p1 r h=>by unfold pX at h;exact sgo 18 [.cell 4 75,.tmp 5] func71⟩
instance:bU 25 (∀p0 p1 r (h:zZ p0 p1=some r),Sc 25 [aX (M.aKe.en p0),aX (M.bJ.en p1)] [(true,M.aKe.rs r.1),rB r.2]):=⟨λp0 p1 r h=>by unfold zZ at h;exact sgo 15 [.cell 4 75,.tmp 5] func25⟩
instance:bU 75 (∀p0 r (h:dF p0=some r),Sc 75 [aX (M.aC.en p0)] [rB r]):=⟨λp0 r h=>by
 have i1:=inv λm s=>∃v8:Int,(s.t 1=vP 1 1 0/\s.t 6=vL M.aKe.en p0.aKf/\s.t 7=vI (List.length p0.aKf:Int)/\s.t 8=vI v8/\s.h 1=(1,oX 26 (M.aC.en p0)))/\kQ p0 m v8=some r
 have e1:=@kQ.eq_2
 unfold dF at h
 exact sgo 36 [.tmp 2] func75⟩
instance:bU 26 (∀p0 p1 r (h:yV p0 p1=some r),Sc 26 [aX (M.aC.en p0),aX (M.aKe.en p1)] [(true,M.aC.rs r.1),rB r.2]):=⟨λp0 p1 r h=>by
 have i1:=λ(x1:M.aC)=>inv λm s=>∃v8:Int,(s.t 2=vP 2 1 0/\s.t 3=vP 3 1 0/\s.t 4=vP 4 1 0/\s.t 6=vP 6 1 0/\s.t 8=vI v8/\s.h 2=(1,oX 26 (M.aC.en p0))/\s.h 3=(1,oX 75 (M.aKe.en p1))/\s.h 4=(1,oB 26 [.nil])/\s.h 6=(1,oB 26 [.row 100010 1])/\s.h 100010=(1,oW 75 24 M.aKe.en x1.aKf))/\nI p0 p1 x1 m v8=some r
 have e1:=@nI.eq_2
 unfold yV at h
 exact sgo 60 [.cell 4 26,.tmp 5] func26⟩
theorem c6(p0 p1 p2 p3 p4 r)(h:yQ p0 p1 p2 p3 p4=some r):Sc 6 [aX (M.aE.en p0),aX (M.bK.en p1),aI p2,aS p3,aI p4] [(true,M.aE.rs r.1),rB r.2]:=by unfold yQ at h;exact sgo 106 [.cell 10 37,.tmp 11] func6
theorem c8(p0 p1 r)(h:uD p0 p1=some r):Sc 8 [aX (M.aE.en p0),aX (M.aE.en p1)] [rB r]:=by
 unfold uD at h
 simp only[EN]
 refine sgn 77 [.tmp 4] func8 λbase wd=> ?_
 refine sq (rn ?_)
 refine an (sq ?_)
 rcases CP (p0.Now==p1.Now)with b1|b1
 ·replace h:=bP b1 h;refine rgo ?_;refine ec 20 ?_;refine ec 20 ?_;refine ec 20 ?_;refine ez ?_;exact an (rt zR)
 replace h:=bQ b1 h
 rcases CP (p0.aK4==p1.aK4)with b2|b2
 ·replace h:=bP b2 h;refine rgo ?_;refine ec 20 ?_;refine ec 20 ?_;refine ec 20 ?_;refine ez ?_;exact an (rt zR)
 replace h:=bQ b2 h
 rcases CP (p0.aKk==p1.aKk)with b3|b3
 ·replace h:=bP b3 h;refine rgo ?_;refine ec 20 ?_;refine ec 20 ?_;refine ec 20 ?_;refine ez ?_;exact an (rt zR)
 replace h:=bQ b3 h
 obtain⟨x4,h5,h⟩:=aA h
 rcases CP x4 with b6|b6
 ·replace h:=bP b6 h;refine rgo ?_;refine ec 20 ?_;refine ec1 20 (c34 _ _ _ h5) ?_;refine ec 20 ?_;refine ez ?_;exact an (rt zR)
 replace h:=bQ b6 h
 obtain⟨x7,h8,h⟩:=aA h
 rcases CP x7 with b9|b9
 ·replace h:=bP b9 h;refine rgo ?_;refine ec 20 ?_;refine ec2 20 (c34 _ _ _ h5) (c35 p0.aKq p1.aKq (λj C=>iB j C) 36 [] (λj C r I=>c36 j C r I) x7 h8) ?_;refine ec 20 ?_;refine ez ?_;exact an (rt zR)
 replace h:=bQ b9 h
 rcases CP (p0.aKn==p1.aKn)with ae|ae
 ·replace h:=bP ae h;refine rgo ?_;refine ec 20 ?_;refine ec2 20 (c34 _ _ _ h5) (c35 p0.aKq p1.aKq (λj C=>iB j C) 36 [] (λj C r I=>c36 j C r I) x7 h8) ?_;refine ec 20 ?_;refine ez ?_;exact an (rt zR)
 replace h:=bQ ae h
 obtain⟨ao,J,h⟩:=aA h
 rcases CP ao with af|af
 ·replace h:=bP af h;refine rgo ?_;refine ec 20 ?_;refine ec2 20 (c34 _ _ _ h5) (c35 p0.aKq p1.aKq (λj C=>iB j C) 36 [] (λj C r I=>c36 j C r I) x7 h8) ?_;refine ec1 20 (c37 _ _ _ J) ?_;refine ez ?_;exact an (rt zR)
 replace h:=bQ af h
 obtain⟨aq,U,h⟩:=aA h
 rcases CP aq with ai|ai
 ·replace h:=bP ai h;refine rgo ?_;refine ec 20 ?_;refine ec2 20 (c34 _ _ _ h5) (c35 p0.aKq p1.aKq (λj C=>iB j C) 36 [] (λj C r I=>c36 j C r I) x7 h8) ?_;refine ec2 20 (c37 _ _ _ J) (c38 _ _ _ U) ?_;refine ez ?_;exact an (rt zR)
 replace h:=bQ ai h
 obtain⟨aj,al,h⟩:=aA h
 rcases CP aj with ak|ak
 ·replace h:=bP ak h;refine rgo ?_;refine ec 20 ?_;refine ec2 20 (c34 _ _ _ h5) (c35 p0.aKq p1.aKq (λj C=>iB j C) 36 [] (λj C r I=>c36 j C r I) x7 h8) ?_;refine ec2 20 (c37 _ _ _ J) (c38 _ _ _ U) ?_;refine ez1 (c39 p0.aK0 p1.aK0 (λj C=>rX j C) 40 [] (λj C r I=>c40 j C r I) aj al) ?_;exact an (rt zR)
 replace h:=bQ ak h
 obtain⟨ar,av,h⟩:=aA h
 refine rgo ?_
 refine ec 20 ?_
 refine ec2 20 (c34 _ _ _ h5) (c35 p0.aKq p1.aKq (λj C=>iB j C) 36 [] (λj C r I=>c36 j C r I) x7 h8) ?_
 refine ec2 20 (c37 _ _ _ J) (c38 _ _ _ U) ?_
 refine ez2 (c39 p0.aK0 p1.aK0 (λj C=>rX j C) 40 [] (λj C r I=>c40 j C r I) aj al) (c41 p0.aKr p1.aKr (λj C=>sO j C) 42 [] (λj C r I=>c42 j C r I) ar av) ?_
 exact an (rt zR)
theorem c12(p0 p1 p2 p3 r)(h:kT p0 p1 p2 p3=some r):Sc 12 [aX (M.aE.en p0),aX (M.bK.en p1),aI p2,aS p3] [rI r]:=by unfold kT at h;exact sgo 52 [.tmp 8] func12
