/-
  Helper text. No conditions.
-/
import Derived.Test.YtjlnkcoeghonfaaGreatRunningPagesWimpl9
set_option linter.all false
namespace Go.Proofs.YtjlnkcoeghonfaaGreat.gen
open Go Go.Sh Tryz
set_option maxRecDepth 20000
set_option maxHeartbeats 4000000
instance:bK 372 (∀p0 r (h:DG p0=some r),Sc 372 [aX (M.Bucket.en p0)] [rI r]):=⟨λp0 r h=>by unfold DG at h;exact sgo 23 [.tmp 2] func372⟩
instance:bK 255 (∀p0 r (h:uN p0=some r),Sc 255 [aX (M.Bucket.en p0)] [rB r]):=⟨λp0 r h=>by unfold uN at h;exact sgo 50 [.tmp 2] func255⟩
instance:bK 142 (∀p0 r (h:dE p0=some r),Sc 142 [aX (M.aC.en p0)] [rB r]):=⟨λp0 r h=>by
 have i1:=inv λm s=>∃v8:Int,(s.t 1=vP 1 1 0/\s.t 6=vL M.Bucket.en p0.Buckets/\s.t 7=vI (List.length p0.Buckets:Int)/\s.t 8=vI v8/\s.h 1=(1,oX 39 (M.aC.en p0)))/\iK p0 m v8=some r
 have e1:=@iK.eq_2
 unfold dE at h
 exact sgo 36 [.tmp 2] func142⟩
instance:bK 47 (∀p0 r (h:Ct p0=some r),Sc 47 [aX (M.aD.en p0)] [rB r]):=⟨λp0 r h=>by
 have i1:=inv λm s=>∃ae:Int,(s.t 1=vP 1 1 0/\s.t 54=vL M.bO.en p0.aLf/\s.t 55=vI (List.length p0.aLf:Int)/\s.t 56=vI ae/\s.h 1=(1,oX 50 (M.aD.en p0)))/\iX p0 m ae=some r
 have e1:=@iX.eq_2
 have i2:=inv λm s=>∃aa:Int,(s.t 1=vP 1 1 0/\s.t 99=vL M.aLa.en p0.aLp/\s.t 100=vI (List.length p0.aLp:Int)/\s.t 101=vI aa/\s.h 1=(1,oX 50 (M.aD.en p0)))/\lU p0 m aa=some r
 have e2:=@lU.eq_2
 unfold Ct at h
 exact sgo 126 [.tmp 2] func47⟩
instance:bK 50 (∀p0 p1 p2 r (h:Db p0 p1 p2=some r),Sc 50 [aX (M.aD.en p0),aX (M.bO.en p1),aS p2] [(true,M.aLb.rs r)]):=⟨λp0 p1 p2 r h=>by unfold Db at h;exact sgo 39 [.cell 6 107] func50⟩
theorem aKj(p0 p1 r)(h:Eg p0 p1=some r):Sc 388 [aX (M.aLS.en p0),aX (M.gN.en p1)] [(true,M.aLS.ra r.1),rI r.2.1,rB r.2.2]:=by
 unfold Eg at h
 simp only[EN]
 refine sgn 58 [.cell 4 70,.tmp 5,.tmp 6] func388 λbase wd=> ?_
 refine sq (rn ?_)
 refine an (sq ?_)
 obtain⟨x1,h2,h⟩:=aA h
 refine rn1 (aBi.1 _ _ h2) ?_
 refine an (sq ?_)
 obtain⟨x3,h4,h⟩:=aA h
 refine rn1 (aEz.1 _ _ _ h4) ?_
 refine an (sq (sq ?_))
 obtain⟨x5,h6,h⟩:=aA h
 rcases dX (!x5)with b7|b7
 ·replace h:=bN b7 h;refine rn1 (aBU.1 _ _ h6) ?_;refine an (ct (sq (rn ?_)));refine an (frb 4 2 300013 ?_);refine frb 4 3 400013 ?_;exact rt zR
 replace h:=bM b7 h
 obtain⟨x8,h9,h⟩:=aA h
 rcases dX (!x8)with ae|ae
 ·replace h:=bN ae h;refine rn2 (aBU.1 _ _ h6) (aEW.1 _ _ h9) ?_;refine an (ct (sq (rn ?_)));refine an (frb 4 2 300013 ?_);refine frb 4 3 400013 ?_;exact rt zR
 replace h:=bM ae h
 refine rn2 (aBU.1 _ _ h6) (aEW.1 _ _ h9) ?_
 refine an ?_
 rcases dX (decide (x3<0))with af|af
 ·replace h:=bN af h;refine ct (sq (rn ?_));refine an (frb 4 2 300013 ?_);refine frb 4 3 400013 ?_;exact rt zR
 replace h:=bM af h
 refine cf (sk (an (sq ?_)))
 obtain⟨av,C,h⟩:=aA h
 obtain⟨aw,ax,ay⟩:=nJ C
 obtain⟨j,I,h⟩:=aA h
 refine rd1 mixed (aK7 _ _ _ I) ?_
 refine an (sq (rn ?_))
 refine an (sq (sq ?_))
 refine cu (λs=>s.t 2=vP 2 1 0/\s.t 4=vP 4 1 0/\s.t 7=vP 7 1 0/\s.t 10=vI j.2.1/\s.t 11=vB j.2.2/\s.h 2=(1,oX 70 (M.aLS.en p0))/\s.h 4=(1,WI)/\s.h 7=(1,oB 70 [cS x1.Name,cI x1.aLT,.row 300013 1,.row 400013 1])/\s.h 300013=(1,.row 75 3 (List.map M.aE.en (List.set x1.aLc x3.toNat j.1)) false)/\s.h 400013=(1,oW 382 2 M.aU.en x1.aLm)/\True) ?_
 rintro az f20
 rcases dX (!j.2.2)with ah|ah
 ·replace h:=bN ah h;refine rn ?_;refine an (ct (sq ?_));obtain⟨ba,J,h⟩:=aA h;refine rn1 (aBi.1 _ _ J) ?_;refine an (frb 4 2 300055 ?_);refine frb 4 3 400055 ?_;exact rt zR
 replace h:=bM ah h
 obtain⟨U,aq,h⟩:=aA h
 refine rn1 (aBU.1 _ _ aq) ?_
 refine an ?_
 rcases Dz (!U)with ai|ai
 ·replace h:=bM ai h;refine cf (sk (an (sq (rn ?_))));refine an (frb 4 2 300013 ?_);refine frb 4 3 400013 ?_;exact rt zR
 replace h:=bN ai h
 refine ct (sq ?_)
 obtain⟨bd,ar,h⟩:=aA h
 refine rn1 (aBi.1 _ _ ar) ?_
 refine an (frb 4 2 300055 ?_)
 refine frb 4 3 400055 ?_
 exact rt zR
instance aEg:bK 269 (∀p0 p1 r (h:B1 p0 p1=some r),Sc 269 [aX (M.aLS.en p0),aL M.gN.en p1] [(true,M.aLS.ra r.1),(false,[.any (.sl (List.map enI r.2.1))]),rB r.2.2]):=⟨λp0 p1 r h=>by
 unfold B1 at h
 simp only[EN]
 refine sgn 53 [.cell 4 70,.tmp 5,.tmp 6] func269 λbase wd=> ?_
 refine sq (rn ?_)
 refine an (sq ?_)
 obtain⟨x1,h2,h⟩:=aA h
 refine rn1 (aBi.1 _ _ h2) ?_
 refine an (sq (rn ?_))
 refine an (sq (sq ?_))
 obtain⟨V1,eV1⟩:=nmH ((1,oX 70 (M.aLS.en p0)))
 refine cu (λs=>s.t 1=vL M.gN.en p1/\s.t 2=vP 2 1 0/\s.t 4=vP 4 1 0/\s.t 7=vP 7 1 0/\s.t 8=vR 100016 1/\s.h 2=V1/\s.h 4=(1,WI)/\s.h 7=(1,oB 70 [cS x1.Name,cI x1.aLT,.row 300015 1,.row 400015 1])/\s.h 100016=(1,oW 3 1 enI ([]:List Int))/\s.h 300015=(1,oW 75 3 M.aE.en x1.aLc)/\s.h 400015=(1,oW 382 2 M.aU.en x1.aLm)/\True) ?_
 rintro s3 f4
 obtain⟨aw,av,h⟩:=aA h
 rcases dX (!aw)with al|al
 ·replace h:=bN al h;refine rn1 (aBU.1 _ _ av) ?_;refine an (ct (sq (rn ?_)));refine an (frb 4 2 300015 ?_);refine frb 4 3 400015 ?_;refine frt 5 0 100016 ?_;exact rt zR
 replace h:=bM al h
 refine rn1 (aBU.1 _ _ av) ?_
 refine an ?_
 rcases dX (decide ((List.length p1:Int)>6))with ao|ao
 ·replace h:=bN ao h;refine ct (sq (rn ?_));refine an (frb 4 2 300015 ?_);refine frb 4 3 400015 ?_;refine frt 5 0 100016 ?_;exact rt zR
 replace h:=bM ao h
 refine cf (sk (an (sq (sq (rn ?_)))))
 refine an (bk (frb 7 2 300015 ?_))
 refine frb 7 3 400015 ?_
 refine Hn (λm s=>∃aj:Int,∃ae:ByteArray,∃af:Int,∃ak:List Int,∃ah:List M.aE,∃ai:List M.aU,∃u16:Nat,s.t 2=vP 2 1 0/\s.t 4=vP 4 1 0/\s.t 7=vP 7 1 0/\s.t 8=vR 100016 u16/\s.t 27=vL M.gN.en p1/\s.t 28=vI (List.length p1:Int)/\s.t 29=vI aj/\s.h 2=V1/\s.h 4=(1,WI)/\s.h 7=(1,oB 70 [cS ae,cI af,cL M.aE.en ah,cL M.aU.en ai])/\s.h 100016=(u16,oW 3 1 enI ak)/\vZ p0 p1 m aj ae af ak ah ai=some r) aH ?_ ?_
 ·exact⟨0,x1.Name,x1.aLT,([]:List Int),x1.aLc,x1.aLm,1,zM⟩
 rintro mL1 bd ⟨aj,ae,af,ak,ah,ai,u16,f20,f21,f22,f23,f24,f25,f26,f27,f28,f29,f30,h⟩
 rcases mL1 with _|mL1
 ·exact absurd h (by simp[vZ])
 simp only[vZ]at h
 refine sq (rn ?_)
 refine an (sq ?_)
 rcases Dz (decide (aj<(List.length p1:Int)))with aq|aq
 ·replace h:=bM aq h;refine cf (xt (Da (CW (GI (an (sq (rn ?_)))))));refine an (frt 5 0 100016 ?_);exact rt zR
 replace h:=bN aq h
 refine ct (sk (an (sq (bk (sq ?_)))))
 obtain⟨bf,ax,h⟩:=aA h
 obtain⟨bg,bh,bj⟩:=nJ ax
 refine rn ?_
 refine an (sq ?_)
 obtain⟨aa,ay,h⟩:=aA h
 refine rn1 (aKj _ _ _ ay) ?_
 refine an (sq (sq (rn ?_)))
 refine an ?_
 rcases dX (!aa.2.2)with ar|ar
 ·replace h:=bN ar h;refine ct (sq ?_);obtain⟨bl,az,h⟩:=aA h;refine rn1 (aBi.1 _ _ az) ?_;refine an (frb 4 2 300043 ?_);refine frb 4 3 400043 ?_;refine frt 5 0 100044 ?_;exact rt zR
 replace h:=bM ar h
 refine cf (sk (an (sq (rn ?_))))
 refine an ?_
 obtain⟨bm,ba,h⟩:=aA h
 refine rn1 ba ?_
 refine ab (an ?_)
 refine cu (λs=>s.t 2=vP 2 1 0/\s.t 4=vP 4 1 0/\s.t 7=vP 7 1 0/\s.t 8=vR 100016 (u16+1)/\s.t 27=vL M.gN.en p1/\s.t 28=vI (List.length p1:Int)/\s.t 29=vI aj/\s.h 2=V1/\s.h 4=(1,WI)/\s.h 7=(1,oX 70 (M.aLS.en aa.1))/\s.h 100016=(u16+1,oW 3 1 enI (ak++[aa.2.1]))/\True) ?_
 rintro bn f45
 refine rn ?_
 exact cZ ⟨mL1,wi,IntKind.i64.wrap (aj+1),aa.1.Name,aa.1.aLT,ak++[aa.2.1],aa.1.aLc,aa.1.aLm,u16+1,zM⟩⟩
instance:bK 156 (∀p0 r (h:yZ p0=some r),Sc 156 [aX (M.bP.en p0)] [(true,M.aLS.ra r.1),rI r.2]):=⟨λp0 r h=>by
 unfold yZ at h
 simp only[EN]
 refine sgn 47 [.cell 2 70,.tmp 3] func156 λbase wd=> ?_
 refine sq (rn ?_)
 refine an (sq ?_)
 obtain⟨x1,h2,h⟩:=aA h
 refine rn1 (aBi.1 _ _ h2) ?_
 refine an (sq ?_)
 obtain⟨x3,h4,h⟩:=aA h
 refine rn1 (aLI _ _ h4) ?_
 refine an (sq (sq (rn ?_)))
 refine an (bk (frb 4 2 300013 ?_))
 refine frb 4 3 400013 ?_
 refine Hn (λm s=>∃ai:Int,∃aa:ByteArray,∃ae:Int,∃af:List M.aE,∃ah:List M.aU,s.t 2=vP 2 1 0/\s.t 4=vP 4 1 0/\s.t 5=vR 100017 1/\s.t 20=vR 100017 1/\s.t 21=vI (List.length x3.1:Int)/\s.t 22=vI ai/\s.h 2=(1,WI)/\s.h 4=(1,oB 70 [cS aa,cI ae,cL M.aE.en af,cL M.aU.en ah])/\s.h 100017=(1,oW 58 1 (enL enB) x3.1)/\pU x3 m ai aa ae af ah=some r) aH ?_ ?_
 ·exact⟨0,x1.Name,x1.aLT,x1.aLc,x1.aLm,zM⟩
 rintro mL1 s5 ⟨ai,aa,ae,af,ah,f6,f7,f8,f9,f10,f11,f12,f13,f14,h⟩
 rcases mL1 with _|mL1
 ·exact absurd h (by simp[pU])
 simp only[pU]at h
 refine sq (rn ?_)
 refine an (sq ?_)
 rcases Dz (decide (ai<(List.length x3.1:Int)))with ak|ak
 ·replace h:=bM ak h;refine cf (xt (Da (CW (GI (an (sq (rn ?_)))))));exact an (rt zR)
 replace h:=bN ak h
 refine ct (sk (an (sq (bk (sq ?_)))))
 obtain⟨aw,ao,h⟩:=aA h
 obtain⟨ax,ay,az⟩:=nJ ao
 refine rn ?_
 refine an (sq ?_)
 obtain⟨aq,ar,h⟩:=aA h
 refine rn1 (aK0 _ _ ar) ?_
 refine an (sq (sq (rn ?_)))
 refine an ?_
 rcases dX (!aq.2)with al|al
 ·replace h:=bN al h;refine ct (sq (rn ?_));exact an (rt zR)
 replace h:=bM al h
 refine cf (sk (an ?_))
 obtain⟨aj,av,h⟩:=aA h
 refine rn1 (aEg.1 _ _ _ av) ?_
 refine ab (an (rn ?_))
 exact cZ ⟨mL1,wi,IntKind.i64.wrap (ai+1),aj.1.Name,aj.1.aLT,aj.1.aLc,aj.1.aLm,zM⟩⟩
instance:bK 53 (∀p0 p1 p2 p3 r (h:C7 p0 p1 p2 p3=some r),Sc 53 [aX (M.aD.en p0),aX (M.bO.en p1),aI p2,aS p3] [rI r]):=⟨λp0 p1 p2 p3 r h=>by unfold C7 at h;exact sgo 52 [.tmp 8] func53⟩
instance:bK 160 (∀p0 p1 r (h:BI p0 p1=some r),Sc 160 [aX (M.bP.en p0),aL M.gN.en p1] [(true,M.bP.rs r.1),rB r.2]):=⟨λp0 p1 r h=>by unfold BI at h;exact sgo 65 [.cell 4 72,.tmp 5] func160⟩
instance:bK 279 (∀p0 p1 r (h:rP p0 p1=some r),Sc 279 [aX (M.Bucket.en p0),aX (M.Bucket.en p1)] [(true,M.Bucket.rs r.1),rB r.2]):=⟨λp0 p1 r h=>by unfold rP at h;exact sgo 18 [.cell 4 84,.tmp 5] func279⟩
instance:bK 162 (∀p0 p1 r (h:AN p0 p1=some r),Sc 162 [aX (M.Bucket.en p0),aX (M.bP.en p1)] [(true,M.Bucket.rs r.1),rB r.2]):=⟨λp0 p1 r h=>by unfold AN at h;exact sgo 15 [.cell 4 84,.tmp 5] func162⟩
instance:bK 163 (∀p0 p1 r (h:Ag p0 p1=some r),Sc 163 [aX (M.aC.en p0),aX (M.Bucket.en p1)] [(true,M.aC.rs r.1),rB r.2]):=⟨λp0 p1 r h=>by
 have i1:=λ(x1:M.aC)=>inv λm s=>∃v8:Int,(s.t 2=vP 2 1 0/\s.t 3=vP 3 1 0/\s.t 4=vP 4 1 0/\s.t 6=vP 6 1 0/\s.t 8=vI v8/\s.h 2=(1,oX 39 (M.aC.en p0))/\s.h 3=(1,oX 84 (M.Bucket.en p1))/\s.h 4=(1,oB 39 [.nil])/\s.h 6=(1,oB 39 [.row 100010 1])/\s.h 100010=(1,oW 84 24 M.Bucket.en x1.Buckets))/\nV p0 p1 x1 m v8=some r
 have e1:=@nV.eq_2
 unfold Ag at h
 exact sgo 60 [.cell 4 39,.tmp 5] func163⟩
instance:bK 54 (∀p0 p1 p2 p3 p4 r (h:Cb p0 p1 p2 p3 p4=some r),Sc 54 [aX (M.aD.en p0),aX (M.bO.en p1),aI p2,aS p3,aI p4] [(true,M.aD.rs r.1),rB r.2]):=⟨λp0 p1 p2 p3 p4 r h=>by unfold Cb at h;exact sgo 106 [.cell 10 50,.tmp 11] func54⟩
instance:bK 284 (∀p0 r (h:Dl p0=some r),Sc 284 [aX (M.aG.en p0)] [(true,M.aE.rs r)]):=⟨λp0 r h=>by unfold Dl at h;exact sgo 10 [.cell 2 75] func284⟩
instance:bK 164 (∀p0 p1 p2 p3 r (h:Bn p0 p1 p2 p3=some r),Sc 164 [aX (M.aG.en p0),aX (M.bD.en p1),aS p2,aI p3] [(true,M.aG.rs r.1),rB r.2]):=⟨λp0 p1 p2 p3 r h=>by unfold Bn at h;exact sgo 61 [.cell 8 82,.tmp 9] func164⟩
instance:bK 165 (∀p0 p1 r (h:uJ p0 p1=some r),Sc 165 [aX (M.Bucket.en p0),aX (M.aG.en p1)] [(true,M.Bucket.rs r.1),rB r.2]):=⟨λp0 p1 r h=>by unfold uJ at h;exact sgo 15 [.cell 4 84,.tmp 5] func165⟩
instance:bK 55 (∀p0 p1 p2 p3 p4 r (h:CL p0 p1 p2 p3 p4=some r),Sc 55 [aX (M.aD.en p0),aX (M.bO.en p1),aI p2,aS p3,aI p4] [(true,M.aD.rs r.1),rB r.2]):=⟨λp0 p1 p2 p3 p4 r h=>by unfold CL at h;exact sgo 72 [.cell 10 50,.tmp 11] func55⟩
instance c9:bK 9 (∀p0 p1 r (h:iP p0 p1=some r),Sc 9 [aX (M.aD.en p0),aI p1] [(true,M.aD.rs r.1),rI r.2]):=⟨λp0 p1 r h=>by unfold iP at h;exact sgo 119 [.cell 4 50,.tmp 5] func9⟩
theorem c17(p0 p1 r)(h:rD p0 p1=some r):Sc 17 [aX (M.aD.en p0),aX (M.aD.en p1)] [rB r]:=by
 unfold rD at h
 simp only[EN]
 refine sgn 77 [.tmp 4] func17 λbase wd=> ?_
 refine sq (rn ?_)
 refine an (sq ?_)
 rcases Dz (p0.Now==p1.Now)with b1|b1
 ·replace h:=bM b1 h;refine rgo ?_;refine ec 20 ?_;refine ec 20 ?_;refine ec 20 ?_;refine ez ?_;exact an (rt zR)
 replace h:=bN b1 h
 rcases Dz (p0.aLt==p1.aLt)with b2|b2
 ·replace h:=bM b2 h;refine rgo ?_;refine ec 20 ?_;refine ec 20 ?_;refine ec 20 ?_;refine ez ?_;exact an (rt zR)
 replace h:=bN b2 h
 rcases Dz (p0.aLZ==p1.aLZ)with b3|b3
 ·replace h:=bM b3 h;refine rgo ?_;refine ec 20 ?_;refine ec 20 ?_;refine ec 20 ?_;refine ez ?_;exact an (rt zR)
 replace h:=bN b3 h
 obtain⟨x4,h5,h⟩:=aA h
 rcases Dz x4 with b6|b6
 ·replace h:=bM b6 h;refine rgo ?_;refine ec 20 ?_;refine ec1 20 (c78 _ _ _ h5) ?_;refine ec 20 ?_;refine ez ?_;exact an (rt zR)
 replace h:=bN b6 h
 obtain⟨x7,h8,h⟩:=aA h
 rcases Dz x7 with b9|b9
 ·replace h:=bM b9 h;refine rgo ?_;refine ec 20 ?_;refine ec2 20 (c78 _ _ _ h5) (c79 p0.aLf p1.aLf (λj C=>iQ j C) 80 [] (λj C r I=>c80 j C r I) x7 h8) ?_;refine ec 20 ?_;refine ez ?_;exact an (rt zR)
 replace h:=bN b9 h
 rcases Dz (p0.aLd==p1.aLd)with ae|ae
 ·replace h:=bM ae h;refine rgo ?_;refine ec 20 ?_;refine ec2 20 (c78 _ _ _ h5) (c79 p0.aLf p1.aLf (λj C=>iQ j C) 80 [] (λj C r I=>c80 j C r I) x7 h8) ?_;refine ec 20 ?_;refine ez ?_;exact an (rt zR)
 replace h:=bN ae h
 obtain⟨ao,J,h⟩:=aA h
 rcases Dz ao with af|af
 ·replace h:=bM af h;refine rgo ?_;refine ec 20 ?_;refine ec2 20 (c78 _ _ _ h5) (c79 p0.aLf p1.aLf (λj C=>iQ j C) 80 [] (λj C r I=>c80 j C r I) x7 h8) ?_;refine ec1 20 (c81 _ _ _ J) ?_;refine ez ?_;exact an (rt zR)
 replace h:=bN af h
 obtain⟨aq,U,h⟩:=aA h
 rcases Dz aq with ai|ai
 ·replace h:=bM ai h;refine rgo ?_;refine ec 20 ?_;refine ec2 20 (c78 _ _ _ h5) (c79 p0.aLf p1.aLf (λj C=>iQ j C) 80 [] (λj C r I=>c80 j C r I) x7 h8) ?_;refine ec2 20 (c81 _ _ _ J) (c82 _ _ _ U) ?_;refine ez ?_;exact an (rt zR)
 replace h:=bN ai h
 obtain⟨aj,al,h⟩:=aA h
 rcases Dz aj with ak|ak
 ·replace h:=bM ak h;refine rgo ?_;refine ec 20 ?_;refine ec2 20 (c78 _ _ _ h5) (c79 p0.aLf p1.aLf (λj C=>iQ j C) 80 [] (λj C r I=>c80 j C r I) x7 h8) ?_;refine ec2 20 (c81 _ _ _ J) (c82 _ _ _ U) ?_;refine ez1 (c83 p0.aLp p1.aLp (λj C=>sV j C) 84 [] (λj C r I=>c84 j C r I) aj al) ?_;exact an (rt zR)
 replace h:=bN ak h
 obtain⟨ar,av,h⟩:=aA h
 refine rgo ?_
 refine ec 20 ?_
 refine ec2 20 (c78 _ _ _ h5) (c79 p0.aLf p1.aLf (λj C=>iQ j C) 80 [] (λj C r I=>c80 j C r I) x7 h8) ?_
 refine ec2 20 (c81 _ _ _ J) (c82 _ _ _ U) ?_
 refine ez2 (c83 p0.aLp p1.aLp (λj C=>sV j C) 84 [] (λj C r I=>c84 j C r I) aj al) (c85 p0.aLh p1.aLh (λj C=>tQ j C) 86 [] (λj C r I=>c86 j C r I) ar av) ?_
 exact an (rt zR)
theorem c14(p0 p1 r)(h:DT p0 p1=some r):Sc 14 [aX (M.aD.en p0),aI p1] [(true,M.aD.rs r)]:=by
 have i1:=G8 [.b 5 3 7050000 84 24,.b 5 4 7050001 91 11,.b 5 6 7050002 144 4,.b 5 7 7050003 147 3,.b 5 8 7050004 151 4,.b 5 9 7050005 156 5] λm s=>∃v6:Int,∃aw:Int,∃ax:Bool,∃ay:Int,∃az:Int,∃j:List M.Bucket,∃C:List M.bO,∃I:List M.uY,∃J:List M.Fy,∃U:List M.aLa,∃aj:List M.aLj,∃ak:Nat,∃al:Nat,∃ao:Nat,∃aq:Nat,∃ar:Nat,∃av:Nat,(s.t 1=vI p1/\s.t 4=vP 4 1 0/\s.t 5=vP 5 1 0/\s.t 6=vI v6/\s.h 4=(1,Vo)/\s.h 5=(1,oB 50 [cI aw,cB ax,cI ay,.row 7050000 ak,.row 7050001 al,cI az,.row 7050002 ao,.row 7050003 aq,.row 7050004 ar,.row 7050005 av])/\s.h 7050000=(ak,oW 84 24 M.Bucket.en j)/\s.h 7050001=(al,oW 91 11 M.bO.en C)/\s.h 7050002=(ao,oW 144 4 M.uY.en I)/\s.h 7050003=(aq,oW 147 3 M.Fy.en J)/\s.h 7050004=(ar,oW 151 4 M.aLa.en U)/\s.h 7050005=(av,oW 156 5 M.aLj.en aj))/\iV p1 m v6 aw ax ay az j C I J U aj=some r
 have e1:=@iV.eq_2
 unfold DT at h
 exact sgo 20 [.cell 4 50] func14
