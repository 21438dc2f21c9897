/-
  Helper text. No conditions.
-/
import Derived.Test.YtjlnkcoeghonfaaGreatStepPageWimpl4
set_option linter.all false
namespace Go.Proofs.YtjlnkcoeghonfaaGreat.gen
open Go Go.Sh
set_option maxRecDepth 20000
set_option maxHeartbeats 4000000
instance:aZ 372 (∀p0 r (h:Cs p0=some r),Sc 372 [aX (M.aJa.en p0)] [rI r]):=⟨λp0 r h=>by unfold Cs at h;exact sgo 23 [.tmp 2] Tryz.func372⟩
instance:aZ 255 (∀p0 r (h:oY p0=some r),Sc 255 [aX (M.aJa.en p0)] [rB r]):=⟨λp0 r h=>by unfold oY at h;exact sgo 50 [.tmp 2] Tryz.func255⟩
instance:aZ 142 (∀p0 r (h:cR p0=some r),Sc 142 [aX (M.aC.en p0)] [rB r]):=⟨λp0 r h=>by
 have i1:=inv λm s=>∃v8:Int,(s.t 1=vP 1 1 0/\s.t 6=vL M.aJa.en p0.aJh/\s.t 7=vI (List.length p0.aJh:Int)/\s.t 8=vI v8/\s.h 1=(1,oX 39 (M.aC.en p0)))/\fW p0 m v8=some r
 have e1:=@fW.eq_2
 unfold cR at h
 exact sgo 36 [.tmp 2] Tryz.func142⟩
instance:aZ 47 (∀p0 r (h:Au p0=some r),Sc 47 [aX (M.World.en p0)] [rB r]):=⟨λp0 r h=>by
 have i1:=inv λm s=>∃ae:Int,(s.t 1=vP 1 1 0/\s.t 54=vL M.bD.en p0.aJu/\s.t 55=vI (List.length p0.aJu:Int)/\s.t 56=vI ae/\s.h 1=(1,oX 50 (M.World.en p0)))/\fD p0 m ae=some r
 have e1:=@fD.eq_2
 have i2:=inv λm s=>∃aa:Int,(s.t 1=vP 1 1 0/\s.t 99=vL M.aJj.en p0.aJ6/\s.t 100=vI (List.length p0.aJ6:Int)/\s.t 101=vI aa/\s.h 1=(1,oX 50 (M.World.en p0)))/\iJ p0 m aa=some r
 have e2:=@iJ.eq_2
 unfold Au at h
 exact sgo 126 [.tmp 2] Tryz.func47⟩
instance:aZ 50 (∀p0 p1 p2 r (h:BC p0 p1 p2=some r),Sc 50 [aX (M.World.en p0),aX (M.bD.en p1),aS p2] [(true,M.aJg.rs r)]):=⟨λp0 p1 p2 r h=>by unfold BC at h;exact sgo 39 [.cell 6 107] Tryz.func50⟩
theorem aIj(p0 p1 r)(h:Di p0 p1=some r):Sc 388 [aX (M.aJb.en p0),aX (M.Op.en p1)] [(true,M.aJb.ra r.1),rI r.2.1,rB r.2.2]:=by
 unfold Di at h
 simp only[EN]
 refine sgn 58 [.cell 4 70,.tmp 5,.tmp 6] Tryz.func388 λbase wd => ?_
 refine sq (rn ?_)
 refine an (sq ?_)
 obtain⟨x1,h2,h⟩:=bind_some h
 refine rn1 (YY.1 _ _ h2) ?_
 refine an (sq ?_)
 obtain⟨x3,h4,h⟩:=bind_some h
 refine rn1 (aBW.1 _ _ _ h4) ?_
 refine an (sq (sq ?_))
 obtain⟨x5,h6,h⟩:=bind_some h
 rcases cK (!x5)with b7 | b7
 ·replace h:=bJ b7 h;refine rn1 (YK.1 _ _ h6) ?_;refine an (ct (sq (rn ?_)));refine an (frb 4 2 300013 ?_);refine frb 4 3 400013 ?_;refine rt ?_;cases h;simp[Ret,TB,EN, *]
 replace h:=bI b7 h
 obtain⟨x8,h9,h⟩:=bind_some h
 rcases cK (!x8)with ae | ae
 ·replace h:=bJ ae h;refine rn2 (YK.1 _ _ h6) (aA0.1 _ _ h9) ?_;refine an (ct (sq (rn ?_)));refine an (frb 4 2 300013 ?_);refine frb 4 3 400013 ?_;refine rt ?_;cases h;simp[Ret,TB,EN, *]
 replace h:=bI ae h
 refine rn2 (YK.1 _ _ h6) (aA0.1 _ _ h9) ?_
 refine an ?_
 rcases cK (decide (x3<0))with af | af
 ·replace h:=bJ af h;refine ct (sq (rn ?_));refine an (frb 4 2 300013 ?_);refine frb 4 3 400013 ?_;refine rt ?_;cases h;simp[Ret,TB,EN, *]
 replace h:=bI af h
 refine cf (sk (an (sq ?_)))
 obtain⟨av,C,h⟩:=bind_some h
 obtain⟨aw,ax,ay⟩:=aU C
 obtain⟨j,I,h⟩:=bind_some h
 refine rd1 mixed (aJC _ _ _ I) ?_
 refine an (sq (rn ?_))
 refine an (sq (sq ?_))
 refine cu (λs=>s.t 2=vP 2 1 0/\s.t 4=vP 4 1 0/\s.t 7=vP 7 1 0/\s.t 10=vI j.2.1/\s.t 11=vB j.2.2/\s.h 2=(1,oX 70 (M.aJb.en p0))/\s.h 4=(1,W8)/\s.h 7=(1,oB 70 [cS x1.Name,cI x1.aJd,.row 300013 1,.row 400013 1])/\s.h 300013=(1,.row 75 3 (List.map M.aD.en (List.set x1.aJm x3.toNat j.1)) false)/\s.h 400013=(1,oW 382 2 M.aG.en x1.aJw)/\True) ?_
 rintro az f20
 rcases cK (!j.2.2)with ah | ah
 ·replace h:=bJ ah h;refine rn ?_;refine an (ct (sq ?_));obtain⟨ba,J,h⟩:=bind_some h;refine rn1 (YY.1 _ _ J) ?_;refine an (frb 4 2 300055 ?_);refine frb 4 3 400055 ?_;refine rt ?_;cases h;simp[Ret,TB,EN, *]
 replace h:=bI ah h
 obtain⟨U,aq,h⟩:=bind_some h
 refine rn1 (YK.1 _ _ aq) ?_
 refine an ?_
 rcases GB (!U)with ai | ai
 ·replace h:=bI ai h;refine cf (sk (an (sq (rn ?_))));refine an (frb 4 2 300013 ?_);refine frb 4 3 400013 ?_;refine rt ?_;cases h;simp[Ret,TB,EN, *]
 replace h:=bJ ai h
 refine ct (sq ?_)
 obtain⟨bd,ar,h⟩:=bind_some h
 refine rn1 (YY.1 _ _ ar) ?_
 refine an (frb 4 2 300055 ?_)
 refine frb 4 3 400055 ?_
 refine rt ?_
 cases h
 simp[Ret,TB,EN, *]
instance aA5:aZ 269 (∀p0 p1 r (h:yT p0 p1=some r),Sc 269 [aX (M.aJb.en p0),aL M.Op.en p1] [(true,M.aJb.ra r.1),(false,[.any (.sl (List.map enI r.2.1))]),rB r.2.2]):=⟨λp0 p1 r h=>by
 unfold yT at h
 simp only[EN]
 refine sgn 53 [.cell 4 70,.tmp 5,.tmp 6] Tryz.func269 λbase wd => ?_
 refine sq (rn ?_)
 refine an (sq ?_)
 obtain⟨x1,h2,h⟩:=bind_some h
 refine rn1 (YY.1 _ _ h2) ?_
 refine an (sq (rn ?_))
 refine an (sq (sq ?_))
 refine cu (λs=>s.t 1=vL M.Op.en p1/\s.t 2=vP 2 1 0/\s.t 4=vP 4 1 0/\s.t 7=vP 7 1 0/\s.t 8=vR 100016 1/\s.h 2=(1,oX 70 (M.aJb.en p0))/\s.h 4=(1,W8)/\s.h 7=(1,oB 70 [cS x1.Name,cI x1.aJd,.row 300015 1,.row 400015 1])/\s.h 100016=(1,oW 3 1 enI ([]:List Int))/\s.h 300015=(1,oW 75 3 M.aD.en x1.aJm)/\s.h 400015=(1,oW 382 2 M.aG.en x1.aJw)/\True) ?_
 rintro s3 f4
 obtain⟨aw,av,h⟩:=bind_some h
 rcases cK (!aw)with al | al
 ·replace h:=bJ al h;refine rn1 (YK.1 _ _ av) ?_;refine an (ct (sq (rn ?_)));refine an (frb 4 2 300015 ?_);refine frb 4 3 400015 ?_;refine frt 5 0 100016 ?_;refine rt ?_;cases h;simp[Ret,TB,EN, *]
 replace h:=bI al h
 refine rn1 (YK.1 _ _ av) ?_
 refine an ?_
 rcases cK (decide ((List.length p1:Int)>6))with ao | ao
 ·replace h:=bJ ao h;refine ct (sq (rn ?_));refine an (frb 4 2 300015 ?_);refine frb 4 3 400015 ?_;refine frt 5 0 100016 ?_;refine rt ?_;cases h;simp[Ret,TB,EN, *]
 replace h:=bI ao h
 refine cf (sk (an (sq (sq (rn ?_)))))
 refine an (bk (frb 7 2 300015 ?_))
 refine frb 7 3 400015 ?_
 refine GD (λm s=>∃aj:Int,∃ae:ByteArray,∃af:Int,∃ak:List Int,∃ah:List M.aD,∃ai:List M.aG,∃u16:Nat,s.t 2=vP 2 1 0/\s.t 4=vP 4 1 0/\s.t 7=vP 7 1 0/\s.t 8=vR 100016 u16/\s.t 27=vL M.Op.en p1/\s.t 28=vI (List.length p1:Int)/\s.t 29=vI aj/\s.h 2=(1,oX 70 (M.aJb.en p0))/\s.h 4=(1,W8)/\s.h 7=(1,oB 70 [cS ae,cI af,cL M.aD.en ah,cL M.aG.en ai])/\s.h 100016=(u16,oW 3 1 enI ak)/\pV p0 p1 m aj ae af ak ah ai=some r) fuel ?_ ?_
 ·refine⟨0,x1.Name,x1.aJd,([]:List Int),x1.aJm,x1.aJw,1,?_,?_,?_,?_,?_,?_,?_,?_,?_,?_,?_,h⟩;all_goals simp +decide only[F,reduceIte,Nat.reduceAdd,qB,qC,EN, *,-h]
 rintro mL1 bd ⟨aj,ae,af,ak,ah,ai,u16,f20,f21,f22,f23,f24,f25,f26,f27,f28,f29,f30,h⟩
 rcases mL1 with _ | mL1
 ·exact absurd h (by simp[pV])
 simp only[pV]at h
 refine sq (rn ?_)
 refine an (sq ?_)
 rcases GB (decide (aj<(List.length p1:Int)))with aq | aq
 ·replace h:=bI aq h;refine cf (xt (EW (EP (It (an (sq (rn ?_)))))));refine an (frt 5 0 100016 ?_);refine rt ?_;cases h;simp[Ret,TB,EN, *]
 replace h:=bJ aq h
 refine ct (sk (an (sq (bk (sq ?_)))))
 obtain⟨bf,ax,h⟩:=bind_some h
 obtain⟨bg,bh,bj⟩:=aU ax
 refine rn ?_
 refine an (sq ?_)
 obtain⟨aa,ay,h⟩:=bind_some h
 refine rn1 (aIj _ _ _ ay) ?_
 refine an (sq (sq (rn ?_)))
 refine an ?_
 rcases cK (!aa.2.2)with ar | ar
 ·replace h:=bJ ar h;refine ct (sq ?_);obtain⟨bl,az,h⟩:=bind_some h;refine rn1 (YY.1 _ _ az) ?_;refine an (frb 4 2 300043 ?_);refine frb 4 3 400043 ?_;refine frt 5 0 100044 ?_;refine rt ?_;cases h;simp[Ret,TB,EN, *]
 replace h:=bI ar h
 refine cf (sk (an (sq (rn ?_))))
 refine an ?_
 obtain⟨bm,ba,h⟩:=bind_some h
 refine rn1 ba ?_
 refine ab (an ?_)
 refine cu (λs=>s.t 2=vP 2 1 0/\s.t 4=vP 4 1 0/\s.t 7=vP 7 1 0/\s.t 8=vR 100016 (u16+1)/\s.t 27=vL M.Op.en p1/\s.t 28=vI (List.length p1:Int)/\s.t 29=vI aj/\s.h 2=(1,oX 70 (M.aJb.en p0))/\s.h 4=(1,W8)/\s.h 7=(1,oX 70 (M.aJb.en aa.1))/\s.h 100016=(u16+1,oW 3 1 enI (ak++[aa.2.1]))/\True) ?_
 rintro bn f45
 refine rn ?_
 refine jU ⟨mL1,jD,IntKind.i64.wrap (aj+1),aa.1.Name,aa.1.aJd,ak++[aa.2.1],aa.1.aJm,aa.1.aJw,u16+1,?_,?_,?_,?_,?_,?_,?_,?_,?_,?_,?_,h⟩
 all_goals simp +decide only[F,reduceIte,Nat.reduceAdd,qB,qC,EN, *,-h]⟩
instance:aZ 156 (∀p0 r (h:sK p0=some r),Sc 156 [aX (M.bL.en p0)] [(true,M.aJb.ra r.1),rI r.2]):=⟨λp0 r h=>by
 unfold sK at h
 simp only[EN]
 refine sgn 47 [.cell 2 70,.tmp 3] Tryz.func156 λbase wd => ?_
 refine sq (rn ?_)
 refine an (sq ?_)
 obtain⟨x1,h2,h⟩:=bind_some h
 refine rn1 (YY.1 _ _ h2) ?_
 refine an (sq ?_)
 obtain⟨x3,h4,h⟩:=bind_some h
 refine rn1 (aJO _ _ h4) ?_
 refine an (sq (sq (rn ?_)))
 refine an (bk (frb 4 2 300013 ?_))
 refine frb 4 3 400013 ?_
 refine GD (λm s=>∃ai:Int,∃aa:ByteArray,∃ae:Int,∃af:List M.aD,∃ah:List M.aG,s.t 2=vP 2 1 0/\s.t 4=vP 4 1 0/\s.t 5=vR 100017 1/\s.t 20=vR 100017 1/\s.t 21=vI (List.length x3.1:Int)/\s.t 22=vI ai/\s.h 2=(1,W8)/\s.h 4=(1,oB 70 [cS aa,cI ae,cL M.aD.en af,cL M.aG.en ah])/\s.h 100017=(1,oW 58 1 (enL enB) x3.1)/\mM x3 m ai aa ae af ah=some r) fuel ?_ ?_
 ·refine⟨0,x1.Name,x1.aJd,x1.aJm,x1.aJw,?_,?_,?_,?_,?_,?_,?_,?_,?_,h⟩;all_goals simp +decide only[F,reduceIte,Nat.reduceAdd,qB,qC,EN, *,-h]
 rintro mL1 s5 ⟨ai,aa,ae,af,ah,f6,f7,f8,f9,f10,f11,f12,f13,f14,h⟩
 rcases mL1 with _ | mL1
 ·exact absurd h (by simp[mM])
 simp only[mM]at h
 refine sq (rn ?_)
 refine an (sq ?_)
 rcases GB (decide (ai<(List.length x3.1:Int)))with ak | ak
 ·replace h:=bI ak h;refine cf (xt (EW (EP (It (an (sq (rn ?_)))))));refine an (rt ?_);cases h;simp[Ret,TB,EN, *]
 replace h:=bJ ak h
 refine ct (sk (an (sq (bk (sq ?_)))))
 obtain⟨aw,ao,h⟩:=bind_some h
 obtain⟨ax,ay,az⟩:=aU ao
 refine rn ?_
 refine an (sq ?_)
 obtain⟨aq,ar,h⟩:=bind_some h
 refine rn1 (aI4 _ _ ar) ?_
 refine an (sq (sq (rn ?_)))
 refine an ?_
 rcases cK (!aq.2)with al | al
 ·replace h:=bJ al h;refine ct (sq (rn ?_));refine an (rt ?_);cases h;simp[Ret,TB,EN, *]
 replace h:=bI al h
 refine cf (sk (an ?_))
 obtain⟨aj,av,h⟩:=bind_some h
 refine rn1 (aA5.1 _ _ _ av) ?_
 refine ab (an (rn ?_))
 refine jU ⟨mL1,jD,IntKind.i64.wrap (ai+1),aj.1.Name,aj.1.aJd,aj.1.aJm,aj.1.aJw,?_,?_,?_,?_,?_,?_,?_,?_,?_,h⟩
 all_goals simp +decide only[F,reduceIte,Nat.reduceAdd,qB,qC,EN, *,-h]⟩
instance:aZ 53 (∀p0 p1 p2 p3 r (h:Bx p0 p1 p2 p3=some r),Sc 53 [aX (M.World.en p0),aX (M.bD.en p1),aI p2,aS p3] [rI r]):=⟨λp0 p1 p2 p3 r h=>by unfold Bx at h;exact sgo 52 [.tmp 8] Tryz.func53⟩
instance:aZ 160 (∀p0 p1 r (h:xV p0 p1=some r),Sc 160 [aX (M.bL.en p0),aL M.Op.en p1] [(true,M.bL.rs r.1),rB r.2]):=⟨λp0 p1 r h=>by unfold xV at h;exact sgo 65 [.cell 4 72,.tmp 5] Tryz.func160⟩
instance:aZ 279 (∀p0 p1 r (h:nA p0 p1=some r),Sc 279 [aX (M.aJa.en p0),aX (M.aJa.en p1)] [(true,M.aJa.rs r.1),rB r.2]):=⟨λp0 p1 r h=>by unfold nA at h;exact sgo 18 [.cell 4 84,.tmp 5] Tryz.func279⟩
instance:aZ 162 (∀p0 p1 r (h:uW p0 p1=some r),Sc 162 [aX (M.aJa.en p0),aX (M.bL.en p1)] [(true,M.aJa.rs r.1),rB r.2]):=⟨λp0 p1 r h=>by unfold uW at h;exact sgo 15 [.cell 4 84,.tmp 5] Tryz.func162⟩
instance:aZ 163 (∀p0 p1 r (h:tO p0 p1=some r),Sc 163 [aX (M.aC.en p0),aX (M.aJa.en p1)] [(true,M.aC.rs r.1),rB r.2]):=⟨λp0 p1 r h=>by
 have i1:=λ(x1:M.aC)=>inv λm s=>∃v8:Int,(s.t 2=vP 2 1 0/\s.t 3=vP 3 1 0/\s.t 4=vP 4 1 0/\s.t 6=vP 6 1 0/\s.t 8=vI v8/\s.h 2=(1,oX 39 (M.aC.en p0))/\s.h 3=(1,oX 84 (M.aJa.en p1))/\s.h 4=(1,oB 39 [.nil])/\s.h 6=(1,oB 39 [.row 100010 1])/\s.h 100010=(1,oW 84 24 M.aJa.en x1.aJh))/\kW p0 p1 x1 m v8=some r
 have e1:=@kW.eq_2
 unfold tO at h
 exact sgo 60 [.cell 4 39,.tmp 5] Tryz.func163⟩
instance:aZ 54 (∀p0 p1 p2 p3 p4 r (h:zM p0 p1 p2 p3 p4=some r),Sc 54 [aX (M.World.en p0),aX (M.bD.en p1),aI p2,aS p3,aI p4] [(true,M.World.rs r.1),rB r.2]):=⟨λp0 p1 p2 p3 p4 r h=>by unfold zM at h;exact sgo 106 [.cell 10 50,.tmp 11] Tryz.func54⟩
instance:aZ 284 (∀p0 r (h:BZ p0=some r),Sc 284 [aX (M.aE.en p0)] [(true,M.aD.rs r)]):=⟨λp0 r h=>by unfold BZ at h;exact sgo 10 [.cell 2 75] Tryz.func284⟩
instance:aZ 164 (∀p0 p1 p2 p3 r (h:wQ p0 p1 p2 p3=some r),Sc 164 [aX (M.aE.en p0),aX (M.Key.en p1),aS p2,aI p3] [(true,M.aE.rs r.1),rB r.2]):=⟨λp0 p1 p2 p3 r h=>by unfold wQ at h;exact sgo 61 [.cell 8 82,.tmp 9] Tryz.func164⟩
instance:aZ 165 (∀p0 p1 r (h:oV p0 p1=some r),Sc 165 [aX (M.aJa.en p0),aX (M.aE.en p1)] [(true,M.aJa.rs r.1),rB r.2]):=⟨λp0 p1 r h=>by unfold oV at h;exact sgo 15 [.cell 4 84,.tmp 5] Tryz.func165⟩
instance:aZ 55 (∀p0 p1 p2 p3 p4 r (h:Ba p0 p1 p2 p3 p4=some r),Sc 55 [aX (M.World.en p0),aX (M.bD.en p1),aI p2,aS p3,aI p4] [(true,M.World.rs r.1),rB r.2]):=⟨λp0 p1 p2 p3 p4 r h=>by unfold Ba at h;exact sgo 72 [.cell 10 50,.tmp 11] Tryz.func55⟩
theorem c9(p0 p1 r)(h:sR p0 p1=some r):Sc 9 [aX (M.World.en p0),aI p1] [(true,M.World.rs r.1),rI r.2]:=by unfold sR at h;exact sgo 119 [.cell 4 50,.tmp 5] Tryz.func9
