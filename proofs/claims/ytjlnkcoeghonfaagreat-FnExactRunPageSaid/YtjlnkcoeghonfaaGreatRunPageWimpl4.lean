/-
  Helper text. No conditions.
-/
import Derived.Test.YtjlnkcoeghonfaaGreatRunPageWimpl3
set_option linter.all false
namespace Go.Proofs.YtjlnkcoeghonfaaGreat.gen
open Go Go.Sh
set_option maxRecDepth 20000
set_option maxHeartbeats 4000000
instance:aW 372 (∀p0 r (h:Cx p0=some r),Sc 372 [aX (M.aJi.en p0)] [rI r]):=⟨λp0 r h=>by unfold Cx at h;exact sgo 23 [.tmp 2] Tryz.func372⟩
instance:aW 255 (∀p0 r (h:pD p0=some r),Sc 255 [aX (M.aJi.en p0)] [rB r]):=⟨λp0 r h=>by unfold pD at h;exact sgo 50 [.tmp 2] Tryz.func255⟩
instance:aW 142 (∀p0 r (h:cR p0=some r),Sc 142 [aX (M.aA.en p0)] [rB r]):=⟨λp0 r h=>by
 have i1:=inv λm s=>∃v8:Int,(s.t 1=vP 1 1 0/\s.t 6=vL M.aJi.en p0.aJp/\s.t 7=vI (List.length p0.aJp:Int)/\s.t 8=vI v8/\s.h 1=(1,oX 39 (M.aA.en p0)))/\fW p0 m v8=some r
 have e1:=@fW.eq_2
 unfold cR at h
 exact sgo 36 [.tmp 2] Tryz.func142⟩
instance:aW 47 (∀p0 r (h:Aw p0=some r),Sc 47 [aX (M.World.en p0)] [rB r]):=⟨λp0 r h=>by
 have i1:=inv λm s=>∃ae:Int,(s.t 1=vP 1 1 0/\s.t 54=vL M.bD.en p0.aJ2/\s.t 55=vI (List.length p0.aJ2:Int)/\s.t 56=vI ae/\s.h 1=(1,oX 50 (M.World.en p0)))/\fE p0 m ae=some r
 have e1:=@fE.eq_2
 have i2:=inv λm s=>∃aa:Int,(s.t 1=vP 1 1 0/\s.t 99=vL M.aJr.en p0.aKE/\s.t 100=vI (List.length p0.aKE:Int)/\s.t 101=vI aa/\s.h 1=(1,oX 50 (M.World.en p0)))/\iL p0 m aa=some r
 have e2:=@iL.eq_2
 unfold Aw at h
 exact sgo 126 [.tmp 2] Tryz.func47⟩
instance:aW 50 (∀p0 p1 p2 r (h:BG p0 p1 p2=some r),Sc 50 [aX (M.World.en p0),aX (M.bD.en p1),aS p2] [(true,M.aJo.rs r)]):=⟨λp0 p1 p2 r h=>by unfold BG at h;exact sgo 39 [.cell 6 107] Tryz.func50⟩
theorem aIr(p0 p1 r)(h:Dp p0 p1=some r):Sc 388 [aX (M.aJj.en p0),aX (M.Op.en p1)] [(true,M.aJj.ra r.1),rI r.2.1,rB r.2.2]:=by
 unfold Dp at h
 simp only[EN]
 refine sgn 58 [.cell 4 70,.tmp 5,.tmp 6] Tryz.func388 λbase wd => ?_
 refine sq (rn ?_)
 refine an (sq ?_)
 obtain⟨x1,h2,h⟩:=bind_some h
 refine rn1 (Y6.1 _ _ h2) ?_
 refine an (sq ?_)
 obtain⟨x3,h4,h⟩:=bind_some h
 refine rn1 (aBe.1 _ _ _ h4) ?_
 refine an (sq (sq ?_))
 obtain⟨x5,h6,h⟩:=bind_some h
 rcases cM (!x5)with b7 | b7
 ·replace h:=bK b7 h;refine rn1 (YS.1 _ _ h6) ?_;refine an (ct (sq (rn ?_)));refine an (frb 4 2 300013 ?_);refine frb 4 3 400013 ?_;refine rt ?_;cases h;simp[Ret,TB,EN, *]
 replace h:=bJ b7 h
 obtain⟨x8,h9,h⟩:=bind_some h
 rcases cM (!x8)with ae | ae
 ·replace h:=bK ae h;refine rn2 (YS.1 _ _ h6) (aA7.1 _ _ h9) ?_;refine an (ct (sq (rn ?_)));refine an (frb 4 2 300013 ?_);refine frb 4 3 400013 ?_;refine rt ?_;cases h;simp[Ret,TB,EN, *]
 replace h:=bJ ae h
 refine rn2 (YS.1 _ _ h6) (aA7.1 _ _ h9) ?_
 refine an ?_
 rcases cM (decide (x3<0))with af | af
 ·replace h:=bK af h;refine ct (sq (rn ?_));refine an (frb 4 2 300013 ?_);refine frb 4 3 400013 ?_;refine rt ?_;cases h;simp[Ret,TB,EN, *]
 replace h:=bJ af h
 refine cf (sk (an (sq ?_)))
 obtain⟨av,C,h⟩:=bind_some h
 obtain⟨aw,ax,ay⟩:=aU C
 obtain⟨j,I,h⟩:=bind_some h
 refine rd1 mixed (aJK _ _ _ I) ?_
 refine an (sq (rn ?_))
 refine an (sq (sq ?_))
 refine cu (λs=>s.t 2=vP 2 1 0/\s.t 4=vP 4 1 0/\s.t 7=vP 7 1 0/\s.t 10=vI j.2.1/\s.t 11=vB j.2.2/\s.h 2=(1,oX 70 (M.aJj.en p0))/\s.h 4=(1,Xe)/\s.h 7=(1,oB 70 [cS x1.Name,cI x1.aJl,.row 300013 1,.row 400013 1])/\s.h 300013=(1,.row 75 3 (List.map M.aD.en (List.set x1.aJw x3.toNat j.1)) false)/\s.h 400013=(1,oW 382 2 M.aG.en x1.aJ5)/\True) ?_
 rintro az f20
 rcases cM (!j.2.2)with ah | ah
 ·replace h:=bK ah h;refine rn ?_;refine an (ct (sq ?_));obtain⟨ba,J,h⟩:=bind_some h;refine rn1 (Y6.1 _ _ J) ?_;refine an (frb 4 2 300055 ?_);refine frb 4 3 400055 ?_;refine rt ?_;cases h;simp[Ret,TB,EN, *]
 replace h:=bJ ah h
 obtain⟨U,aq,h⟩:=bind_some h
 refine rn1 (YS.1 _ _ aq) ?_
 refine an ?_
 rcases GH (!U)with ai | ai
 ·replace h:=bJ ai h;refine cf (sk (an (sq (rn ?_))));refine an (frb 4 2 300013 ?_);refine frb 4 3 400013 ?_;refine rt ?_;cases h;simp[Ret,TB,EN, *]
 replace h:=bK ai h
 refine ct (sq ?_)
 obtain⟨bd,ar,h⟩:=bind_some h
 refine rn1 (Y6.1 _ _ ar) ?_
 refine an (frb 4 2 300055 ?_)
 refine frb 4 3 400055 ?_
 refine rt ?_
 cases h
 simp[Ret,TB,EN, *]
instance aBC:aW 269 (∀p0 p1 r (h:yV p0 p1=some r),Sc 269 [aX (M.aJj.en p0),aL M.Op.en p1] [(true,M.aJj.ra r.1),(false,[.any (.sl (List.map enI r.2.1))]),rB r.2.2]):=⟨λp0 p1 r h=>by
 unfold yV at h
 simp only[EN]
 refine sgn 53 [.cell 4 70,.tmp 5,.tmp 6] Tryz.func269 λbase wd => ?_
 refine sq (rn ?_)
 refine an (sq ?_)
 obtain⟨x1,h2,h⟩:=bind_some h
 refine rn1 (Y6.1 _ _ h2) ?_
 refine an (sq (rn ?_))
 refine an (sq (sq ?_))
 refine cu (λs=>s.t 1=vL M.Op.en p1/\s.t 2=vP 2 1 0/\s.t 4=vP 4 1 0/\s.t 7=vP 7 1 0/\s.t 8=vR 100016 1/\s.h 2=(1,oX 70 (M.aJj.en p0))/\s.h 4=(1,Xe)/\s.h 7=(1,oB 70 [cS x1.Name,cI x1.aJl,.row 300015 1,.row 400015 1])/\s.h 100016=(1,oW 3 1 enI ([]:List Int))/\s.h 300015=(1,oW 75 3 M.aD.en x1.aJw)/\s.h 400015=(1,oW 382 2 M.aG.en x1.aJ5)/\True) ?_
 rintro s3 f4
 obtain⟨aw,av,h⟩:=bind_some h
 rcases cM (!aw)with al | al
 ·replace h:=bK al h;refine rn1 (YS.1 _ _ av) ?_;refine an (ct (sq (rn ?_)));refine an (frb 4 2 300015 ?_);refine frb 4 3 400015 ?_;refine frt 5 0 100016 ?_;refine rt ?_;cases h;simp[Ret,TB,EN, *]
 replace h:=bJ al h
 refine rn1 (YS.1 _ _ av) ?_
 refine an ?_
 rcases cM (decide ((List.length p1:Int)>6))with ao | ao
 ·replace h:=bK ao h;refine ct (sq (rn ?_));refine an (frb 4 2 300015 ?_);refine frb 4 3 400015 ?_;refine frt 5 0 100016 ?_;refine rt ?_;cases h;simp[Ret,TB,EN, *]
 replace h:=bJ ao h
 refine cf (sk (an (sq (sq (rn ?_)))))
 refine an (bk (frb 7 2 300015 ?_))
 refine frb 7 3 400015 ?_
 refine GJ (λm s=>∃aj:Int,∃ae:ByteArray,∃af:Int,∃ak:List Int,∃ah:List M.aD,∃ai:List M.aG,∃u16:Nat,s.t 2=vP 2 1 0/\s.t 4=vP 4 1 0/\s.t 7=vP 7 1 0/\s.t 8=vR 100016 u16/\s.t 27=vL M.Op.en p1/\s.t 28=vI (List.length p1:Int)/\s.t 29=vI aj/\s.h 2=(1,oX 70 (M.aJj.en p0))/\s.h 4=(1,Xe)/\s.h 7=(1,oB 70 [cS ae,cI af,cL M.aD.en ah,cL M.aG.en ai])/\s.h 100016=(u16,oW 3 1 enI ak)/\rA p0 p1 m aj ae af ak ah ai=some r) fuel ?_ ?_
 ·refine⟨0,x1.Name,x1.aJl,([]:List Int),x1.aJw,x1.aJ5,1,?_,?_,?_,?_,?_,?_,?_,?_,?_,?_,?_,h⟩;all_goals simp +decide only[F,reduceIte,Nat.reduceAdd,qB,qC,EN, *,-h]
 rintro mL1 bd ⟨aj,ae,af,ak,ah,ai,u16,f20,f21,f22,f23,f24,f25,f26,f27,f28,f29,f30,h⟩
 rcases mL1 with _ | mL1
 ·exact absurd h (by simp[rA])
 simp only[rA]at h
 refine sq (rn ?_)
 refine an (sq ?_)
 rcases GH (decide (aj<(List.length p1:Int)))with aq | aq
 ·replace h:=bJ aq h;refine cf (xt (E2 (EW (IA (an (sq (rn ?_)))))));refine an (frt 5 0 100016 ?_);refine rt ?_;cases h;simp[Ret,TB,EN, *]
 replace h:=bK aq h
 refine ct (sk (an (sq (bk (sq ?_)))))
 obtain⟨bf,ax,h⟩:=bind_some h
 obtain⟨bg,bh,bj⟩:=aU ax
 refine rn ?_
 refine an (sq ?_)
 obtain⟨aa,ay,h⟩:=bind_some h
 refine rn1 (aIr _ _ _ ay) ?_
 refine an (sq (sq (rn ?_)))
 refine an ?_
 rcases cM (!aa.2.2)with ar | ar
 ·replace h:=bK ar h;refine ct (sq ?_);obtain⟨bl,az,h⟩:=bind_some h;refine rn1 (Y6.1 _ _ az) ?_;refine an (frb 4 2 300043 ?_);refine frb 4 3 400043 ?_;refine frt 5 0 100044 ?_;refine rt ?_;cases h;simp[Ret,TB,EN, *]
 replace h:=bJ ar h
 refine cf (sk (an (sq (rn ?_))))
 refine an ?_
 obtain⟨bm,ba,h⟩:=bind_some h
 refine rn1 ba ?_
 refine ab (an ?_)
 refine cu (λs=>s.t 2=vP 2 1 0/\s.t 4=vP 4 1 0/\s.t 7=vP 7 1 0/\s.t 8=vR 100016 (u16+1)/\s.t 27=vL M.Op.en p1/\s.t 28=vI (List.length p1:Int)/\s.t 29=vI aj/\s.h 2=(1,oX 70 (M.aJj.en p0))/\s.h 4=(1,Xe)/\s.h 7=(1,oX 70 (M.aJj.en aa.1))/\s.h 100016=(u16+1,oW 3 1 enI (ak++[aa.2.1]))/\True) ?_
 rintro bn f45
 refine rn ?_
 refine jX ⟨mL1,jD,IntKind.i64.wrap (aj+1),aa.1.Name,aa.1.aJl,ak++[aa.2.1],aa.1.aJw,aa.1.aJ5,u16+1,?_,?_,?_,?_,?_,?_,?_,?_,?_,?_,?_,h⟩
 all_goals simp +decide only[F,reduceIte,Nat.reduceAdd,qB,qC,EN, *,-h]⟩
instance:aW 156 (∀p0 r (h:sN p0=some r),Sc 156 [aX (M.bL.en p0)] [(true,M.aJj.ra r.1),rI r.2]):=⟨λp0 r h=>by
 unfold sN at h
 simp only[EN]
 refine sgn 47 [.cell 2 70,.tmp 3] Tryz.func156 λbase wd => ?_
 refine sq (rn ?_)
 refine an (sq ?_)
 obtain⟨x1,h2,h⟩:=bind_some h
 refine rn1 (Y6.1 _ _ h2) ?_
 refine an (sq ?_)
 obtain⟨x3,h4,h⟩:=bind_some h
 refine rn1 (aJW _ _ h4) ?_
 refine an (sq (sq (rn ?_)))
 refine an (bk (frb 4 2 300013 ?_))
 refine frb 4 3 400013 ?_
 refine GJ (λm s=>∃ai:Int,∃aa:ByteArray,∃ae:Int,∃af:List M.aD,∃ah:List M.aG,s.t 2=vP 2 1 0/\s.t 4=vP 4 1 0/\s.t 5=vR 100017 1/\s.t 20=vR 100017 1/\s.t 21=vI (List.length x3.1:Int)/\s.t 22=vI ai/\s.h 2=(1,Xe)/\s.h 4=(1,oB 70 [cS aa,cI ae,cL M.aD.en af,cL M.aG.en ah])/\s.h 100017=(1,oW 58 1 (enL enB) x3.1)/\mO x3 m ai aa ae af ah=some r) fuel ?_ ?_
 ·refine⟨0,x1.Name,x1.aJl,x1.aJw,x1.aJ5,?_,?_,?_,?_,?_,?_,?_,?_,?_,h⟩;all_goals simp +decide only[F,reduceIte,Nat.reduceAdd,qB,qC,EN, *,-h]
 rintro mL1 s5 ⟨ai,aa,ae,af,ah,f6,f7,f8,f9,f10,f11,f12,f13,f14,h⟩
 rcases mL1 with _ | mL1
 ·exact absurd h (by simp[mO])
 simp only[mO]at h
 refine sq (rn ?_)
 refine an (sq ?_)
 rcases GH (decide (ai<(List.length x3.1:Int)))with ak | ak
 ·replace h:=bJ ak h;refine cf (xt (E2 (EW (IA (an (sq (rn ?_)))))));refine an (rt ?_);cases h;simp[Ret,TB,EN, *]
 replace h:=bK ak h
 refine ct (sk (an (sq (bk (sq ?_)))))
 obtain⟨aw,ao,h⟩:=bind_some h
 obtain⟨ax,ay,az⟩:=aU ao
 refine rn ?_
 refine an (sq ?_)
 obtain⟨aq,ar,h⟩:=bind_some h
 refine rn1 (aJC _ _ ar) ?_
 refine an (sq (sq (rn ?_)))
 refine an ?_
 rcases cM (!aq.2)with al | al
 ·replace h:=bK al h;refine ct (sq (rn ?_));refine an (rt ?_);cases h;simp[Ret,TB,EN, *]
 replace h:=bJ al h
 refine cf (sk (an ?_))
 obtain⟨aj,av,h⟩:=bind_some h
 refine rn1 (aBC.1 _ _ _ av) ?_
 refine ab (an (rn ?_))
 refine jX ⟨mL1,jD,IntKind.i64.wrap (ai+1),aj.1.Name,aj.1.aJl,aj.1.aJw,aj.1.aJ5,?_,?_,?_,?_,?_,?_,?_,?_,?_,h⟩
 all_goals simp +decide only[F,reduceIte,Nat.reduceAdd,qB,qC,EN, *,-h]⟩
instance:aW 53 (∀p0 p1 p2 p3 r (h:BC p0 p1 p2 p3=some r),Sc 53 [aX (M.World.en p0),aX (M.bD.en p1),aI p2,aS p3] [rI r]):=⟨λp0 p1 p2 p3 r h=>by unfold BC at h;exact sgo 52 [.tmp 8] Tryz.func53⟩
instance:aW 160 (∀p0 p1 r (h:xX p0 p1=some r),Sc 160 [aX (M.bL.en p0),aL M.Op.en p1] [(true,M.bL.rs r.1),rB r.2]):=⟨λp0 p1 r h=>by unfold xX at h;exact sgo 65 [.cell 4 72,.tmp 5] Tryz.func160⟩
instance:aW 279 (∀p0 p1 r (h:nC p0 p1=some r),Sc 279 [aX (M.aJi.en p0),aX (M.aJi.en p1)] [(true,M.aJi.rs r.1),rB r.2]):=⟨λp0 p1 r h=>by unfold nC at h;exact sgo 18 [.cell 4 84,.tmp 5] Tryz.func279⟩
instance:aW 162 (∀p0 p1 r (h:uY p0 p1=some r),Sc 162 [aX (M.aJi.en p0),aX (M.bL.en p1)] [(true,M.aJi.rs r.1),rB r.2]):=⟨λp0 p1 r h=>by unfold uY at h;exact sgo 15 [.cell 4 84,.tmp 5] Tryz.func162⟩
instance:aW 163 (∀p0 p1 r (h:tP p0 p1=some r),Sc 163 [aX (M.aA.en p0),aX (M.aJi.en p1)] [(true,M.aA.rs r.1),rB r.2]):=⟨λp0 p1 r h=>by
 have i1:=λ(x1:M.aA)=>inv λm s=>∃v8:Int,(s.t 2=vP 2 1 0/\s.t 3=vP 3 1 0/\s.t 4=vP 4 1 0/\s.t 6=vP 6 1 0/\s.t 8=vI v8/\s.h 2=(1,oX 39 (M.aA.en p0))/\s.h 3=(1,oX 84 (M.aJi.en p1))/\s.h 4=(1,oB 39 [.nil])/\s.h 6=(1,oB 39 [.row 100010 1])/\s.h 100010=(1,oW 84 24 M.aJi.en x1.aJp))/\kY p0 p1 x1 m v8=some r
 have e1:=@kY.eq_2
 unfold tP at h
 exact sgo 60 [.cell 4 39,.tmp 5] Tryz.func163⟩
instance:aW 54 (∀p0 p1 p2 p3 p4 r (h:zO p0 p1 p2 p3 p4=some r),Sc 54 [aX (M.World.en p0),aX (M.bD.en p1),aI p2,aS p3,aI p4] [(true,M.World.rs r.1),rB r.2]):=⟨λp0 p1 p2 p3 p4 r h=>by unfold zO at h;exact sgo 106 [.cell 10 50,.tmp 11] Tryz.func54⟩
instance:aW 284 (∀p0 r (h:B3 p0=some r),Sc 284 [aX (M.aE.en p0)] [(true,M.aD.rs r)]):=⟨λp0 r h=>by unfold B3 at h;exact sgo 10 [.cell 2 75] Tryz.func284⟩
instance:aW 164 (∀p0 p1 p2 p3 r (h:wT p0 p1 p2 p3=some r),Sc 164 [aX (M.aE.en p0),aX (M.Key.en p1),aS p2,aI p3] [(true,M.aE.rs r.1),rB r.2]):=⟨λp0 p1 p2 p3 r h=>by unfold wT at h;exact sgo 61 [.cell 8 82,.tmp 9] Tryz.func164⟩
instance:aW 165 (∀p0 p1 r (h:pC p0 p1=some r),Sc 165 [aX (M.aJi.en p0),aX (M.aE.en p1)] [(true,M.aJi.rs r.1),rB r.2]):=⟨λp0 p1 r h=>by unfold pC at h;exact sgo 15 [.cell 4 84,.tmp 5] Tryz.func165⟩
instance:aW 55 (∀p0 p1 p2 p3 p4 r (h:Bd p0 p1 p2 p3 p4=some r),Sc 55 [aX (M.World.en p0),aX (M.bD.en p1),aI p2,aS p3,aI p4] [(true,M.World.rs r.1),rB r.2]):=⟨λp0 p1 p2 p3 p4 r h=>by unfold Bd at h;exact sgo 72 [.cell 10 50,.tmp 11] Tryz.func55⟩
instance:aW 9 (∀p0 p1 r (h:hJ p0 p1=some r),Sc 9 [aX (M.World.en p0),aI p1] [(true,M.World.rs r.1),rI r.2]):=⟨λp0 p1 r h=>by unfold hJ at h;exact sgo 119 [.cell 4 50,.tmp 5] Tryz.func9⟩
theorem c14(p0 p1 r)(h:AQ p0 p1=some r):Sc 14 [aX (M.World.en p0),aI p1] [(true,M.World.rs r)]:=by
 have i1:=Mt [.b 5 3 7050000 84 24,.b 5 4 7050001 91 11,.b 5 6 7050002 144 4,.b 5 7 7050003 147 3,.b 5 8 7050004 151 4,.b 5 9 7050005 156 5] λm s=>∃v6:Int,∃aw:Int,∃ax:Bool,∃ay:Int,∃az:Int,∃j:List M.aJi,∃C:List M.bD,∃I:List M.eO,∃J:List M.iU,∃U:List M.aJr,∃aj:List M.aJv,∃ak:Nat,∃al:Nat,∃ao:Nat,∃aq:Nat,∃ar:Nat,∃av:Nat,(s.t 1=vI p1/\s.t 4=vP 4 1 0/\s.t 5=vP 5 1 0/\s.t 6=vI v6/\s.h 4=(1,YN)/\s.h 5=(1,oB 50 [cI aw,cB ax,cI ay,.row 7050000 ak,.row 7050001 al,cI az,.row 7050002 ao,.row 7050003 aq,.row 7050004 ar,.row 7050005 av])/\s.h 7050000=(ak,oW 84 24 M.aJi.en j)/\s.h 7050001=(al,oW 91 11 M.bD.en C)/\s.h 7050002=(ao,oW 144 4 M.eO.en I)/\s.h 7050003=(aq,oW 147 3 M.iU.en J)/\s.h 7050004=(ar,oW 151 4 M.aJr.en U)/\s.h 7050005=(av,oW 156 5 M.aJv.en aj))/\gC p1 m v6 aw ax ay az j C I J U aj=some r
 have e1:=@gC.eq_2
 unfold AQ at h
 exact sgo 20 [.cell 4 50] Tryz.func14
