/-
  Helper text. No conditions.
-/
import Derived.Test.YtjlnkcoeghonfaaGreatRunPageWmark0
set_option linter.all false
namespace Go.Proofs.YtjlnkcoeghonfaaGreat.gen
open Go Go.Sh
open Go.IntKind (i64)
set_option maxRecDepth 20000
set_option maxHeartbeats 4000000
instance aBw:aW 303 (∀p0 p1 r (h:tO p0 p1=some r),Sc 303 [aL enB p0,aI p1] [rI r]):=⟨λp0 p1 r h=>by
 have i1:=inv λm s=>∃v1:Int,∃v5:Int,(s.t 0=vL enB p0/\s.t 1=vI v1/\s.t 5=vI v5)/\fX p0 m v1 v5=some r
 have e1:=@fX.eq_2
 unfold tO at h
 exact sgo 22 [.tmp 4] Tryz.func303⟩
instance:aW 421 (∀p0 p1 r (h:AV p0 p1=some r),Sc 421 [aL M.aJx.en p0,aI p1] [rI r]):=⟨λp0 p1 r h=>by
 have i1:=inv λm s=>∃v1:Int,∃v5:Int,(s.t 0=vL M.aJx.en p0/\s.t 1=vI v1/\s.t 5=vI v5)/\hU p0 m v1 v5=some r
 have e1:=@hU.eq_2
 unfold AV at h
 exact sgo 85 [.tmp 4] Tryz.func421⟩
theorem aJX(p0 p1 r)(h:BO p0 p1=some r):Sc 300 [aL M.aJ0.en p0,aI p1] [rI r]:=by
 have i1:=inv λm s=>∃j:Int,∃C:Int,(s.t 0=vL M.aJ0.en p0/\s.t 1=vI j/\s.t 5=vI C)/\jS p0 m j C=some r
 have e1:=@jS.eq_2
 unfold BO at h
 exact sgo 31 [.tmp 4] Tryz.func300
instance:aW 304 (∀p0 p1 r (h:B0 p0 p1=some r),Sc 304 [aL M.Field.en p0,aI p1] [rI r]):=⟨λp0 p1 r h=>by
 have i1:=inv λm s=>∃v1:Int,∃v5:Int,(s.t 0=vL M.Field.en p0/\s.t 1=vI v1/\s.t 5=vI v5)/\jV p0 m v1 v5=some r
 have e1:=@jV.eq_2
 unfold B0 at h
 exact sgo 32 [.tmp 4] Tryz.func304⟩
instance aA0:aW 190 (∀p0 p1 r (h:uD p0 p1=some r),Sc 190 [aL M.aJt.en p0,aI p1] [rI r]):=⟨λp0 p1 r h=>by
 have i1:=inv λm s=>∃v1:Int,∃v5:Int,(s.t 0=vL M.aJt.en p0/\s.t 1=vI v1/\s.t 5=vI v5)/\lF p0 m v1 v5=some r
 have e1:=@lF.eq_2
 unfold uD at h
 exact sgo 54 [.tmp 4] Tryz.func190⟩
theorem aJL(p0 p1 r)(h:BH p0 p1=some r):Sc 301 [aL M.aD.en p0,aI p1] [rI r]:=by
 have i1:=inv λm s=>∃j:Int,∃C:Int,(s.t 0=vL M.aD.en p0/\s.t 1=vI j/\s.t 5=vI C)/\jT p0 m j C=some r
 have e1:=@jT.eq_2
 unfold BH at h
 exact sgo 41 [.tmp 4] Tryz.func301
theorem aIY(p0 p1 r)(h:wK p0 p1=some r):Sc 302 [aL M.aG.en p0,aI p1] [rI r]:=by
 have i1:=inv λm s=>∃j:Int,∃C:Int,(s.t 0=vL M.aG.en p0/\s.t 1=vI j/\s.t 5=vI C)/\fS p0 m j C=some r
 have e1:=@fS.eq_2
 unfold wK at h
 exact sgo 33 [.tmp 4] Tryz.func302
theorem aEF(p0 p1 r)(h:xO p0 p1=some r):Sc 192 [aL M.aY.en p0,aI p1] [rI r]:=by
 have i1:=inv λm s=>∃j:Int,∃C:Int,(s.t 0=vL M.aY.en p0/\s.t 1=vI j/\s.t 5=vI C)/\iX p0 m j C=some r
 have e1:=@iX.eq_2
 unfold xO at h
 exact sgo 81 [.tmp 4] Tryz.func192
instance:aW 183 (∀p0 p1 r (h:A0 p0 p1=some r),Sc 183 [aL M.aJi.en p0,aI p1] [rI r]):=⟨λp0 p1 r h=>by
 unfold A0 at h
 simp only[EN]
 refine sgn 271 [.tmp 4] Tryz.func183 λbase wd => ?_
 refine sq (rn ?_)
 refine an (sq (sq (rn ?_)))
 refine an (bk ?_)
 refine GJ (λm s=>∃v1:Int,∃v5:Int,s.t 0=vL M.aJi.en p0/\s.t 1=vI v1/\s.t 5=vI v5/\fQ p0 m v1 v5=some r) fuel ?_ ?_
 ·refine⟨p1,0,?_,?_,?_,h⟩;all_goals simp +decide only[F,reduceIte,Nat.reduceAdd,qB,qC,EN, *,-h]
 rintro mL1 s1 ⟨v1,v5,f2,f3,f4,h⟩
 rcases mL1 with _ | mL1
 ·exact absurd h (by simp[fQ])
 simp only[fQ]at h
 refine sq (sq (rn ?_))
 refine an ?_
 rcases GH (decide (v5<(List.length p0:Int)))with b5 | b5
 ·replace h:=bJ b5 h;refine cf (xt (E2 (EW (IA (an (sq (rn ?_)))))));refine an (rt ?_);cases h;simp[Ret,TB,EN, *]
 replace h:=bK b5 h
 refine ct (sk (an (sq (bk (sq (sq ?_))))))
 obtain⟨x6,h7,h⟩:=bind_some h
 obtain⟨q8,q9,db⟩:=aU h7
 obtain⟨bt,bu,h⟩:=bind_some h
 refine rd1 mixed (Js.1 _ _ bu) ?_
 refine an ?_
 rcases cM (!(x6.aJr.toList==bt.toList))with af | af
 ·replace h:=bK af h;refine ct (sq (rn ?_));refine an (rt ?_);cases h;simp[Ret,TB,EN, *]
 replace h:=bJ af h
 refine cf (sk (an (sq (rn ?_))))
 refine an (sq (sq ?_))
 obtain⟨bw,bz,h⟩:=bind_some h
 refine rd1 mixed (Js.1 _ _ bz) ?_
 refine an ?_
 rcases cM (!(x6.Top.toList==bw.toList))with ah | ah
 ·replace h:=bK ah h;refine ct (sq (rn ?_));refine an (rt ?_);cases h;simp[Ret,TB,EN, *]
 replace h:=bJ ah h
 refine cf (sk (an (sq (rn ?_))))
 refine an (sq (sq ?_))
 obtain⟨c5,ca,h⟩:=bind_some h
 refine rd1 mixed (Js.1 _ _ ca) ?_
 refine an ?_
 rcases cM (!(x6.aJk.aJr.toList==c5.toList))with ai | ai
 ·replace h:=bK ai h;refine ct (sq (rn ?_));refine an (rt ?_);cases h;simp[Ret,TB,EN, *]
 replace h:=bJ ai h
 refine cf (sk (an (sq (rn ?_))))
 refine an (sq (sq (rn ?_)))
 refine an ?_
 rcases cM (x6.aJk.aKI != (i64.wrap ((i64.wrap ((i64.wrap (v1+1))+1))+1)))with aj | aj
 ·replace h:=bK aj h;refine ct (sq (rn ?_));refine an (rt ?_);cases h;simp[Ret,TB,EN, *]
 replace h:=bJ aj h
 refine cf (sk (an (sq (rn ?_))))
 refine an (sq (sq (rn ?_)))
 refine an ?_
 rcases cM (x6.aJk.aKN != (i64.wrap ((i64.wrap ((i64.wrap ((i64.wrap (v1+1))+1))+1))+1)))with ak | ak
 ·replace h:=bK ak h;refine ct (sq (rn ?_));refine an (rt ?_);cases h;simp[Ret,TB,EN, *]
 replace h:=bJ ak h
 refine cf (sk (an (sq (rn ?_))))
 refine an (sq (sq (rn ?_)))
 refine an ?_
 rcases cM (x6.aJk.aKT != (i64.wrap ((i64.wrap ((i64.wrap ((i64.wrap ((i64.wrap (v1+1))+1))+1))+1))+1)))with al | al
 ·replace h:=bK al h;refine ct (sq (rn ?_));refine an (rt ?_);cases h;simp[Ret,TB,EN, *]
 replace h:=bJ al h
 refine cf (sk (an (sq (rn ?_))))
 refine an (sq ?_)
 refine cu (λs=>s.t 0=vL M.aJi.en p0/\s.t 1=vI (i64.wrap ((i64.wrap ((i64.wrap ((i64.wrap ((i64.wrap ((i64.wrap (v1+1))+1))+1))+1))+1))+1))/\s.t 5=vI v5/\True) ?_
 rintro df f24
 obtain⟨br,cc,h⟩:=bind_some h
 refine rn1 (aJX _ _ _ cc) ?_
 refine an (sq (sq (rn ?_)))
 refine an ?_
 rcases cM (decide (br<0))with ao | ao
 ·replace h:=bK ao h;refine ct (sq (rn ?_));refine an (rt ?_);cases h;simp[Ret,TB,EN, *]
 replace h:=bJ ao h
 refine cf (sk (an (sq (sq ?_))))
 obtain⟨cd,cg,h⟩:=bind_some h
 refine rd1 mixed (Js.1 _ _ cg) ?_
 refine an ?_
 rcases cM (!(x6.bL.aJ8.Name.toList==cd.toList))with aq | aq
 ·replace h:=bK aq h;refine ct (sq (rn ?_));refine an (rt ?_);cases h;simp[Ret,TB,EN, *]
 replace h:=bJ aq h
 refine cf (sk (an (sq (rn ?_))))
 refine an (sq (sq (rn ?_)))
 refine an ?_
 rcases cM (x6.bL.aJ8.aJl != (i64.wrap (br+1)))with ar | ar
 ·replace h:=bK ar h;refine ct (sq (rn ?_));refine an (rt ?_);cases h;simp[Ret,TB,EN, *]
 replace h:=bJ ar h
 refine cf (sk (an (sq (rn ?_))))
 refine an (sq ?_)
 obtain⟨cj,ck,h⟩:=bind_some h
 refine rn1 (aJL _ _ _ ck) ?_
 refine an (sq (sq (rn ?_)))
 refine an ?_
 rcases cM (decide (cj<0))with av | av
 ·replace h:=bK av h;refine ct (sq (rn ?_));refine an (rt ?_);cases h;simp[Ret,TB,EN, *]
 replace h:=bJ av h
 refine cf (sk (an (sq ?_)))
 obtain⟨cn,cq,h⟩:=bind_some h
 refine rn1 (aIY _ _ _ cq) ?_
 refine an (sq (sq (rn ?_)))
 refine an ?_
 rcases cM (decide (cn<0))with aw | aw
 ·replace h:=bK aw h;refine ct (sq (rn ?_));refine an (rt ?_);cases h;simp[Ret,TB,EN, *]
 replace h:=bJ aw h
 refine cf (sk (an (sq ?_)))
 obtain⟨ax,cr,h⟩:=bind_some h
 refine rn1 (aBw.1 _ _ _ cr) ?_
 refine an (sq (sq (rn ?_)))
 refine an ?_
 rcases cM (decide (ax<0))with ay | ay
 ·replace h:=bK ay h;refine ct (sq (rn ?_));refine an (rt ?_);cases h;simp[Ret,TB,EN, *]
 replace h:=bJ ay h
 refine cf (sk (an (sq (sq ?_))))
 refine cu (λs=>s.t 0=vL M.aJi.en p0/\s.t 1=vI ax/\s.t 5=vI v5/\True) ?_
 rintro dg f44
 refine rn ?_
 refine an ?_
 rcases cM (x6.bL.aKR != ax)with az | az
 ·replace h:=bK az h;refine ct (sq (rn ?_));refine an (rt ?_);cases h;simp[Ret,TB,EN, *]
 replace h:=bJ az h
 refine cf (sk (an (sq (rn ?_))))
 refine an (sq (sq ?_))
 obtain⟨cw,cy,h⟩:=bind_some h
 refine rd1 mixed (Js.1 _ _ cy) ?_
 refine an ?_
 rcases cM (!(x6.aE.aJ8.Name.toList==cw.toList))with ba | ba
 ·replace h:=bK ba h;refine ct (sq (rn ?_));refine an (rt ?_);cases h;simp[Ret,TB,EN, *]
 replace h:=bJ ba h
 refine cf (sk (an (sq (rn ?_))))
 refine an (sq ?_)
 obtain⟨aa,cz,h⟩:=bind_some h
 refine rn1 (aA0.1 _ _ _ cz) ?_
 refine an (sq (sq (rn ?_)))
 refine an ?_
 rcases cM (decide (aa<0))with bd | bd
 ·replace h:=bK bd h;refine ct (sq (rn ?_));refine an (rt ?_);cases h;simp[Ret,TB,EN, *]
 replace h:=bJ bd h
 refine cf (sk (an (sq (sq (rn ?_)))))
 refine an ?_
 rcases cM (x6.aE.aJ8.aKG != aa)with bf | bf
 ·replace h:=bK bf h;refine ct (sq (rn ?_));refine an (rt ?_);cases h;simp[Ret,TB,EN, *]
 replace h:=bJ bf h
 refine cf (sk (an (sq (rn ?_))))
 refine an (sq (sq (rn ?_)))
 refine an ?_
 rcases cM (x6.aE.aKe != (i64.wrap (aa+1)))with bg | bg
 ·replace h:=bK bg h;refine ct (sq (rn ?_));refine an (rt ?_);cases h;simp[Ret,TB,EN, *]
 replace h:=bJ bg h
 refine cf (sk (an (sq (rn ?_))))
 refine an (sq (sq (rn ?_)))
 refine an ?_
 rcases cM (x6.aE.aJ7.aM.aJy != (i64.wrap ((i64.wrap (aa+1))+1)))with bh | bh
 ·replace h:=bK bh h;refine ct (sq (rn ?_));refine an (rt ?_);cases h;simp[Ret,TB,EN, *]
 replace h:=bJ bh h
 refine cf (sk (an (sq (rn ?_))))
 refine an (sq (sq ?_))
 refine cu (λs=>s.t 0=vL M.aJi.en p0/\s.t 1=vI (i64.wrap ((i64.wrap ((i64.wrap (aa+1))+1))+1))/\s.t 5=vI v5/\True) ?_
 rintro dh f58
 refine rn ?_
 refine an ?_
 rcases cM (x6.aE.aJ7.aM.aKU != (i64.wrap ((i64.wrap ((i64.wrap (aa+1))+1))+1)))with bj | bj
 ·replace h:=bK bj h;refine ct (sq (rn ?_));refine an (rt ?_);cases h;simp[Ret,TB,EN, *]
 replace h:=bJ bj h
 refine cf (sk (an (sq (rn ?_))))
 refine an (sq ?_)
 obtain⟨ae,da,h⟩:=bind_some h
 refine rn1 (aEF _ _ _ da) ?_
 refine an (sq (sq (rn ?_)))
 refine an ?_
 rcases cM (decide (ae<0))with bl | bl
 ·replace h:=bK bl h;refine ct (sq (rn ?_));refine an (rt ?_);cases h;simp[Ret,TB,EN, *]
 replace h:=bJ bl h
 refine cf (sk (an (sq (sq (rn ?_)))))
 refine an ?_
 rcases cM (x6.aE.aJ7.aKX != ae)with bm | bm
 ·replace h:=bK bm h;refine ct (sq (rn ?_));refine an (rt ?_);cases h;simp[Ret,TB,EN, *]
 replace h:=bJ bm h
 refine cf (sk (an (sq (rn ?_))))
 refine an (sq (sq (rn ?_)))
 refine an ?_
 rcases cM (x6.aE.aJ7.aKL != (i64.wrap (ae+1)))with bn | bn
 ·replace h:=bK bn h;refine ct (sq (rn ?_));refine an (rt ?_);cases h;simp[Ret,TB,EN, *]
 replace h:=bJ bn h
 refine cf (sk (an (sq (rn ?_))))
 refine an (sq (sq (rn ?_)))
 refine an ?_
 rcases cM (x6.aKC != (i64.wrap ((i64.wrap (ae+1))+1)))with bo | bo
 ·replace h:=bK bo h;refine ct (sq (rn ?_));refine an (rt ?_);cases h;simp[Ret,TB,EN, *]
 replace h:=bJ bo h
 refine cf (sk (an (sq (rn ?_))))
 refine an (sq (sq (rn ?_)))
 refine an ?_
 rcases cM (!(x6.aKB==((Int.tmod (i64.wrap ((i64.wrap ((i64.wrap (ae+1))+1))+1)) 3)==0)))with bq | bq
 ·replace h:=bK bq h;refine ct (sq (rn ?_));refine an (rt ?_);cases h;simp[Ret,TB,EN, *]
 replace h:=bJ bq h
 refine cf (sk (an (rn ?_)))
 refine ab (an (rn ?_))
 refine jX ⟨mL1,jD,i64.wrap ((i64.wrap ((i64.wrap ((i64.wrap (ae+1))+1))+1))+1),i64.wrap (v5+1),?_,?_,?_,h⟩
 all_goals simp +decide only[F,reduceIte,Nat.reduceAdd,qB,qC,EN, *,-h]⟩
instance:aW 68 (∀p0 p1 r (h:AZ p0 p1=some r),Sc 68 [aX (M.aA.en p0),aI p1] [rI r]):=⟨λp0 p1 r h=>by unfold AZ at h;exact sgo 12 [.tmp 4] Tryz.func68⟩
theorem aI5(p0 p1 r)(h:A6 p0 p1=some r):Sc 184 [aL M.aJ.en p0,aI p1] [rI r]:=by
 have i1:=inv λm s=>∃j:Int,∃C:Int,(s.t 0=vL M.aJ.en p0/\s.t 1=vI j/\s.t 5=vI C)/\gZ p0 m j C=some r
 have e1:=@gZ.eq_2
 unfold A6 at h
 exact sgo 32 [.tmp 4] Tryz.func184
theorem aJB(p0 p1 r)(h:B7 p0 p1=some r):Sc 185 [aL M.Instr.en p0,aI p1] [rI r]:=by
 have i1:=inv λm s=>∃j:Int,∃C:Int,(s.t 0=vL M.Instr.en p0/\s.t 1=vI j/\s.t 5=vI C)/\iW p0 m j C=some r
 have e1:=@iW.eq_2
 unfold B7 at h
 exact sgo 50 [.tmp 4] Tryz.func185
theorem aJQ(p0 p1 r)(h:Bo p0 p1=some r):Sc 186 [aL enI p0,aI p1] [rI r]:=by
 have i1:=inv λm s=>∃j:Int,∃C:Int,(s.t 0=vL enI p0/\s.t 1=vI j/\s.t 5=vI C)/\gO p0 m j C=some r
 have e1:=@gO.eq_2
 unfold Bo at h
 exact sgo 21 [.tmp 4] Tryz.func186
instance:aW 69 (∀p0 p1 r (h:CV p0 p1=some r),Sc 69 [aL M.bD.en p0,aI p1] [rI r]):=⟨λp0 p1 r h=>by
 unfold CV at h
 simp only[EN]
 refine sgn 124 [.tmp 4] Tryz.func69 λbase wd => ?_
 refine sq (rn ?_)
 refine an (sq (sq (rn ?_)))
 refine an (bk ?_)
 refine GJ (λm s=>∃v1:Int,∃v5:Int,s.t 0=vL M.bD.en p0/\s.t 1=vI v1/\s.t 5=vI v5/\hH p0 m v1 v5=some r) fuel ?_ ?_
 ·refine⟨p1,0,?_,?_,?_,h⟩;all_goals simp +decide only[F,reduceIte,Nat.reduceAdd,qB,qC,EN, *,-h]
 rintro mL1 s1 ⟨v1,v5,f2,f3,f4,h⟩
 rcases mL1 with _ | mL1
 ·exact absurd h (by simp[hH])
 simp only[hH]at h
 refine sq (sq (rn ?_))
 refine an ?_
 rcases GH (decide (v5<(List.length p0:Int)))with b5 | b5
 ·replace h:=bJ b5 h;refine cf (xt (E2 (EW (IA (an (sq (rn ?_)))))));refine an (rt ?_);cases h;simp[Ret,TB,EN, *]
 replace h:=bK b5 h
 refine ct (sk (an (sq (bk (sq (sq ?_))))))
 obtain⟨x6,h7,h⟩:=bind_some h
 obtain⟨q8,q9,bj⟩:=aU h7
 refine rn ?_
 refine an ?_
 rcases cM (x6.Id != v1)with ae | ae
 ·replace h:=bK ae h;refine ct (sq (rn ?_));refine an (rt ?_);cases h;simp[Ret,TB,EN, *]
 replace h:=bJ ae h
 refine cf (sk (an (sq (rn ?_))))
 refine an (sq (sq ?_))
 obtain⟨ax,ay,h⟩:=bind_some h
 refine rd1 mixed (Js.1 _ _ ay) ?_
 refine an ?_
 rcases cM (!(x6.aJr.toList==ax.toList))with af | af
 ·replace h:=bK af h;refine ct (sq (rn ?_));refine an (rt ?_);cases h;simp[Ret,TB,EN, *]
 replace h:=bJ af h
 refine cf (sk (an (sq (rn ?_))))
 refine an (sq (sq ?_))
 obtain⟨az,ba,h⟩:=bind_some h
 refine rd1 mixed (Js.1 _ _ ba) ?_
 refine an ?_
 rcases cM (!(x6.Top.toList==az.toList))with ah | ah
 ·replace h:=bK ah h;refine ct (sq (rn ?_));refine an (rt ?_);cases h;simp[Ret,TB,EN, *]
 replace h:=bJ ah h
 refine cf (sk (an (sq (rn ?_))))
 refine an (sq (sq (rn ?_)))
 refine an ?_
 rcases cM (x6.aJl != (i64.wrap ((i64.wrap ((i64.wrap (v1+1))+1))+1)))with ai | ai
 ·replace h:=bK ai h;refine ct (sq (rn ?_));refine an (rt ?_);cases h;simp[Ret,TB,EN, *]
 replace h:=bJ ai h
 refine cf (sk (an (sq (rn ?_))))
 refine an (sq ?_)
 obtain⟨bd,bf,h⟩:=bind_some h
 refine rn1 (aI5 _ _ _ bf) ?_
 refine an (sq (sq (rn ?_)))
 refine an ?_
 rcases cM (decide (bd<0))with aj | aj
 ·replace h:=bK aj h;refine ct (sq (rn ?_));refine an (rt ?_);cases h;simp[Ret,TB,EN, *]
 replace h:=bJ aj h
 refine cf (sk (an (sq ?_)))
 obtain⟨ak,bg,h⟩:=bind_some h
 refine rn1 (aJB _ _ _ bg) ?_
 refine an (sq (sq (rn ?_)))
 refine an ?_
 rcases cM (decide (ak<0))with al | al
 ·replace h:=bK al h;refine ct (sq (rn ?_));refine an (rt ?_);cases h;simp[Ret,TB,EN, *]
 replace h:=bJ al h
 refine cf (sk (an (sq (sq ?_))))
 refine cu (λs=>s.t 0=vL M.bD.en p0/\s.t 1=vI ak/\s.t 5=vI v5/\True) ?_
 rintro bl f26
 refine rn ?_
 refine an ?_
 rcases cM (x6.aJn.Pc != ak)with ao | ao
 ·replace h:=bK ao h;refine ct (sq (rn ?_));refine an (rt ?_);cases h;simp[Ret,TB,EN, *]
 replace h:=bJ ao h
 refine cf (sk (an (sq (rn ?_))))
 refine an (sq ?_)
 obtain⟨aa,bh,h⟩:=bind_some h
 refine rn1 (aJQ _ _ _ bh) ?_
 refine an (sq (sq (rn ?_)))
 refine an ?_
 rcases cM (decide (aa<0))with aq | aq
 ·replace h:=bK aq h;refine ct (sq (rn ?_));refine an (rt ?_);cases h;simp[Ret,TB,EN, *]
 replace h:=bJ aq h
 refine cf (sk (an (sq (sq (rn ?_)))))
 refine an ?_
 rcases cM (x6.aJn.aKW != aa)with ar | ar
 ·replace h:=bK ar h;refine ct (sq (rn ?_));refine an (rt ?_);cases h;simp[Ret,TB,EN, *]
 replace h:=bJ ar h
 refine cf (sk (an (sq (rn ?_))))
 refine an (sq (sq (rn ?_)))
 refine an ?_
 rcases cM (!(x6.aJn.aKb==((Int.tmod (i64.wrap (aa+1)) 3)==0)))with av | av
 ·replace h:=bK av h;refine ct (sq (rn ?_));refine an (rt ?_);cases h;simp[Ret,TB,EN, *]
 replace h:=bJ av h
 refine cf (sk (an (sq (rn ?_))))
 refine an (sq (sq (rn ?_)))
 refine an ?_
 rcases cM (!(x6.aJn.aKY==((Int.tmod (i64.wrap ((i64.wrap (aa+1))+1)) 3)==0)))with aw | aw
 ·replace h:=bK aw h;refine ct (sq (rn ?_));refine an (rt ?_);cases h;simp[Ret,TB,EN, *]
 replace h:=bJ aw h
 refine cf (sk (an (rn ?_)))
 refine ab (an (rn ?_))
 refine jX ⟨mL1,jD,i64.wrap ((i64.wrap ((i64.wrap (aa+1))+1))+1),i64.wrap (v5+1),?_,?_,?_,h⟩
 all_goals simp +decide only[F,reduceIte,Nat.reduceAdd,qB,qC,EN, *,-h]⟩
instance:aW 187 (∀p0 p1 r (h:C4 p0 p1=some r),Sc 187 [aL M.eO.en p0,aI p1] [rI r]):=⟨λp0 p1 r h=>by
 have i1:=inv λm s=>∃v1:Int,∃v5:Int,(s.t 0=vL M.eO.en p0/\s.t 1=vI v1/\s.t 5=vI v5)/\lD p0 m v1 v5=some r
 have e1:=@lD.eq_2
 unfold C4 at h
 exact sgo 54 [.tmp 4] Tryz.func187⟩
instance:aW 70 (∀p0 p1 r (h:wM p0 p1=some r),Sc 70 [aX (M.aP.en p0),aI p1] [rI r]):=⟨λp0 p1 r h=>by unfold wM at h;exact sgo 12 [.tmp 4] Tryz.func70⟩
instance:aW 188 (∀p0 p1 r (h:C9 p0 p1=some r),Sc 188 [aL M.iU.en p0,aI p1] [rI r]):=⟨λp0 p1 r h=>by
 have i1:=inv λm s=>∃v1:Int,∃v5:Int,(s.t 0=vL M.iU.en p0/\s.t 1=vI v1/\s.t 5=vI v5)/\lH p0 m v1 v5=some r
 have e1:=@lH.eq_2
 unfold C9 at h
 exact sgo 40 [.tmp 4] Tryz.func188⟩
instance:aW 71 (∀p0 p1 r (h:A7 p0 p1=some r),Sc 71 [aX (M.aJu.en p0),aI p1] [rI r]):=⟨λp0 p1 r h=>by unfold A7 at h;exact sgo 12 [.tmp 4] Tryz.func71⟩
instance:aW 189 (∀p0 p1 r (h:uX p0 p1=some r),Sc 189 [aL enS p0,aI p1] [rI r]):=⟨λp0 p1 r h=>by
 have i1:=inv λm s=>∃v1:Int,∃v5:Int,(s.t 0=vL enS p0/\s.t 1=vI v1/\s.t 5=vI v5)/\eE p0 m v1 v5=some r
 have e1:=@eE.eq_2
 unfold uX at h
 exact sgo 22 [.tmp 4] Tryz.func189⟩
instance:aW 72 (∀p0 p1 r (h:Dh p0 p1=some r),Sc 72 [aL M.aJr.en p0,aI p1] [rI r]):=⟨λp0 p1 r h=>by
 have i1:=inv λm s=>∃v1:Int,∃v5:Int,(s.t 0=vL M.aJr.en p0/\s.t 1=vI v1/\s.t 5=vI v5)/\kS p0 m v1 v5=some r
 have e1:=@kS.eq_2
 unfold Dh at h
 exact sgo 52 [.tmp 4] Tryz.func72⟩
theorem aJD(p0 p1 r)(h:zA p0 p1=some r):Sc 191 [aL M.aK.en p0,aI p1] [rI r]:=by
 have i1:=inv λm s=>∃j:Int,∃C:Int,(s.t 0=vL M.aK.en p0/\s.t 1=vI j/\s.t 5=vI C)/\gM p0 m j C=some r
 have e1:=@gM.eq_2
 unfold zA at h
 exact sgo 31 [.tmp 4] Tryz.func191
instance:aW 73 (∀p0 p1 r (h:Bb p0 p1=some r),Sc 73 [aL M.aJv.en p0,aI p1] [rI r]):=⟨λp0 p1 r h=>by
 unfold Bb at h
 simp only[EN]
 refine sgn 62 [.tmp 4] Tryz.func73 λbase wd => ?_
 refine sq (rn ?_)
 refine an (sq (sq (rn ?_)))
 refine an (bk ?_)
 refine GJ (λm s=>∃v1:Int,∃v5:Int,s.t 0=vL M.aJv.en p0/\s.t 1=vI v1/\s.t 5=vI v5/\fP p0 m v1 v5=some r) fuel ?_ ?_
 ·refine⟨p1,0,?_,?_,?_,h⟩;all_goals simp +decide only[F,reduceIte,Nat.reduceAdd,qB,qC,EN, *,-h]
 rintro mL1 s1 ⟨v1,v5,f2,f3,f4,h⟩
 rcases mL1 with _ | mL1
 ·exact absurd h (by simp[fP])
 simp only[fP]at h
 refine sq (sq (rn ?_))
 refine an ?_
 rcases GH (decide (v5<(List.length p0:Int)))with b5 | b5
 ·replace h:=bJ b5 h;refine cf (xt (E2 (EW (IA (an (sq (rn ?_)))))));refine an (rt ?_);cases h;simp[Ret,TB,EN, *]
 replace h:=bK b5 h
 refine ct (sk (an (sq (bk (sq (sq ?_))))))
 obtain⟨x6,h7,h⟩:=bind_some h
 obtain⟨q8,q9,ax⟩:=aU h7
 obtain⟨al,ao,h⟩:=bind_some h
 refine rd1 mixed (Js.1 _ _ ao) ?_
 refine an ?_
 rcases cM (!(x6.aD.Name.toList==al.toList))with aa | aa
 ·replace h:=bK aa h;refine ct (sq (rn ?_));refine an (rt ?_);cases h;simp[Ret,TB,EN, *]
 replace h:=bJ aa h
 refine cf (sk (an (sq (rn ?_))))
 refine an (sq ?_)
 obtain⟨aj,aq,h⟩:=bind_some h
 refine rn1 (aA0.1 _ _ _ aq) ?_
 refine an (sq (sq (rn ?_)))
 refine an ?_
 rcases cM (decide (aj<0))with ae | ae
 ·replace h:=bK ae h;refine ct (sq (rn ?_));refine an (rt ?_);cases h;simp[Ret,TB,EN, *]
 replace h:=bJ ae h
 refine cf (sk (an (sq (sq (rn ?_)))))
 refine an ?_
 rcases cM (x6.aD.aKG != aj)with af | af
 ·replace h:=bK af h;refine ct (sq (rn ?_));refine an (rt ?_);cases h;simp[Ret,TB,EN, *]
 replace h:=bJ af h
 refine cf (sk (an (sq (rn ?_))))
 refine an (sq ?_)
 obtain⟨ar,av,h⟩:=bind_some h
 refine rn1 (aJD _ _ _ av) ?_
 refine an (sq (sq (rn ?_)))
 refine an ?_
 rcases cM (decide (ar<0))with ah | ah
 ·replace h:=bK ah h;refine ct (sq (rn ?_));refine an (rt ?_);cases h;simp[Ret,TB,EN, *]
 replace h:=bJ ah h
 refine cf (sk (an (sq ?_)))
 obtain⟨ak,aw,h⟩:=bind_some h
 refine rn1 (aEF _ _ _ aw) ?_
 refine an (sq (rn ?_))
 refine an ?_
 rcases cM (decide (ak<0))with ai | ai
 ·replace h:=bK ai h;refine ct (sq (rn ?_));refine an (rt ?_);cases h;simp[Ret,TB,EN, *]
 replace h:=bJ ai h
 refine cf (sk (ab (an (rn ?_))))
 refine jX ⟨mL1,jD,ak,i64.wrap (v5+1),?_,?_,?_,h⟩
 all_goals simp +decide only[F,reduceIte,Nat.reduceAdd,qB,qC,EN, *,-h]⟩
theorem c12(p0 p1 r)(h:uQ p0 p1=some r):Sc 12 [aX (M.World.en p0),aI p1] [rI r]:=by unfold uQ at h;exact sgo 42 [.tmp 4] Tryz.func12
