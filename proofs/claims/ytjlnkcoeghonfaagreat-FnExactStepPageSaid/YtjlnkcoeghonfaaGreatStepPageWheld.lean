/-
  Helper text. No conditions.
-/
import Derived.Test.YtjlnkcoeghonfaaGreatStepPageWmark0
set_option linter.all false
namespace Go.Proofs.YtjlnkcoeghonfaaGreat.gen
open Go Go.Sh
open Go.IntKind (i64)
set_option maxRecDepth 20000
set_option maxHeartbeats 4000000
instance aBo:aZ 303 (∀p0 p1 r (h:tN p0 p1=some r),Sc 303 [aL enB p0,aI p1] [rI r]):=⟨λp0 p1 r h=>by
 have i1:=inv λm s=>∃v1:Int,∃v5:Int,(s.t 0=vL enB p0/\s.t 1=vI v1/\s.t 5=vI v5)/\fX p0 m v1 v5=some r
 have e1:=@fX.eq_2
 unfold tN at h
 exact sgo 22 [.tmp 4] Tryz.func303⟩
instance:aZ 421 (∀p0 p1 r (h:AR p0 p1=some r),Sc 421 [aL M.aJo.en p0,aI p1] [rI r]):=⟨λp0 p1 r h=>by
 have i1:=inv λm s=>∃v1:Int,∃v5:Int,(s.t 0=vL M.aJo.en p0/\s.t 1=vI v1/\s.t 5=vI v5)/\hM p0 m v1 v5=some r
 have e1:=@hM.eq_2
 unfold AR at h
 exact sgo 85 [.tmp 4] Tryz.func421⟩
theorem aJP(p0 p1 r)(h:BK p0 p1=some r):Sc 300 [aL M.aJs.en p0,aI p1] [rI r]:=by
 have i1:=inv λm s=>∃j:Int,∃C:Int,(s.t 0=vL M.aJs.en p0/\s.t 1=vI j/\s.t 5=vI C)/\iX p0 m j C=some r
 have e1:=@iX.eq_2
 unfold BK at h
 exact sgo 31 [.tmp 4] Tryz.func300
instance:aZ 304 (∀p0 p1 r (h:BV p0 p1=some r),Sc 304 [aL M.Field.en p0,aI p1] [rI r]):=⟨λp0 p1 r h=>by
 have i1:=inv λm s=>∃v1:Int,∃v5:Int,(s.t 0=vL M.Field.en p0/\s.t 1=vI v1/\s.t 5=vI v5)/\jS p0 m v1 v5=some r
 have e1:=@jS.eq_2
 unfold BV at h
 exact sgo 32 [.tmp 4] Tryz.func304⟩
instance aAt:aZ 190 (∀p0 p1 r (h:uC p0 p1=some r),Sc 190 [aL M.aJl.en p0,aI p1] [rI r]):=⟨λp0 p1 r h=>by
 have i1:=inv λm s=>∃v1:Int,∃v5:Int,(s.t 0=vL M.aJl.en p0/\s.t 1=vI v1/\s.t 5=vI v5)/\lD p0 m v1 v5=some r
 have e1:=@lD.eq_2
 unfold uC at h
 exact sgo 54 [.tmp 4] Tryz.func190⟩
theorem aJD(p0 p1 r)(h:BD p0 p1=some r):Sc 301 [aL M.aD.en p0,aI p1] [rI r]:=by
 have i1:=inv λm s=>∃j:Int,∃C:Int,(s.t 0=vL M.aD.en p0/\s.t 1=vI j/\s.t 5=vI C)/\iY p0 m j C=some r
 have e1:=@iY.eq_2
 unfold BD at h
 exact sgo 41 [.tmp 4] Tryz.func301
theorem aIQ(p0 p1 r)(h:wH p0 p1=some r):Sc 302 [aL M.aG.en p0,aI p1] [rI r]:=by
 have i1:=inv λm s=>∃j:Int,∃C:Int,(s.t 0=vL M.aG.en p0/\s.t 1=vI j/\s.t 5=vI C)/\fS p0 m j C=some r
 have e1:=@fS.eq_2
 unfold wH at h
 exact sgo 33 [.tmp 4] Tryz.func302
theorem aD7(p0 p1 r)(h:xM p0 p1=some r):Sc 192 [aL M.aW.en p0,aI p1] [rI r]:=by
 have i1:=inv λm s=>∃j:Int,∃C:Int,(s.t 0=vL M.aW.en p0/\s.t 1=vI j/\s.t 5=vI C)/\iU p0 m j C=some r
 have e1:=@iU.eq_2
 unfold xM at h
 exact sgo 81 [.tmp 4] Tryz.func192
instance:aZ 183 (∀p0 p1 r (h:AX p0 p1=some r),Sc 183 [aL M.aJa.en p0,aI p1] [rI r]):=⟨λp0 p1 r h=>by
 unfold AX at h
 simp only[EN]
 refine sgn 271 [.tmp 4] Tryz.func183 λbase wd => ?_
 refine sq (rn ?_)
 refine an (sq (sq (rn ?_)))
 refine an (bk ?_)
 refine GD (λm s=>∃v1:Int,∃v5:Int,s.t 0=vL M.aJa.en p0/\s.t 1=vI v1/\s.t 5=vI v5/\fQ p0 m v1 v5=some r) fuel ?_ ?_
 ·refine⟨p1,0,?_,?_,?_,h⟩;all_goals simp +decide only[F,reduceIte,Nat.reduceAdd,qB,qC,EN, *,-h]
 rintro mL1 s1 ⟨v1,v5,f2,f3,f4,h⟩
 rcases mL1 with _ | mL1
 ·exact absurd h (by simp[fQ])
 simp only[fQ]at h
 refine sq (sq (rn ?_))
 refine an ?_
 rcases GB (decide (v5<(List.length p0:Int)))with b5 | b5
 ·replace h:=bI b5 h;refine cf (xt (EW (EP (It (an (sq (rn ?_)))))));refine an (rt ?_);cases h;simp[Ret,TB,EN, *]
 replace h:=bJ b5 h
 refine ct (sk (an (sq (bk (sq (sq ?_))))))
 obtain⟨x6,h7,h⟩:=bind_some h
 obtain⟨q8,q9,db⟩:=aU h7
 obtain⟨bt,bu,h⟩:=bind_some h
 refine rd1 mixed (Jl.1 _ _ bu) ?_
 refine an ?_
 rcases cK (!(x6.aJj.toList==bt.toList))with af | af
 ·replace h:=bJ af h;refine ct (sq (rn ?_));refine an (rt ?_);cases h;simp[Ret,TB,EN, *]
 replace h:=bI af h
 refine cf (sk (an (sq (rn ?_))))
 refine an (sq (sq ?_))
 obtain⟨bw,bz,h⟩:=bind_some h
 refine rd1 mixed (Jl.1 _ _ bz) ?_
 refine an ?_
 rcases cK (!(x6.Top.toList==bw.toList))with ah | ah
 ·replace h:=bJ ah h;refine ct (sq (rn ?_));refine an (rt ?_);cases h;simp[Ret,TB,EN, *]
 replace h:=bI ah h
 refine cf (sk (an (sq (rn ?_))))
 refine an (sq (sq ?_))
 obtain⟨c5,ca,h⟩:=bind_some h
 refine rd1 mixed (Jl.1 _ _ ca) ?_
 refine an ?_
 rcases cK (!(x6.aJc.aJj.toList==c5.toList))with ai | ai
 ·replace h:=bJ ai h;refine ct (sq (rn ?_));refine an (rt ?_);cases h;simp[Ret,TB,EN, *]
 replace h:=bI ai h
 refine cf (sk (an (sq (rn ?_))))
 refine an (sq (sq (rn ?_)))
 refine an ?_
 rcases cK (x6.aJc.aJ9 != (i64.wrap ((i64.wrap ((i64.wrap (v1+1))+1))+1)))with aj | aj
 ·replace h:=bJ aj h;refine ct (sq (rn ?_));refine an (rt ?_);cases h;simp[Ret,TB,EN, *]
 replace h:=bI aj h
 refine cf (sk (an (sq (rn ?_))))
 refine an (sq (sq (rn ?_)))
 refine an ?_
 rcases cK (x6.aJc.aKE != (i64.wrap ((i64.wrap ((i64.wrap ((i64.wrap (v1+1))+1))+1))+1)))with ak | ak
 ·replace h:=bJ ak h;refine ct (sq (rn ?_));refine an (rt ?_);cases h;simp[Ret,TB,EN, *]
 replace h:=bI ak h
 refine cf (sk (an (sq (rn ?_))))
 refine an (sq (sq (rn ?_)))
 refine an ?_
 rcases cK (x6.aJc.aKL != (i64.wrap ((i64.wrap ((i64.wrap ((i64.wrap ((i64.wrap (v1+1))+1))+1))+1))+1)))with al | al
 ·replace h:=bJ al h;refine ct (sq (rn ?_));refine an (rt ?_);cases h;simp[Ret,TB,EN, *]
 replace h:=bI al h
 refine cf (sk (an (sq (rn ?_))))
 refine an (sq ?_)
 refine cu (λs=>s.t 0=vL M.aJa.en p0/\s.t 1=vI (i64.wrap ((i64.wrap ((i64.wrap ((i64.wrap ((i64.wrap ((i64.wrap (v1+1))+1))+1))+1))+1))+1))/\s.t 5=vI v5/\True) ?_
 rintro df f24
 obtain⟨br,cc,h⟩:=bind_some h
 refine rn1 (aJP _ _ _ cc) ?_
 refine an (sq (sq (rn ?_)))
 refine an ?_
 rcases cK (decide (br<0))with ao | ao
 ·replace h:=bJ ao h;refine ct (sq (rn ?_));refine an (rt ?_);cases h;simp[Ret,TB,EN, *]
 replace h:=bI ao h
 refine cf (sk (an (sq (sq ?_))))
 obtain⟨cd,cg,h⟩:=bind_some h
 refine rd1 mixed (Jl.1 _ _ cg) ?_
 refine an ?_
 rcases cK (!(x6.bL.aJz.Name.toList==cd.toList))with aq | aq
 ·replace h:=bJ aq h;refine ct (sq (rn ?_));refine an (rt ?_);cases h;simp[Ret,TB,EN, *]
 replace h:=bI aq h
 refine cf (sk (an (sq (rn ?_))))
 refine an (sq (sq (rn ?_)))
 refine an ?_
 rcases cK (x6.bL.aJz.aJd != (i64.wrap (br+1)))with ar | ar
 ·replace h:=bJ ar h;refine ct (sq (rn ?_));refine an (rt ?_);cases h;simp[Ret,TB,EN, *]
 replace h:=bI ar h
 refine cf (sk (an (sq (rn ?_))))
 refine an (sq ?_)
 obtain⟨cj,ck,h⟩:=bind_some h
 refine rn1 (aJD _ _ _ ck) ?_
 refine an (sq (sq (rn ?_)))
 refine an ?_
 rcases cK (decide (cj<0))with av | av
 ·replace h:=bJ av h;refine ct (sq (rn ?_));refine an (rt ?_);cases h;simp[Ret,TB,EN, *]
 replace h:=bI av h
 refine cf (sk (an (sq ?_)))
 obtain⟨cn,cq,h⟩:=bind_some h
 refine rn1 (aIQ _ _ _ cq) ?_
 refine an (sq (sq (rn ?_)))
 refine an ?_
 rcases cK (decide (cn<0))with aw | aw
 ·replace h:=bJ aw h;refine ct (sq (rn ?_));refine an (rt ?_);cases h;simp[Ret,TB,EN, *]
 replace h:=bI aw h
 refine cf (sk (an (sq ?_)))
 obtain⟨ax,cr,h⟩:=bind_some h
 refine rn1 (aBo.1 _ _ _ cr) ?_
 refine an (sq (sq (rn ?_)))
 refine an ?_
 rcases cK (decide (ax<0))with ay | ay
 ·replace h:=bJ ay h;refine ct (sq (rn ?_));refine an (rt ?_);cases h;simp[Ret,TB,EN, *]
 replace h:=bI ay h
 refine cf (sk (an (sq (sq ?_))))
 refine cu (λs=>s.t 0=vL M.aJa.en p0/\s.t 1=vI ax/\s.t 5=vI v5/\True) ?_
 rintro dg f44
 refine rn ?_
 refine an ?_
 rcases cK (x6.bL.aKJ != ax)with az | az
 ·replace h:=bJ az h;refine ct (sq (rn ?_));refine an (rt ?_);cases h;simp[Ret,TB,EN, *]
 replace h:=bI az h
 refine cf (sk (an (sq (rn ?_))))
 refine an (sq (sq ?_))
 obtain⟨cw,cy,h⟩:=bind_some h
 refine rd1 mixed (Jl.1 _ _ cy) ?_
 refine an ?_
 rcases cK (!(x6.aE.aJz.Name.toList==cw.toList))with ba | ba
 ·replace h:=bJ ba h;refine ct (sq (rn ?_));refine an (rt ?_);cases h;simp[Ret,TB,EN, *]
 replace h:=bI ba h
 refine cf (sk (an (sq (rn ?_))))
 refine an (sq ?_)
 obtain⟨aa,cz,h⟩:=bind_some h
 refine rn1 (aAt.1 _ _ _ cz) ?_
 refine an (sq (sq (rn ?_)))
 refine an ?_
 rcases cK (decide (aa<0))with bd | bd
 ·replace h:=bJ bd h;refine ct (sq (rn ?_));refine an (rt ?_);cases h;simp[Ret,TB,EN, *]
 replace h:=bI bd h
 refine cf (sk (an (sq (sq (rn ?_)))))
 refine an ?_
 rcases cK (x6.aE.aJz.aJ7 != aa)with bf | bf
 ·replace h:=bJ bf h;refine ct (sq (rn ?_));refine an (rt ?_);cases h;simp[Ret,TB,EN, *]
 replace h:=bI bf h
 refine cf (sk (an (sq (rn ?_))))
 refine an (sq (sq (rn ?_)))
 refine an ?_
 rcases cK (x6.aE.aKV != (i64.wrap (aa+1)))with bg | bg
 ·replace h:=bJ bg h;refine ct (sq (rn ?_));refine an (rt ?_);cases h;simp[Ret,TB,EN, *]
 replace h:=bI bg h
 refine cf (sk (an (sq (rn ?_))))
 refine an (sq (sq (rn ?_)))
 refine an ?_
 rcases cK (x6.aE.aJx.aM.aJq != (i64.wrap ((i64.wrap (aa+1))+1)))with bh | bh
 ·replace h:=bJ bh h;refine ct (sq (rn ?_));refine an (rt ?_);cases h;simp[Ret,TB,EN, *]
 replace h:=bI bh h
 refine cf (sk (an (sq (rn ?_))))
 refine an (sq (sq ?_))
 refine cu (λs=>s.t 0=vL M.aJa.en p0/\s.t 1=vI (i64.wrap ((i64.wrap ((i64.wrap (aa+1))+1))+1))/\s.t 5=vI v5/\True) ?_
 rintro dh f58
 refine rn ?_
 refine an ?_
 rcases cK (x6.aE.aJx.aM.aKM != (i64.wrap ((i64.wrap ((i64.wrap (aa+1))+1))+1)))with bj | bj
 ·replace h:=bJ bj h;refine ct (sq (rn ?_));refine an (rt ?_);cases h;simp[Ret,TB,EN, *]
 replace h:=bI bj h
 refine cf (sk (an (sq (rn ?_))))
 refine an (sq ?_)
 obtain⟨ae,da,h⟩:=bind_some h
 refine rn1 (aD7 _ _ _ da) ?_
 refine an (sq (sq (rn ?_)))
 refine an ?_
 rcases cK (decide (ae<0))with bl | bl
 ·replace h:=bJ bl h;refine ct (sq (rn ?_));refine an (rt ?_);cases h;simp[Ret,TB,EN, *]
 replace h:=bI bl h
 refine cf (sk (an (sq (sq (rn ?_)))))
 refine an ?_
 rcases cK (x6.aE.aJx.aKP != ae)with bm | bm
 ·replace h:=bJ bm h;refine ct (sq (rn ?_));refine an (rt ?_);cases h;simp[Ret,TB,EN, *]
 replace h:=bI bm h
 refine cf (sk (an (sq (rn ?_))))
 refine an (sq (sq (rn ?_)))
 refine an ?_
 rcases cK (x6.aE.aJx.aKC != (i64.wrap (ae+1)))with bn | bn
 ·replace h:=bJ bn h;refine ct (sq (rn ?_));refine an (rt ?_);cases h;simp[Ret,TB,EN, *]
 replace h:=bI bn h
 refine cf (sk (an (sq (rn ?_))))
 refine an (sq (sq (rn ?_)))
 refine an ?_
 rcases cK (x6.aJ4 != (i64.wrap ((i64.wrap (ae+1))+1)))with bo | bo
 ·replace h:=bJ bo h;refine ct (sq (rn ?_));refine an (rt ?_);cases h;simp[Ret,TB,EN, *]
 replace h:=bI bo h
 refine cf (sk (an (sq (rn ?_))))
 refine an (sq (sq (rn ?_)))
 refine an ?_
 rcases cK (!(x6.aJ3==((Int.tmod (i64.wrap ((i64.wrap ((i64.wrap (ae+1))+1))+1)) 3)==0)))with bq | bq
 ·replace h:=bJ bq h;refine ct (sq (rn ?_));refine an (rt ?_);cases h;simp[Ret,TB,EN, *]
 replace h:=bI bq h
 refine cf (sk (an (rn ?_)))
 refine ab (an (rn ?_))
 refine jU ⟨mL1,jD,i64.wrap ((i64.wrap ((i64.wrap ((i64.wrap (ae+1))+1))+1))+1),i64.wrap (v5+1),?_,?_,?_,h⟩
 all_goals simp +decide only[F,reduceIte,Nat.reduceAdd,qB,qC,EN, *,-h]⟩
instance:aZ 68 (∀p0 p1 r (h:AW p0 p1=some r),Sc 68 [aX (M.aC.en p0),aI p1] [rI r]):=⟨λp0 p1 r h=>by unfold AW at h;exact sgo 12 [.tmp 4] Tryz.func68⟩
theorem aIx(p0 p1 r)(h:A3 p0 p1=some r):Sc 184 [aL M.aJ.en p0,aI p1] [rI r]:=by
 have i1:=inv λm s=>∃j:Int,∃C:Int,(s.t 0=vL M.aJ.en p0/\s.t 1=vI j/\s.t 5=vI C)/\gY p0 m j C=some r
 have e1:=@gY.eq_2
 unfold A3 at h
 exact sgo 32 [.tmp 4] Tryz.func184
theorem aI3(p0 p1 r)(h:B3 p0 p1=some r):Sc 185 [aL M.Instr.en p0,aI p1] [rI r]:=by
 have i1:=inv λm s=>∃j:Int,∃C:Int,(s.t 0=vL M.Instr.en p0/\s.t 1=vI j/\s.t 5=vI C)/\iT p0 m j C=some r
 have e1:=@iT.eq_2
 unfold B3 at h
 exact sgo 50 [.tmp 4] Tryz.func185
theorem aJI(p0 p1 r)(h:Bk p0 p1=some r):Sc 186 [aL enI p0,aI p1] [rI r]:=by
 have i1:=inv λm s=>∃j:Int,∃C:Int,(s.t 0=vL enI p0/\s.t 1=vI j/\s.t 5=vI C)/\gN p0 m j C=some r
 have e1:=@gN.eq_2
 unfold Bk at h
 exact sgo 21 [.tmp 4] Tryz.func186
instance:aZ 69 (∀p0 p1 r (h:CP p0 p1=some r),Sc 69 [aL M.bD.en p0,aI p1] [rI r]):=⟨λp0 p1 r h=>by
 unfold CP at h
 simp only[EN]
 refine sgn 124 [.tmp 4] Tryz.func69 λbase wd => ?_
 refine sq (rn ?_)
 refine an (sq (sq (rn ?_)))
 refine an (bk ?_)
 refine GD (λm s=>∃v1:Int,∃v5:Int,s.t 0=vL M.bD.en p0/\s.t 1=vI v1/\s.t 5=vI v5/\gZ p0 m v1 v5=some r) fuel ?_ ?_
 ·refine⟨p1,0,?_,?_,?_,h⟩;all_goals simp +decide only[F,reduceIte,Nat.reduceAdd,qB,qC,EN, *,-h]
 rintro mL1 s1 ⟨v1,v5,f2,f3,f4,h⟩
 rcases mL1 with _ | mL1
 ·exact absurd h (by simp[gZ])
 simp only[gZ]at h
 refine sq (sq (rn ?_))
 refine an ?_
 rcases GB (decide (v5<(List.length p0:Int)))with b5 | b5
 ·replace h:=bI b5 h;refine cf (xt (EW (EP (It (an (sq (rn ?_)))))));refine an (rt ?_);cases h;simp[Ret,TB,EN, *]
 replace h:=bJ b5 h
 refine ct (sk (an (sq (bk (sq (sq ?_))))))
 obtain⟨x6,h7,h⟩:=bind_some h
 obtain⟨q8,q9,bj⟩:=aU h7
 refine rn ?_
 refine an ?_
 rcases cK (x6.Id != v1)with ae | ae
 ·replace h:=bJ ae h;refine ct (sq (rn ?_));refine an (rt ?_);cases h;simp[Ret,TB,EN, *]
 replace h:=bI ae h
 refine cf (sk (an (sq (rn ?_))))
 refine an (sq (sq ?_))
 obtain⟨ax,ay,h⟩:=bind_some h
 refine rd1 mixed (Jl.1 _ _ ay) ?_
 refine an ?_
 rcases cK (!(x6.aJj.toList==ax.toList))with af | af
 ·replace h:=bJ af h;refine ct (sq (rn ?_));refine an (rt ?_);cases h;simp[Ret,TB,EN, *]
 replace h:=bI af h
 refine cf (sk (an (sq (rn ?_))))
 refine an (sq (sq ?_))
 obtain⟨az,ba,h⟩:=bind_some h
 refine rd1 mixed (Jl.1 _ _ ba) ?_
 refine an ?_
 rcases cK (!(x6.Top.toList==az.toList))with ah | ah
 ·replace h:=bJ ah h;refine ct (sq (rn ?_));refine an (rt ?_);cases h;simp[Ret,TB,EN, *]
 replace h:=bI ah h
 refine cf (sk (an (sq (rn ?_))))
 refine an (sq (sq (rn ?_)))
 refine an ?_
 rcases cK (x6.aJd != (i64.wrap ((i64.wrap ((i64.wrap (v1+1))+1))+1)))with ai | ai
 ·replace h:=bJ ai h;refine ct (sq (rn ?_));refine an (rt ?_);cases h;simp[Ret,TB,EN, *]
 replace h:=bI ai h
 refine cf (sk (an (sq (rn ?_))))
 refine an (sq ?_)
 obtain⟨bd,bf,h⟩:=bind_some h
 refine rn1 (aIx _ _ _ bf) ?_
 refine an (sq (sq (rn ?_)))
 refine an ?_
 rcases cK (decide (bd<0))with aj | aj
 ·replace h:=bJ aj h;refine ct (sq (rn ?_));refine an (rt ?_);cases h;simp[Ret,TB,EN, *]
 replace h:=bI aj h
 refine cf (sk (an (sq ?_)))
 obtain⟨ak,bg,h⟩:=bind_some h
 refine rn1 (aI3 _ _ _ bg) ?_
 refine an (sq (sq (rn ?_)))
 refine an ?_
 rcases cK (decide (ak<0))with al | al
 ·replace h:=bJ al h;refine ct (sq (rn ?_));refine an (rt ?_);cases h;simp[Ret,TB,EN, *]
 replace h:=bI al h
 refine cf (sk (an (sq (sq ?_))))
 refine cu (λs=>s.t 0=vL M.bD.en p0/\s.t 1=vI ak/\s.t 5=vI v5/\True) ?_
 rintro bl f26
 refine rn ?_
 refine an ?_
 rcases cK (x6.aJf.Pc != ak)with ao | ao
 ·replace h:=bJ ao h;refine ct (sq (rn ?_));refine an (rt ?_);cases h;simp[Ret,TB,EN, *]
 replace h:=bI ao h
 refine cf (sk (an (sq (rn ?_))))
 refine an (sq ?_)
 obtain⟨aa,bh,h⟩:=bind_some h
 refine rn1 (aJI _ _ _ bh) ?_
 refine an (sq (sq (rn ?_)))
 refine an ?_
 rcases cK (decide (aa<0))with aq | aq
 ·replace h:=bJ aq h;refine ct (sq (rn ?_));refine an (rt ?_);cases h;simp[Ret,TB,EN, *]
 replace h:=bI aq h
 refine cf (sk (an (sq (sq (rn ?_)))))
 refine an ?_
 rcases cK (x6.aJf.aKO != aa)with ar | ar
 ·replace h:=bJ ar h;refine ct (sq (rn ?_));refine an (rt ?_);cases h;simp[Ret,TB,EN, *]
 replace h:=bI ar h
 refine cf (sk (an (sq (rn ?_))))
 refine an (sq (sq (rn ?_)))
 refine an ?_
 rcases cK (!(x6.aJf.aKT==((Int.tmod (i64.wrap (aa+1)) 3)==0)))with av | av
 ·replace h:=bJ av h;refine ct (sq (rn ?_));refine an (rt ?_);cases h;simp[Ret,TB,EN, *]
 replace h:=bI av h
 refine cf (sk (an (sq (rn ?_))))
 refine an (sq (sq (rn ?_)))
 refine an ?_
 rcases cK (!(x6.aJf.aKQ==((Int.tmod (i64.wrap ((i64.wrap (aa+1))+1)) 3)==0)))with aw | aw
 ·replace h:=bJ aw h;refine ct (sq (rn ?_));refine an (rt ?_);cases h;simp[Ret,TB,EN, *]
 replace h:=bI aw h
 refine cf (sk (an (rn ?_)))
 refine ab (an (rn ?_))
 refine jU ⟨mL1,jD,i64.wrap ((i64.wrap ((i64.wrap (aa+1))+1))+1),i64.wrap (v5+1),?_,?_,?_,h⟩
 all_goals simp +decide only[F,reduceIte,Nat.reduceAdd,qB,qC,EN, *,-h]⟩
instance:aZ 187 (∀p0 p1 r (h:CY p0 p1=some r),Sc 187 [aL M.fE.en p0,aI p1] [rI r]):=⟨λp0 p1 r h=>by
 have i1:=inv λm s=>∃v1:Int,∃v5:Int,(s.t 0=vL M.fE.en p0/\s.t 1=vI v1/\s.t 5=vI v5)/\lB p0 m v1 v5=some r
 have e1:=@lB.eq_2
 unfold CY at h
 exact sgo 54 [.tmp 4] Tryz.func187⟩
instance:aZ 70 (∀p0 p1 r (h:wJ p0 p1=some r),Sc 70 [aX (M.aQ.en p0),aI p1] [rI r]):=⟨λp0 p1 r h=>by unfold wJ at h;exact sgo 12 [.tmp 4] Tryz.func70⟩
instance:aZ 188 (∀p0 p1 r (h:C3 p0 p1=some r),Sc 188 [aL M.kK.en p0,aI p1] [rI r]):=⟨λp0 p1 r h=>by
 have i1:=inv λm s=>∃v1:Int,∃v5:Int,(s.t 0=vL M.kK.en p0/\s.t 1=vI v1/\s.t 5=vI v5)/\lF p0 m v1 v5=some r
 have e1:=@lF.eq_2
 unfold C3 at h
 exact sgo 40 [.tmp 4] Tryz.func188⟩
instance:aZ 71 (∀p0 p1 r (h:A4 p0 p1=some r),Sc 71 [aX (M.aJp.en p0),aI p1] [rI r]):=⟨λp0 p1 r h=>by unfold A4 at h;exact sgo 12 [.tmp 4] Tryz.func71⟩
instance:aZ 189 (∀p0 p1 r (h:uV p0 p1=some r),Sc 189 [aL enS p0,aI p1] [rI r]):=⟨λp0 p1 r h=>by
 have i1:=inv λm s=>∃v1:Int,∃v5:Int,(s.t 0=vL enS p0/\s.t 1=vI v1/\s.t 5=vI v5)/\eE p0 m v1 v5=some r
 have e1:=@eE.eq_2
 unfold uV at h
 exact sgo 22 [.tmp 4] Tryz.func189⟩
instance:aZ 72 (∀p0 p1 r (h:Da p0 p1=some r),Sc 72 [aL M.aJj.en p0,aI p1] [rI r]):=⟨λp0 p1 r h=>by
 have i1:=inv λm s=>∃v1:Int,∃v5:Int,(s.t 0=vL M.aJj.en p0/\s.t 1=vI v1/\s.t 5=vI v5)/\kQ p0 m v1 v5=some r
 have e1:=@kQ.eq_2
 unfold Da at h
 exact sgo 52 [.tmp 4] Tryz.func72⟩
theorem aI5(p0 p1 r)(h:yY p0 p1=some r):Sc 191 [aL M.aK.en p0,aI p1] [rI r]:=by
 have i1:=inv λm s=>∃j:Int,∃C:Int,(s.t 0=vL M.aK.en p0/\s.t 1=vI j/\s.t 5=vI C)/\gL p0 m j C=some r
 have e1:=@gL.eq_2
 unfold yY at h
 exact sgo 31 [.tmp 4] Tryz.func191
instance:aZ 73 (∀p0 p1 r (h:A8 p0 p1=some r),Sc 73 [aL M.aJn.en p0,aI p1] [rI r]):=⟨λp0 p1 r h=>by
 unfold A8 at h
 simp only[EN]
 refine sgn 62 [.tmp 4] Tryz.func73 λbase wd => ?_
 refine sq (rn ?_)
 refine an (sq (sq (rn ?_)))
 refine an (bk ?_)
 refine GD (λm s=>∃v1:Int,∃v5:Int,s.t 0=vL M.aJn.en p0/\s.t 1=vI v1/\s.t 5=vI v5/\fP p0 m v1 v5=some r) fuel ?_ ?_
 ·refine⟨p1,0,?_,?_,?_,h⟩;all_goals simp +decide only[F,reduceIte,Nat.reduceAdd,qB,qC,EN, *,-h]
 rintro mL1 s1 ⟨v1,v5,f2,f3,f4,h⟩
 rcases mL1 with _ | mL1
 ·exact absurd h (by simp[fP])
 simp only[fP]at h
 refine sq (sq (rn ?_))
 refine an ?_
 rcases GB (decide (v5<(List.length p0:Int)))with b5 | b5
 ·replace h:=bI b5 h;refine cf (xt (EW (EP (It (an (sq (rn ?_)))))));refine an (rt ?_);cases h;simp[Ret,TB,EN, *]
 replace h:=bJ b5 h
 refine ct (sk (an (sq (bk (sq (sq ?_))))))
 obtain⟨x6,h7,h⟩:=bind_some h
 obtain⟨q8,q9,ax⟩:=aU h7
 obtain⟨al,ao,h⟩:=bind_some h
 refine rd1 mixed (Jl.1 _ _ ao) ?_
 refine an ?_
 rcases cK (!(x6.aD.Name.toList==al.toList))with aa | aa
 ·replace h:=bJ aa h;refine ct (sq (rn ?_));refine an (rt ?_);cases h;simp[Ret,TB,EN, *]
 replace h:=bI aa h
 refine cf (sk (an (sq (rn ?_))))
 refine an (sq ?_)
 obtain⟨aj,aq,h⟩:=bind_some h
 refine rn1 (aAt.1 _ _ _ aq) ?_
 refine an (sq (sq (rn ?_)))
 refine an ?_
 rcases cK (decide (aj<0))with ae | ae
 ·replace h:=bJ ae h;refine ct (sq (rn ?_));refine an (rt ?_);cases h;simp[Ret,TB,EN, *]
 replace h:=bI ae h
 refine cf (sk (an (sq (sq (rn ?_)))))
 refine an ?_
 rcases cK (x6.aD.aJ7 != aj)with af | af
 ·replace h:=bJ af h;refine ct (sq (rn ?_));refine an (rt ?_);cases h;simp[Ret,TB,EN, *]
 replace h:=bI af h
 refine cf (sk (an (sq (rn ?_))))
 refine an (sq ?_)
 obtain⟨ar,av,h⟩:=bind_some h
 refine rn1 (aI5 _ _ _ av) ?_
 refine an (sq (sq (rn ?_)))
 refine an ?_
 rcases cK (decide (ar<0))with ah | ah
 ·replace h:=bJ ah h;refine ct (sq (rn ?_));refine an (rt ?_);cases h;simp[Ret,TB,EN, *]
 replace h:=bI ah h
 refine cf (sk (an (sq ?_)))
 obtain⟨ak,aw,h⟩:=bind_some h
 refine rn1 (aD7 _ _ _ aw) ?_
 refine an (sq (rn ?_))
 refine an ?_
 rcases cK (decide (ak<0))with ai | ai
 ·replace h:=bJ ai h;refine ct (sq (rn ?_));refine an (rt ?_);cases h;simp[Ret,TB,EN, *]
 replace h:=bI ai h
 refine cf (sk (ab (an (rn ?_))))
 refine jU ⟨mL1,jD,ak,i64.wrap (v5+1),?_,?_,?_,h⟩
 all_goals simp +decide only[F,reduceIte,Nat.reduceAdd,qB,qC,EN, *,-h]⟩
theorem c12(p0 p1 r)(h:uO p0 p1=some r):Sc 12 [aX (M.World.en p0),aI p1] [rI r]:=by unfold uO at h;exact sgo 42 [.tmp 4] Tryz.func12
