/-
  Helper text. No conditions.
-/
import Derived.Test.YtbpbocchokbggaaGreatWriteNoteWmark0
set_option linter.all false
namespace Go.Proofs.YtbpbocchokbggaaGreat.gen
open Go Go.Sh
open Go.IntKind (i64)
set_option maxRecDepth 20000
set_option maxHeartbeats 4000000
instance XO:aZ 371 (∀p0 p1 r (h:pB p0 p1=some r),Sc 371 [aL enB p0,aI p1] [rI r]):=⟨λp0 p1 r h=>by
 have i1:=inv λm s=>∃v1:Int,∃v5:Int,(s.t 0=vL enB p0/\s.t 1=vI v1/\s.t 5=vI v5)/\eU p0 m v1 v5=some r
 have e1:=@eU.eq_2
 unfold pB at h
 exact sgo 22 [.tmp 4] Tryz.func371⟩
instance:aZ 466 (∀p0 p1 r (h:xI p0 p1=some r),Sc 466 [aL M.aEW.en p0,aI p1] [rI r]):=⟨λp0 p1 r h=>by
 have i1:=inv λm s=>∃v1:Int,∃v5:Int,(s.t 0=vL M.aEW.en p0/\s.t 1=vI v1/\s.t 5=vI v5)/\gC p0 m v1 v5=some r
 have e1:=@gC.eq_2
 unfold xI at h
 exact sgo 85 [.tmp 4] Tryz.func466⟩
theorem aEH(p0 p1 r)(h:zB p0 p1=some r):Sc 368 [aL M.aEZ.en p0,aI p1] [rI r]:=by
 have i1:=inv λm s=>∃j:Int,∃C:Int,(s.t 0=vL M.aEZ.en p0/\s.t 1=vI j/\s.t 5=vI C)/\gZ p0 m j C=some r
 have e1:=@gZ.eq_2
 unfold zB at h
 exact sgo 31 [.tmp 4] Tryz.func368
instance:aZ 372 (∀p0 p1 r (h:zL p0 p1=some r),Sc 372 [aL M.Field.en p0,aI p1] [rI r]):=⟨λp0 p1 r h=>by
 have i1:=inv λm s=>∃v1:Int,∃v5:Int,(s.t 0=vL M.Field.en p0/\s.t 1=vI v1/\s.t 5=vI v5)/\hM p0 m v1 v5=some r
 have e1:=@hM.eq_2
 unfold zL at h
 exact sgo 32 [.tmp 4] Tryz.func372⟩
instance WS:aZ 233 (∀p0 p1 r (h:pJ p0 p1=some r),Sc 233 [aL M.aES.en p0,aI p1] [rI r]):=⟨λp0 p1 r h=>by
 have i1:=inv λm s=>∃v1:Int,∃v5:Int,(s.t 0=vL M.aES.en p0/\s.t 1=vI v1/\s.t 5=vI v5)/\iU p0 m v1 v5=some r
 have e1:=@iU.eq_2
 unfold pJ at h
 exact sgo 54 [.tmp 4] Tryz.func233⟩
theorem aDr(p0 p1 r)(h:yV p0 p1=some r):Sc 369 [aL M.aC.en p0,aI p1] [rI r]:=by
 have i1:=inv λm s=>∃j:Int,∃C:Int,(s.t 0=vL M.aC.en p0/\s.t 1=vI j/\s.t 5=vI C)/\hH p0 m j C=some r
 have e1:=@hH.eq_2
 unfold yV at h
 exact sgo 41 [.tmp 4] Tryz.func369
theorem aEI(p0 p1 r)(h:sD p0 p1=some r):Sc 370 [aL M.aG.en p0,aI p1] [rI r]:=by
 have i1:=inv λm s=>∃j:Int,∃C:Int,(s.t 0=vL M.aG.en p0/\s.t 1=vI j/\s.t 5=vI C)/\eO p0 m j C=some r
 have e1:=@eO.eq_2
 unfold sD at h
 exact sgo 33 [.tmp 4] Tryz.func370
theorem aBM(p0 p1 r)(h:tE p0 p1=some r):Sc 235 [aL M.bB.en p0,aI p1] [rI r]:=by
 have i1:=inv λm s=>∃j:Int,∃C:Int,(s.t 0=vL M.bB.en p0/\s.t 1=vI j/\s.t 5=vI C)/\gW p0 m j C=some r
 have e1:=@gW.eq_2
 unfold tE at h
 exact sgo 81 [.tmp 4] Tryz.func235
instance:aZ 226 (∀p0 p1 r (h:xO p0 p1=some r),Sc 226 [aL M.aEJ.en p0,aI p1] [rI r]):=⟨λp0 p1 r h=>by
 unfold xO at h
 simp only[EN]
 refine sgn 271 [.tmp 4] Tryz.func226 λbase wd => ?_
 refine sq (rn ?_)
 refine an (sq (sq (rn ?_)))
 refine an (bk ?_)
 refine DW (λm s=>∃v1:Int,∃v5:Int,s.t 0=vL M.aEJ.en p0/\s.t 1=vI v1/\s.t 5=vI v5/\eM p0 m v1 v5=some r) fuel ?_ ?_
 ·refine⟨p1,0,?_,?_,?_,h⟩;all_goals simp +decide only[F,reduceIte,Nat.reduceAdd,qB,qC,EN, *,-h]
 rintro mL1 s1 ⟨v1,v5,f2,f3,f4,h⟩
 rcases mL1 with _ | mL1
 ·exact absurd h (by simp[eM])
 simp only[eM]at h
 refine sq (sq (rn ?_))
 refine an ?_
 rcases Ep (decide (v5<(List.length p0:Int)))with b5 | b5
 ·replace h:=bQ b5 h;refine cf (xt (CS (CL (Ft (an (sq (rn ?_)))))));refine an (rt ?_);cases h;simp[Ret,TB,EN, *]
 replace h:=bR b5 h
 refine ct (sk (an (sq (bk (sq (sq ?_))))))
 obtain⟨x6,h7,h⟩:=bind_some h
 obtain⟨q8,q9,db⟩:=aO h7
 obtain⟨bt,bu,h⟩:=bind_some h
 refine rd1 mixed (Ga.1 _ _ bu) ?_
 refine an ?_
 rcases dQ (!(x6.aET.toList==bt.toList))with af | af
 ·replace h:=bR af h;refine ct (sq (rn ?_));refine an (rt ?_);cases h;simp[Ret,TB,EN, *]
 replace h:=bQ af h
 refine cf (sk (an (sq (rn ?_))))
 refine an (sq (sq ?_))
 obtain⟨bw,bz,h⟩:=bind_some h
 refine rd1 mixed (Ga.1 _ _ bz) ?_
 refine an ?_
 rcases dQ (!(x6.Top.toList==bw.toList))with ah | ah
 ·replace h:=bR ah h;refine ct (sq (rn ?_));refine an (rt ?_);cases h;simp[Ret,TB,EN, *]
 replace h:=bQ ah h
 refine cf (sk (an (sq (rn ?_))))
 refine an (sq (sq ?_))
 obtain⟨c5,ca,h⟩:=bind_some h
 refine rd1 mixed (Ga.1 _ _ ca) ?_
 refine an ?_
 rcases dQ (!(x6.aEL.aET.toList==c5.toList))with ai | ai
 ·replace h:=bR ai h;refine ct (sq (rn ?_));refine an (rt ?_);cases h;simp[Ret,TB,EN, *]
 replace h:=bQ ai h
 refine cf (sk (an (sq (rn ?_))))
 refine an (sq (sq (rn ?_)))
 refine an ?_
 rcases dQ (x6.aEL.aEn != (i64.wrap ((i64.wrap ((i64.wrap (v1+1))+1))+1)))with aj | aj
 ·replace h:=bR aj h;refine ct (sq (rn ?_));refine an (rt ?_);cases h;simp[Ret,TB,EN, *]
 replace h:=bQ aj h
 refine cf (sk (an (sq (rn ?_))))
 refine an (sq (sq (rn ?_)))
 refine an ?_
 rcases dQ (x6.aEL.aEw != (i64.wrap ((i64.wrap ((i64.wrap ((i64.wrap (v1+1))+1))+1))+1)))with ak | ak
 ·replace h:=bR ak h;refine ct (sq (rn ?_));refine an (rt ?_);cases h;simp[Ret,TB,EN, *]
 replace h:=bQ ak h
 refine cf (sk (an (sq (rn ?_))))
 refine an (sq (sq (rn ?_)))
 refine an ?_
 rcases dQ (x6.aEL.aE0 != (i64.wrap ((i64.wrap ((i64.wrap ((i64.wrap ((i64.wrap (v1+1))+1))+1))+1))+1)))with al | al
 ·replace h:=bR al h;refine ct (sq (rn ?_));refine an (rt ?_);cases h;simp[Ret,TB,EN, *]
 replace h:=bQ al h
 refine cf (sk (an (sq (rn ?_))))
 refine an (sq ?_)
 refine cu (λs=>s.t 0=vL M.aEJ.en p0/\s.t 1=vI (i64.wrap ((i64.wrap ((i64.wrap ((i64.wrap ((i64.wrap ((i64.wrap (v1+1))+1))+1))+1))+1))+1))/\s.t 5=vI v5/\True) ?_
 rintro df f24
 obtain⟨br,cc,h⟩:=bind_some h
 refine rn1 (aEH _ _ _ cc) ?_
 refine an (sq (sq (rn ?_)))
 refine an ?_
 rcases dQ (decide (br<0))with ao | ao
 ·replace h:=bR ao h;refine ct (sq (rn ?_));refine an (rt ?_);cases h;simp[Ret,TB,EN, *]
 replace h:=bQ ao h
 refine cf (sk (an (sq (sq ?_))))
 obtain⟨cd,cg,h⟩:=bind_some h
 refine rd1 mixed (Ga.1 _ _ cg) ?_
 refine an ?_
 rcases dQ (!(x6.bK.aEe.Name.toList==cd.toList))with aq | aq
 ·replace h:=bR aq h;refine ct (sq (rn ?_));refine an (rt ?_);cases h;simp[Ret,TB,EN, *]
 replace h:=bQ aq h
 refine cf (sk (an (sq (rn ?_))))
 refine an (sq (sq (rn ?_)))
 refine an ?_
 rcases dQ (x6.bK.aEe.aER != (i64.wrap (br+1)))with ar | ar
 ·replace h:=bR ar h;refine ct (sq (rn ?_));refine an (rt ?_);cases h;simp[Ret,TB,EN, *]
 replace h:=bQ ar h
 refine cf (sk (an (sq (rn ?_))))
 refine an (sq ?_)
 obtain⟨cj,ck,h⟩:=bind_some h
 refine rn1 (aDr _ _ _ ck) ?_
 refine an (sq (sq (rn ?_)))
 refine an ?_
 rcases dQ (decide (cj<0))with av | av
 ·replace h:=bR av h;refine ct (sq (rn ?_));refine an (rt ?_);cases h;simp[Ret,TB,EN, *]
 replace h:=bQ av h
 refine cf (sk (an (sq ?_)))
 obtain⟨cn,cq,h⟩:=bind_some h
 refine rn1 (aEI _ _ _ cq) ?_
 refine an (sq (sq (rn ?_)))
 refine an ?_
 rcases dQ (decide (cn<0))with aw | aw
 ·replace h:=bR aw h;refine ct (sq (rn ?_));refine an (rt ?_);cases h;simp[Ret,TB,EN, *]
 replace h:=bQ aw h
 refine cf (sk (an (sq ?_)))
 obtain⟨ax,cr,h⟩:=bind_some h
 refine rn1 (XO.1 _ _ _ cr) ?_
 refine an (sq (sq (rn ?_)))
 refine an ?_
 rcases dQ (decide (ax<0))with ay | ay
 ·replace h:=bR ay h;refine ct (sq (rn ?_));refine an (rt ?_);cases h;simp[Ret,TB,EN, *]
 replace h:=bQ ay h
 refine cf (sk (an (sq (sq ?_))))
 refine cu (λs=>s.t 0=vL M.aEJ.en p0/\s.t 1=vI ax/\s.t 5=vI v5/\True) ?_
 rintro dg f44
 refine rn ?_
 refine an ?_
 rcases dQ (x6.bK.aEx != ax)with az | az
 ·replace h:=bR az h;refine ct (sq (rn ?_));refine an (rt ?_);cases h;simp[Ret,TB,EN, *]
 replace h:=bQ az h
 refine cf (sk (an (sq (rn ?_))))
 refine an (sq (sq ?_))
 obtain⟨cw,cy,h⟩:=bind_some h
 refine rd1 mixed (Ga.1 _ _ cy) ?_
 refine an ?_
 rcases dQ (!(x6.aF.aEe.Name.toList==cw.toList))with ba | ba
 ·replace h:=bR ba h;refine ct (sq (rn ?_));refine an (rt ?_);cases h;simp[Ret,TB,EN, *]
 replace h:=bQ ba h
 refine cf (sk (an (sq (rn ?_))))
 refine an (sq ?_)
 obtain⟨aa,cz,h⟩:=bind_some h
 refine rn1 (WS.1 _ _ _ cz) ?_
 refine an (sq (sq (rn ?_)))
 refine an ?_
 rcases dQ (decide (aa<0))with bd | bd
 ·replace h:=bR bd h;refine ct (sq (rn ?_));refine an (rt ?_);cases h;simp[Ret,TB,EN, *]
 replace h:=bQ bd h
 refine cf (sk (an (sq (sq (rn ?_)))))
 refine an ?_
 rcases dQ (x6.aF.aEe.aEo != aa)with bf | bf
 ·replace h:=bR bf h;refine ct (sq (rn ?_));refine an (rt ?_);cases h;simp[Ret,TB,EN, *]
 replace h:=bQ bf h
 refine cf (sk (an (sq (rn ?_))))
 refine an (sq (sq (rn ?_)))
 refine an ?_
 rcases dQ (x6.aF.aFF != (i64.wrap (aa+1)))with bg | bg
 ·replace h:=bR bg h;refine ct (sq (rn ?_));refine an (rt ?_);cases h;simp[Ret,TB,EN, *]
 replace h:=bQ bg h
 refine cf (sk (an (sq (rn ?_))))
 refine an (sq (sq (rn ?_)))
 refine an ?_
 rcases dQ (x6.aF.aEf.aU.aEd != (i64.wrap ((i64.wrap (aa+1))+1)))with bh | bh
 ·replace h:=bR bh h;refine ct (sq (rn ?_));refine an (rt ?_);cases h;simp[Ret,TB,EN, *]
 replace h:=bQ bh h
 refine cf (sk (an (sq (rn ?_))))
 refine an (sq (sq ?_))
 refine cu (λs=>s.t 0=vL M.aEJ.en p0/\s.t 1=vI (i64.wrap ((i64.wrap ((i64.wrap (aa+1))+1))+1))/\s.t 5=vI v5/\True) ?_
 rintro dh f58
 refine rn ?_
 refine an ?_
 rcases dQ (x6.aF.aEf.aU.aFB != (i64.wrap ((i64.wrap ((i64.wrap (aa+1))+1))+1)))with bj | bj
 ·replace h:=bR bj h;refine ct (sq (rn ?_));refine an (rt ?_);cases h;simp[Ret,TB,EN, *]
 replace h:=bQ bj h
 refine cf (sk (an (sq (rn ?_))))
 refine an (sq ?_)
 obtain⟨ae,da,h⟩:=bind_some h
 refine rn1 (aBM _ _ _ da) ?_
 refine an (sq (sq (rn ?_)))
 refine an ?_
 rcases dQ (decide (ae<0))with bl | bl
 ·replace h:=bR bl h;refine ct (sq (rn ?_));refine an (rt ?_);cases h;simp[Ret,TB,EN, *]
 replace h:=bQ bl h
 refine cf (sk (an (sq (sq (rn ?_)))))
 refine an ?_
 rcases dQ (x6.aF.aEf.aE9 != ae)with bm | bm
 ·replace h:=bR bm h;refine ct (sq (rn ?_));refine an (rt ?_);cases h;simp[Ret,TB,EN, *]
 replace h:=bQ bm h
 refine cf (sk (an (sq (rn ?_))))
 refine an (sq (sq (rn ?_)))
 refine an ?_
 rcases dQ (x6.aF.aEf.aEt != (i64.wrap (ae+1)))with bn | bn
 ·replace h:=bR bn h;refine ct (sq (rn ?_));refine an (rt ?_);cases h;simp[Ret,TB,EN, *]
 replace h:=bQ bn h
 refine cf (sk (an (sq (rn ?_))))
 refine an (sq (sq (rn ?_)))
 refine an ?_
 rcases dQ (x6.aEk != (i64.wrap ((i64.wrap (ae+1))+1)))with bo | bo
 ·replace h:=bR bo h;refine ct (sq (rn ?_));refine an (rt ?_);cases h;simp[Ret,TB,EN, *]
 replace h:=bQ bo h
 refine cf (sk (an (sq (rn ?_))))
 refine an (sq (sq (rn ?_)))
 refine an ?_
 rcases dQ (!(x6.aEg==((Int.tmod (i64.wrap ((i64.wrap ((i64.wrap (ae+1))+1))+1)) 3)==0)))with bq | bq
 ·replace h:=bR bq h;refine ct (sq (rn ?_));refine an (rt ?_);cases h;simp[Ret,TB,EN, *]
 replace h:=bQ bq h
 refine cf (sk (an (rn ?_)))
 refine ab (an (rn ?_))
 refine BN ⟨mL1,jD,i64.wrap ((i64.wrap ((i64.wrap ((i64.wrap (ae+1))+1))+1))+1),i64.wrap (v5+1),?_,?_,?_,h⟩
 all_goals simp +decide only[F,reduceIte,Nat.reduceAdd,qB,qC,EN, *,-h]⟩
instance:aZ 83 (∀p0 p1 r (h:xN p0 p1=some r),Sc 83 [aX (M.aD.en p0),aI p1] [rI r]):=⟨λp0 p1 r h=>by unfold xN at h;exact sgo 12 [.tmp 4] Tryz.func83⟩
theorem aDH(p0 p1 r)(h:xS p0 p1=some r):Sc 227 [aL M.aK.en p0,aI p1] [rI r]:=by
 have i1:=inv λm s=>∃j:Int,∃C:Int,(s.t 0=vL M.aK.en p0/\s.t 1=vI j/\s.t 5=vI C)/\fZ p0 m j C=some r
 have e1:=@fZ.eq_2
 unfold xS at h
 exact sgo 32 [.tmp 4] Tryz.func227
theorem aEE(p0 p1 r)(h:zR p0 p1=some r):Sc 228 [aL M.Instr.en p0,aI p1] [rI r]:=by
 have i1:=inv λm s=>∃j:Int,∃C:Int,(s.t 0=vL M.Instr.en p0/\s.t 1=vI j/\s.t 5=vI C)/\gV p0 m j C=some r
 have e1:=@gV.eq_2
 unfold zR at h
 exact sgo 50 [.tmp 4] Tryz.func228
theorem aEC(p0 p1 r)(h:yI p0 p1=some r):Sc 229 [aL enI p0,aI p1] [rI r]:=by
 have i1:=inv λm s=>∃j:Int,∃C:Int,(s.t 0=vL enI p0/\s.t 1=vI j/\s.t 5=vI C)/\fO p0 m j C=some r
 have e1:=@fO.eq_2
 unfold yI at h
 exact sgo 21 [.tmp 4] Tryz.func229
instance:aZ 84 (∀p0 p1 r (h:AK p0 p1=some r),Sc 84 [aL M.bS.en p0,aI p1] [rI r]):=⟨λp0 p1 r h=>by
 unfold AK at h
 simp only[EN]
 refine sgn 124 [.tmp 4] Tryz.func84 λbase wd => ?_
 refine sq (rn ?_)
 refine an (sq (sq (rn ?_)))
 refine an (bk ?_)
 refine DW (λm s=>∃v1:Int,∃v5:Int,s.t 0=vL M.bS.en p0/\s.t 1=vI v1/\s.t 5=vI v5/\gA p0 m v1 v5=some r) fuel ?_ ?_
 ·refine⟨p1,0,?_,?_,?_,h⟩;all_goals simp +decide only[F,reduceIte,Nat.reduceAdd,qB,qC,EN, *,-h]
 rintro mL1 s1 ⟨v1,v5,f2,f3,f4,h⟩
 rcases mL1 with _ | mL1
 ·exact absurd h (by simp[gA])
 simp only[gA]at h
 refine sq (sq (rn ?_))
 refine an ?_
 rcases Ep (decide (v5<(List.length p0:Int)))with b5 | b5
 ·replace h:=bQ b5 h;refine cf (xt (CS (CL (Ft (an (sq (rn ?_)))))));refine an (rt ?_);cases h;simp[Ret,TB,EN, *]
 replace h:=bR b5 h
 refine ct (sk (an (sq (bk (sq (sq ?_))))))
 obtain⟨x6,h7,h⟩:=bind_some h
 obtain⟨q8,q9,bj⟩:=aO h7
 refine rn ?_
 refine an ?_
 rcases dQ (x6.Id != v1)with ae | ae
 ·replace h:=bR ae h;refine ct (sq (rn ?_));refine an (rt ?_);cases h;simp[Ret,TB,EN, *]
 replace h:=bQ ae h
 refine cf (sk (an (sq (rn ?_))))
 refine an (sq (sq ?_))
 obtain⟨ax,ay,h⟩:=bind_some h
 refine rd1 mixed (Ga.1 _ _ ay) ?_
 refine an ?_
 rcases dQ (!(x6.aET.toList==ax.toList))with af | af
 ·replace h:=bR af h;refine ct (sq (rn ?_));refine an (rt ?_);cases h;simp[Ret,TB,EN, *]
 replace h:=bQ af h
 refine cf (sk (an (sq (rn ?_))))
 refine an (sq (sq ?_))
 obtain⟨az,ba,h⟩:=bind_some h
 refine rd1 mixed (Ga.1 _ _ ba) ?_
 refine an ?_
 rcases dQ (!(x6.Top.toList==az.toList))with ah | ah
 ·replace h:=bR ah h;refine ct (sq (rn ?_));refine an (rt ?_);cases h;simp[Ret,TB,EN, *]
 replace h:=bQ ah h
 refine cf (sk (an (sq (rn ?_))))
 refine an (sq (sq (rn ?_)))
 refine an ?_
 rcases dQ (x6.aER != (i64.wrap ((i64.wrap ((i64.wrap (v1+1))+1))+1)))with ai | ai
 ·replace h:=bR ai h;refine ct (sq (rn ?_));refine an (rt ?_);cases h;simp[Ret,TB,EN, *]
 replace h:=bQ ai h
 refine cf (sk (an (sq (rn ?_))))
 refine an (sq ?_)
 obtain⟨bd,bf,h⟩:=bind_some h
 refine rn1 (aDH _ _ _ bf) ?_
 refine an (sq (sq (rn ?_)))
 refine an ?_
 rcases dQ (decide (bd<0))with aj | aj
 ·replace h:=bR aj h;refine ct (sq (rn ?_));refine an (rt ?_);cases h;simp[Ret,TB,EN, *]
 replace h:=bQ aj h
 refine cf (sk (an (sq ?_)))
 obtain⟨ak,bg,h⟩:=bind_some h
 refine rn1 (aEE _ _ _ bg) ?_
 refine an (sq (sq (rn ?_)))
 refine an ?_
 rcases dQ (decide (ak<0))with al | al
 ·replace h:=bR al h;refine ct (sq (rn ?_));refine an (rt ?_);cases h;simp[Ret,TB,EN, *]
 replace h:=bQ al h
 refine cf (sk (an (sq (sq ?_))))
 refine cu (λs=>s.t 0=vL M.bS.en p0/\s.t 1=vI ak/\s.t 5=vI v5/\True) ?_
 rintro bl f26
 refine rn ?_
 refine an ?_
 rcases dQ (x6.aEO.Pc != ak)with ao | ao
 ·replace h:=bR ao h;refine ct (sq (rn ?_));refine an (rt ?_);cases h;simp[Ret,TB,EN, *]
 replace h:=bQ ao h
 refine cf (sk (an (sq (rn ?_))))
 refine an (sq ?_)
 obtain⟨aa,bh,h⟩:=bind_some h
 refine rn1 (aEC _ _ _ bh) ?_
 refine an (sq (sq (rn ?_)))
 refine an ?_
 rcases dQ (decide (aa<0))with aq | aq
 ·replace h:=bR aq h;refine ct (sq (rn ?_));refine an (rt ?_);cases h;simp[Ret,TB,EN, *]
 replace h:=bQ aq h
 refine cf (sk (an (sq (sq (rn ?_)))))
 refine an ?_
 rcases dQ (x6.aEO.aE2 != aa)with ar | ar
 ·replace h:=bR ar h;refine ct (sq (rn ?_));refine an (rt ?_);cases h;simp[Ret,TB,EN, *]
 replace h:=bQ ar h
 refine cf (sk (an (sq (rn ?_))))
 refine an (sq (sq (rn ?_)))
 refine an ?_
 rcases dQ (!(x6.aEO.aFG==((Int.tmod (i64.wrap (aa+1)) 3)==0)))with av | av
 ·replace h:=bR av h;refine ct (sq (rn ?_));refine an (rt ?_);cases h;simp[Ret,TB,EN, *]
 replace h:=bQ av h
 refine cf (sk (an (sq (rn ?_))))
 refine an (sq (sq (rn ?_)))
 refine an ?_
 rcases dQ (!(x6.aEO.aFH==((Int.tmod (i64.wrap ((i64.wrap (aa+1))+1)) 3)==0)))with aw | aw
 ·replace h:=bR aw h;refine ct (sq (rn ?_));refine an (rt ?_);cases h;simp[Ret,TB,EN, *]
 replace h:=bQ aw h
 refine cf (sk (an (rn ?_)))
 refine ab (an (rn ?_))
 refine BN ⟨mL1,jD,i64.wrap ((i64.wrap ((i64.wrap (aa+1))+1))+1),i64.wrap (v5+1),?_,?_,?_,h⟩
 all_goals simp +decide only[F,reduceIte,Nat.reduceAdd,qB,qC,EN, *,-h]⟩
instance:aZ 230 (∀p0 p1 r (h:AV p0 p1=some r),Sc 230 [aL M.eV.en p0,aI p1] [rI r]):=⟨λp0 p1 r h=>by
 have i1:=inv λm s=>∃v1:Int,∃v5:Int,(s.t 0=vL M.eV.en p0/\s.t 1=vI v1/\s.t 5=vI v5)/\iS p0 m v1 v5=some r
 have e1:=@iS.eq_2
 unfold AV at h
 exact sgo 54 [.tmp 4] Tryz.func230⟩
instance:aZ 85 (∀p0 p1 r (h:sG p0 p1=some r),Sc 85 [aX (M.aR.en p0),aI p1] [rI r]):=⟨λp0 p1 r h=>by unfold sG at h;exact sgo 12 [.tmp 4] Tryz.func85⟩
instance:aZ 231 (∀p0 p1 r (h:AZ p0 p1=some r),Sc 231 [aL M.gT.en p0,aI p1] [rI r]):=⟨λp0 p1 r h=>by
 have i1:=inv λm s=>∃v1:Int,∃v5:Int,(s.t 0=vL M.gT.en p0/\s.t 1=vI v1/\s.t 5=vI v5)/\iW p0 m v1 v5=some r
 have e1:=@iW.eq_2
 unfold AZ at h
 exact sgo 40 [.tmp 4] Tryz.func231⟩
instance:aZ 86 (∀p0 p1 r (h:xT p0 p1=some r),Sc 86 [aX (M.aEY.en p0),aI p1] [rI r]):=⟨λp0 p1 r h=>by unfold xT at h;exact sgo 12 [.tmp 4] Tryz.func86⟩
instance:aZ 232 (∀p0 p1 r (h:pX p0 p1=some r),Sc 232 [aL enS p0,aI p1] [rI r]):=⟨λp0 p1 r h=>by
 have i1:=inv λm s=>∃v1:Int,∃v5:Int,(s.t 0=vL enS p0/\s.t 1=vI v1/\s.t 5=vI v5)/\dH p0 m v1 v5=some r
 have e1:=@dH.eq_2
 unfold pX at h
 exact sgo 22 [.tmp 4] Tryz.func232⟩
instance:aZ 87 (∀p0 p1 r (h:A8 p0 p1=some r),Sc 87 [aL M.aET.en p0,aI p1] [rI r]):=⟨λp0 p1 r h=>by
 have i1:=inv λm s=>∃v1:Int,∃v5:Int,(s.t 0=vL M.aET.en p0/\s.t 1=vI v1/\s.t 5=vI v5)/\iJ p0 m v1 v5=some r
 have e1:=@iJ.eq_2
 unfold A8 at h
 exact sgo 52 [.tmp 4] Tryz.func87⟩
theorem aDw(p0 p1 r)(h:uQ p0 p1=some r):Sc 234 [aL M.aQ.en p0,aI p1] [rI r]:=by
 have i1:=inv λm s=>∃j:Int,∃C:Int,(s.t 0=vL M.aQ.en p0/\s.t 1=vI j/\s.t 5=vI C)/\fK p0 m j C=some r
 have e1:=@fK.eq_2
 unfold uQ at h
 exact sgo 31 [.tmp 4] Tryz.func234
instance:aZ 88 (∀p0 p1 r (h:xW p0 p1=some r),Sc 88 [aL M.aEX.en p0,aI p1] [rI r]):=⟨λp0 p1 r h=>by
 unfold xW at h
 simp only[EN]
 refine sgn 62 [.tmp 4] Tryz.func88 λbase wd => ?_
 refine sq (rn ?_)
 refine an (sq (sq (rn ?_)))
 refine an (bk ?_)
 refine DW (λm s=>∃v1:Int,∃v5:Int,s.t 0=vL M.aEX.en p0/\s.t 1=vI v1/\s.t 5=vI v5/\eL p0 m v1 v5=some r) fuel ?_ ?_
 ·refine⟨p1,0,?_,?_,?_,h⟩;all_goals simp +decide only[F,reduceIte,Nat.reduceAdd,qB,qC,EN, *,-h]
 rintro mL1 s1 ⟨v1,v5,f2,f3,f4,h⟩
 rcases mL1 with _ | mL1
 ·exact absurd h (by simp[eL])
 simp only[eL]at h
 refine sq (sq (rn ?_))
 refine an ?_
 rcases Ep (decide (v5<(List.length p0:Int)))with b5 | b5
 ·replace h:=bQ b5 h;refine cf (xt (CS (CL (Ft (an (sq (rn ?_)))))));refine an (rt ?_);cases h;simp[Ret,TB,EN, *]
 replace h:=bR b5 h
 refine ct (sk (an (sq (bk (sq (sq ?_))))))
 obtain⟨x6,h7,h⟩:=bind_some h
 obtain⟨q8,q9,ax⟩:=aO h7
 obtain⟨al,ao,h⟩:=bind_some h
 refine rd1 mixed (Ga.1 _ _ ao) ?_
 refine an ?_
 rcases dQ (!(x6.aC.Name.toList==al.toList))with aa | aa
 ·replace h:=bR aa h;refine ct (sq (rn ?_));refine an (rt ?_);cases h;simp[Ret,TB,EN, *]
 replace h:=bQ aa h
 refine cf (sk (an (sq (rn ?_))))
 refine an (sq ?_)
 obtain⟨aj,aq,h⟩:=bind_some h
 refine rn1 (WS.1 _ _ _ aq) ?_
 refine an (sq (sq (rn ?_)))
 refine an ?_
 rcases dQ (decide (aj<0))with ae | ae
 ·replace h:=bR ae h;refine ct (sq (rn ?_));refine an (rt ?_);cases h;simp[Ret,TB,EN, *]
 replace h:=bQ ae h
 refine cf (sk (an (sq (sq (rn ?_)))))
 refine an ?_
 rcases dQ (x6.aC.aEo != aj)with af | af
 ·replace h:=bR af h;refine ct (sq (rn ?_));refine an (rt ?_);cases h;simp[Ret,TB,EN, *]
 replace h:=bQ af h
 refine cf (sk (an (sq (rn ?_))))
 refine an (sq ?_)
 obtain⟨ar,av,h⟩:=bind_some h
 refine rn1 (aDw _ _ _ av) ?_
 refine an (sq (sq (rn ?_)))
 refine an ?_
 rcases dQ (decide (ar<0))with ah | ah
 ·replace h:=bR ah h;refine ct (sq (rn ?_));refine an (rt ?_);cases h;simp[Ret,TB,EN, *]
 replace h:=bQ ah h
 refine cf (sk (an (sq ?_)))
 obtain⟨ak,aw,h⟩:=bind_some h
 refine rn1 (aBM _ _ _ aw) ?_
 refine an (sq (rn ?_))
 refine an ?_
 rcases dQ (decide (ak<0))with ai | ai
 ·replace h:=bR ai h;refine ct (sq (rn ?_));refine an (rt ?_);cases h;simp[Ret,TB,EN, *]
 replace h:=bQ ai h
 refine cf (sk (ab (an (rn ?_))))
 refine BN ⟨mL1,jD,ak,i64.wrap (v5+1),?_,?_,?_,h⟩
 all_goals simp +decide only[F,reduceIte,Nat.reduceAdd,qB,qC,EN, *,-h]⟩
theorem c16(p0 p1 r)(h:pS p0 p1=some r):Sc 16 [aX (M.World.en p0),aI p1] [rI r]:=by unfold pS at h;exact sgo 42 [.tmp 4] Tryz.func16
