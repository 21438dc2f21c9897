/-
  Helper text. No conditions.
-/
import Derived.Test.YtjlnkcoeghonfaaGreatRunPageWimpl2
set_option linter.all false
namespace Go.Proofs.YtjlnkcoeghonfaaGreat.gen
open Go Go.Sh
set_option maxRecDepth 20000
set_option maxHeartbeats 4000000
instance:aW 133 (∀p0 r (h:cN p0=some r),Sc 133 [aX (M.aA.en p0)] [(true,M.aA.rs r)]):=⟨λp0 r h=>by
 have i1:=Mt [.b 3 0 7050000 84 24] λm s=>∃v10:Int,∃aa:List M.aJi,∃ae:Nat,(s.t 2=vP 2 1 0/\s.t 3=vP 3 1 0/\s.t 8=vL M.aJi.en p0.aJp/\s.t 9=vI (List.length p0.aJp:Int)/\s.t 10=vI v10/\s.h 2=(1,oB 39 [.nil])/\s.h 3=(1,oB 39 [.row 7050000 ae])/\s.h 7050000=(ae,oW 84 24 M.aJi.en aa))/\gV p0 m v10 aa=some r
 have e1:=@gV.eq_2
 unfold cN at h
 exact sgo 23 [.cell 2 39] Tryz.func133⟩
instance:aW 45 (∀p0 r (h:nJ p0=some r),Sc 45 [aX (M.World.en p0)] [(true,M.World.rs r)]):=⟨λp0 r h=>by
 have i1:=λ(x1:M.aA) (x3:(List M.bD)) (x5:M.aP) (x7:M.aJu)=>Mt [.b 3 8 7050000 151 4] λm s=>∃ai:Int,∃aa:List M.aJr,∃ae:Nat,(s.t 1=vP 1 1 0/\s.t 2=vP 2 1 0/\s.t 3=vP 3 1 0/\s.t 27=vL M.aJr.en p0.aKE/\s.t 28=vI (List.length p0.aKE:Int)/\s.t 29=vI ai/\s.h 1=(1,oX 50 (M.World.en p0))/\s.h 2=(1,YN)/\s.h 3=(1,oB 50 [cI p0.Now,cB p0.aKF,cI p0.aJy,.row 100011 1,.row 100015 1,cI p0.aJ4,.row 100019 1,.row 100023 1,.row 7050000 ae,cL M.aJv.en p0.aJ6])/\s.h 100011=(1,oW 84 24 M.aJi.en x1.aJp)/\s.h 100015=(1,oW 91 11 M.bD.en x3)/\s.h 100019=(1,oW 144 4 M.eO.en x5.aJ3)/\s.h 100023=(1,oW 147 3 M.iU.en x7.aKM)/\s.h 7050000=(ae,oW 151 4 M.aJr.en aa))/\hZ p0 x1 x3 x5 x7 m ai aa=some r
 have e1:=@hZ.eq_2
 have i2:=λ(x1:M.aA) (x3:(List M.bD)) (x5:M.aP) (x7:M.aJu) (aa:List M.aJr) (ae:Nat)=>Mt [.b 3 9 7050100 156 5] λm s=>∃aj:Int,∃af:List M.aJv,∃ah:Nat,(s.t 2=vP 2 1 0/\s.t 3=vP 3 1 0/\s.t 43=vL M.aJv.en p0.aJ6/\s.t 44=vI (List.length p0.aJ6:Int)/\s.t 45=vI aj/\s.h 2=(1,YN)/\s.h 3=(1,oB 50 [cI p0.Now,cB p0.aKF,cI p0.aJy,.row 100011 1,.row 100015 1,cI p0.aJ4,.row 100019 1,.row 100023 1,.row 7050000 ae,.row 7050100 ah])/\s.h 100011=(1,oW 84 24 M.aJi.en x1.aJp)/\s.h 100015=(1,oW 91 11 M.bD.en x3)/\s.h 100019=(1,oW 144 4 M.eO.en x5.aJ3)/\s.h 100023=(1,oW 147 3 M.iU.en x7.aKM)/\s.h 7050000=(ae,oW 151 4 M.aJr.en aa)/\s.h 7050100=(ah,oW 156 5 M.aJv.en af))/\fU p0 x1 x3 x5 x7 aa m aj af=some r
 have e2:=@fU.eq_2
 unfold nJ at h
 exact sgo 58 [.cell 2 50] Tryz.func45⟩
instance YS:aW 371 (∀p0 r (h:lL p0=some r),Sc 371 [aX (M.aJj.en p0)] [rB r]):=⟨λp0 r h=>by
 have i1:=inv λm s=>∃aa:Int,(s.t 1=vP 1 1 0/\s.t 34=vL M.aD.en p0.aJw/\s.t 35=vI (List.length p0.aJw:Int)/\s.t 36=vI aa/\s.h 1=(1,oX 70 (M.aJj.en p0)))/\eW p0 m aa=some r
 have e1:=@eW.eq_2
 have i2:=inv λm s=>∃ae:Int,(s.t 1=vP 1 1 0/\s.t 62=vL M.aG.en p0.aJ5/\s.t 63=vI (List.length p0.aJ5:Int)/\s.t 64=vI ae/\s.h 1=(1,oX 70 (M.aJj.en p0)))/\fA p0 m ae=some r
 have e2:=@fA.eq_2
 unfold lL at h
 exact sgo 103 [.tmp 2] Tryz.func371⟩
instance:aW 551 (∀p0 r (h:sQ p0=some r),Sc 551 [aX (M.aJj.en p0)] [rI r]):=⟨λp0 r h=>by
 have i1:=inv λm s=>∃v3:Int,∃v9:Int,(s.t 3=vI v3/\s.t 7=vL M.aD.en p0.aJw/\s.t 8=vI (List.length p0.aJw:Int)/\s.t 9=vI v9)/\gI p0 m v3 v9=some r
 have e1:=@gI.eq_2
 unfold sQ at h
 exact sgo 19 [.tmp 2] Tryz.func551⟩
instance:aW 473 (∀p0 r (h:DP p0=some r),Sc 473 [aX (M.bL.en p0)] [rI r]):=⟨λp0 r h=>by unfold DP at h;exact sgo 10 [.tmp 2] Tryz.func473⟩
instance:aW 265 (∀p0 p1 p2 r (h:zY p0 p1 p2=some r),Sc 265 [aX (M.aJr.en p0),aS p1,aI p2] [(true,M.aJo.rs r)]):=⟨λp0 p1 p2 r h=>by unfold zY at h;exact sgo 32 [.cell 6 107] Tryz.func265⟩
instance:aW 154 (∀p0 p1 p2 p3 p4 r (h:vQ p0 p1 p2 p3 p4=some r),Sc 154 [aX (M.aO.en p0),aX (M.aJr.en p1),aI p2,aS p3,aB p4] [(true,M.aJo.rs r)]):=⟨λp0 p1 p2 p3 p4 r h=>by unfold vQ at h;exact sgo 32 [.cell 10 107] Tryz.func154⟩
instance aCn:aW 277 (∀p0 r (h:uR p0=some r),Sc 277 [aL M.Op.en p0] [rW 5 1 enB r]):=⟨λp0 r h=>by
 unfold uR at h
 simp only[EN]
 refine sgn 49 [.tmp 2] Tryz.func277 λbase wd => ?_
 refine sq (rn ?_)
 refine an (sq (sq ?_))
 obtain⟨x1,h2,h⟩:=bind_some h
 refine rn1 (aIZ _ _ h2) ?_
 refine an ?_
 rcases cM (!x1)with b3 | b3
 ·replace h:=bK b3 h;refine ct (sq (rn ?_));refine an (rt ?_);cases h;simp[Ret,TB,EN, *]
 replace h:=bJ b3 h
 refine cf (sk (an (sq ?_)))
 obtain⟨x4,h5,h⟩:=bind_some h
 refine rn1 (aA6.1 _ _ _ h5) ?_
 refine an (sq (sq (rn ?_)))
 refine an (bk ?_)
 refine Iz (ghT 3 7050100 100014) ?_
 refine PR (λm s=>∃ak:Int,∃ah:List Int,∃ai:Nat,s.t 3=vR 7050100 ai/\s.t 15=vL M.Op.en p0/\s.t 16=vI (List.length p0:Int)/\s.t 17=vI ak/\s.h 7050100=(ai,oW 5 1 enB ah)/\eM p0 m ak ah=some r) fuel ?_ ?_
 ·refine⟨0,x4,1,?_,?_,?_,?_,?_,h⟩;all_goals simp +decide only[F,reduceIte,Nat.reduceAdd,qB,qC,EN, *,-h]
 rintro mL1 s6 ⟨ak,ah,ai,f7,f8,f9,f10,f11,h⟩
 rcases mL1 with _ | mL1
 ·exact absurd h (by simp[eM])
 simp only[eM]at h
 refine sq (rn ?_)
 refine an (sq ?_)
 rcases GH (decide (ak<(List.length p0:Int)))with aq | aq
 ·replace h:=bJ aq h;refine cf (xt (E2 (EW (IA (an (sq (rn ?_)))))));refine an (rt ?_);cases h;simp[Ret,TB,EN, *]
 replace h:=bK aq h
 refine ct (sk (an (sq (bk (sq ?_)))))
 obtain⟨aj,aw,h⟩:=bind_some h
 obtain⟨bo,bq,br⟩:=aU aw
 refine rn ?_
 refine an (sq ?_)
 obtain⟨ar,ax,h⟩:=bind_some h
 refine rn1 (aA6.1 _ _ _ ax) ?_
 refine an (sq ?_)
 obtain⟨al,ay,h⟩:=bind_some h
 obtain⟨ao,az,h⟩:=bind_some h
 refine rd2 mixed (aBo.1 _ _ ay) (aBf.1 _ _ az) ?_
 refine an (bk ?_)
 refine cu (λs=>s.t 3=vR 100024 ((s6.h 100024).1+1)/\s.t 15=vL M.Op.en p0/\s.t 16=vI (List.length p0:Int)/\s.t 17=vI ak/\s.t 37=vR 100037 ((s6.h 100037).1+1)/\s.t 38=vI ((4:Nat):Int)/\s.t 39=vI 0/\s.h 100024=((s6.h 100024).1+1,oW 5 1 enB ar)/\s.h 100037=((s6.h 100037).1+1,.row 58 1 (List.map (enL enB) ([bC aj.aD,al,ao,bC aj.Field])) false)/\True) ?_
 rintro ba f25
 obtain⟨bd,bf,h⟩:=aIq (f:=λkk=>fY aj al ao kk fuel 0 ar) h
 refine Iz (ghT 3 7050000 100024) ?_
 refine PR (λm s=>∃af:Int,∃aa:List Int,∃ae:Nat,s.t 3=vR 7050000 ae/\s.t 15=vL M.Op.en p0/\s.t 16=vI (List.length p0:Int)/\s.t 17=vI ak/\s.t 37=vR 100037 ((s6.h 100037).1+1)/\s.t 38=vI ((4:Nat):Int)/\s.t 39=vI af/\s.h 100037=((s6.h 100037).1+1,.row 58 1 (List.map (enL enB) ([bC aj.aD,al,ao,bC aj.Field])) false)/\s.h 7050000=(ae,oW 5 1 enB aa)/\fY aj al ao bd m af aa=some r) fuel ?_ ?_
 ·refine⟨0,ar,(ba.h 7050000).1+1,?_,?_,?_,?_,?_,?_,?_,?_,?_,h⟩;all_goals simp +decide only[F,reduceIte,Nat.reduceAdd,qB,qC,EN, *,-h]
 rintro mL2 bg ⟨af,aa,ae,f37,f38,f39,f40,f41,f42,f43,f44,f45,h⟩
 rcases mL2 with _ | mL2
 ·exact absurd h (by simp[fY])
 simp only[fY]at h
 refine sq (rn ?_)
 refine an (sq ?_)
 rcases GH (decide (af<((4:Nat):Int)))with av | av
 ·replace h:=bJ av h;refine cf (xt (E2 ?_));subst bf;refine EW (IA (ab (an (rn ?_))));refine jX ⟨_,ghT 3 7050100 7050000,mL1,jD,IntKind.i64.wrap (ak+1),aa,(bg.h 7050100).1+1,?_,?_,?_,?_,?_,h⟩;all_goals simp +decide only[F,reduceIte,Nat.reduceAdd,qB,qC,EN, *,-h]
 replace h:=bK av h
 refine ct (sk (an (sq (bk (sq ?_)))))
 obtain⟨bh,bj,h⟩:=bind_some h
 obtain⟨bt,bu,bl⟩:=aU bj
 have q49m:=congrArg (Option.map (enL enB)) (show([bC aj.aD,al,ao,bC aj.Field])[af.toNat]? = some bh by assumption)
 simp only[<-List.getElem?_map,List.map_cons,List.map_nil,Option.map_some,EN]at q49m
 simp only[qJ,qK,Nat.reduceAdd]at bl
 refine rn ?_
 refine an ?_
 obtain⟨bm,bn,h⟩:=bind_some h
 refine rn1 (aCU.1 _ _ _ bn) ?_
 refine ab (an (rn ?_))
 refine jX ⟨_,ghT 3 7050000 100045,mL2,jD,IntKind.i64.wrap (af+1),bm,ae+1,?_,?_,?_,?_,?_,?_,?_,?_,?_,h⟩
 all_goals simp +decide only[F,reduceIte,Nat.reduceAdd,qB,qC,EN, *,-h]⟩
theorem aJC(p0 r)(h:uE p0=some r):Sc 268 [aL enB p0] [rW 219 7 M.Op.en r.1,rB r.2]:=by
 unfold uE at h
 simp only[EN]
 refine sgn 93 [.tmp 2,.tmp 3] Tryz.func268 λbase wd => ?_
 refine sq (rn ?_)
 refine an (sq ?_)
 obtain⟨x1,h2,h⟩:=bind_some h
 refine rn1 (aA8.1 _ _ _ h2) ?_
 refine an (sq (sq ?_))
 rcases cM (!x1.2.2)with b3 | b3
 ·replace h:=bK b3 h;refine rn ?_;refine an (ct (sq (rn ?_)));refine an (rt ?_);cases h;simp[Ret,TB,EN, *]
 replace h:=bJ b3 h
 refine rn ?_
 refine an ?_
 rcases cM (decide (x1.1>6))with b4 | b4
 ·replace h:=bK b4 h;refine ct (sq (rn ?_));refine an (rt ?_);cases h;simp[Ret,TB,EN, *]
 replace h:=bJ b4 h
 refine cf (sk (an (sq (rn ?_))))
 refine an (sq (sq ?_))
 refine cu (λs=>s.t 0=vL enB p0/\s.t 4=vI x1.1/\s.t 5=vI x1.2.1/\s.t 7=vR 100025 1/\s.h 100025=(1,oW 219 7 M.Op.en ([]:List M.Op))/\True) ?_
 rintro s5 f6
 refine rn ?_
 refine an (bk ?_)
 refine GJ (λm s=>∃v5:Int,∃U:Int,∃aj:List M.Op,∃j:Nat,s.t 0=vL enB p0/\s.t 4=vI x1.1/\s.t 5=vI v5/\s.t 7=vR 100025 j/\s.t 8=vI U/\s.h 100025=(j,oW 219 7 M.Op.en aj)/\fV p0 x1 m v5 U aj=some r) fuel ?_ ?_
 ·refine⟨x1.2.1,0,([]:List M.Op),1,?_,?_,?_,?_,?_,?_,h⟩;all_goals simp +decide only[F,reduceIte,Nat.reduceAdd,qB,qC,EN, *,-h]
 rintro mL1 aa ⟨v5,U,aj,j,f12,f13,f14,f15,f16,f17,h⟩
 rcases mL1 with _ | mL1
 ·exact absurd h (by simp[fV])
 simp only[fV]at h
 refine sq (sq (rn ?_))
 refine an ?_
 rcases GH (decide (U<x1.1))with al | al
 ·replace h:=bJ al h;refine cf (xt (E2 (EW (IA (an (sq (sq ?_)))))));obtain⟨bu,bh,h⟩:=bind_some h;obtain⟨bj,bl,h⟩:=bind_some h;refine rn2 (aCn.1 _ _ bh) (aCc.1 _ _ _ bl) ?_;refine an ?_;rcases cM (!bj)with ba | ba;(replace h:=bK ba h;refine ct (sq (rn ?_));refine an (rt ?_);cases h;simp[Ret,TB,EN, *]);replace h:=bJ ba h;refine cf (sk (an (sq (rn ?_))));refine an (rt ?_);cases h;simp[Ret,TB,EN, *]
 replace h:=bK al h
 refine ct (sk (an (sq (bk (sq (rn ?_))))))
 refine an (sq ?_)
 obtain⟨C,bw,h⟩:=bind_some h
 refine rn1 (aA8.1 _ _ _ bw) ?_
 refine an (sq (rn ?_))
 refine an (sq (sq (rn ?_)))
 refine an (bk ?_)
 refine Vc 6 ?_
 refine rnd ?_
 refine Eo (J:=λs=>s.t 0=vL enB p0/\s.t 4=vI x1.1/\s.t 5=vI C.2.1/\s.t 6=vB C.2.2/\s.t 7=vR 100025 j/\s.t 8=vI U/\s.t 9=vP 9 ((aa.h 9).1+1) 0/\s.t 10=vP 10 ((aa.h 10).1+1) 0/\s.t 41=vI 0/\s.h 9=((aa.h 9).1+1,oB 219 [cI C.1,cS (⟨#[]⟩:ByteArray),cI 0,cI 0,cS (⟨#[]⟩:ByteArray),.nil,cS (⟨#[]⟩:ByteArray)])/\s.h 10=((aa.h 10).1+1,Uz)/\s.h 100025=(j,oW 219 7 M.Op.en aj)/\True) ?_ ?_
 ·refine⟨?_,?_,?_,?_,?_,?_,?_,?_,?_,?_,?_,?_,trivial⟩;all_goals first | (simp +decide only[F,reduceIte,Nat.reduceAdd,qB,qC,EN, *,-h];done)| (simp +decide only[F,reduceIte,Nat.reduceAdd,qB,qC,EN, *,-h];rfl)| rfl
 rintro ak f22
 refine sq (rn ?_)
 refine an (sq ?_)
 refine Fz (by first | (simp +decide only[F,reduceIte,Nat.reduceAdd,qB,qC,EN, *,-h];done)| (simp +decide only[F,reduceIte,Nat.reduceAdd,qB,qC,EN, *,-h];rfl)| rfl) ?_
 refine sk (an (sq (bk (sq (rn ?_)))))
 refine an (sq (rn ?_))
 refine an ?_
 rcases GH C.2.2 with ao | ao
 ·replace h:=bJ ao h
  refine Gb (by first | (simp +decide only[F,reduceIte,Nat.reduceAdd,qB,qC,EN, *,-h];done)| (simp +decide only[F,reduceIte,Nat.reduceAdd,qB,qC,EN, *,-h];rfl)| rfl) ?_
  refine sk (ab (an (rn ?_)))
  refine jX ?_
  refine rnd ?_
  refine Eo (J:=λs=>s.t 0=vL enB p0/\s.t 4=vI x1.1/\s.t 5=vI C.2.1/\s.t 6=vB C.2.2/\s.t 7=vR 100025 j/\s.t 8=vI U/\s.t 9=vP 9 ((aa.h 9).1+1) 0/\s.t 10=vP 10 ((aa.h 10).1+1) 0/\s.t 41=vI 1/\s.h 9=((aa.h 9).1+1,oB 219 [cI C.1,cS (⟨#[]⟩:ByteArray),cI 0,cI 0,cS (⟨#[]⟩:ByteArray),.nil,cS (⟨#[]⟩:ByteArray)])/\s.h 10=((aa.h 10).1+1,Uz)/\s.h 100025=(j,oW 219 7 M.Op.en aj)/\True) ?_ ?_
  ·refine⟨?_,?_,?_,?_,?_,?_,?_,?_,?_,?_,?_,?_,trivial⟩;all_goals first | (simp +decide only[F,reduceIte,Nat.reduceAdd,qB,qC,EN, *,-h];done)| (simp +decide only[F,reduceIte,Nat.reduceAdd,qB,qC,EN, *,-h];rfl)| rfl
  rintro bz f215
  refine sq (rn ?_)
  refine an (sq ?_)
  refine Fz (by first | (simp +decide only[F,reduceIte,Nat.reduceAdd,qB,qC,EN, *,-h];done)| (simp +decide only[F,reduceIte,Nat.reduceAdd,qB,qC,EN, *,-h];rfl)| rfl) ?_
  refine sk (an (sq (bk (sq (rn ?_)))))
  refine an (sq (rn ?_))
  refine an ?_
  refine Gb (by first | (simp +decide only[F,reduceIte,Nat.reduceAdd,qB,qC,EN, *,-h];done)| (simp +decide only[F,reduceIte,Nat.reduceAdd,qB,qC,EN, *,-h];rfl)| rfl) ?_
  refine sk (ab (an (rn ?_)))
  refine jX ?_
  refine rnd ?_
  refine Eo (J:=λs=>s.t 0=vL enB p0/\s.t 4=vI x1.1/\s.t 5=vI C.2.1/\s.t 6=vB C.2.2/\s.t 7=vR 100025 j/\s.t 8=vI U/\s.t 9=vP 9 ((aa.h 9).1+1) 0/\s.t 10=vP 10 ((aa.h 10).1+1) 0/\s.t 41=vI 2/\s.h 9=((aa.h 9).1+1,oB 219 [cI C.1,cS (⟨#[]⟩:ByteArray),cI 0,cI 0,cS (⟨#[]⟩:ByteArray),.nil,cS (⟨#[]⟩:ByteArray)])/\s.h 10=((aa.h 10).1+1,Uz)/\s.h 100025=(j,oW 219 7 M.Op.en aj)/\True) ?_ ?_
  ·refine⟨?_,?_,?_,?_,?_,?_,?_,?_,?_,?_,?_,?_,trivial⟩;all_goals first | (simp +decide only[F,reduceIte,Nat.reduceAdd,qB,qC,EN, *,-h];done)| (simp +decide only[F,reduceIte,Nat.reduceAdd,qB,qC,EN, *,-h];rfl)| rfl
  rintro c5 f228
  refine sq (rn ?_)
  refine an (sq ?_)
  refine Fz (by first | (simp +decide only[F,reduceIte,Nat.reduceAdd,qB,qC,EN, *,-h];done)| (simp +decide only[F,reduceIte,Nat.reduceAdd,qB,qC,EN, *,-h];rfl)| rfl) ?_
  refine sk (an (sq (bk (sq (rn ?_)))))
  refine an (sq (rn ?_))
  refine an ?_
  refine Gb (by first | (simp +decide only[F,reduceIte,Nat.reduceAdd,qB,qC,EN, *,-h];done)| (simp +decide only[F,reduceIte,Nat.reduceAdd,qB,qC,EN, *,-h];rfl)| rfl) ?_
  refine sk (ab (an (rn ?_)))
  refine jX ?_
  refine rnd ?_
  refine Eo (J:=λs=>s.t 0=vL enB p0/\s.t 4=vI x1.1/\s.t 5=vI C.2.1/\s.t 6=vB C.2.2/\s.t 7=vR 100025 j/\s.t 8=vI U/\s.t 9=vP 9 ((aa.h 9).1+1) 0/\s.t 10=vP 10 ((aa.h 10).1+1) 0/\s.t 41=vI 3/\s.h 9=((aa.h 9).1+1,oB 219 [cI C.1,cS (⟨#[]⟩:ByteArray),cI 0,cI 0,cS (⟨#[]⟩:ByteArray),.nil,cS (⟨#[]⟩:ByteArray)])/\s.h 10=((aa.h 10).1+1,Uz)/\s.h 100025=(j,oW 219 7 M.Op.en aj)/\True) ?_ ?_
  ·refine⟨?_,?_,?_,?_,?_,?_,?_,?_,?_,?_,?_,?_,trivial⟩;all_goals first | (simp +decide only[F,reduceIte,Nat.reduceAdd,qB,qC,EN, *,-h];done)| (simp +decide only[F,reduceIte,Nat.reduceAdd,qB,qC,EN, *,-h];rfl)| rfl
  rintro ca f241
  refine sq (rn ?_)
  refine an (sq ?_)
  refine Fz (by first | (simp +decide only[F,reduceIte,Nat.reduceAdd,qB,qC,EN, *,-h];done)| (simp +decide only[F,reduceIte,Nat.reduceAdd,qB,qC,EN, *,-h];rfl)| rfl) ?_
  refine sk (an (sq (bk (sq (rn ?_)))))
  refine an (sq (rn ?_))
  refine an ?_
  refine Gb (by first | (simp +decide only[F,reduceIte,Nat.reduceAdd,qB,qC,EN, *,-h];done)| (simp +decide only[F,reduceIte,Nat.reduceAdd,qB,qC,EN, *,-h];rfl)| rfl) ?_
  refine sk (ab (an (rn ?_)))
  refine jX ?_
  refine rnd ?_
  refine Eo (J:=λs=>s.t 0=vL enB p0/\s.t 4=vI x1.1/\s.t 5=vI C.2.1/\s.t 6=vB C.2.2/\s.t 7=vR 100025 j/\s.t 8=vI U/\s.t 9=vP 9 ((aa.h 9).1+1) 0/\s.t 10=vP 10 ((aa.h 10).1+1) 0/\s.t 41=vI 4/\s.h 9=((aa.h 9).1+1,oB 219 [cI C.1,cS (⟨#[]⟩:ByteArray),cI 0,cI 0,cS (⟨#[]⟩:ByteArray),.nil,cS (⟨#[]⟩:ByteArray)])/\s.h 10=((aa.h 10).1+1,Uz)/\s.h 100025=(j,oW 219 7 M.Op.en aj)/\True) ?_ ?_
  ·refine⟨?_,?_,?_,?_,?_,?_,?_,?_,?_,?_,?_,?_,trivial⟩;all_goals first | (simp +decide only[F,reduceIte,Nat.reduceAdd,qB,qC,EN, *,-h];done)| (simp +decide only[F,reduceIte,Nat.reduceAdd,qB,qC,EN, *,-h];rfl)| rfl
  rintro cc f254
  refine sq (rn ?_)
  refine an (sq ?_)
  refine Gb (by first | (simp +decide only[F,reduceIte,Nat.reduceAdd,qB,qC,EN, *,-h];done)| (simp +decide only[F,reduceIte,Nat.reduceAdd,qB,qC,EN, *,-h];rfl)| rfl) ?_
  refine xt (E2 (EW (IA (an (sq (sq (rn ?_)))))))
  refine an (ct (sq (rn ?_)))
  refine an (rt ?_)
  cases h
  simp[Ret,TB,EN, *]
 replace h:=bK ao h
 refine Fz (by first | (simp +decide only[F,reduceIte,Nat.reduceAdd,qB,qC,EN, *,-h];done)| (simp +decide only[F,reduceIte,Nat.reduceAdd,qB,qC,EN, *,-h];rfl)| rfl) ?_
 obtain⟨I,cd,h⟩:=bind_some h
 apply iT
 ·simp +decide only[E,reduceIte,Nat.reduceAdd,Nat.reduceMul,qB,qC,Int.reduceToNat,Nat.reduceLT,qo,L,Rv,IP,EN,b3,b4,al,f22,ao]
  refine⟨_,aAF.1 _ _ _ _ cd,?_⟩
  try simp +decide only[E,reduceIte,Nat.reduceAdd,Nat.reduceMul,qB,qC,Int.reduceToNat,Nat.reduceLT,qo,L,Rv,IP,EN,b3,b4,al,f22,ao]
  exact Is.mk _
 refine ab (an (rn ?_))
 refine jX ?_
 refine rnd ?_
 refine Iz (ghB 10 0 7060100 100051) ?_
 refine Eo (J:=λs=>s.t 0=vL enB p0/\s.t 4=vI x1.1/\s.t 5=vI I.2.1/\s.t 6=vB I.2.2/\s.t 7=vR 100025 j/\s.t 8=vI U/\s.t 9=vP 9 ((aa.h 9).1+1) 0/\s.t 10=vP 10 ((aa.h 10).1+1) 0/\s.t 41=vI 1/\s.h 9=((aa.h 9).1+1,oB 219 [cI C.1,cS (⟨#[]⟩:ByteArray),cI 0,cI 0,cS (⟨#[]⟩:ByteArray),.nil,cS (⟨#[]⟩:ByteArray)])/\s.h 10=((aa.h 10).1+1,oB 434 [.row 7060100 ((ak.h 7060100).1+1),.nil,.nil,.nil])/\s.h 100025=(j,oW 219 7 M.Op.en aj)/\s.h 7060100=((ak.h 7060100).1+1,oW 5 1 enB I.1)/\True) ?_ ?_
 ·refine⟨?_,?_,?_,?_,?_,?_,?_,?_,?_,?_,?_,?_,?_,trivial⟩;all_goals first | (simp +decide only[F,reduceIte,Nat.reduceAdd,qB,qC,EN, *,-h];done)| (simp +decide only[F,reduceIte,Nat.reduceAdd,qB,qC,EN, *,-h];rfl)| rfl
 rintro ax f38
 refine sq (rn ?_)
 refine an (sq ?_)
 refine Fz (by first | (simp +decide only[F,reduceIte,Nat.reduceAdd,qB,qC,EN, *,-h];done)| (simp +decide only[F,reduceIte,Nat.reduceAdd,qB,qC,EN, *,-h];rfl)| rfl) ?_
 refine sk (an (sq (bk (sq (rn ?_)))))
 refine an (sq (rn ?_))
 refine an ?_
 rcases GH I.2.2 with aq | aq
 ·replace h:=bJ aq h
  refine Gb (by first | (simp +decide only[F,reduceIte,Nat.reduceAdd,qB,qC,EN, *,-h];done)| (simp +decide only[F,reduceIte,Nat.reduceAdd,qB,qC,EN, *,-h];rfl)| rfl) ?_
  refine sk (ab (an (rn ?_)))
  refine jX ?_
  refine rnd ?_
  refine Eo (J:=λs=>s.t 0=vL enB p0/\s.t 4=vI x1.1/\s.t 5=vI I.2.1/\s.t 6=vB I.2.2/\s.t 7=vR 100025 j/\s.t 8=vI U/\s.t 9=vP 9 ((aa.h 9).1+1) 0/\s.t 10=vP 10 ((aa.h 10).1+1) 0/\s.t 41=vI 2/\s.h 9=((aa.h 9).1+1,oB 219 [cI C.1,cS (⟨#[]⟩:ByteArray),cI 0,cI 0,cS (⟨#[]⟩:ByteArray),.nil,cS (⟨#[]⟩:ByteArray)])/\s.h 10=((aa.h 10).1+1,oB 434 [.row 7060100 ((ak.h 7060100).1+1),.nil,.nil,.nil])/\s.h 100025=(j,oW 219 7 M.Op.en aj)/\s.h 7060100=((ak.h 7060100).1+1,oW 5 1 enB I.1)/\True) ?_ ?_
  ·refine⟨?_,?_,?_,?_,?_,?_,?_,?_,?_,?_,?_,?_,?_,trivial⟩;all_goals first | (simp +decide only[F,reduceIte,Nat.reduceAdd,qB,qC,EN, *,-h];done)| (simp +decide only[F,reduceIte,Nat.reduceAdd,qB,qC,EN, *,-h];rfl)| rfl
  rintro cg f173
  refine sq (rn ?_)
  refine an (sq ?_)
  refine Fz (by first | (simp +decide only[F,reduceIte,Nat.reduceAdd,qB,qC,EN, *,-h];done)| (simp +decide only[F,reduceIte,Nat.reduceAdd,qB,qC,EN, *,-h];rfl)| rfl) ?_
  refine sk (an (sq (bk (sq (rn ?_)))))
  refine an (sq (rn ?_))
  refine an ?_
  refine Gb (by first | (simp +decide only[F,reduceIte,Nat.reduceAdd,qB,qC,EN, *,-h];done)| (simp +decide only[F,reduceIte,Nat.reduceAdd,qB,qC,EN, *,-h];rfl)| rfl) ?_
  refine sk (ab (an (rn ?_)))
  refine jX ?_
  refine rnd ?_
  refine Eo (J:=λs=>s.t 0=vL enB p0/\s.t 4=vI x1.1/\s.t 5=vI I.2.1/\s.t 6=vB I.2.2/\s.t 7=vR 100025 j/\s.t 8=vI U/\s.t 9=vP 9 ((aa.h 9).1+1) 0/\s.t 10=vP 10 ((aa.h 10).1+1) 0/\s.t 41=vI 3/\s.h 9=((aa.h 9).1+1,oB 219 [cI C.1,cS (⟨#[]⟩:ByteArray),cI 0,cI 0,cS (⟨#[]⟩:ByteArray),.nil,cS (⟨#[]⟩:ByteArray)])/\s.h 10=((aa.h 10).1+1,oB 434 [.row 7060100 ((ak.h 7060100).1+1),.nil,.nil,.nil])/\s.h 100025=(j,oW 219 7 M.Op.en aj)/\s.h 7060100=((ak.h 7060100).1+1,oW 5 1 enB I.1)/\True) ?_ ?_
  ·refine⟨?_,?_,?_,?_,?_,?_,?_,?_,?_,?_,?_,?_,?_,trivial⟩;all_goals first | (simp +decide only[F,reduceIte,Nat.reduceAdd,qB,qC,EN, *,-h];done)| (simp +decide only[F,reduceIte,Nat.reduceAdd,qB,qC,EN, *,-h];rfl)| rfl
  rintro cj f187
  refine sq (rn ?_)
  refine an (sq ?_)
  refine Fz (by first | (simp +decide only[F,reduceIte,Nat.reduceAdd,qB,qC,EN, *,-h];done)| (simp +decide only[F,reduceIte,Nat.reduceAdd,qB,qC,EN, *,-h];rfl)| rfl) ?_
  refine sk (an (sq (bk (sq (rn ?_)))))
  refine an (sq (rn ?_))
  refine an ?_
  refine Gb (by first | (simp +decide only[F,reduceIte,Nat.reduceAdd,qB,qC,EN, *,-h];done)| (simp +decide only[F,reduceIte,Nat.reduceAdd,qB,qC,EN, *,-h];rfl)| rfl) ?_
  refine sk (ab (an (rn ?_)))
  refine jX ?_
  refine rnd ?_
  refine Eo (J:=λs=>s.t 0=vL enB p0/\s.t 4=vI x1.1/\s.t 5=vI I.2.1/\s.t 6=vB I.2.2/\s.t 7=vR 100025 j/\s.t 8=vI U/\s.t 9=vP 9 ((aa.h 9).1+1) 0/\s.t 10=vP 10 ((aa.h 10).1+1) 0/\s.t 41=vI 4/\s.h 9=((aa.h 9).1+1,oB 219 [cI C.1,cS (⟨#[]⟩:ByteArray),cI 0,cI 0,cS (⟨#[]⟩:ByteArray),.nil,cS (⟨#[]⟩:ByteArray)])/\s.h 10=((aa.h 10).1+1,oB 434 [.row 7060100 ((ak.h 7060100).1+1),.nil,.nil,.nil])/\s.h 100025=(j,oW 219 7 M.Op.en aj)/\s.h 7060100=((ak.h 7060100).1+1,oW 5 1 enB I.1)/\True) ?_ ?_
  ·refine⟨?_,?_,?_,?_,?_,?_,?_,?_,?_,?_,?_,?_,?_,trivial⟩;all_goals first | (simp +decide only[F,reduceIte,Nat.reduceAdd,qB,qC,EN, *,-h];done)| (simp +decide only[F,reduceIte,Nat.reduceAdd,qB,qC,EN, *,-h];rfl)| rfl
  rintro ck f201
  refine sq (rn ?_)
  refine an (sq ?_)
  refine Gb (by first | (simp +decide only[F,reduceIte,Nat.reduceAdd,qB,qC,EN, *,-h];done)| (simp +decide only[F,reduceIte,Nat.reduceAdd,qB,qC,EN, *,-h];rfl)| rfl) ?_
  refine xt (E2 (EW (IA (an (sq (sq (rn ?_)))))))
  refine an (ct (sq (rn ?_)))
  refine an (rt ?_)
  cases h
  simp[Ret,TB,EN, *]
 replace h:=bK aq h
 refine Fz (by first | (simp +decide only[F,reduceIte,Nat.reduceAdd,qB,qC,EN, *,-h];done)| (simp +decide only[F,reduceIte,Nat.reduceAdd,qB,qC,EN, *,-h];rfl)| rfl) ?_
 obtain⟨av,cn,h⟩:=bind_some h
 apply iT
 ·simp +decide only[E,reduceIte,Nat.reduceAdd,Nat.reduceMul,qB,qC,Int.reduceToNat,Nat.reduceLT,qo,L,Rv,IP,EN,b3,b4,al,ao,f38,aq]
  refine⟨_,aAF.1 _ _ _ _ cn,?_⟩
  try simp +decide only[E,reduceIte,Nat.reduceAdd,Nat.reduceMul,qB,qC,Int.reduceToNat,Nat.reduceLT,qo,L,Rv,IP,EN,b3,b4,al,ao,f38,aq]
  exact Is.mk _
 refine ab (an (rn ?_))
 refine jX ?_
 refine rnd ?_
 refine Iz (ghB 10 1 7060101 100051) ?_
 refine Eo (J:=λs=>s.t 0=vL enB p0/\s.t 4=vI x1.1/\s.t 5=vI av.2.1/\s.t 6=vB av.2.2/\s.t 7=vR 100025 j/\s.t 8=vI U/\s.t 9=vP 9 ((aa.h 9).1+1) 0/\s.t 10=vP 10 ((aa.h 10).1+1) 0/\s.t 41=vI 2/\s.h 9=((aa.h 9).1+1,oB 219 [cI C.1,cS (⟨#[]⟩:ByteArray),cI 0,cI 0,cS (⟨#[]⟩:ByteArray),.nil,cS (⟨#[]⟩:ByteArray)])/\s.h 10=((aa.h 10).1+1,oB 434 [.row 7060100 ((ak.h 7060100).1+1),.row 7060101 ((ax.h 7060101).1+1),.nil,.nil])/\s.h 100025=(j,oW 219 7 M.Op.en aj)/\s.h 7060100=((ak.h 7060100).1+1,oW 5 1 enB I.1)/\s.h 7060101=((ax.h 7060101).1+1,oW 5 1 enB av.1)/\True) ?_ ?_
 ·refine⟨?_,?_,?_,?_,?_,?_,?_,?_,?_,?_,?_,?_,?_,?_,trivial⟩;all_goals first | (simp +decide only[F,reduceIte,Nat.reduceAdd,qB,qC,EN, *,-h];done)| (simp +decide only[F,reduceIte,Nat.reduceAdd,qB,qC,EN, *,-h];rfl)| rfl
 rintro bd f55
 refine sq (rn ?_)
 refine an (sq ?_)
 refine Fz (by first | (simp +decide only[F,reduceIte,Nat.reduceAdd,qB,qC,EN, *,-h];done)| (simp +decide only[F,reduceIte,Nat.reduceAdd,qB,qC,EN, *,-h];rfl)| rfl) ?_
 refine sk (an (sq (bk (sq (rn ?_)))))
 refine an (sq (rn ?_))
 refine an ?_
 rcases GH av.2.2 with ar | ar
 ·replace h:=bJ ar h
  refine Gb (by first | (simp +decide only[F,reduceIte,Nat.reduceAdd,qB,qC,EN, *,-h];done)| (simp +decide only[F,reduceIte,Nat.reduceAdd,qB,qC,EN, *,-h];rfl)| rfl) ?_
  refine sk (ab (an (rn ?_)))
  refine jX ?_
  refine rnd ?_
  refine Eo (J:=λs=>s.t 0=vL enB p0/\s.t 4=vI x1.1/\s.t 5=vI av.2.1/\s.t 6=vB av.2.2/\s.t 7=vR 100025 j/\s.t 8=vI U/\s.t 9=vP 9 ((aa.h 9).1+1) 0/\s.t 10=vP 10 ((aa.h 10).1+1) 0/\s.t 41=vI 3/\s.h 9=((aa.h 9).1+1,oB 219 [cI C.1,cS (⟨#[]⟩:ByteArray),cI 0,cI 0,cS (⟨#[]⟩:ByteArray),.nil,cS (⟨#[]⟩:ByteArray)])/\s.h 10=((aa.h 10).1+1,oB 434 [.row 7060100 ((ak.h 7060100).1+1),.row 7060101 ((ax.h 7060101).1+1),.nil,.nil])/\s.h 100025=(j,oW 219 7 M.Op.en aj)/\s.h 7060100=((ak.h 7060100).1+1,oW 5 1 enB I.1)/\s.h 7060101=((ax.h 7060101).1+1,oW 5 1 enB av.1)/\True) ?_ ?_
  ·refine⟨?_,?_,?_,?_,?_,?_,?_,?_,?_,?_,?_,?_,?_,?_,trivial⟩;all_goals first | (simp +decide only[F,reduceIte,Nat.reduceAdd,qB,qC,EN, *,-h];done)| (simp +decide only[F,reduceIte,Nat.reduceAdd,qB,qC,EN, *,-h];rfl)| rfl
  rintro cq f143
  refine sq (rn ?_)
  refine an (sq ?_)
  refine Fz (by first | (simp +decide only[F,reduceIte,Nat.reduceAdd,qB,qC,EN, *,-h];done)| (simp +decide only[F,reduceIte,Nat.reduceAdd,qB,qC,EN, *,-h];rfl)| rfl) ?_
  refine sk (an (sq (bk (sq (rn ?_)))))
  refine an (sq (rn ?_))
  refine an ?_
  refine Gb (by first | (simp +decide only[F,reduceIte,Nat.reduceAdd,qB,qC,EN, *,-h];done)| (simp +decide only[F,reduceIte,Nat.reduceAdd,qB,qC,EN, *,-h];rfl)| rfl) ?_
  refine sk (ab (an (rn ?_)))
  refine jX ?_
  refine rnd ?_
  refine Eo (J:=λs=>s.t 0=vL enB p0/\s.t 4=vI x1.1/\s.t 5=vI av.2.1/\s.t 6=vB av.2.2/\s.t 7=vR 100025 j/\s.t 8=vI U/\s.t 9=vP 9 ((aa.h 9).1+1) 0/\s.t 10=vP 10 ((aa.h 10).1+1) 0/\s.t 41=vI 4/\s.h 9=((aa.h 9).1+1,oB 219 [cI C.1,cS (⟨#[]⟩:ByteArray),cI 0,cI 0,cS (⟨#[]⟩:ByteArray),.nil,cS (⟨#[]⟩:ByteArray)])/\s.h 10=((aa.h 10).1+1,oB 434 [.row 7060100 ((ak.h 7060100).1+1),.row 7060101 ((ax.h 7060101).1+1),.nil,.nil])/\s.h 100025=(j,oW 219 7 M.Op.en aj)/\s.h 7060100=((ak.h 7060100).1+1,oW 5 1 enB I.1)/\s.h 7060101=((ax.h 7060101).1+1,oW 5 1 enB av.1)/\True) ?_ ?_
  ·refine⟨?_,?_,?_,?_,?_,?_,?_,?_,?_,?_,?_,?_,?_,?_,trivial⟩;all_goals first | (simp +decide only[F,reduceIte,Nat.reduceAdd,qB,qC,EN, *,-h];done)| (simp +decide only[F,reduceIte,Nat.reduceAdd,qB,qC,EN, *,-h];rfl)| rfl
  rintro cr f158
  refine sq (rn ?_)
  refine an (sq ?_)
  refine Gb (by first | (simp +decide only[F,reduceIte,Nat.reduceAdd,qB,qC,EN, *,-h];done)| (simp +decide only[F,reduceIte,Nat.reduceAdd,qB,qC,EN, *,-h];rfl)| rfl) ?_
  refine xt (E2 (EW (IA (an (sq (sq (rn ?_)))))))
  refine an (ct (sq (rn ?_)))
  refine an (rt ?_)
  cases h
  simp[Ret,TB,EN, *]
 replace h:=bK ar h
 refine Fz (by first | (simp +decide only[F,reduceIte,Nat.reduceAdd,qB,qC,EN, *,-h];done)| (simp +decide only[F,reduceIte,Nat.reduceAdd,qB,qC,EN, *,-h];rfl)| rfl) ?_
 obtain⟨ay,cw,h⟩:=bind_some h
 apply iT
 ·simp +decide only[E,reduceIte,Nat.reduceAdd,Nat.reduceMul,qB,qC,Int.reduceToNat,Nat.reduceLT,qo,L,Rv,IP,EN,b3,b4,al,ao,aq,f55,ar]
  refine⟨_,aAF.1 _ _ _ _ cw,?_⟩
  try simp +decide only[E,reduceIte,Nat.reduceAdd,Nat.reduceMul,qB,qC,Int.reduceToNat,Nat.reduceLT,qo,L,Rv,IP,EN,b3,b4,al,ao,aq,f55,ar]
  exact Is.mk _
 refine ab (an (rn ?_))
 refine jX ?_
 refine rnd ?_
 refine Iz (ghB 10 2 7060102 100051) ?_
 refine Eo (J:=λs=>s.t 0=vL enB p0/\s.t 4=vI x1.1/\s.t 5=vI ay.2.1/\s.t 6=vB ay.2.2/\s.t 7=vR 100025 j/\s.t 8=vI U/\s.t 9=vP 9 ((aa.h 9).1+1) 0/\s.t 10=vP 10 ((aa.h 10).1+1) 0/\s.t 41=vI 3/\s.h 9=((aa.h 9).1+1,oB 219 [cI C.1,cS (⟨#[]⟩:ByteArray),cI 0,cI 0,cS (⟨#[]⟩:ByteArray),.nil,cS (⟨#[]⟩:ByteArray)])/\s.h 10=((aa.h 10).1+1,oB 434 [.row 7060100 ((ak.h 7060100).1+1),.row 7060101 ((ax.h 7060101).1+1),.row 7060102 ((bd.h 7060102).1+1),.nil])/\s.h 100025=(j,oW 219 7 M.Op.en aj)/\s.h 7060100=((ak.h 7060100).1+1,oW 5 1 enB I.1)/\s.h 7060101=((ax.h 7060101).1+1,oW 5 1 enB av.1)/\s.h 7060102=((bd.h 7060102).1+1,oW 5 1 enB ay.1)/\True) ?_ ?_
 ·refine⟨?_,?_,?_,?_,?_,?_,?_,?_,?_,?_,?_,?_,?_,?_,?_,trivial⟩;all_goals first | (simp +decide only[F,reduceIte,Nat.reduceAdd,qB,qC,EN, *,-h];done)| (simp +decide only[F,reduceIte,Nat.reduceAdd,qB,qC,EN, *,-h];rfl)| rfl
 rintro bt f73
 refine sq (rn ?_)
 refine an (sq ?_)
 refine Fz (by first | (simp +decide only[F,reduceIte,Nat.reduceAdd,qB,qC,EN, *,-h];done)| (simp +decide only[F,reduceIte,Nat.reduceAdd,qB,qC,EN, *,-h];rfl)| rfl) ?_
 refine sk (an (sq (bk (sq (rn ?_)))))
 refine an (sq (rn ?_))
 refine an ?_
 rcases GH ay.2.2 with aw | aw
 ·replace h:=bJ aw h
  refine Gb (by first | (simp +decide only[F,reduceIte,Nat.reduceAdd,qB,qC,EN, *,-h];done)| (simp +decide only[F,reduceIte,Nat.reduceAdd,qB,qC,EN, *,-h];rfl)| rfl) ?_
  refine sk (ab (an (rn ?_)))
  refine jX ?_
  refine rnd ?_
  refine Eo (J:=λs=>s.t 0=vL enB p0/\s.t 4=vI x1.1/\s.t 5=vI ay.2.1/\s.t 6=vB ay.2.2/\s.t 7=vR 100025 j/\s.t 8=vI U/\s.t 9=vP 9 ((aa.h 9).1+1) 0/\s.t 10=vP 10 ((aa.h 10).1+1) 0/\s.t 41=vI 4/\s.h 9=((aa.h 9).1+1,oB 219 [cI C.1,cS (⟨#[]⟩:ByteArray),cI 0,cI 0,cS (⟨#[]⟩:ByteArray),.nil,cS (⟨#[]⟩:ByteArray)])/\s.h 10=((aa.h 10).1+1,oB 434 [.row 7060100 ((ak.h 7060100).1+1),.row 7060101 ((ax.h 7060101).1+1),.row 7060102 ((bd.h 7060102).1+1),.nil])/\s.h 100025=(j,oW 219 7 M.Op.en aj)/\s.h 7060100=((ak.h 7060100).1+1,oW 5 1 enB I.1)/\s.h 7060101=((ax.h 7060101).1+1,oW 5 1 enB av.1)/\s.h 7060102=((bd.h 7060102).1+1,oW 5 1 enB ay.1)/\True) ?_ ?_
  ·refine⟨?_,?_,?_,?_,?_,?_,?_,?_,?_,?_,?_,?_,?_,?_,?_,trivial⟩;all_goals first | (simp +decide only[F,reduceIte,Nat.reduceAdd,qB,qC,EN, *,-h];done)| (simp +decide only[F,reduceIte,Nat.reduceAdd,qB,qC,EN, *,-h];rfl)| rfl
  rintro cy f127
  refine sq (rn ?_)
  refine an (sq ?_)
  refine Gb (by first | (simp +decide only[F,reduceIte,Nat.reduceAdd,qB,qC,EN, *,-h];done)| (simp +decide only[F,reduceIte,Nat.reduceAdd,qB,qC,EN, *,-h];rfl)| rfl) ?_
  refine xt (E2 (EW (IA (an (sq (sq (rn ?_)))))))
  refine an (ct (sq (rn ?_)))
  refine an (rt ?_)
  cases h
  simp[Ret,TB,EN, *]
 replace h:=bK aw h
 refine Fz (by first | (simp +decide only[F,reduceIte,Nat.reduceAdd,qB,qC,EN, *,-h];done)| (simp +decide only[F,reduceIte,Nat.reduceAdd,qB,qC,EN, *,-h];rfl)| rfl) ?_
 obtain⟨az,cz,h⟩:=bind_some h
 apply iT
 ·simp +decide only[E,reduceIte,Nat.reduceAdd,Nat.reduceMul,qB,qC,Int.reduceToNat,Nat.reduceLT,qo,L,Rv,IP,EN,b3,b4,al,ao,aq,ar,f73,aw]
  refine⟨_,aAF.1 _ _ _ _ cz,?_⟩
  try simp +decide only[E,reduceIte,Nat.reduceAdd,Nat.reduceMul,qB,qC,Int.reduceToNat,Nat.reduceLT,qo,L,Rv,IP,EN,b3,b4,al,ao,aq,ar,f73,aw]
  exact Is.mk _
 refine ab (an (rn ?_))
 refine jX ?_
 refine rnd ?_
 refine Iz (ghB 10 3 7060103 100051) ?_
 refine Eo (J:=λs=>s.t 0=vL enB p0/\s.t 4=vI x1.1/\s.t 5=vI az.2.1/\s.t 6=vB az.2.2/\s.t 7=vR 100025 j/\s.t 8=vI U/\s.t 9=vP 9 ((aa.h 9).1+1) 0/\s.t 10=vP 10 ((aa.h 10).1+1) 0/\s.t 41=vI 4/\s.h 9=((aa.h 9).1+1,oB 219 [cI C.1,cS (⟨#[]⟩:ByteArray),cI 0,cI 0,cS (⟨#[]⟩:ByteArray),.nil,cS (⟨#[]⟩:ByteArray)])/\s.h 10=((aa.h 10).1+1,oB 434 [.row 7060100 ((ak.h 7060100).1+1),.row 7060101 ((ax.h 7060101).1+1),.row 7060102 ((bd.h 7060102).1+1),.row 7060103 ((bt.h 7060103).1+1)])/\s.h 100025=(j,oW 219 7 M.Op.en aj)/\s.h 7060100=((ak.h 7060100).1+1,oW 5 1 enB I.1)/\s.h 7060101=((ax.h 7060101).1+1,oW 5 1 enB av.1)/\s.h 7060102=((bd.h 7060102).1+1,oW 5 1 enB ay.1)/\s.h 7060103=((bt.h 7060103).1+1,oW 5 1 enB az.1)/\True) ?_ ?_
 ·refine⟨?_,?_,?_,?_,?_,?_,?_,?_,?_,?_,?_,?_,?_,?_,?_,?_,trivial⟩;all_goals first | (simp +decide only[F,reduceIte,Nat.reduceAdd,qB,qC,EN, *,-h];done)| (simp +decide only[F,reduceIte,Nat.reduceAdd,qB,qC,EN, *,-h];rfl)| rfl
 rintro dh f92
 refine sq (rn ?_)
 refine an (sq ?_)
 refine Gb (by first | (simp +decide only[F,reduceIte,Nat.reduceAdd,qB,qC,EN, *,-h];done)| (simp +decide only[F,reduceIte,Nat.reduceAdd,qB,qC,EN, *,-h];rfl)| rfl) ?_
 refine xt (E2 (EW (IA (an (sq (sq (rn ?_)))))))
 refine an ?_
 rcases cM (!az.2.2)with ah | ah
 ·replace h:=bK ah h;refine ct (sq (rn ?_));refine an (rt ?_);cases h;simp[Ret,TB,EN, *]
 replace h:=bJ ah h
 refine cf (sk (an (sq ?_)))
 obtain⟨da,bm,h⟩:=bind_some h
 apply iT
 ·simp +decide only[E,reduceIte,Nat.reduceAdd,Nat.reduceMul,qB,qC,Ix,J8,Int.reduceToNat,Nat.reduceLT,qo,L,ti5,ti9,Rv,Qr,IP,EN,b3,b4,al,ao,aq,ar,aw,f92,ah]
  refine⟨Lg bm,?_⟩
  try simp +decide only[E,reduceIte,Nat.reduceAdd,Nat.reduceMul,qB,qC,Ix,J8,Int.reduceToNat,Nat.reduceLT,qo,L,ti5,ti9,Rv,Qr,IP,EN,b3,b4,al,ao,aq,ar,aw,f92,ah]
  exact Is.mk _
 refine an (sq ?_)
 obtain⟨bf,bn,h⟩:=bind_some h
 apply iT
 ·simp +decide only[E,reduceIte,Nat.reduceAdd,Nat.reduceMul,qB,qC,Int.reduceToNat,Nat.reduceLT,qo,L,Rv,ZL,Qr,IP,EN,b3,b4,al,ao,aq,ar,aw,f92,ah]
  refine⟨_,aJU _ _ bn,?_⟩
  try simp +decide only[E,reduceIte,Nat.reduceAdd,Nat.reduceMul,qB,qC,Int.reduceToNat,Nat.reduceLT,qo,L,Rv,ZL,Qr,IP,EN,b3,b4,al,ao,aq,ar,aw,f92,ah]
  exact Is.mk _
 refine an (sq ?_)
 obtain⟨bg,bo,h⟩:=bind_some h
 apply iT
 ·simp +decide only[E,reduceIte,Nat.reduceAdd,Nat.reduceMul,qB,qC,Int.reduceToNat,Nat.reduceLT,qo,L,Rv,ZB,Qr,IP,EN,b3,b4,al,ao,aq,ar,aw,f92,ah]
  refine⟨_,aIn _ _ bo,?_⟩
  try simp +decide only[E,reduceIte,Nat.reduceAdd,Nat.reduceMul,qB,qC,Int.reduceToNat,Nat.reduceLT,qo,L,Rv,ZB,Qr,IP,EN,b3,b4,al,ao,aq,ar,aw,f92,ah]
  exact Is.mk _
 refine an (sq ?_)
 obtain⟨db,bq,h⟩:=bind_some h
 apply iT
 ·simp +decide only[E,reduceIte,Nat.reduceAdd,Nat.reduceMul,qB,qC,Ix,J8,Int.reduceToNat,Nat.reduceLT,qo,L,ti5,ti9,Rv,Qr,IP,EN,b3,b4,al,ao,aq,ar,aw,f92,ah]
  refine⟨Lg bq,?_⟩
  try simp +decide only[E,reduceIte,Nat.reduceAdd,Nat.reduceMul,qB,qC,Ix,J8,Int.reduceToNat,Nat.reduceLT,qo,L,ti5,ti9,Rv,Qr,IP,EN,b3,b4,al,ao,aq,ar,aw,f92,ah]
  exact Is.mk _
 refine an ?_
 obtain⟨df,br,h⟩:=bind_some h
 refine rn1 br ?_
 refine ab (an ?_)
 refine cu (λs=>s.t 0=vL enB p0/\s.t 4=vI x1.1/\s.t 5=vI az.2.1/\s.t 7=vR 100025 (j+1)/\s.t 8=vI U/\s.h 100025=(j+1,oW 219 7 M.Op.en (aj++[(⟨C.1,bF I.1,bf.1,bg.1,bF az.1⟩:M.Op)]))/\True) ?_
 rintro dg f120
 refine rn ?_
 refine jX ⟨mL1,jD,az.2.1,IntKind.i64.wrap (U+1),aj++[(⟨C.1,bF I.1,bf.1,bg.1,bF az.1⟩:M.Op)],j+1,?_,?_,?_,?_,?_,?_,h⟩
 all_goals simp +decide only[F,reduceIte,Nat.reduceAdd,qB,qC,EN, *,-h]
theorem aIi(p0 p1 p2 r)(h:CN p0 p1 p2=some r):Sc 554 [aX (M.aD.en p0),aX (M.Key.en p1),aX (M.aC.en p2)] [(true,M.aD.rs r.1),rB r.2]:=by unfold CN at h;exact sgo 20 [.cell 6 75,.tmp 7] Tryz.func554
theorem aJK(p0 p1 r)(h:Ga p0 p1=some r):Sc 489 [aX (M.aD.en p0),aX (M.Op.en p1)] [(true,M.aD.ra r.1),rI r.2.1,rB r.2.2]:=by
 unfold Ga at h
 simp only[EN]
 refine sgn 132 [.cell 4 75,.tmp 5,.tmp 6] Tryz.func489 λbase wd => ?_
 refine sq (rn ?_)
 refine an (sq ?_)
 obtain⟨x1,h2,h⟩:=bind_some h
 refine rn1 (aCQ.1 _ _ _ h2) ?_
 refine an (sq (sq (rn ?_)))
 refine an (bk (sq (rn ?_)))
 refine an ?_
 rcases cM (p1.aJz==1)with b3 | b3
 ·replace h:=bK b3 h;refine ct (sq ?_);obtain⟨x4,h5,h⟩:=bind_some h;refine rn1 (aAf.1 _ _ _ _ h5) ?_;refine an (sq (rn ?_));refine an (frb 4 1 200036 ?_);refine rt ?_;cases h;simp[Ret,TB,EN, *]
 replace h:=bJ b3 h
 refine cf (sq (rn ?_))
 refine an ?_
 rcases cM (p1.aJz==2)with b6 | b6
 ·replace h:=bK b6 h;refine ct (sq ?_);obtain⟨x7,h8,h⟩:=bind_some h;refine rn1 (aIi _ _ _ _ h8) ?_;refine an (sq (rn ?_));refine an (frb 4 1 200049 ?_);refine rt ?_;cases h;simp[Ret,TB,EN, *]
 replace h:=bJ b6 h
 refine cf (sq (rn ?_))
 refine an ?_
 rcases cM (p1.aJz==3)with b9 | b9
 ·replace h:=bK b9 h;refine ct (sq ?_);obtain⟨bh,C,h⟩:=bind_some h;refine rn1 (aEO _ _ _ C) ?_;refine an (sq (rn ?_));refine an (rt ?_);cases h;simp[Ret,TB,EN, *]
 replace h:=bJ b9 h
 refine cf (sq (rn ?_))
 refine an ?_
 rcases cM (p1.aJz==5)with ae | ae
 ·replace h:=bK ae h;refine ct (sq ?_);obtain⟨bj,I,h⟩:=bind_some h;refine rn1 (aEO _ _ _ I) ?_;refine an (sq (rn ?_));refine an (rt ?_);cases h;simp[Ret,TB,EN, *]
 replace h:=bJ ae h
 refine cf (sq (rn ?_))
 refine an ?_
 rcases cM (p1.aJz==4)with af | af
 ·replace h:=bK af h;refine ct (sq (sq (rn ?_)));refine an ?_;rcases cM (decide (x1<0))with ah | ah;(replace h:=bK ah h;refine ct (sq (rn ?_));refine an (rt ?_);cases h;simp[Ret,TB,EN, *]);replace h:=bJ ah h;refine cf (sk (an (sq ?_)));obtain⟨bl,J,h⟩:=bind_some h;obtain⟨bm,bn,bo⟩:=aU J;refine rd mixed ?_;refine an (rt ?_);cases h;simp[Ret,TB,EN, *]
 replace h:=bJ af h
 refine cf (sk (ab (an (sq (rn ?_)))))
 refine an (sq (sq (rn ?_)))
 refine an ?_
 rcases GH (decide (x1>=0))with ai | ai
 ·replace h:=bJ ai h;refine cf (sk (an (sq ?_)));obtain⟨bq,U,h⟩:=bind_some h;refine rn1 (aA3.1 _ _ _ U) ?_;refine an (sq ?_);obtain⟨av,aw,h⟩:=bind_some h;refine rn1 (aBA.1 _ _ _ _ aw) ?_;refine an (sq (sq (rn ?_)));refine an ?_;rcases cM (!av.2)with aj | aj;(replace h:=bK aj h;refine ct (sq (rn ?_));refine an (rt ?_);cases h;simp[Ret,TB,EN, *]);replace h:=bJ aj h;refine cf (sk (an (sq ?_)));obtain⟨br,ax,h⟩:=bind_some h;refine rn1 (aAf.1 _ _ _ _ ax) ?_;refine an (sq (rn ?_));refine an (frb 4 1 200125 ?_);refine rt ?_;cases h;simp[Ret,TB,EN, *]
 replace h:=bK ai h
 refine ct ?_
 obtain⟨bt,ay,h⟩:=bind_some h
 obtain⟨bu,bw,bz⟩:=aU ay
 refine rn ?_
 refine an (sq ?_)
 obtain⟨az,ba,h⟩:=bind_some h
 refine rn1 (aA3.1 _ _ _ ba) ?_
 refine an (sq ?_)
 obtain⟨bd,bf,h⟩:=bind_some h
 refine rn1 (aBA.1 _ _ _ _ bf) ?_
 refine an (sq (sq (rn ?_)))
 refine an ?_
 rcases cM (!bd.2)with ak | ak
 ·replace h:=bK ak h;refine ct (sq (rn ?_));refine an (rt ?_);cases h;simp[Ret,TB,EN, *]
 replace h:=bJ ak h
 refine cf (sk (an (sq ?_)))
 obtain⟨j,bg,h⟩:=bind_some h
 refine rn1 (aAf.1 _ _ _ _ bg) ?_
 refine an (sq ?_)
 refine cu (λs=>s.t 4=vP 4 1 0/\s.t 17=vI az.1/\s.t 20=vP 20 1 0/\s.t 21=vB j.2/\s.h 4=(1,oB 75 [cS (⟨#[]⟩:ByteArray),.nil,cI 0])/\s.h 20=(1,oB 75 [cS j.1.Name,.row 200125 1,cI j.1.aKG])/\s.h 200125=(1,oW 320 4 M.aJt.en j.1.aJm)/\True) ?_
 rintro c5 f36
 refine rn ?_
 refine an (frb 4 1 200125 ?_)
 refine rt ?_
 cases h
 simp[Ret,TB,EN, *]
instance:aW 283 (∀p0 p1 r (h:oP p0 p1=some r),Sc 283 [aX (M.aD.en p0),aX (M.aY.en p1)] [(true,M.aD.rs r.1),rB r.2]):=⟨λp0 p1 r h=>by unfold oP at h;exact sgo 42 [.cell 4 75,.tmp 5] Tryz.func283⟩
instance:aW 409 (∀p0 p1 r (h:CM p0 p1=some r),Sc 409 [aX (M.aD.en p0),aL M.aY.en p1] [(true,M.aD.rs r)]):=⟨λp0 p1 r h=>by
 have i1:=Mt [.b 5 1 7050000 320 4] λm s=>∃ai:Int,∃af:ByteArray,∃ah:Int,∃aa:List M.aJt,∃ae:Nat,(s.t 4=vP 4 1 0/\s.t 5=vP 5 1 0/\s.t 10=vL M.aY.en p1/\s.t 11=vI (List.length p1:Int)/\s.t 12=vI ai/\s.h 4=(1,oB 75 [cS (⟨#[]⟩:ByteArray),.nil,cI 0])/\s.h 5=(1,oB 75 [cS af,.row 7050000 ae,cI ah])/\s.h 7050000=(ae,oW 320 4 M.aJt.en aa))/\oH p1 m ai af ah aa=some r
 have e1:=@oH.eq_2
 unfold CM at h
 exact sgo 24 [.cell 4 75] Tryz.func409⟩
