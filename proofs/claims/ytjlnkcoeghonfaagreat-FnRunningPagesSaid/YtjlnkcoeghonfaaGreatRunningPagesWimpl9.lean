/-
  Helper text. No conditions.
-/
import Derived.Test.YtjlnkcoeghonfaaGreatRunningPagesWimpl8
set_option linter.all false
namespace Go.Proofs.YtjlnkcoeghonfaaGreat.gen
open Go Go.Sh Tryz
set_option maxRecDepth 20000
set_option maxHeartbeats 4000000
instance:bK 133 (∀p0 r (h:cX p0=some r),Sc 133 [aX (M.aC.en p0)] [(true,M.aC.rs r)]):=⟨λp0 r h=>by
 have i1:=G8 [.b 3 0 7050000 84 24] λm s=>∃v10:Int,∃aa:List M.Bucket,∃ae:Nat,(s.t 2=vP 2 1 0/\s.t 3=vP 3 1 0/\s.t 8=vL M.Bucket.en p0.Buckets/\s.t 9=vI (List.length p0.Buckets:Int)/\s.t 10=vI v10/\s.h 2=(1,oB 39 [.nil])/\s.h 3=(1,oB 39 [.row 7050000 ae])/\s.h 7050000=(ae,oW 84 24 M.Bucket.en aa))/\kV p0 m v10 aa=some r
 have e1:=@kV.eq_2
 unfold cX at h
 exact sgo 23 [.cell 2 39] func133⟩
instance:bK 45 (∀p0 r (h:rY p0=some r),Sc 45 [aX (M.aD.en p0)] [(true,M.aD.rs r)]):=⟨λp0 r h=>by
 have i1:=λ(x1:M.aC) (x3:(List M.bO)) (x5:M.aT) (x7:M.aLe)=>G8 [.b 3 8 7050000 151 4] λm s=>∃ai:Int,∃aa:List M.aLa,∃ae:Nat,(s.t 1=vP 1 1 0/\s.t 2=vP 2 1 0/\s.t 3=vP 3 1 0/\s.t 27=vL M.aLa.en p0.aLp/\s.t 28=vI (List.length p0.aLp:Int)/\s.t 29=vI ai/\s.h 1=(1,oX 50 (M.aD.en p0))/\s.h 2=(1,Vo)/\s.h 3=(1,oB 50 [cI p0.Now,cB p0.aLt,cI p0.aLZ,.row 100011 1,.row 100015 1,cI p0.aLd,.row 100019 1,.row 100023 1,.row 7050000 ae,cL M.aLj.en p0.aLh])/\s.h 100011=(1,oW 84 24 M.Bucket.en x1.Buckets)/\s.h 100015=(1,oW 91 11 M.bO.en x3)/\s.h 100019=(1,oW 144 4 M.uY.en x5.aLk)/\s.h 100023=(1,oW 147 3 M.Fy.en x7.aL8)/\s.h 7050000=(ae,oW 151 4 M.aLa.en aa))/\lG p0 x1 x3 x5 x7 m ai aa=some r
 have e1:=@lG.eq_2
 have i2:=λ(x1:M.aC) (x3:(List M.bO)) (x5:M.aT) (x7:M.aLe) (aa:List M.aLa) (ae:Nat)=>G8 [.b 3 9 7050100 156 5] λm s=>∃aj:Int,∃af:List M.aLj,∃ah:Nat,(s.t 2=vP 2 1 0/\s.t 3=vP 3 1 0/\s.t 43=vL M.aLj.en p0.aLh/\s.t 44=vI (List.length p0.aLh:Int)/\s.t 45=vI aj/\s.h 2=(1,Vo)/\s.h 3=(1,oB 50 [cI p0.Now,cB p0.aLt,cI p0.aLZ,.row 100011 1,.row 100015 1,cI p0.aLd,.row 100019 1,.row 100023 1,.row 7050000 ae,.row 7050100 ah])/\s.h 100011=(1,oW 84 24 M.Bucket.en x1.Buckets)/\s.h 100015=(1,oW 91 11 M.bO.en x3)/\s.h 100019=(1,oW 144 4 M.uY.en x5.aLk)/\s.h 100023=(1,oW 147 3 M.Fy.en x7.aL8)/\s.h 7050000=(ae,oW 151 4 M.aLa.en aa)/\s.h 7050100=(ah,oW 156 5 M.aLj.en af))/\iH p0 x1 x3 x5 x7 aa m aj af=some r
 have e2:=@iH.eq_2
 unfold rY at h
 exact sgo 58 [.cell 2 50] func45⟩
instance aBU:bK 371 (∀p0 r (h:oJ p0=some r),Sc 371 [aX (M.aLS.en p0)] [rB r]):=⟨λp0 r h=>by
 have i1:=inv λm s=>∃aa:Int,(s.t 1=vP 1 1 0/\s.t 34=vL M.aE.en p0.aLc/\s.t 35=vI (List.length p0.aLc:Int)/\s.t 36=vI aa/\s.h 1=(1,oX 70 (M.aLS.en p0)))/\gB p0 m aa=some r
 have e1:=@gB.eq_2
 have i2:=inv λm s=>∃ae:Int,(s.t 1=vP 1 1 0/\s.t 62=vL M.aU.en p0.aLm/\s.t 63=vI (List.length p0.aLm:Int)/\s.t 64=vI ae/\s.h 1=(1,oX 70 (M.aLS.en p0)))/\gG p0 m ae=some r
 have e2:=@gG.eq_2
 unfold oJ at h
 exact sgo 103 [.tmp 2] func371⟩
instance:bK 551 (∀p0 r (h:zF p0=some r),Sc 551 [aX (M.aLS.en p0)] [rI r]):=⟨λp0 r h=>by
 have i1:=inv λm s=>∃v3:Int,∃v9:Int,(s.t 3=vI v3/\s.t 7=vL M.aE.en p0.aLc/\s.t 8=vI (List.length p0.aLc:Int)/\s.t 9=vI v9)/\kF p0 m v3 v9=some r
 have e1:=@kF.eq_2
 unfold zF at h
 exact sgo 19 [.tmp 2] func551⟩
instance:bK 473 (∀p0 r (h:Ev p0=some r),Sc 473 [aX (M.bP.en p0)] [rI r]):=⟨λp0 r h=>by unfold Ev at h;exact sgo 10 [.tmp 2] func473⟩
instance:bK 265 (∀p0 p1 p2 r (h:Cj p0 p1 p2=some r),Sc 265 [aX (M.aLa.en p0),aS p1,aI p2] [(true,M.aLb.rs r)]):=⟨λp0 p1 p2 r h=>by unfold Cj at h;exact sgo 32 [.cell 6 107] func265⟩
instance:bK 154 (∀p0 p1 p2 p3 p4 r (h:AZ p0 p1 p2 p3 p4=some r),Sc 154 [aX (M.aJ.en p0),aX (M.aLa.en p1),aI p2,aS p3,aB p4] [(true,M.aLb.rs r)]):=⟨λp0 p1 p2 p3 p4 r h=>by unfold AZ at h;exact sgo 32 [.cell 10 107] func154⟩
instance aFs:bK 277 (∀p0 r (h:AF p0=some r),Sc 277 [aL M.gN.en p0] [rW 5 1 enB r]):=⟨λp0 r h=>by
 unfold AF at h
 simp only[EN]
 refine sgn 49 [.tmp 2] func277 λbase wd=> ?_
 refine sq (rn ?_)
 refine an (sq (sq ?_))
 obtain⟨x1,h2,h⟩:=aA h
 refine rn1 (aKR _ _ h2) ?_
 refine an ?_
 rcases dX (!x1)with b3|b3
 ·replace h:=bN b3 h;refine ct (sq (rn ?_));exact an (rt zR)
 replace h:=bM b3 h
 refine cf (sk (an (sq ?_)))
 obtain⟨x4,h5,h⟩:=aA h
 refine rn1 (aEV.1 _ _ _ h5) ?_
 refine an (sq (sq (rn ?_)))
 refine an (bk ?_)
 refine Ey (ghT 3 7050100 100014) ?_
 refine Hg (λm s=>∃aj:Int,∃ah:List Int,∃ai:Nat,s.t 3=vR 7050100 ai/\s.t 15=vL M.gN.en p0/\s.t 16=vI (List.length p0:Int)/\s.t 17=vI aj/\s.h 7050100=(ai,oW 5 1 enB ah)/\fJ p0 m aj ah=some r) aH ?_ ?_
 ·exact⟨0,x4,1,zM⟩
 rintro mL1 s6 ⟨aj,ah,ai,f7,f8,f9,f10,f11,h⟩
 rcases mL1 with _|mL1
 ·exact absurd h (by simp[fJ])
 simp only[fJ]at h
 refine sq (rn ?_)
 refine an (sq ?_)
 rcases Dz (decide (aj<(List.length p0:Int)))with aq|aq
 ·replace h:=bM aq h;refine cf (xt (Da (CW (GI (an (sq (rn ?_)))))));exact an (rt zR)
 replace h:=bN aq h
 refine ct (sk (an (sq (bk (sq ?_)))))
 obtain⟨ak,aw,h⟩:=aA h
 obtain⟨bo,bq,br⟩:=nJ aw
 refine rn ?_
 refine an (sq ?_)
 obtain⟨ar,ax,h⟩:=aA h
 refine rn1 (aEV.1 _ _ _ ax) ?_
 refine an (sq ?_)
 obtain⟨al,ay,h⟩:=aA h
 obtain⟨ao,az,h⟩:=aA h
 refine rd2 mixed (aE9.1 _ _ ay) (aE0.1 _ _ az) ?_
 refine an (bk ?_)
 obtain⟨V1,eV1⟩:=nmH (((s6.h 100037).1+1,.row 58 1 (List.map (enL enB) ([bJ ak.aE,al,ao,bJ ak.Field])) false))
 refine cu (λs=>s.t 3=vR 100024 ((s6.h 100024).1+1)/\s.t 15=vL M.gN.en p0/\s.t 16=vI (List.length p0:Int)/\s.t 17=vI aj/\s.t 37=vR 100037 ((s6.h 100037).1+1)/\s.t 38=vI ((4:Nat):Int)/\s.t 39=vI 0/\s.h 100024=((s6.h 100024).1+1,oW 5 1 enB ar)/\s.h 100037=V1/\True) ?_
 rintro ba f25
 obtain⟨bd,bf,h⟩:=aKi (f:=λkk=>lH ak al ao kk aH 0 ar) h
 refine Ey (ghT 3 7050000 100024) ?_
 refine Hg (λm s=>∃af:Int,∃aa:List Int,∃ae:Nat,s.t 3=vR 7050000 ae/\s.t 15=vL M.gN.en p0/\s.t 16=vI (List.length p0:Int)/\s.t 17=vI aj/\s.t 37=vR 100037 ((s6.h 100037).1+1)/\s.t 38=vI ((4:Nat):Int)/\s.t 39=vI af/\s.h 100037=V1/\s.h 7050000=(ae,oW 5 1 enB aa)/\lH ak al ao bd m af aa=some r) aH ?_ ?_
 ·exact⟨0,ar,(ba.h 7050000).1+1,zM⟩
 rintro mL2 bg ⟨af,aa,ae,f37,f38,f39,f40,f41,f42,f43,f44,f45,h⟩
 rcases mL2 with _|mL2
 ·exact absurd h (by simp[lH])
 simp only[lH]at h
 refine sq (rn ?_)
 refine an (sq ?_)
 rcases Dz (decide (af<((4:Nat):Int)))with av|av
 ·replace h:=bM av h;refine cf (xt (Da ?_));subst bf;refine CW (GI (ab (an (rn ?_))));exact cZ ⟨_,ghT 3 7050100 7050000,mL1,wi,IntKind.i64.wrap (aj+1),aa,(bg.h 7050100).1+1,zM⟩
 replace h:=bN av h
 refine ct (sk (an (sq (bk (sq ?_)))))
 obtain⟨bh,bj,h⟩:=aA h
 obtain⟨bt,bu,bl⟩:=nJ bj
 have q49m:=congrArg (Option.map (enL enB)) (show([bJ ak.aE,al,ao,bJ ak.Field])[af.toNat]? =some bh by assumption)
 simp only[<-List.getElem?_map,jI,jJ,Option.map_some,EN]at q49m
 simp only[qJ,qK,Nat.reduceAdd]at bl
 refine rn ?_
 refine an ?_
 obtain⟨bm,bn,h⟩:=aA h
 refine rn1 (aFh.1 _ _ _ bn) ?_
 refine ab (an (rn ?_))
 exact cZ ⟨_,ghT 3 7050000 100045,mL2,wi,IntKind.i64.wrap (af+1),bm,ae+1,zM⟩⟩
theorem aK0(p0 r)(h:As p0=some r):Sc 268 [aL enB p0] [rW 219 7 M.gN.en r.1,rB r.2]:=by
 unfold As at h
 simp only[EN]
 refine sgn 93 [.tmp 2,.tmp 3] func268 λbase wd=> ?_
 refine sq (rn ?_)
 refine an (sq ?_)
 obtain⟨x1,h2,h⟩:=aA h
 refine rn1 (aEY.1 _ _ _ h2) ?_
 refine an (sq (sq ?_))
 rcases dX (!x1.2.2)with b3|b3
 ·replace h:=bN b3 h;refine rn ?_;refine an (ct (sq (rn ?_)));exact an (rt zR)
 replace h:=bM b3 h
 refine rn ?_
 refine an ?_
 rcases dX (decide (x1.1>6))with b4|b4
 ·replace h:=bN b4 h;refine ct (sq (rn ?_));exact an (rt zR)
 replace h:=bM b4 h
 refine cf (sk (an (sq (rn ?_))))
 refine an (sq (sq ?_))
 obtain⟨j,eV13⟩:=nmT (vL enB p0)
 obtain⟨C,eV14⟩:=nmT (vI x1.1)
 refine cu (λs=>s.t 0=j/\s.t 4=C/\s.t 5=vI x1.2.1/\s.t 7=vR 100025 1/\s.h 100025=(1,oW 219 7 M.gN.en ([]:List M.gN))/\True) ?_
 rintro s5 f6
 refine rn ?_
 refine an (bk ?_)
 refine Hn (λm s=>∃v5:Int,∃v8:Int,∃ax:List M.gN,∃ao:Nat,s.t 0=j/\s.t 4=C/\s.t 5=vI v5/\s.t 7=vR 100025 ao/\s.t 8=vI v8/\s.h 100025=(ao,oW 219 7 M.gN.en ax)/\iI p0 x1 m v5 v8 ax=some r) aH ?_ ?_
 ·exact⟨x1.2.1,0,([]:List M.gN),1,zM⟩
 rintro mL1 aq ⟨v5,v8,ax,ao,f12,f13,f14,f15,f16,f17,h⟩
 rcases mL1 with _|mL1
 ·exact absurd h (by simp[iI])
 simp only[iI]at h
 refine sq (sq (rn ?_))
 refine an ?_
 rcases Dz (decide (v8<x1.1))with ae|ae
 ·replace h:=bM ae h;refine cf (xt (Da (CW (GI (an (sq (sq ?_)))))));obtain⟨bu,bg,h⟩:=aA h;obtain⟨bh,bj,h⟩:=aA h;refine rn2 (aFs.1 _ _ bg) (aFk.1 _ _ _ bj) ?_;refine an ?_;rcases dX (!bh)with aw|aw;(replace h:=bN aw h;refine ct (sq (rn ?_));exact an (rt zR));replace h:=bM aw h;refine cf (sk (an (sq (rn ?_))));exact an (rt zR)
 replace h:=bN ae h
 refine ct (sk (an (sq (bk (sq (rn ?_))))))
 refine an (sq ?_)
 obtain⟨aj,bw,h⟩:=aA h
 refine rn1 (aEY.1 _ _ _ bw) ?_
 refine an (sq (rn ?_))
 refine an (sq (sq (rn ?_)))
 refine an (bk ?_)
 refine Xy 6 ?_
 refine rnd ?_
 obtain⟨V2,I⟩:=nmH (((aq.h 9).1+1,oB 219 [cI aj.1,cS (⟨#[]⟩:ByteArray),cI 0,cI 0,cS (⟨#[]⟩:ByteArray),.nil,cS (⟨#[]⟩:ByteArray)]))
 obtain⟨V8,U⟩:=nmH (((aq.h 10).1+1,aDm))
 obtain⟨V9,eV9⟩:=nmH ((ao,oW 219 7 M.gN.en ax))
 obtain⟨V10,eV10⟩:=nmT (vP 10 ((aq.h 10).1+1) 0)
 obtain⟨V11,eV11⟩:=nmT (vP 9 ((aq.h 9).1+1) 0)
 obtain⟨V12,eV12⟩:=nmT (vR 100025 ao)
 refine cY (J:=λs=>s.t 0=j/\s.t 4=C/\s.t 5=vI aj.2.1/\s.t 6=vB aj.2.2/\s.t 7=V12/\s.t 8=vI v8/\s.t 9=V11/\s.t 10=V10/\s.t 41=vI 0/\s.h 9=V2/\s.h 10=V8/\s.h 100025=V9/\True) zM ?_
 rintro az f22
 refine sq (rn ?_)
 refine an (sq ?_)
 refine BA zM ?_
 refine sk (an (sq (bk (sq (rn ?_)))))
 refine an (sq (rn ?_))
 refine an ?_
 rcases Dz aj.2.2 with af|af
 ·replace h:=bM af h;refine Co zM ?_;refine sk (ab (an (rn ?_)));refine cZ ?_;refine rnd ?_;refine cY (J:=λs=>s.t 0=j/\s.t 4=C/\s.t 5=vI aj.2.1/\s.t 6=vB aj.2.2/\s.t 7=V12/\s.t 8=vI v8/\s.t 9=V11/\s.t 10=V10/\s.t 41=vI 1/\s.h 9=V2/\s.h 10=V8/\s.h 100025=V9/\True) zM ?_;rintro bx f215;refine sq (rn ?_);refine an (sq ?_);refine BA zM ?_;refine sk (an (sq (bk (sq (rn ?_)))));refine an (sq (rn ?_));refine an ?_;refine Co zM ?_;refine sk (ab (an (rn ?_)));refine cZ ?_;refine rnd ?_;refine cY (J:=λs=>s.t 0=j/\s.t 4=C/\s.t 5=vI aj.2.1/\s.t 6=vB aj.2.2/\s.t 7=V12/\s.t 8=vI v8/\s.t 9=V11/\s.t 10=V10/\s.t 41=vI 2/\s.h 9=V2/\s.h 10=V8/\s.h 100025=V9/\True) zM ?_;rintro bz f228;refine sq (rn ?_);refine an (sq ?_);refine BA zM ?_;refine sk (an (sq (bk (sq (rn ?_)))));refine an (sq (rn ?_));refine an ?_;refine Co zM ?_;refine sk (ab (an (rn ?_)));refine cZ ?_;refine rnd ?_;refine cY (J:=λs=>s.t 0=j/\s.t 4=C/\s.t 5=vI aj.2.1/\s.t 6=vB aj.2.2/\s.t 7=V12/\s.t 8=vI v8/\s.t 9=V11/\s.t 10=V10/\s.t 41=vI 3/\s.h 9=V2/\s.h 10=V8/\s.h 100025=V9/\True) zM ?_;rintro ca f241;refine sq (rn ?_);refine an (sq ?_);refine BA zM ?_;refine sk (an (sq (bk (sq (rn ?_)))));refine an (sq (rn ?_));refine an ?_;refine Co zM ?_;refine sk (ab (an (rn ?_)));refine cZ ?_;refine rnd ?_;refine cY (J:=λs=>s.t 0=j/\s.t 4=C/\s.t 5=vI aj.2.1/\s.t 6=vB aj.2.2/\s.t 7=V12/\s.t 8=vI v8/\s.t 9=V11/\s.t 10=V10/\s.t 41=vI 4/\s.h 9=V2/\s.h 10=V8/\s.h 100025=V9/\True) zM ?_;rintro cc f254;refine sq (rn ?_);refine an (sq ?_);refine Co zM ?_;refine xt (Da (CW (GI (an (sq (sq (rn ?_)))))));refine an (ct (sq (rn ?_)));exact an (rt zR)
 replace h:=bN af h
 refine BA zM ?_
 obtain⟨al,cd,h⟩:=aA h
 apply Bk
 ·simp+decide only[E,reduceIte,Nat.reduceAdd,Nat.reduceMul,qB,qC,Int.reduceToNat,Nat.reduceLT,qp,L,QH,JF,EN,b3,b4,ae,f22,af,eV13,eV14,I,U,eV9,eV10,eV11,eV12]
  refine⟨_,aDG.1 _ _ _ _ cd,?_⟩
  try simp+decide only[E,reduceIte,Nat.reduceAdd,Nat.reduceMul,qB,qC,Int.reduceToNat,Nat.reduceLT,qp,L,QH,JF,EN,b3,b4,ae,f22,af,eV13,eV14,I,U,eV9,eV10,eV11,eV12]
  exact Is.mk _
 refine ab (an (rn ?_))
 refine cZ ?_
 refine rnd ?_
 refine Ey (ghB 10 0 7060100 100051) ?_
 obtain⟨V4,eV4⟩:=nmH (((aq.h 10).1+1,oB 434 [.row 7060100 ((az.h 7060100).1+1),.nil,.nil,.nil]))
 obtain⟨V5,eV5⟩:=nmH (((az.h 7060100).1+1,oW 5 1 enB al.1))
 refine cY (J:=λs=>s.t 0=j/\s.t 4=C/\s.t 5=vI al.2.1/\s.t 6=vB al.2.2/\s.t 7=V12/\s.t 8=vI v8/\s.t 9=V11/\s.t 10=V10/\s.t 41=vI 1/\s.h 9=V2/\s.h 10=V4/\s.h 100025=V9/\s.h 7060100=V5/\True) zM ?_
 rintro bf f38
 refine sq (rn ?_)
 refine an (sq ?_)
 refine BA zM ?_
 refine sk (an (sq (bk (sq (rn ?_)))))
 refine an (sq (rn ?_))
 refine an ?_
 rcases Dz al.2.2 with ah|ah
 ·replace h:=bM ah h;refine Co zM ?_;refine sk (ab (an (rn ?_)));refine cZ ?_;refine rnd ?_;refine cY (J:=λs=>s.t 0=j/\s.t 4=C/\s.t 5=vI al.2.1/\s.t 6=vB al.2.2/\s.t 7=V12/\s.t 8=vI v8/\s.t 9=V11/\s.t 10=V10/\s.t 41=vI 2/\s.h 9=V2/\s.h 10=V4/\s.h 100025=V9/\s.h 7060100=V5/\True) zM ?_;rintro cg f173;refine sq (rn ?_);refine an (sq ?_);refine BA zM ?_;refine sk (an (sq (bk (sq (rn ?_)))));refine an (sq (rn ?_));refine an ?_;refine Co zM ?_;refine sk (ab (an (rn ?_)));refine cZ ?_;refine rnd ?_;refine cY (J:=λs=>s.t 0=j/\s.t 4=C/\s.t 5=vI al.2.1/\s.t 6=vB al.2.2/\s.t 7=V12/\s.t 8=vI v8/\s.t 9=V11/\s.t 10=V10/\s.t 41=vI 3/\s.h 9=V2/\s.h 10=V4/\s.h 100025=V9/\s.h 7060100=V5/\True) zM ?_;rintro cj f187;refine sq (rn ?_);refine an (sq ?_);refine BA zM ?_;refine sk (an (sq (bk (sq (rn ?_)))));refine an (sq (rn ?_));refine an ?_;refine Co zM ?_;refine sk (ab (an (rn ?_)));refine cZ ?_;refine rnd ?_;refine cY (J:=λs=>s.t 0=j/\s.t 4=C/\s.t 5=vI al.2.1/\s.t 6=vB al.2.2/\s.t 7=V12/\s.t 8=vI v8/\s.t 9=V11/\s.t 10=V10/\s.t 41=vI 4/\s.h 9=V2/\s.h 10=V4/\s.h 100025=V9/\s.h 7060100=V5/\True) zM ?_;rintro ck f201;refine sq (rn ?_);refine an (sq ?_);refine Co zM ?_;refine xt (Da (CW (GI (an (sq (sq (rn ?_)))))));refine an (ct (sq (rn ?_)));exact an (rt zR)
 replace h:=bN ah h
 refine BA zM ?_
 obtain⟨ar,cl,h⟩:=aA h
 apply Bk
 ·simp+decide only[E,reduceIte,Nat.reduceAdd,Nat.reduceMul,qB,qC,Int.reduceToNat,Nat.reduceLT,qp,L,QH,JF,EN,b3,b4,ae,af,f38,ah,eV13,eV14,I,U,eV9,eV10,eV11,eV12,eV4,eV5]
  refine⟨_,aDG.1 _ _ _ _ cl,?_⟩
  try simp+decide only[E,reduceIte,Nat.reduceAdd,Nat.reduceMul,qB,qC,Int.reduceToNat,Nat.reduceLT,qp,L,QH,JF,EN,b3,b4,ae,af,f38,ah,eV13,eV14,I,U,eV9,eV10,eV11,eV12,eV4,eV5]
  exact Is.mk _
 refine ab (an (rn ?_))
 refine cZ ?_
 refine rnd ?_
 refine Ey (ghB 10 1 7060101 100051) ?_
 obtain⟨V3,eV3⟩:=nmH (((aq.h 10).1+1,oB 434 [.row 7060100 ((az.h 7060100).1+1),.row 7060101 ((bf.h 7060101).1+1),.nil,.nil]))
 obtain⟨V6,eV6⟩:=nmH (((bf.h 7060101).1+1,oW 5 1 enB ar.1))
 refine cY (J:=λs=>s.t 0=j/\s.t 4=C/\s.t 5=vI ar.2.1/\s.t 6=vB ar.2.2/\s.t 7=V12/\s.t 8=vI v8/\s.t 9=V11/\s.t 10=V10/\s.t 41=vI 2/\s.h 9=V2/\s.h 10=V3/\s.h 100025=V9/\s.h 7060100=V5/\s.h 7060101=V6/\True) zM ?_
 rintro bl f55
 refine sq (rn ?_)
 refine an (sq ?_)
 refine BA zM ?_
 refine sk (an (sq (bk (sq (rn ?_)))))
 refine an (sq (rn ?_))
 refine an ?_
 rcases Dz ar.2.2 with ai|ai
 ·replace h:=bM ai h;refine Co zM ?_;refine sk (ab (an (rn ?_)));refine cZ ?_;refine rnd ?_;refine cY (J:=λs=>s.t 0=j/\s.t 4=C/\s.t 5=vI ar.2.1/\s.t 6=vB ar.2.2/\s.t 7=V12/\s.t 8=vI v8/\s.t 9=V11/\s.t 10=V10/\s.t 41=vI 3/\s.h 9=V2/\s.h 10=V3/\s.h 100025=V9/\s.h 7060100=V5/\s.h 7060101=V6/\True) zM ?_;rintro cn f143;refine sq (rn ?_);refine an (sq ?_);refine BA zM ?_;refine sk (an (sq (bk (sq (rn ?_)))));refine an (sq (rn ?_));refine an ?_;refine Co zM ?_;refine sk (ab (an (rn ?_)));refine cZ ?_;refine rnd ?_;refine cY (J:=λs=>s.t 0=j/\s.t 4=C/\s.t 5=vI ar.2.1/\s.t 6=vB ar.2.2/\s.t 7=V12/\s.t 8=vI v8/\s.t 9=V11/\s.t 10=V10/\s.t 41=vI 4/\s.h 9=V2/\s.h 10=V3/\s.h 100025=V9/\s.h 7060100=V5/\s.h 7060101=V6/\True) zM ?_;rintro cp f158;refine sq (rn ?_);refine an (sq ?_);refine Co zM ?_;refine xt (Da (CW (GI (an (sq (sq (rn ?_)))))));refine an (ct (sq (rn ?_)));exact an (rt zR)
 replace h:=bN ai h
 refine BA zM ?_
 obtain⟨ay,cq,h⟩:=aA h
 apply Bk
 ·simp+decide only[E,reduceIte,Nat.reduceAdd,Nat.reduceMul,qB,qC,Int.reduceToNat,Nat.reduceLT,qp,L,QH,JF,EN,b3,b4,ae,af,ah,f55,ai,eV13,eV14,I,U,eV9,eV10,eV11,eV12,eV4,eV5,eV3,eV6]
  refine⟨_,aDG.1 _ _ _ _ cq,?_⟩
  try simp+decide only[E,reduceIte,Nat.reduceAdd,Nat.reduceMul,qB,qC,Int.reduceToNat,Nat.reduceLT,qp,L,QH,JF,EN,b3,b4,ae,af,ah,f55,ai,eV13,eV14,I,U,eV9,eV10,eV11,eV12,eV4,eV5,eV3,eV6]
  exact Is.mk _
 refine ab (an (rn ?_))
 refine cZ ?_
 refine rnd ?_
 refine Ey (ghB 10 2 7060102 100051) ?_
 obtain⟨V1,eV1⟩:=nmH (((aq.h 10).1+1,oB 434 [.row 7060100 ((az.h 7060100).1+1),.row 7060101 ((bf.h 7060101).1+1),.row 7060102 ((bl.h 7060102).1+1),.nil]))
 obtain⟨V7,eV7⟩:=nmH (((bl.h 7060102).1+1,oW 5 1 enB ay.1))
 refine cY (J:=λs=>s.t 0=j/\s.t 4=C/\s.t 5=vI ay.2.1/\s.t 6=vB ay.2.2/\s.t 7=V12/\s.t 8=vI v8/\s.t 9=V11/\s.t 10=V10/\s.t 41=vI 3/\s.h 9=V2/\s.h 10=V1/\s.h 100025=V9/\s.h 7060100=V5/\s.h 7060101=V6/\s.h 7060102=V7/\True) zM ?_
 rintro bt f73
 refine sq (rn ?_)
 refine an (sq ?_)
 refine BA zM ?_
 refine sk (an (sq (bk (sq (rn ?_)))))
 refine an (sq (rn ?_))
 refine an ?_
 rcases Dz ay.2.2 with ak|ak
 ·replace h:=bM ak h;refine Co zM ?_;refine sk (ab (an (rn ?_)));refine cZ ?_;refine rnd ?_;refine cY (J:=λs=>s.t 0=j/\s.t 4=C/\s.t 5=vI ay.2.1/\s.t 6=vB ay.2.2/\s.t 7=V12/\s.t 8=vI v8/\s.t 9=V11/\s.t 10=V10/\s.t 41=vI 4/\s.h 9=V2/\s.h 10=V1/\s.h 100025=V9/\s.h 7060100=V5/\s.h 7060101=V6/\s.h 7060102=V7/\True) zM ?_;rintro cr f127;refine sq (rn ?_);refine an (sq ?_);refine Co zM ?_;refine xt (Da (CW (GI (an (sq (sq (rn ?_)))))));refine an (ct (sq (rn ?_)));exact an (rt zR)
 replace h:=bN ak h
 refine BA zM ?_
 obtain⟨av,cw,h⟩:=aA h
 apply Bk
 ·simp+decide only[E,reduceIte,Nat.reduceAdd,Nat.reduceMul,qB,qC,Int.reduceToNat,Nat.reduceLT,qp,L,QH,JF,EN,b3,b4,ae,af,ah,ai,f73,ak,eV13,eV14,I,U,eV9,eV10,eV11,eV12,eV4,eV5,eV3,eV6,eV1,eV7]
  refine⟨_,aDG.1 _ _ _ _ cw,?_⟩
  try simp+decide only[E,reduceIte,Nat.reduceAdd,Nat.reduceMul,qB,qC,Int.reduceToNat,Nat.reduceLT,qp,L,QH,JF,EN,b3,b4,ae,af,ah,ai,f73,ak,eV13,eV14,I,U,eV9,eV10,eV11,eV12,eV4,eV5,eV3,eV6,eV1,eV7]
  exact Is.mk _
 refine ab (an (rn ?_))
 refine cZ ?_
 refine rnd ?_
 refine Ey (ghB 10 3 7060103 100051) ?_
 refine cY (J:=λs=>s.t 0=j/\s.t 4=C/\s.t 5=vI av.2.1/\s.t 6=vB av.2.2/\s.t 7=V12/\s.t 8=vI v8/\s.t 9=V11/\s.t 10=V10/\s.t 41=vI 4/\s.h 9=V2/\s.h 10=((aq.h 10).1+1,oB 434 [.row 7060100 ((az.h 7060100).1+1),.row 7060101 ((bf.h 7060101).1+1),.row 7060102 ((bl.h 7060102).1+1),.row 7060103 ((bt.h 7060103).1+1)])/\s.h 100025=V9/\s.h 7060100=V5/\s.h 7060101=V6/\s.h 7060102=V7/\s.h 7060103=((bt.h 7060103).1+1,oW 5 1 enB av.1)/\True) zM ?_
 rintro db f92
 refine sq (rn ?_)
 refine an (sq ?_)
 refine Co zM ?_
 refine xt (Da (CW (GI (an (sq (sq (rn ?_)))))))
 refine an ?_
 rcases dX (!av.2.2)with aa|aa
 ·replace h:=bN aa h;refine ct (sq (rn ?_));exact an (rt zR)
 replace h:=bM aa h
 refine cf (sk (an (sq ?_)))
 obtain⟨cx,bm,h⟩:=aA h
 apply Bk
 ·simp+decide only[E,reduceIte,Nat.reduceAdd,Nat.reduceMul,qB,qC,Jm,Lc,Int.reduceToNat,Nat.reduceLT,qp,L,ti5,ti9,QH,R6,JF,EN,b3,b4,ae,af,ah,ai,ak,f92,aa,eV13,eV14,I,U,eV9,eV10,eV11,eV12,eV4,eV5,eV3,eV6,eV1,eV7]
  refine⟨Mu bm,?_⟩
  try simp+decide only[E,reduceIte,Nat.reduceAdd,Nat.reduceMul,qB,qC,Jm,Lc,Int.reduceToNat,Nat.reduceLT,qp,L,ti5,ti9,QH,R6,JF,EN,b3,b4,ae,af,ah,ai,ak,f92,aa,eV13,eV14,I,U,eV9,eV10,eV11,eV12,eV4,eV5,eV3,eV6,eV1,eV7]
  exact Is.mk _
 refine an (sq ?_)
 obtain⟨ba,bn,h⟩:=aA h
 apply Bk
 ·simp+decide only[E,reduceIte,Nat.reduceAdd,Nat.reduceMul,qB,qC,Int.reduceToNat,Nat.reduceLT,qp,L,QH,aCa,R6,JF,EN,b3,b4,ae,af,ah,ai,ak,f92,aa,eV13,eV14,I,U,eV9,eV10,eV11,eV12,eV4,eV5,eV3,eV6,eV1,eV7]
  refine⟨_,aLG _ _ bn,?_⟩
  try simp+decide only[E,reduceIte,Nat.reduceAdd,Nat.reduceMul,qB,qC,Int.reduceToNat,Nat.reduceLT,qp,L,QH,aCa,R6,JF,EN,b3,b4,ae,af,ah,ai,ak,f92,aa,eV13,eV14,I,U,eV9,eV10,eV11,eV12,eV4,eV5,eV3,eV6,eV1,eV7]
  exact Is.mk _
 refine an (sq ?_)
 obtain⟨bd,bo,h⟩:=aA h
 apply Bk
 ·simp+decide only[E,reduceIte,Nat.reduceAdd,Nat.reduceMul,qB,qC,Int.reduceToNat,Nat.reduceLT,qp,L,QH,aCL,R6,JF,EN,b3,b4,ae,af,ah,ai,ak,f92,aa,eV13,eV14,I,U,eV9,eV10,eV11,eV12,eV4,eV5,eV3,eV6,eV1,eV7]
  refine⟨_,aKf _ _ bo,?_⟩
  try simp+decide only[E,reduceIte,Nat.reduceAdd,Nat.reduceMul,qB,qC,Int.reduceToNat,Nat.reduceLT,qp,L,QH,aCL,R6,JF,EN,b3,b4,ae,af,ah,ai,ak,f92,aa,eV13,eV14,I,U,eV9,eV10,eV11,eV12,eV4,eV5,eV3,eV6,eV1,eV7]
  exact Is.mk _
 refine an (sq ?_)
 obtain⟨cy,bq,h⟩:=aA h
 apply Bk
 ·simp+decide only[E,reduceIte,Nat.reduceAdd,Nat.reduceMul,qB,qC,Jm,Lc,Int.reduceToNat,Nat.reduceLT,qp,L,ti5,ti9,QH,R6,JF,EN,b3,b4,ae,af,ah,ai,ak,f92,aa,eV13,eV14,I,U,eV9,eV10,eV11,eV12,eV4,eV5,eV3,eV6,eV1,eV7]
  refine⟨Mu bq,?_⟩
  try simp+decide only[E,reduceIte,Nat.reduceAdd,Nat.reduceMul,qB,qC,Jm,Lc,Int.reduceToNat,Nat.reduceLT,qp,L,ti5,ti9,QH,R6,JF,EN,b3,b4,ae,af,ah,ai,ak,f92,aa,eV13,eV14,I,U,eV9,eV10,eV11,eV12,eV4,eV5,eV3,eV6,eV1,eV7]
  exact Is.mk _
 refine an ?_
 obtain⟨cz,br,h⟩:=aA h
 refine rn1 br ?_
 refine ab (an ?_)
 refine cu (λs=>s.t 0=j/\s.t 4=C/\s.t 5=vI av.2.1/\s.t 7=vR 100025 (ao+1)/\s.t 8=vI v8/\s.h 100025=(ao+1,oW 219 7 M.gN.en (ax++[(⟨aj.1,bS al.1,ba.1,bd.1,bS av.1⟩:M.gN)]))/\True) ?_
 rintro da f120
 refine rn ?_
 exact cZ ⟨mL1,wi,av.2.1,IntKind.i64.wrap (v8+1),ax++[(⟨aj.1,bS al.1,ba.1,bd.1,bS av.1⟩:M.gN)],ao+1,zM⟩
theorem aKb(p0 p1 p2 r)(h:DV p0 p1 p2=some r):Sc 554 [aX (M.aE.en p0),aX (M.bD.en p1),aX (M.aF.en p2)] [(true,M.aE.rs r.1),rB r.2]:=by unfold DV at h;exact sgo 20 [.cell 6 75,.tmp 7] func554
theorem aK7(p0 p1 r)(h:GQ p0 p1=some r):Sc 489 [aX (M.aE.en p0),aX (M.gN.en p1)] [(true,M.aE.ra r.1),rI r.2.1,rB r.2.2]:=by
 unfold GQ at h
 simp only[EN]
 refine sgn 132 [.cell 4 75,.tmp 5,.tmp 6] func489 λbase wd=> ?_
 refine sq (rn ?_)
 refine an (sq ?_)
 obtain⟨x1,h2,h⟩:=aA h
 refine rn1 (aFd.1 _ _ _ h2) ?_
 refine an (sq (sq (rn ?_)))
 refine an (bk (sq (rn ?_)))
 refine an ?_
 rcases dX (p1.aLn==1)with b3|b3
 ·replace h:=bN b3 h;refine ct (sq ?_);obtain⟨x4,h5,h⟩:=aA h;refine rn1 (aDy.1 _ _ _ _ h5) ?_;refine an (sq (rn ?_));refine an (frb 4 1 200036 ?_);exact rt zR
 replace h:=bM b3 h
 refine cf (sq (rn ?_))
 refine an ?_
 rcases dX (p1.aLn==2)with b6|b6
 ·replace h:=bN b6 h;refine ct (sq ?_);obtain⟨x7,h8,h⟩:=aA h;refine rn1 (aKb _ _ _ _ h8) ?_;refine an (sq (rn ?_));refine an (frb 4 1 200049 ?_);exact rt zR
 replace h:=bM b6 h
 refine cf (sq (rn ?_))
 refine an ?_
 rcases dX (p1.aLn==3)with b9|b9
 ·replace h:=bN b9 h;refine ct (sq ?_);obtain⟨bh,C,h⟩:=aA h;refine rn1 (aHD _ _ _ C) ?_;refine an (sq (rn ?_));exact an (rt zR)
 replace h:=bM b9 h
 refine cf (sq (rn ?_))
 refine an ?_
 rcases dX (p1.aLn==5)with ae|ae
 ·replace h:=bN ae h;refine ct (sq ?_);obtain⟨bj,I,h⟩:=aA h;refine rn1 (aHD _ _ _ I) ?_;refine an (sq (rn ?_));exact an (rt zR)
 replace h:=bM ae h
 refine cf (sq (rn ?_))
 refine an ?_
 rcases dX (p1.aLn==4)with af|af
 ·replace h:=bN af h;refine ct (sq (sq (rn ?_)));refine an ?_;rcases dX (decide (x1<0))with ah|ah;(replace h:=bN ah h;refine ct (sq (rn ?_));exact an (rt zR));replace h:=bM ah h;refine cf (sk (an (sq ?_)));obtain⟨bl,J,h⟩:=aA h;obtain⟨bm,bn,bo⟩:=nJ J;refine rd mixed ?_;exact an (rt zR)
 replace h:=bM af h
 refine cf (sk (ab (an (sq (rn ?_)))))
 refine an (sq (sq (rn ?_)))
 refine an ?_
 rcases Dz (decide (x1>=0))with ai|ai
 ·replace h:=bM ai h;refine cf (sk (an (sq ?_)));obtain⟨bq,U,h⟩:=aA h;refine rn1 (aES.1 _ _ _ U) ?_;refine an (sq ?_);obtain⟨av,aw,h⟩:=aA h;refine rn1 (aEZ.1 _ _ _ _ aw) ?_;refine an (sq (sq (rn ?_)));refine an ?_;rcases dX (!av.2)with aj|aj;(replace h:=bN aj h;refine ct (sq (rn ?_));exact an (rt zR));replace h:=bM aj h;refine cf (sk (an (sq ?_)));obtain⟨br,ax,h⟩:=aA h;refine rn1 (aDy.1 _ _ _ _ ax) ?_;refine an (sq (rn ?_));refine an (frb 4 1 200125 ?_);exact rt zR
 replace h:=bN ai h
 refine ct ?_
 obtain⟨bt,ay,h⟩:=aA h
 obtain⟨bu,bw,bx⟩:=nJ ay
 refine rn ?_
 refine an (sq ?_)
 obtain⟨az,ba,h⟩:=aA h
 refine rn1 (aES.1 _ _ _ ba) ?_
 refine an (sq ?_)
 obtain⟨bd,bf,h⟩:=aA h
 refine rn1 (aEZ.1 _ _ _ _ bf) ?_
 refine an (sq (sq (rn ?_)))
 refine an ?_
 rcases dX (!bd.2)with ak|ak
 ·replace h:=bN ak h;refine ct (sq (rn ?_));exact an (rt zR)
 replace h:=bM ak h
 refine cf (sk (an (sq ?_)))
 obtain⟨j,bg,h⟩:=aA h
 refine rn1 (aDy.1 _ _ _ _ bg) ?_
 refine an (sq ?_)
 refine cu (λs=>s.t 4=vP 4 1 0/\s.t 17=vI az.1/\s.t 20=vP 20 1 0/\s.t 21=vB j.2/\s.h 4=(1,oB 75 [cS (⟨#[]⟩:ByteArray),.nil,cI 0])/\s.h 20=(1,oB 75 [cS j.1.Name,.row 200125 1,cI j.1.aLx])/\s.h 200125=(1,oW 320 4 M.aLo.en j.1.aLV)/\True) ?_
 rintro bz f36
 refine rn ?_
 refine an (frb 4 1 200125 ?_)
 exact rt zR
instance:bK 283 (∀p0 p1 r (h:tX p0 p1=some r),Sc 283 [aX (M.aE.en p0),aX (M.bR.en p1)] [(true,M.aE.rs r.1),rB r.2]):=⟨λp0 p1 r h=>by unfold tX at h;exact sgo 42 [.cell 4 75,.tmp 5] func283⟩
instance:bK 409 (∀p0 p1 r (h:DR p0 p1=some r),Sc 409 [aX (M.aE.en p0),aL M.bR.en p1] [(true,M.aE.rs r)]):=⟨λp0 p1 r h=>by
 have i1:=G8 [.b 5 1 7050000 320 4] λm s=>∃ai:Int,∃af:ByteArray,∃ah:Int,∃aa:List M.aLo,∃ae:Nat,(s.t 4=vP 4 1 0/\s.t 5=vP 5 1 0/\s.t 10=vL M.bR.en p1/\s.t 11=vI (List.length p1:Int)/\s.t 12=vI ai/\s.h 4=(1,oB 75 [cS (⟨#[]⟩:ByteArray),.nil,cI 0])/\s.h 5=(1,oB 75 [cS af,.row 7050000 ae,cI ah])/\s.h 7050000=(ae,oW 320 4 M.aLo.en aa))/\tE p1 m ai af ah aa=some r
 have e1:=@tE.eq_2
 unfold DR at h
 exact sgo 24 [.cell 4 75] func409⟩
theorem aKv(p0 p1 r)(h:tD p0 p1=some r):Sc 197 [aX (M.Bucket.en p0),aX (M.Bucket.en p1)] [rB r]:=by unfold tD at h;exact sgo 59 [.tmp 4] func197
theorem c78(p0 p1 r)(h:xR p0 p1=some r):Sc 78 [aX (M.aC.en p0),aX (M.aC.en p1)] [rB r]:=by
 unfold xR at h
 simp only[EN]
 refine sgn 10 [.tmp 4] func78 λbase wd=> ?_
 refine sq (rn ?_)
 refine an (sq ?_)
 obtain⟨x1,h2,h⟩:=aA h
 refine rn1 (aK2 p0.Buckets p1.Buckets (λj C=>tD j C) 197 [] (λj C r I=>aKv j C r I) x1 h2) ?_
 exact an (rt zR)
