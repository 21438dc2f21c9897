/-
  Helper text. No conditions.
-/
import Derived.Test.YtndidbigdalbnaaGreatNotesWimpl5
set_option linter.all false
namespace Go.Proofs.YtndidbigdalbnaaGreat.gen
open Go Go.Sh Tryz
set_option maxRecDepth 20000
set_option maxHeartbeats 4000000
instance:bU 51 (∀p0 r (h:dB p0=some r),Sc 51 [aX (M.aC.en p0)] [(true,M.aC.rs r)]):=⟨λp0 r h=>by
 have i1:=He [.b 3 0 7050000 75 24] λm s=>∃v10:Int,∃aa:List M.aKe,∃ae:Nat,(s.t 2=vP 2 1 0/\s.t 3=vP 3 1 0/\s.t 8=vL M.aKe.en p0.aKf/\s.t 9=vI (List.length p0.aKf:Int)/\s.t 10=vI v10/\s.h 2=(1,oB 26 [.nil])/\s.h 3=(1,oB 26 [.row 7050000 ae])/\s.h 7050000=(ae,oW 75 24 M.aKe.en aa))/\kE p0 m v10 aa=some r
 have e1:=@kE.eq_2
 unfold dB at h
 exact sgo 23 [.cell 2 26] func51⟩
instance:bU 18 (∀p0 r (h:uV p0=some r),Sc 18 [aX (M.aE.en p0)] [(true,M.aE.rs r)]):=⟨λp0 r h=>by
 have i1:=λ(x1:M.aC) (x3:(List M.bK)) (x5:M.aW) (x7:M.aKp)=>He [.b 3 8 7050000 120 4] λm s=>∃ai:Int,∃aa:List M.aKl,∃ae:Nat,(s.t 1=vP 1 1 0/\s.t 2=vP 2 1 0/\s.t 3=vP 3 1 0/\s.t 27=vL M.aKl.en p0.aK0/\s.t 28=vI (List.length p0.aK0:Int)/\s.t 29=vI ai/\s.h 1=(1,oX 37 (M.aE.en p0))/\s.h 2=(1,WY)/\s.h 3=(1,oB 37 [cI p0.Now,cB p0.aK4,cI p0.aKk,.row 100011 1,.row 100015 1,cI p0.aKn,.row 100019 1,.row 100023 1,.row 7050000 ae,cL M.aKt.en p0.aKr])/\s.h 100011=(1,oW 75 24 M.aKe.en x1.aKf)/\s.h 100015=(1,oW 44 11 M.bK.en x3)/\s.h 100019=(1,oW 113 4 M.vE.en x5.aKu)/\s.h 100023=(1,oW 116 3 M.Eb.en x7.aLJ)/\s.h 7050000=(ae,oW 120 4 M.aKl.en aa))/\kS p0 x1 x3 x5 x7 m ai aa=some r
 have e1:=@kS.eq_2
 have i2:=λ(x1:M.aC) (x3:(List M.bK)) (x5:M.aW) (x7:M.aKp) (aa:List M.aKl) (ae:Nat)=>He [.b 3 9 7050100 125 5] λm s=>∃aj:Int,∃af:List M.aKt,∃ah:Nat,(s.t 2=vP 2 1 0/\s.t 3=vP 3 1 0/\s.t 43=vL M.aKt.en p0.aKr/\s.t 44=vI (List.length p0.aKr:Int)/\s.t 45=vI aj/\s.h 2=(1,WY)/\s.h 3=(1,oB 37 [cI p0.Now,cB p0.aK4,cI p0.aKk,.row 100011 1,.row 100015 1,cI p0.aKn,.row 100019 1,.row 100023 1,.row 7050000 ae,.row 7050100 ah])/\s.h 100011=(1,oW 75 24 M.aKe.en x1.aKf)/\s.h 100015=(1,oW 44 11 M.bK.en x3)/\s.h 100019=(1,oW 113 4 M.vE.en x5.aKu)/\s.h 100023=(1,oW 116 3 M.Eb.en x7.aLJ)/\s.h 7050000=(ae,oW 120 4 M.aKl.en aa)/\s.h 7050100=(ah,oW 125 5 M.aKt.en af))/\gZ p0 x1 x3 x5 x7 aa m aj af=some r
 have e2:=@gZ.eq_2
 unfold uV at h
 exact sgo 58 [.cell 2 37] func18⟩
instance c69:bU 69 (∀p0 r (h:zS p0=some r),Sc 69 [aL M.fA.en p0] [rW 5 1 enB r]):=⟨λp0 r h=>by
 unfold zS at h
 simp only[EN]
 refine sgn 49 [.tmp 2] func69 λbase wd=> ?_
 refine sq (rn ?_)
 refine an (sq (sq ?_))
 obtain⟨x1,h2,h⟩:=aA h
 refine rn1 (aKJ _ _ h2) ?_
 refine an ?_
 rcases gK (!x1)with b3|b3
 ·replace h:=bQ b3 h;refine ct (sq (rn ?_));exact an (rt zR)
 replace h:=bP b3 h
 refine cf (sk (an (sq ?_)))
 obtain⟨x4,h5,h⟩:=aA h
 refine rn1 (aEq.1 _ _ _ h5) ?_
 refine an (sq (sq (rn ?_)))
 refine an (bk ?_)
 refine Cj (ghT 3 7050100 100014) ?_
 refine GF (λm s=>∃aj:Int,∃ah:List Int,∃ai:Nat,s.t 3=vR 7050100 ai/\s.t 15=vL M.fA.en p0/\s.t 16=vI (List.length p0:Int)/\s.t 17=vI aj/\s.h 7050100=(ai,oW 5 1 enB ah)/\fF p0 m aj ah=some r) aJ ?_ ?_
 ·exact⟨0,x4,1,zM⟩
 rintro mL1 s6 ⟨aj,ah,ai,f7,f8,f9,f10,f11,h⟩
 rcases mL1 with _|mL1
 ·exact absurd h (by simp[fF])
 simp only[fF]at h
 refine sq (rn ?_)
 refine an (sq ?_)
 rcases CP (decide (aj<(List.length p0:Int)))with aq|aq
 ·replace h:=bP aq h;refine cf (xt (CO (CL (Gs (an (sq (rn ?_)))))));exact an (rt zR)
 replace h:=bQ aq h
 refine ct (sk (an (sq (bk (sq ?_)))))
 obtain⟨ak,aw,h⟩:=aA h
 obtain⟨bo,bq,br⟩:=pK aw
 refine rn ?_
 refine an (sq ?_)
 obtain⟨ar,ax,h⟩:=aA h
 refine rn1 (aEq.1 _ _ _ ax) ?_
 refine an (sq ?_)
 obtain⟨al,ay,h⟩:=aA h
 obtain⟨ao,az,h⟩:=aA h
 refine rd2 mixed (aFW.1 _ _ ay) (aFJ.1 _ _ az) ?_
 refine an (bk ?_)
 obtain⟨V1,eV1⟩:=nmH (((s6.h 100037).1+1,.row 22 1 (List.map (enL enB) ([bF ak.aD,al,ao,bF ak.Field])) false))
 refine cu (λs=>s.t 3=vR 100024 ((s6.h 100024).1+1)/\s.t 15=vL M.fA.en p0/\s.t 16=vI (List.length p0:Int)/\s.t 17=vI aj/\s.t 37=vR 100037 ((s6.h 100037).1+1)/\s.t 38=vI ((4:Nat):Int)/\s.t 39=vI 0/\s.h 100024=((s6.h 100024).1+1,oW 5 1 enB ar)/\s.h 100037=V1/\True) ?_
 rintro ba f25
 obtain⟨bd,bf,h⟩:=aJn (f:=λkk=>kU ak al ao kk aJ 0 ar) h
 refine Cj (ghT 3 7050000 100024) ?_
 refine GF (λm s=>∃af:Int,∃aa:List Int,∃ae:Nat,s.t 3=vR 7050000 ae/\s.t 15=vL M.fA.en p0/\s.t 16=vI (List.length p0:Int)/\s.t 17=vI aj/\s.t 37=vR 100037 ((s6.h 100037).1+1)/\s.t 38=vI ((4:Nat):Int)/\s.t 39=vI af/\s.h 100037=V1/\s.h 7050000=(ae,oW 5 1 enB aa)/\kU ak al ao bd m af aa=some r) aJ ?_ ?_
 ·exact⟨0,ar,(ba.h 7050000).1+1,zM⟩
 rintro mL2 bg ⟨af,aa,ae,f37,f38,f39,f40,f41,f42,f43,f44,f45,h⟩
 rcases mL2 with _|mL2
 ·exact absurd h (by simp[kU])
 simp only[kU]at h
 refine sq (rn ?_)
 refine an (sq ?_)
 rcases CP (decide (af<((4:Nat):Int)))with av|av
 ·replace h:=bP av h;refine cf (xt (CO ?_));subst bf;refine CL (Gs (ab (an (rn ?_))));exact fB ⟨_,ghT 3 7050100 7050000,mL1,wg,IntKind.i64.wrap (aj+1),aa,(bg.h 7050100).1+1,zM⟩
 replace h:=bQ av h
 refine ct (sk (an (sq (bk (sq ?_)))))
 obtain⟨bh,bj,h⟩:=aA h
 obtain⟨bt,bu,bl⟩:=pK bj
 have q49m:=congrArg (Option.map (enL enB)) (show([bF ak.aD,al,ao,bF ak.Field])[af.toNat]? =some bh by assumption)
 simp only[<-List.getElem?_map,jJ,jK,Option.map_some,EN]at q49m
 simp only[qJ,qK,Nat.reduceAdd]at bl
 refine rn ?_
 refine an ?_
 obtain⟨bm,bn,h⟩:=aA h
 refine rn1 (aFg.1 _ _ _ bn) ?_
 refine ab (an (rn ?_))
 exact fB ⟨_,ghT 3 7050000 100045,mL2,wg,IntKind.i64.wrap (af+1),bm,ae+1,zM⟩⟩
theorem c60(p0 r)(h:zH p0=some r):Sc 60 [aL enB p0] [rW 101 7 M.fA.en r.1,rB r.2]:=by
 unfold zH at h
 simp only[EN]
 refine sgn 93 [.tmp 2,.tmp 3] func60 λbase wd=> ?_
 refine sq (rn ?_)
 refine an (sq ?_)
 obtain⟨x1,h2,h⟩:=aA h
 refine rn1 (aEr.1 _ _ _ h2) ?_
 refine an (sq (sq ?_))
 rcases gK (!x1.2.2)with b3|b3
 ·replace h:=bQ b3 h;refine rn ?_;refine an (ct (sq (rn ?_)));exact an (rt zR)
 replace h:=bP b3 h
 refine rn ?_
 refine an ?_
 rcases gK (decide (x1.1>6))with b4|b4
 ·replace h:=bQ b4 h;refine ct (sq (rn ?_));exact an (rt zR)
 replace h:=bP b4 h
 refine cf (sk (an (sq (rn ?_))))
 refine an (sq (sq ?_))
 obtain⟨j,eV13⟩:=nmT (vL enB p0)
 obtain⟨C,eV14⟩:=nmT (vI x1.1)
 refine cu (λs=>s.t 0=j/\s.t 4=C/\s.t 5=vI x1.2.1/\s.t 7=vR 100025 1/\s.h 100025=(1,oW 101 7 M.fA.en ([]:List M.fA))/\True) ?_
 rintro s5 f6
 refine rn ?_
 refine an (bk ?_)
 refine HG (λm s=>∃v5:Int,∃v8:Int,∃ax:List M.fA,∃ao:Nat,s.t 0=j/\s.t 4=C/\s.t 5=vI v5/\s.t 7=vR 100025 ao/\s.t 8=vI v8/\s.h 100025=(ao,oW 101 7 M.fA.en ax)/\hH p0 x1 m v5 v8 ax=some r) aJ ?_ ?_
 ·exact⟨x1.2.1,0,([]:List M.fA),1,zM⟩
 rintro mL1 aq ⟨v5,v8,ax,ao,f12,f13,f14,f15,f16,f17,h⟩
 rcases mL1 with _|mL1
 ·exact absurd h (by simp[hH])
 simp only[hH]at h
 refine sq (sq (rn ?_))
 refine an ?_
 rcases CP (decide (v8<x1.1))with ae|ae
 ·replace h:=bP ae h;refine cf (xt (CO (CL (Gs (an (sq (sq ?_)))))));obtain⟨bu,bg,h⟩:=aA h;obtain⟨bh,bj,h⟩:=aA h;refine rn2 (c69.1 _ _ bg) (aFB.1 _ _ _ bj) ?_;refine an ?_;rcases gK (!bh)with aw|aw;(replace h:=bQ aw h;refine ct (sq (rn ?_));exact an (rt zR));replace h:=bP aw h;refine cf (sk (an (sq (rn ?_))));exact an (rt zR)
 replace h:=bQ ae h
 refine ct (sk (an (sq (bk (sq (rn ?_))))))
 refine an (sq ?_)
 obtain⟨aj,bw,h⟩:=aA h
 refine rn1 (aEr.1 _ _ _ bw) ?_
 refine an (sq (rn ?_))
 refine an (sq (sq (rn ?_)))
 refine an (bk ?_)
 refine XG 6 ?_
 refine rnd ?_
 obtain⟨V2,I⟩:=nmH (((aq.h 9).1+1,oB 101 [cI aj.1,cS (⟨#[]⟩:ByteArray),cI 0,cI 0,cS (⟨#[]⟩:ByteArray),.nil,cS (⟨#[]⟩:ByteArray)]))
 obtain⟨V8,U⟩:=nmH (((aq.h 10).1+1,aEW))
 obtain⟨V9,eV9⟩:=nmH ((ao,oW 101 7 M.fA.en ax))
 obtain⟨V10,eV10⟩:=nmT (vP 10 ((aq.h 10).1+1) 0)
 obtain⟨V11,eV11⟩:=nmT (vP 9 ((aq.h 9).1+1) 0)
 obtain⟨V12,eV12⟩:=nmT (vR 100025 ao)
 refine bY (J:=λs=>s.t 0=j/\s.t 4=C/\s.t 5=vI aj.2.1/\s.t 6=vB aj.2.2/\s.t 7=V12/\s.t 8=vI v8/\s.t 9=V11/\s.t 10=V10/\s.t 41=vI 0/\s.h 9=V2/\s.h 10=V8/\s.h 100025=V9/\True) zM ?_
 rintro az f22
 refine sq (rn ?_)
 refine an (sq ?_)
 refine yL zM ?_
 refine sk (an (sq (bk (sq (rn ?_)))))
 refine an (sq (rn ?_))
 refine an ?_
 rcases CP aj.2.2 with af|af
 ·replace h:=bP af h;refine Ay zM ?_;refine sk (ab (an (rn ?_)));refine fB ?_;refine rnd ?_;refine bY (J:=λs=>s.t 0=j/\s.t 4=C/\s.t 5=vI aj.2.1/\s.t 6=vB aj.2.2/\s.t 7=V12/\s.t 8=vI v8/\s.t 9=V11/\s.t 10=V10/\s.t 41=vI 1/\s.h 9=V2/\s.h 10=V8/\s.h 100025=V9/\True) zM ?_;rintro bx f215;refine sq (rn ?_);refine an (sq ?_);refine yL zM ?_;refine sk (an (sq (bk (sq (rn ?_)))));refine an (sq (rn ?_));refine an ?_;refine Ay zM ?_;refine sk (ab (an (rn ?_)));refine fB ?_;refine rnd ?_;refine bY (J:=λs=>s.t 0=j/\s.t 4=C/\s.t 5=vI aj.2.1/\s.t 6=vB aj.2.2/\s.t 7=V12/\s.t 8=vI v8/\s.t 9=V11/\s.t 10=V10/\s.t 41=vI 2/\s.h 9=V2/\s.h 10=V8/\s.h 100025=V9/\True) zM ?_;rintro bz f228;refine sq (rn ?_);refine an (sq ?_);refine yL zM ?_;refine sk (an (sq (bk (sq (rn ?_)))));refine an (sq (rn ?_));refine an ?_;refine Ay zM ?_;refine sk (ab (an (rn ?_)));refine fB ?_;refine rnd ?_;refine bY (J:=λs=>s.t 0=j/\s.t 4=C/\s.t 5=vI aj.2.1/\s.t 6=vB aj.2.2/\s.t 7=V12/\s.t 8=vI v8/\s.t 9=V11/\s.t 10=V10/\s.t 41=vI 3/\s.h 9=V2/\s.h 10=V8/\s.h 100025=V9/\True) zM ?_;rintro ca f241;refine sq (rn ?_);refine an (sq ?_);refine yL zM ?_;refine sk (an (sq (bk (sq (rn ?_)))));refine an (sq (rn ?_));refine an ?_;refine Ay zM ?_;refine sk (ab (an (rn ?_)));refine fB ?_;refine rnd ?_;refine bY (J:=λs=>s.t 0=j/\s.t 4=C/\s.t 5=vI aj.2.1/\s.t 6=vB aj.2.2/\s.t 7=V12/\s.t 8=vI v8/\s.t 9=V11/\s.t 10=V10/\s.t 41=vI 4/\s.h 9=V2/\s.h 10=V8/\s.h 100025=V9/\True) zM ?_;rintro cc f254;refine sq (rn ?_);refine an (sq ?_);refine Ay zM ?_;refine xt (CO (CL (Gs (an (sq (sq (rn ?_)))))));refine an (ct (sq (rn ?_)));exact an (rt zR)
 replace h:=bQ af h
 refine yL zM ?_
 obtain⟨al,cd,h⟩:=aA h
 apply AA
 ·simp+decide only[E,reduceIte,Nat.reduceAdd,Nat.reduceMul,qB,qC,Int.reduceToNat,Nat.reduceLT,qp,L,Ql,Jd,EN,b3,b4,ae,f22,af,eV13,eV14,I,U,eV9,eV10,eV11,eV12]
  refine⟨_,aDc.1 _ _ _ _ cd,?_⟩
  try simp+decide only[E,reduceIte,Nat.reduceAdd,Nat.reduceMul,qB,qC,Int.reduceToNat,Nat.reduceLT,qp,L,Ql,Jd,EN,b3,b4,ae,f22,af,eV13,eV14,I,U,eV9,eV10,eV11,eV12]
  exact Is.mk _
 refine ab (an (rn ?_))
 refine fB ?_
 refine rnd ?_
 refine Cj (ghB 10 0 7060100 100051) ?_
 obtain⟨V4,eV4⟩:=nmH (((aq.h 10).1+1,oB 195 [.row 7060100 ((az.h 7060100).1+1),.nil,.nil,.nil]))
 obtain⟨V5,eV5⟩:=nmH (((az.h 7060100).1+1,oW 5 1 enB al.1))
 refine bY (J:=λs=>s.t 0=j/\s.t 4=C/\s.t 5=vI al.2.1/\s.t 6=vB al.2.2/\s.t 7=V12/\s.t 8=vI v8/\s.t 9=V11/\s.t 10=V10/\s.t 41=vI 1/\s.h 9=V2/\s.h 10=V4/\s.h 100025=V9/\s.h 7060100=V5/\True) zM ?_
 rintro bf f38
 refine sq (rn ?_)
 refine an (sq ?_)
 refine yL zM ?_
 refine sk (an (sq (bk (sq (rn ?_)))))
 refine an (sq (rn ?_))
 refine an ?_
 rcases CP al.2.2 with ah|ah
 ·replace h:=bP ah h;refine Ay zM ?_;refine sk (ab (an (rn ?_)));refine fB ?_;refine rnd ?_;refine bY (J:=λs=>s.t 0=j/\s.t 4=C/\s.t 5=vI al.2.1/\s.t 6=vB al.2.2/\s.t 7=V12/\s.t 8=vI v8/\s.t 9=V11/\s.t 10=V10/\s.t 41=vI 2/\s.h 9=V2/\s.h 10=V4/\s.h 100025=V9/\s.h 7060100=V5/\True) zM ?_;rintro cg f173;refine sq (rn ?_);refine an (sq ?_);refine yL zM ?_;refine sk (an (sq (bk (sq (rn ?_)))));refine an (sq (rn ?_));refine an ?_;refine Ay zM ?_;refine sk (ab (an (rn ?_)));refine fB ?_;refine rnd ?_;refine bY (J:=λs=>s.t 0=j/\s.t 4=C/\s.t 5=vI al.2.1/\s.t 6=vB al.2.2/\s.t 7=V12/\s.t 8=vI v8/\s.t 9=V11/\s.t 10=V10/\s.t 41=vI 3/\s.h 9=V2/\s.h 10=V4/\s.h 100025=V9/\s.h 7060100=V5/\True) zM ?_;rintro cj f187;refine sq (rn ?_);refine an (sq ?_);refine yL zM ?_;refine sk (an (sq (bk (sq (rn ?_)))));refine an (sq (rn ?_));refine an ?_;refine Ay zM ?_;refine sk (ab (an (rn ?_)));refine fB ?_;refine rnd ?_;refine bY (J:=λs=>s.t 0=j/\s.t 4=C/\s.t 5=vI al.2.1/\s.t 6=vB al.2.2/\s.t 7=V12/\s.t 8=vI v8/\s.t 9=V11/\s.t 10=V10/\s.t 41=vI 4/\s.h 9=V2/\s.h 10=V4/\s.h 100025=V9/\s.h 7060100=V5/\True) zM ?_;rintro ck f201;refine sq (rn ?_);refine an (sq ?_);refine Ay zM ?_;refine xt (CO (CL (Gs (an (sq (sq (rn ?_)))))));refine an (ct (sq (rn ?_)));exact an (rt zR)
 replace h:=bQ ah h
 refine yL zM ?_
 obtain⟨ar,cl,h⟩:=aA h
 apply AA
 ·simp+decide only[E,reduceIte,Nat.reduceAdd,Nat.reduceMul,qB,qC,Int.reduceToNat,Nat.reduceLT,qp,L,Ql,Jd,EN,b3,b4,ae,af,f38,ah,eV13,eV14,I,U,eV9,eV10,eV11,eV12,eV4,eV5]
  refine⟨_,aDc.1 _ _ _ _ cl,?_⟩
  try simp+decide only[E,reduceIte,Nat.reduceAdd,Nat.reduceMul,qB,qC,Int.reduceToNat,Nat.reduceLT,qp,L,Ql,Jd,EN,b3,b4,ae,af,f38,ah,eV13,eV14,I,U,eV9,eV10,eV11,eV12,eV4,eV5]
  exact Is.mk _
 refine ab (an (rn ?_))
 refine fB ?_
 refine rnd ?_
 refine Cj (ghB 10 1 7060101 100051) ?_
 obtain⟨V3,eV3⟩:=nmH (((aq.h 10).1+1,oB 195 [.row 7060100 ((az.h 7060100).1+1),.row 7060101 ((bf.h 7060101).1+1),.nil,.nil]))
 obtain⟨V6,eV6⟩:=nmH (((bf.h 7060101).1+1,oW 5 1 enB ar.1))
 refine bY (J:=λs=>s.t 0=j/\s.t 4=C/\s.t 5=vI ar.2.1/\s.t 6=vB ar.2.2/\s.t 7=V12/\s.t 8=vI v8/\s.t 9=V11/\s.t 10=V10/\s.t 41=vI 2/\s.h 9=V2/\s.h 10=V3/\s.h 100025=V9/\s.h 7060100=V5/\s.h 7060101=V6/\True) zM ?_
 rintro bl f55
 refine sq (rn ?_)
 refine an (sq ?_)
 refine yL zM ?_
 refine sk (an (sq (bk (sq (rn ?_)))))
 refine an (sq (rn ?_))
 refine an ?_
 rcases CP ar.2.2 with ai|ai
 ·replace h:=bP ai h;refine Ay zM ?_;refine sk (ab (an (rn ?_)));refine fB ?_;refine rnd ?_;refine bY (J:=λs=>s.t 0=j/\s.t 4=C/\s.t 5=vI ar.2.1/\s.t 6=vB ar.2.2/\s.t 7=V12/\s.t 8=vI v8/\s.t 9=V11/\s.t 10=V10/\s.t 41=vI 3/\s.h 9=V2/\s.h 10=V3/\s.h 100025=V9/\s.h 7060100=V5/\s.h 7060101=V6/\True) zM ?_;rintro cn f143;refine sq (rn ?_);refine an (sq ?_);refine yL zM ?_;refine sk (an (sq (bk (sq (rn ?_)))));refine an (sq (rn ?_));refine an ?_;refine Ay zM ?_;refine sk (ab (an (rn ?_)));refine fB ?_;refine rnd ?_;refine bY (J:=λs=>s.t 0=j/\s.t 4=C/\s.t 5=vI ar.2.1/\s.t 6=vB ar.2.2/\s.t 7=V12/\s.t 8=vI v8/\s.t 9=V11/\s.t 10=V10/\s.t 41=vI 4/\s.h 9=V2/\s.h 10=V3/\s.h 100025=V9/\s.h 7060100=V5/\s.h 7060101=V6/\True) zM ?_;rintro cp f158;refine sq (rn ?_);refine an (sq ?_);refine Ay zM ?_;refine xt (CO (CL (Gs (an (sq (sq (rn ?_)))))));refine an (ct (sq (rn ?_)));exact an (rt zR)
 replace h:=bQ ai h
 refine yL zM ?_
 obtain⟨ay,cq,h⟩:=aA h
 apply AA
 ·simp+decide only[E,reduceIte,Nat.reduceAdd,Nat.reduceMul,qB,qC,Int.reduceToNat,Nat.reduceLT,qp,L,Ql,Jd,EN,b3,b4,ae,af,ah,f55,ai,eV13,eV14,I,U,eV9,eV10,eV11,eV12,eV4,eV5,eV3,eV6]
  refine⟨_,aDc.1 _ _ _ _ cq,?_⟩
  try simp+decide only[E,reduceIte,Nat.reduceAdd,Nat.reduceMul,qB,qC,Int.reduceToNat,Nat.reduceLT,qp,L,Ql,Jd,EN,b3,b4,ae,af,ah,f55,ai,eV13,eV14,I,U,eV9,eV10,eV11,eV12,eV4,eV5,eV3,eV6]
  exact Is.mk _
 refine ab (an (rn ?_))
 refine fB ?_
 refine rnd ?_
 refine Cj (ghB 10 2 7060102 100051) ?_
 obtain⟨V1,eV1⟩:=nmH (((aq.h 10).1+1,oB 195 [.row 7060100 ((az.h 7060100).1+1),.row 7060101 ((bf.h 7060101).1+1),.row 7060102 ((bl.h 7060102).1+1),.nil]))
 obtain⟨V7,eV7⟩:=nmH (((bl.h 7060102).1+1,oW 5 1 enB ay.1))
 refine bY (J:=λs=>s.t 0=j/\s.t 4=C/\s.t 5=vI ay.2.1/\s.t 6=vB ay.2.2/\s.t 7=V12/\s.t 8=vI v8/\s.t 9=V11/\s.t 10=V10/\s.t 41=vI 3/\s.h 9=V2/\s.h 10=V1/\s.h 100025=V9/\s.h 7060100=V5/\s.h 7060101=V6/\s.h 7060102=V7/\True) zM ?_
 rintro bt f73
 refine sq (rn ?_)
 refine an (sq ?_)
 refine yL zM ?_
 refine sk (an (sq (bk (sq (rn ?_)))))
 refine an (sq (rn ?_))
 refine an ?_
 rcases CP ay.2.2 with ak|ak
 ·replace h:=bP ak h;refine Ay zM ?_;refine sk (ab (an (rn ?_)));refine fB ?_;refine rnd ?_;refine bY (J:=λs=>s.t 0=j/\s.t 4=C/\s.t 5=vI ay.2.1/\s.t 6=vB ay.2.2/\s.t 7=V12/\s.t 8=vI v8/\s.t 9=V11/\s.t 10=V10/\s.t 41=vI 4/\s.h 9=V2/\s.h 10=V1/\s.h 100025=V9/\s.h 7060100=V5/\s.h 7060101=V6/\s.h 7060102=V7/\True) zM ?_;rintro cr f127;refine sq (rn ?_);refine an (sq ?_);refine Ay zM ?_;refine xt (CO (CL (Gs (an (sq (sq (rn ?_)))))));refine an (ct (sq (rn ?_)));exact an (rt zR)
 replace h:=bQ ak h
 refine yL zM ?_
 obtain⟨av,cw,h⟩:=aA h
 apply AA
 ·simp+decide only[E,reduceIte,Nat.reduceAdd,Nat.reduceMul,qB,qC,Int.reduceToNat,Nat.reduceLT,qp,L,Ql,Jd,EN,b3,b4,ae,af,ah,ai,f73,ak,eV13,eV14,I,U,eV9,eV10,eV11,eV12,eV4,eV5,eV3,eV6,eV1,eV7]
  refine⟨_,aDc.1 _ _ _ _ cw,?_⟩
  try simp+decide only[E,reduceIte,Nat.reduceAdd,Nat.reduceMul,qB,qC,Int.reduceToNat,Nat.reduceLT,qp,L,Ql,Jd,EN,b3,b4,ae,af,ah,ai,f73,ak,eV13,eV14,I,U,eV9,eV10,eV11,eV12,eV4,eV5,eV3,eV6,eV1,eV7]
  exact Is.mk _
 refine ab (an (rn ?_))
 refine fB ?_
 refine rnd ?_
 refine Cj (ghB 10 3 7060103 100051) ?_
 refine bY (J:=λs=>s.t 0=j/\s.t 4=C/\s.t 5=vI av.2.1/\s.t 6=vB av.2.2/\s.t 7=V12/\s.t 8=vI v8/\s.t 9=V11/\s.t 10=V10/\s.t 41=vI 4/\s.h 9=V2/\s.h 10=((aq.h 10).1+1,oB 195 [.row 7060100 ((az.h 7060100).1+1),.row 7060101 ((bf.h 7060101).1+1),.row 7060102 ((bl.h 7060102).1+1),.row 7060103 ((bt.h 7060103).1+1)])/\s.h 100025=V9/\s.h 7060100=V5/\s.h 7060101=V6/\s.h 7060102=V7/\s.h 7060103=((bt.h 7060103).1+1,oW 5 1 enB av.1)/\True) zM ?_
 rintro db f92
 refine sq (rn ?_)
 refine an (sq ?_)
 refine Ay zM ?_
 refine xt (CO (CL (Gs (an (sq (sq (rn ?_)))))))
 refine an ?_
 rcases gK (!av.2.2)with aa|aa
 ·replace h:=bQ aa h;refine ct (sq (rn ?_));exact an (rt zR)
 replace h:=bP aa h
 refine cf (sk (an (sq ?_)))
 obtain⟨cx,bm,h⟩:=aA h
 apply AA
 ·simp+decide only[E,reduceIte,Nat.reduceAdd,Nat.reduceMul,qB,qC,I4,KY,Int.reduceToNat,Nat.reduceLT,qp,L,ti5,ti9,Ql,QR,Jd,EN,b3,b4,ae,af,ah,ai,ak,f92,aa,eV13,eV14,I,U,eV9,eV10,eV11,eV12,eV4,eV5,eV3,eV6,eV1,eV7]
  refine⟨Mp bm,?_⟩
  try simp+decide only[E,reduceIte,Nat.reduceAdd,Nat.reduceMul,qB,qC,I4,KY,Int.reduceToNat,Nat.reduceLT,qp,L,ti5,ti9,Ql,QR,Jd,EN,b3,b4,ae,af,ah,ai,ak,f92,aa,eV13,eV14,I,U,eV9,eV10,eV11,eV12,eV4,eV5,eV3,eV6,eV1,eV7]
  exact Is.mk _
 refine an (sq ?_)
 obtain⟨ba,bn,h⟩:=aA h
 apply AA
 ·simp+decide only[E,reduceIte,Nat.reduceAdd,Nat.reduceMul,qB,qC,Int.reduceToNat,Nat.reduceLT,qp,L,Ql,aFd,QR,Jd,EN,b3,b4,ae,af,ah,ai,ak,f92,aa,eV13,eV14,I,U,eV9,eV10,eV11,eV12,eV4,eV5,eV3,eV6,eV1,eV7]
  refine⟨_,aJd _ _ bn,?_⟩
  try simp+decide only[E,reduceIte,Nat.reduceAdd,Nat.reduceMul,qB,qC,Int.reduceToNat,Nat.reduceLT,qp,L,Ql,aFd,QR,Jd,EN,b3,b4,ae,af,ah,ai,ak,f92,aa,eV13,eV14,I,U,eV9,eV10,eV11,eV12,eV4,eV5,eV3,eV6,eV1,eV7]
  exact Is.mk _
 refine an (sq ?_)
 obtain⟨bd,bo,h⟩:=aA h
 apply AA
 ·simp+decide only[E,reduceIte,Nat.reduceAdd,Nat.reduceMul,qB,qC,Int.reduceToNat,Nat.reduceLT,qp,L,Ql,aFS,QR,Jd,EN,b3,b4,ae,af,ah,ai,ak,f92,aa,eV13,eV14,I,U,eV9,eV10,eV11,eV12,eV4,eV5,eV3,eV6,eV1,eV7]
  refine⟨_,aJ4 _ _ bo,?_⟩
  try simp+decide only[E,reduceIte,Nat.reduceAdd,Nat.reduceMul,qB,qC,Int.reduceToNat,Nat.reduceLT,qp,L,Ql,aFS,QR,Jd,EN,b3,b4,ae,af,ah,ai,ak,f92,aa,eV13,eV14,I,U,eV9,eV10,eV11,eV12,eV4,eV5,eV3,eV6,eV1,eV7]
  exact Is.mk _
 refine an (sq ?_)
 obtain⟨cy,bq,h⟩:=aA h
 apply AA
 ·simp+decide only[E,reduceIte,Nat.reduceAdd,Nat.reduceMul,qB,qC,I4,KY,Int.reduceToNat,Nat.reduceLT,qp,L,ti5,ti9,Ql,QR,Jd,EN,b3,b4,ae,af,ah,ai,ak,f92,aa,eV13,eV14,I,U,eV9,eV10,eV11,eV12,eV4,eV5,eV3,eV6,eV1,eV7]
  refine⟨Mp bq,?_⟩
  try simp+decide only[E,reduceIte,Nat.reduceAdd,Nat.reduceMul,qB,qC,I4,KY,Int.reduceToNat,Nat.reduceLT,qp,L,ti5,ti9,Ql,QR,Jd,EN,b3,b4,ae,af,ah,ai,ak,f92,aa,eV13,eV14,I,U,eV9,eV10,eV11,eV12,eV4,eV5,eV3,eV6,eV1,eV7]
  exact Is.mk _
 refine an ?_
 obtain⟨cz,br,h⟩:=aA h
 refine rn1 br ?_
 refine ab (an ?_)
 refine cu (λs=>s.t 0=j/\s.t 4=C/\s.t 5=vI av.2.1/\s.t 7=vR 100025 (ao+1)/\s.t 8=vI v8/\s.h 100025=(ao+1,oW 101 7 M.fA.en (ax++[(⟨aj.1,bL al.1,ba.1,bd.1,bL av.1⟩:M.fA)]))/\True) ?_
 rintro da f120
 refine rn ?_
 exact fB ⟨mL1,wg,av.2.1,IntKind.i64.wrap (v8+1),ax++[(⟨aj.1,bL al.1,ba.1,bd.1,bL av.1⟩:M.fA)],ao+1,zM⟩
instance aBe:bU 120 (∀p0 r (h:nS p0=some r),Sc 120 [aX (M.aKc.en p0)] [rB r]):=⟨λp0 r h=>by
 have i1:=inv λm s=>∃aa:Int,(s.t 1=vP 1 1 0/\s.t 34=vL M.aD.en p0.aKm/\s.t 35=vI (List.length p0.aKm:Int)/\s.t 36=vI aa/\s.h 1=(1,oX 56 (M.aKc.en p0)))/\iO p0 m aa=some r
 have e1:=@iO.eq_2
 have i2:=inv λm s=>∃ae:Int,(s.t 1=vP 1 1 0/\s.t 62=vL M.aV.en p0.aKz/\s.t 63=vI (List.length p0.aKz:Int)/\s.t 64=vI ae/\s.h 1=(1,oX 56 (M.aKc.en p0)))/\iP p0 m ae=some r
 have e2:=@iP.eq_2
 unfold nS at h
 exact sgo 103 [.tmp 2] func120⟩
theorem aKP(p0 p1 p2 r)(h:C8 p0 p1 p2=some r):Sc 244 [aX (M.aD.en p0),aX (M.bD.en p1),aX (M.aF.en p2)] [(true,M.aD.rs r.1),rB r.2]:=by unfold C8 at h;exact sgo 20 [.cell 6 66,.tmp 7] func244
theorem aKU(p0 p1 r)(h:Gd p0 p1=some r):Sc 189 [aX (M.aD.en p0),aX (M.fA.en p1)] [(true,M.aD.ra r.1),rI r.2.1,rB r.2.2]:=by
 unfold Gd at h
 simp only[EN]
 refine sgn 132 [.cell 4 66,.tmp 5,.tmp 6] func189 λbase wd=> ?_
 refine sq (rn ?_)
 refine an (sq ?_)
 obtain⟨x1,h2,h⟩:=aA h
 refine rn1 (c63.1 _ _ _ h2) ?_
 refine an (sq (sq (rn ?_)))
 refine an (bk (sq (rn ?_)))
 refine an ?_
 rcases gK (p1.aKx==1)with b3|b3
 ·replace h:=bQ b3 h;refine ct (sq ?_);obtain⟨x4,h5,h⟩:=aA h;refine rn1 (aEZ.1 _ _ _ _ h5) ?_;refine an (sq (rn ?_));refine an (frb 4 1 200036 ?_);exact rt zR
 replace h:=bP b3 h
 refine cf (sq (rn ?_))
 refine an ?_
 rcases gK (p1.aKx==2)with b6|b6
 ·replace h:=bQ b6 h;refine ct (sq ?_);obtain⟨x7,h8,h⟩:=aA h;refine rn1 (aKP _ _ _ _ h8) ?_;refine an (sq (rn ?_));refine an (frb 4 1 200049 ?_);exact rt zR
 replace h:=bP b6 h
 refine cf (sq (rn ?_))
 refine an ?_
 rcases gK (p1.aKx==3)with b9|b9
 ·replace h:=bQ b9 h;refine ct (sq ?_);obtain⟨bh,C,h⟩:=aA h;refine rn1 (aJR _ _ _ C) ?_;refine an (sq (rn ?_));exact an (rt zR)
 replace h:=bP b9 h
 refine cf (sq (rn ?_))
 refine an ?_
 rcases gK (p1.aKx==5)with ae|ae
 ·replace h:=bQ ae h;refine ct (sq ?_);obtain⟨bj,I,h⟩:=aA h;refine rn1 (aJR _ _ _ I) ?_;refine an (sq (rn ?_));exact an (rt zR)
 replace h:=bP ae h
 refine cf (sq (rn ?_))
 refine an ?_
 rcases gK (p1.aKx==4)with af|af
 ·replace h:=bQ af h;refine ct (sq (sq (rn ?_)));refine an ?_;rcases gK (decide (x1<0))with ah|ah;(replace h:=bQ ah h;refine ct (sq (rn ?_));exact an (rt zR));replace h:=bP ah h;refine cf (sk (an (sq ?_)));obtain⟨bl,J,h⟩:=aA h;obtain⟨bm,bn,bo⟩:=pK J;refine rd mixed ?_;exact an (rt zR)
 replace h:=bP af h
 refine cf (sk (ab (an (sq (rn ?_)))))
 refine an (sq (sq (rn ?_)))
 refine an ?_
 rcases CP (decide (x1>=0))with ai|ai
 ·replace h:=bP ai h;refine cf (sk (an (sq ?_)));obtain⟨bq,U,h⟩:=aA h;refine rn1 (c44.1 _ _ _ U) ?_;refine an (sq ?_);obtain⟨av,aw,h⟩:=aA h;refine rn1 (c22.1 _ _ _ _ aw) ?_;refine an (sq (sq (rn ?_)));refine an ?_;rcases gK (!av.2)with aj|aj;(replace h:=bQ aj h;refine ct (sq (rn ?_));exact an (rt zR));replace h:=bP aj h;refine cf (sk (an (sq ?_)));obtain⟨br,ax,h⟩:=aA h;refine rn1 (aEZ.1 _ _ _ _ ax) ?_;refine an (sq (rn ?_));refine an (frb 4 1 200125 ?_);exact rt zR
 replace h:=bQ ai h
 refine ct ?_
 obtain⟨bt,ay,h⟩:=aA h
 obtain⟨bu,bw,bx⟩:=pK ay
 refine rn ?_
 refine an (sq ?_)
 obtain⟨az,ba,h⟩:=aA h
 refine rn1 (c44.1 _ _ _ ba) ?_
 refine an (sq ?_)
 obtain⟨bd,bf,h⟩:=aA h
 refine rn1 (c22.1 _ _ _ _ bf) ?_
 refine an (sq (sq (rn ?_)))
 refine an ?_
 rcases gK (!bd.2)with ak|ak
 ·replace h:=bQ ak h;refine ct (sq (rn ?_));exact an (rt zR)
 replace h:=bP ak h
 refine cf (sk (an (sq ?_)))
 obtain⟨j,bg,h⟩:=aA h
 refine rn1 (aEZ.1 _ _ _ _ bg) ?_
 refine an (sq ?_)
 refine cu (λs=>s.t 4=vP 4 1 0/\s.t 17=vI az.1/\s.t 20=vP 20 1 0/\s.t 21=vB j.2/\s.h 4=(1,oB 66 [cS (⟨#[]⟩:ByteArray),.nil,cI 0])/\s.h 20=(1,oB 66 [cS j.1.Name,.row 200125 1,cI j.1.aK7])/\s.h 200125=(1,oW 153 4 M.aKy.en j.1.aKg)/\True) ?_
 rintro bz f36
 refine rn ?_
 refine an (frb 4 1 200125 ?_)
 exact rt zR
instance:bU 320 (∀p0 r (h:Bk p0=some r),Sc 320 [aX (M.aKc.en p0)] [rI r]):=⟨λp0 r h=>by
 have i1:=inv λm s=>∃v3:Int,∃v9:Int,(s.t 3=vI v3/\s.t 7=vL M.aD.en p0.aKm/\s.t 8=vI (List.length p0.aKm:Int)/\s.t 9=vI v9)/\iU p0 m v3 v9=some r
 have e1:=@iU.eq_2
 unfold Bk at h
 exact sgo 19 [.tmp 2] func320⟩
instance:bU 252 (∀p0 r (h:DO p0=some r),Sc 252 [aX (M.bJ.en p0)] [rI r]):=⟨λp0 r h=>by unfold DO at h;exact sgo 10 [.tmp 2] func252⟩
theorem c95(p0 p1 r)(h:sE p0 p1=some r):Sc 95 [aX (M.aKe.en p0),aX (M.aKe.en p1)] [rB r]:=by unfold sE at h;exact sgo 59 [.tmp 4] func95
theorem c34(p0 p1 r)(h:vM p0 p1=some r):Sc 34 [aX (M.aC.en p0),aX (M.aC.en p1)] [rB r]:=by
 unfold vM at h
 simp only[EN]
 refine sgn 10 [.tmp 4] func34 λbase wd=> ?_
 refine sq (rn ?_)
 refine an (sq ?_)
 obtain⟨x1,h2,h⟩:=aA h
 refine rn1 (c94 p0.aKf p1.aKf (λj C=>sE j C) 95 [] (λj C r I=>c95 j C r I) x1 h2) ?_
 exact an (rt zR)
