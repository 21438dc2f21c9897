/-
  Helper text. No conditions.
-/
import Derived.Test.YtbpbocchokbggaaGreatWriteNoteWimpl0
import Derived.Test.YtbpbocchokbggaaGreatWriteNoteWimpl1
import Derived.Test.YtbpbocchokbggaaGreatWriteNoteWlib
set_option linter.all false
namespace Go.Proofs.YtbpbocchokbggaaGreat.gen
open Go Go.Sh
open Go.IntKind (i64)
set_option maxRecDepth 20000
set_option maxHeartbeats 4000000
instance:aZ 200 (∀p0 r (h:sZ p0=some r),Sc 200 [aX (M.bK.en p0)] [(true,M.bK.rs r)]):=⟨λp0 r h=>by unfold sZ at h;exact sgo 12 [.cell 2 114] Tryz.func200⟩
instance:aZ 204 (∀p0 r (h:dE p0=some r),Sc 204 [aX (M.aEJ.en p0)] [(true,M.aEJ.rs r)]):=⟨λp0 r h=>by unfold dE at h;exact sgo 16 [.cell 2 126] Tryz.func204⟩
instance:aZ 183 (∀p0 r (h:cE p0=some r),Sc 183 [aX (M.aD.en p0)] [(true,M.aD.rs r)]):=⟨λp0 r h=>by
 have i1:=KP [.b 3 0 7050000 126 24] λm s=>∃v10:Int,∃aa:List M.aEJ,∃ae:Nat,(s.t 2=vP 2 1 0/\s.t 3=vP 3 1 0/\s.t 8=vL M.aEJ.en p0.aEP/\s.t 9=vI (List.length p0.aEP:Int)/\s.t 10=vI v10/\s.h 2=(1,oB 47 [.nil])/\s.h 3=(1,oB 47 [.row 7050000 ae])/\s.h 7050000=(ae,oW 126 24 M.aEJ.en aa))/\fU p0 m v10 aa=some r
 have e1:=@fU.eq_2
 unfold cE at h
 exact sgo 23 [.cell 2 47] Tryz.func183⟩
instance:aZ 58 (∀p0 r (h:vY p0=some r),Sc 58 [aX (M.World.en p0)] [(true,M.World.rs r)]):=⟨λp0 r h=>by
 have i1:=λ(x1:M.aD) (x3:(List M.bS)) (x5:M.aR) (x7:M.aEY)=>KP [.b 3 8 7050000 92 4] λm s=>∃ai:Int,∃aa:List M.aET,∃ae:Nat,(s.t 1=vP 1 1 0/\s.t 2=vP 2 1 0/\s.t 3=vP 3 1 0/\s.t 27=vL M.aET.en p0.aEr/\s.t 28=vI (List.length p0.aEr:Int)/\s.t 29=vI ai/\s.h 1=(1,oX 58 (M.World.en p0))/\s.h 2=(1,V0)/\s.h 3=(1,oB 58 [cI p0.Now,cB p0.aEs,cI p0.aEd,.row 100011 1,.row 100015 1,cI p0.aEl,.row 100019 1,.row 100023 1,.row 7050000 ae,cL M.aEX.en p0.aEi])/\s.h 100011=(1,oW 126 24 M.aEJ.en x1.aEP)/\s.h 100015=(1,oW 67 11 M.bS.en x3)/\s.h 100019=(1,oW 196 4 M.eV.en x5.aEh)/\s.h 100023=(1,oW 199 3 M.gT.en x7.aEv)/\s.h 7050000=(ae,oW 92 4 M.aET.en aa))/\gE p0 x1 x3 x5 x7 m ai aa=some r
 have e1:=@gE.eq_2
 have i2:=λ(x1:M.aD) (x3:(List M.bS)) (x5:M.aR) (x7:M.aEY) (aa:List M.aET) (ae:Nat)=>KP [.b 3 9 7050100 205 5] λm s=>∃aj:Int,∃af:List M.aEX,∃ah:Nat,(s.t 2=vP 2 1 0/\s.t 3=vP 3 1 0/\s.t 43=vL M.aEX.en p0.aEi/\s.t 44=vI (List.length p0.aEi:Int)/\s.t 45=vI aj/\s.h 2=(1,V0)/\s.h 3=(1,oB 58 [cI p0.Now,cB p0.aEs,cI p0.aEd,.row 100011 1,.row 100015 1,cI p0.aEl,.row 100019 1,.row 100023 1,.row 7050000 ae,.row 7050100 ah])/\s.h 100011=(1,oW 126 24 M.aEJ.en x1.aEP)/\s.h 100015=(1,oW 67 11 M.bS.en x3)/\s.h 100019=(1,oW 196 4 M.eV.en x5.aEh)/\s.h 100023=(1,oW 199 3 M.gT.en x7.aEv)/\s.h 7050000=(ae,oW 92 4 M.aET.en aa)/\s.h 7050100=(ah,oW 205 5 M.aEX.en af))/\eQ p0 x1 x3 x5 x7 aa m aj af=some r
 have e2:=@eQ.eq_2
 unfold vY at h
 exact sgo 58 [.cell 2 58] Tryz.func58⟩
theorem aDp(p0 r)(h:At p0=some r):Sc 191 [aL enB p0] [rW 74 1 (enL enB) r.1,rI r.2]:=by
 have i1:=inv λm s=>∃I:Int,∃j:List (List Int),∃C:Nat,(s.t 0=vL enB p0/\s.t 4=vR 100012 C/\s.t 5=vI I/\s.h 100012=(C,oW 74 1 (enL enB) j))/\nV p0 m I j=some r
 have e1:=@nV.eq_2
 unfold At at h
 exact sgo 48 [.tmp 2,.tmp 3] Tryz.func191
instance YG:aZ 350 (∀p0 r (h:eP p0=some r),Sc 350 [aX (M.aA.en p0)] [rW 5 1 enB r]):=⟨λp0 r h=>by
 have i1:=KP [.t 3 7050000 5 1] λm s=>∃af:Int,∃aa:List Int,∃ae:Nat,(s.t 3=vR 7050000 ae/\s.t 15=vL M.Field.en p0.aEN/\s.t 16=vI (List.length p0.aEN:Int)/\s.t 17=vI af/\s.h 7050000=(ae,oW 5 1 enB aa))/\cJ p0 m af aa=some r
 have e1:=@cJ.eq_2
 unfold eP at h
 exact sgo 31 [.tmp 2] Tryz.func350⟩
theorem aDG(p0 r)(h:lM p0=some r):Sc 333 [aL enB p0] [(true,M.aA.rs r.1),rB r.2]:=by
 have i1:=λ(x1:(Int×Int×Bool))=>KP [.b 7 0 7050000 262 2] λm s=>∃I:Int,∃J:Int,∃j:List M.Field,∃C:Nat,(s.t 0=vL enB p0/\s.t 2=vP 2 1 0/\s.t 4=vI x1.1/\s.t 5=vI I/\s.t 7=vP 7 1 0/\s.t 8=vI J/\s.h 2=(1,oB 129 [.nil])/\s.h 7=(1,oB 129 [.row 7050000 C])/\s.h 7050000=(C,oW 262 2 M.Field.en j))/\fI p0 x1 m I J j=some r
 have e1:=@fI.eq_2
 unfold lM at h
 exact sgo 72 [.cell 2 129,.tmp 3] Tryz.func333
instance WO:aZ 451 (∀p0 r (h:Cg p0=some r),Sc 451 [aX (M.Op.en p0)] [rB r]):=⟨λp0 r h=>by unfold Cg at h;exact sgo 39 [.tmp 2] Tryz.func451⟩
theorem aDR(p0 r)(h:BC p0=some r):Sc 347 [aL M.Op.en p0] [rB r]:=by
 have i1:=inv λm s=>∃j:Int,(s.t 0=vL M.Op.en p0/\s.t 5=vL M.Op.en p0/\s.t 6=vI (List.length p0:Int)/\s.t 7=vI j)/\pL p0 m j=some r
 have e1:=@pL.eq_2
 unfold BC at h
 exact sgo 18 [.tmp 2] Tryz.func347
instance W7:aZ 201 (∀p0 r (h:pT p0=some r),Sc 201 [aL M.Op.en p0] [rW 5 1 enB r]):=⟨λp0 r h=>by
 unfold pT at h
 simp only[EN]
 refine sgn 49 [.tmp 2] Tryz.func201 λbase wd => ?_
 refine sq (rn ?_)
 refine an (sq (sq ?_))
 obtain⟨x1,h2,h⟩:=bind_some h
 refine rn1 (aDR _ _ h2) ?_
 refine an ?_
 rcases dQ (!x1)with b3 | b3
 ·replace h:=bR b3 h;refine ct (sq (rn ?_));refine an (rt ?_);cases h;simp[Ret,TB,EN, *]
 replace h:=bQ b3 h
 refine cf (sk (an (sq ?_)))
 obtain⟨x4,h5,h⟩:=bind_some h
 refine rn1 (WU.1 _ _ _ h5) ?_
 refine an (sq (sq (rn ?_)))
 refine an (bk ?_)
 refine Fq (ghT 3 7050100 100014) ?_
 refine L6 (λm s=>∃ak:Int,∃ah:List Int,∃ai:Nat,s.t 3=vR 7050100 ai/\s.t 15=vL M.Op.en p0/\s.t 16=vI (List.length p0:Int)/\s.t 17=vI ak/\s.h 7050100=(ai,oW 5 1 enB ah)/\dP p0 m ak ah=some r) fuel ?_ ?_
 ·refine⟨0,x4,1,?_,?_,?_,?_,?_,h⟩;all_goals simp +decide only[F,reduceIte,Nat.reduceAdd,qB,qC,EN, *,-h]
 rintro mL1 s6 ⟨ak,ah,ai,f7,f8,f9,f10,f11,h⟩
 rcases mL1 with _ | mL1
 ·exact absurd h (by simp[dP])
 simp only[dP]at h
 refine sq (rn ?_)
 refine an (sq ?_)
 rcases Ep (decide (ak<(List.length p0:Int)))with aq | aq
 ·replace h:=bQ aq h;refine cf (xt (CS (CL (Ft (an (sq (rn ?_)))))));refine an (rt ?_);cases h;simp[Ret,TB,EN, *]
 replace h:=bR aq h
 refine ct (sk (an (sq (bk (sq ?_)))))
 obtain⟨aj,aw,h⟩:=bind_some h
 obtain⟨bo,bq,br⟩:=aO aw
 refine rn ?_
 refine an (sq ?_)
 obtain⟨ar,ax,h⟩:=bind_some h
 refine rn1 (WU.1 _ _ _ ax) ?_
 refine an (sq ?_)
 obtain⟨al,ay,h⟩:=bind_some h
 obtain⟨ao,az,h⟩:=bind_some h
 refine rd2 mixed (Ye.1 _ _ ay) (YG.1 _ _ az) ?_
 refine an (bk ?_)
 refine cu (λs=>s.t 3=vR 100024 ((s6.h 100024).1+1)/\s.t 15=vL M.Op.en p0/\s.t 16=vI (List.length p0:Int)/\s.t 17=vI ak/\s.t 37=vR 100037 ((s6.h 100037).1+1)/\s.t 38=vI ((4:Nat):Int)/\s.t 39=vI 0/\s.h 100024=((s6.h 100024).1+1,oW 5 1 enB ar)/\s.h 100037=((s6.h 100037).1+1,.row 74 1 (List.map (enL enB) ([bC aj.aC,al,ao,bC aj.Field])) false)/\True) ?_
 rintro ba f25
 obtain⟨bd,bf,h⟩:=aDb (f:=λkk=>eW aj al ao kk fuel 0 ar) h
 refine Fq (ghT 3 7050000 100024) ?_
 refine L6 (λm s=>∃af:Int,∃aa:List Int,∃ae:Nat,s.t 3=vR 7050000 ae/\s.t 15=vL M.Op.en p0/\s.t 16=vI (List.length p0:Int)/\s.t 17=vI ak/\s.t 37=vR 100037 ((s6.h 100037).1+1)/\s.t 38=vI ((4:Nat):Int)/\s.t 39=vI af/\s.h 100037=((s6.h 100037).1+1,.row 74 1 (List.map (enL enB) ([bC aj.aC,al,ao,bC aj.Field])) false)/\s.h 7050000=(ae,oW 5 1 enB aa)/\eW aj al ao bd m af aa=some r) fuel ?_ ?_
 ·refine⟨0,ar,(ba.h 7050000).1+1,?_,?_,?_,?_,?_,?_,?_,?_,?_,h⟩;all_goals simp +decide only[F,reduceIte,Nat.reduceAdd,qB,qC,EN, *,-h]
 rintro mL2 bg ⟨af,aa,ae,f37,f38,f39,f40,f41,f42,f43,f44,f45,h⟩
 rcases mL2 with _ | mL2
 ·exact absurd h (by simp[eW])
 simp only[eW]at h
 refine sq (rn ?_)
 refine an (sq ?_)
 rcases Ep (decide (af<((4:Nat):Int)))with av | av
 ·replace h:=bQ av h;refine cf (xt (CS ?_));subst bf;refine CL (Ft (ab (an (rn ?_))));refine BN ⟨_,ghT 3 7050100 7050000,mL1,jD,i64.wrap (ak+1),aa,(bg.h 7050100).1+1,?_,?_,?_,?_,?_,h⟩;all_goals simp +decide only[F,reduceIte,Nat.reduceAdd,qB,qC,EN, *,-h]
 replace h:=bR av h
 refine ct (sk (an (sq (bk (sq ?_)))))
 obtain⟨bh,bj,h⟩:=bind_some h
 obtain⟨bt,bu,bl⟩:=aO bj
 have q49m:=congrArg (Option.map (enL enB)) (show([bC aj.aC,al,ao,bC aj.Field])[af.toNat]? = some bh by assumption)
 simp only[<-List.getElem?_map,List.map_cons,List.map_nil,Option.map_some,EN]at q49m
 simp only[qJ,qK,Nat.reduceAdd]at bl
 refine rn ?_
 refine an ?_
 obtain⟨bm,bn,h⟩:=bind_some h
 refine rn1 (Xk.1 _ _ _ bn) ?_
 refine ab (an (rn ?_))
 refine BN ⟨_,ghT 3 7050000 100045,mL2,jD,i64.wrap (af+1),bm,ae+1,?_,?_,?_,?_,?_,?_,?_,?_,?_,h⟩
 all_goals simp +decide only[F,reduceIte,Nat.reduceAdd,qB,qC,EN, *,-h]⟩
theorem aDU(p0 r)(h:pK p0=some r):Sc 192 [aL enB p0] [rW 139 7 M.Op.en r.1,rB r.2]:=by
 unfold pK at h
 simp only[EN]
 refine sgn 93 [.tmp 2,.tmp 3] Tryz.func192 λbase wd => ?_
 refine sq (rn ?_)
 refine an (sq ?_)
 obtain⟨x1,h2,h⟩:=bind_some h
 refine rn1 (WT.1 _ _ _ h2) ?_
 refine an (sq (sq ?_))
 rcases dQ (!x1.2.2)with b3 | b3
 ·replace h:=bR b3 h;refine rn ?_;refine an (ct (sq (rn ?_)));refine an (rt ?_);cases h;simp[Ret,TB,EN, *]
 replace h:=bQ b3 h
 refine rn ?_
 refine an ?_
 rcases dQ (decide (x1.1>6))with b4 | b4
 ·replace h:=bR b4 h;refine ct (sq (rn ?_));refine an (rt ?_);cases h;simp[Ret,TB,EN, *]
 replace h:=bQ b4 h
 refine cf (sk (an (sq (rn ?_))))
 refine an (sq (sq ?_))
 refine cu (λs=>s.t 0=vL enB p0/\s.t 4=vI x1.1/\s.t 5=vI x1.2.1/\s.t 7=vR 100025 1/\s.h 100025=(1,oW 139 7 M.Op.en ([]:List M.Op))/\True) ?_
 rintro s5 f6
 refine rn ?_
 refine an (bk ?_)
 refine DW (λm s=>∃v5:Int,∃U:Int,∃aj:List M.Op,∃j:Nat,s.t 0=vL enB p0/\s.t 4=vI x1.1/\s.t 5=vI v5/\s.t 7=vR 100025 j/\s.t 8=vI U/\s.h 100025=(j,oW 139 7 M.Op.en aj)/\eS p0 x1 m v5 U aj=some r) fuel ?_ ?_
 ·refine⟨x1.2.1,0,([]:List M.Op),1,?_,?_,?_,?_,?_,?_,h⟩;all_goals simp +decide only[F,reduceIte,Nat.reduceAdd,qB,qC,EN, *,-h]
 rintro mL1 aa ⟨v5,U,aj,j,f12,f13,f14,f15,f16,f17,h⟩
 rcases mL1 with _ | mL1
 ·exact absurd h (by simp[eS])
 simp only[eS]at h
 refine sq (sq (rn ?_))
 refine an ?_
 rcases Ep (decide (U<x1.1))with al | al
 ·replace h:=bQ al h;refine cf (xt (CS (CL (Ft (an (sq (sq ?_)))))));obtain⟨bu,bh,h⟩:=bind_some h;obtain⟨bj,bl,h⟩:=bind_some h;refine rn2 (W7.1 _ _ bh) (Xt.1 _ _ _ bl) ?_;refine an ?_;rcases dQ (!bj)with ba | ba;(replace h:=bR ba h;refine ct (sq (rn ?_));refine an (rt ?_);cases h;simp[Ret,TB,EN, *]);replace h:=bQ ba h;refine cf (sk (an (sq (rn ?_))));refine an (rt ?_);cases h;simp[Ret,TB,EN, *]
 replace h:=bR al h
 refine ct (sk (an (sq (bk (sq (rn ?_))))))
 refine an (sq ?_)
 obtain⟨C,bw,h⟩:=bind_some h
 refine rn1 (WT.1 _ _ _ bw) ?_
 refine an (sq (rn ?_))
 refine an (sq (sq (rn ?_)))
 refine an (bk ?_)
 refine Q2 6 ?_
 refine rnd ?_
 refine Cf (J:=λs=>s.t 0=vL enB p0/\s.t 4=vI x1.1/\s.t 5=vI C.2.1/\s.t 6=vB C.2.2/\s.t 7=vR 100025 j/\s.t 8=vI U/\s.t 9=vP 9 ((aa.h 9).1+1) 0/\s.t 10=vP 10 ((aa.h 10).1+1) 0/\s.t 41=vI 0/\s.h 9=((aa.h 9).1+1,oB 139 [cI C.1,cS (⟨#[]⟩:ByteArray),cI 0,cI 0,cS (⟨#[]⟩:ByteArray),.nil,cS (⟨#[]⟩:ByteArray)])/\s.h 10=((aa.h 10).1+1,QG)/\s.h 100025=(j,oW 139 7 M.Op.en aj)/\True) ?_ ?_
 ·refine⟨?_,?_,?_,?_,?_,?_,?_,?_,?_,?_,?_,?_,trivial⟩;all_goals first | (simp +decide only[F,reduceIte,Nat.reduceAdd,qB,qC,EN, *,-h];done)| (simp +decide only[F,reduceIte,Nat.reduceAdd,qB,qC,EN, *,-h];rfl)| rfl
 rintro ak f22
 refine sq (rn ?_)
 refine an (sq ?_)
 refine Da (by first | (simp +decide only[F,reduceIte,Nat.reduceAdd,qB,qC,EN, *,-h];done)| (simp +decide only[F,reduceIte,Nat.reduceAdd,qB,qC,EN, *,-h];rfl)| rfl) ?_
 refine sk (an (sq (bk (sq (rn ?_)))))
 refine an (sq (rn ?_))
 refine an ?_
 rcases Ep C.2.2 with ao | ao
 ·replace h:=bQ ao h
  refine DD (by first | (simp +decide only[F,reduceIte,Nat.reduceAdd,qB,qC,EN, *,-h];done)| (simp +decide only[F,reduceIte,Nat.reduceAdd,qB,qC,EN, *,-h];rfl)| rfl) ?_
  refine sk (ab (an (rn ?_)))
  refine BN ?_
  refine rnd ?_
  refine Cf (J:=λs=>s.t 0=vL enB p0/\s.t 4=vI x1.1/\s.t 5=vI C.2.1/\s.t 6=vB C.2.2/\s.t 7=vR 100025 j/\s.t 8=vI U/\s.t 9=vP 9 ((aa.h 9).1+1) 0/\s.t 10=vP 10 ((aa.h 10).1+1) 0/\s.t 41=vI 1/\s.h 9=((aa.h 9).1+1,oB 139 [cI C.1,cS (⟨#[]⟩:ByteArray),cI 0,cI 0,cS (⟨#[]⟩:ByteArray),.nil,cS (⟨#[]⟩:ByteArray)])/\s.h 10=((aa.h 10).1+1,QG)/\s.h 100025=(j,oW 139 7 M.Op.en aj)/\True) ?_ ?_
  ·refine⟨?_,?_,?_,?_,?_,?_,?_,?_,?_,?_,?_,?_,trivial⟩;all_goals first | (simp +decide only[F,reduceIte,Nat.reduceAdd,qB,qC,EN, *,-h];done)| (simp +decide only[F,reduceIte,Nat.reduceAdd,qB,qC,EN, *,-h];rfl)| rfl
  rintro bz f215
  refine sq (rn ?_)
  refine an (sq ?_)
  refine Da (by first | (simp +decide only[F,reduceIte,Nat.reduceAdd,qB,qC,EN, *,-h];done)| (simp +decide only[F,reduceIte,Nat.reduceAdd,qB,qC,EN, *,-h];rfl)| rfl) ?_
  refine sk (an (sq (bk (sq (rn ?_)))))
  refine an (sq (rn ?_))
  refine an ?_
  refine DD (by first | (simp +decide only[F,reduceIte,Nat.reduceAdd,qB,qC,EN, *,-h];done)| (simp +decide only[F,reduceIte,Nat.reduceAdd,qB,qC,EN, *,-h];rfl)| rfl) ?_
  refine sk (ab (an (rn ?_)))
  refine BN ?_
  refine rnd ?_
  refine Cf (J:=λs=>s.t 0=vL enB p0/\s.t 4=vI x1.1/\s.t 5=vI C.2.1/\s.t 6=vB C.2.2/\s.t 7=vR 100025 j/\s.t 8=vI U/\s.t 9=vP 9 ((aa.h 9).1+1) 0/\s.t 10=vP 10 ((aa.h 10).1+1) 0/\s.t 41=vI 2/\s.h 9=((aa.h 9).1+1,oB 139 [cI C.1,cS (⟨#[]⟩:ByteArray),cI 0,cI 0,cS (⟨#[]⟩:ByteArray),.nil,cS (⟨#[]⟩:ByteArray)])/\s.h 10=((aa.h 10).1+1,QG)/\s.h 100025=(j,oW 139 7 M.Op.en aj)/\True) ?_ ?_
  ·refine⟨?_,?_,?_,?_,?_,?_,?_,?_,?_,?_,?_,?_,trivial⟩;all_goals first | (simp +decide only[F,reduceIte,Nat.reduceAdd,qB,qC,EN, *,-h];done)| (simp +decide only[F,reduceIte,Nat.reduceAdd,qB,qC,EN, *,-h];rfl)| rfl
  rintro c5 f228
  refine sq (rn ?_)
  refine an (sq ?_)
  refine Da (by first | (simp +decide only[F,reduceIte,Nat.reduceAdd,qB,qC,EN, *,-h];done)| (simp +decide only[F,reduceIte,Nat.reduceAdd,qB,qC,EN, *,-h];rfl)| rfl) ?_
  refine sk (an (sq (bk (sq (rn ?_)))))
  refine an (sq (rn ?_))
  refine an ?_
  refine DD (by first | (simp +decide only[F,reduceIte,Nat.reduceAdd,qB,qC,EN, *,-h];done)| (simp +decide only[F,reduceIte,Nat.reduceAdd,qB,qC,EN, *,-h];rfl)| rfl) ?_
  refine sk (ab (an (rn ?_)))
  refine BN ?_
  refine rnd ?_
  refine Cf (J:=λs=>s.t 0=vL enB p0/\s.t 4=vI x1.1/\s.t 5=vI C.2.1/\s.t 6=vB C.2.2/\s.t 7=vR 100025 j/\s.t 8=vI U/\s.t 9=vP 9 ((aa.h 9).1+1) 0/\s.t 10=vP 10 ((aa.h 10).1+1) 0/\s.t 41=vI 3/\s.h 9=((aa.h 9).1+1,oB 139 [cI C.1,cS (⟨#[]⟩:ByteArray),cI 0,cI 0,cS (⟨#[]⟩:ByteArray),.nil,cS (⟨#[]⟩:ByteArray)])/\s.h 10=((aa.h 10).1+1,QG)/\s.h 100025=(j,oW 139 7 M.Op.en aj)/\True) ?_ ?_
  ·refine⟨?_,?_,?_,?_,?_,?_,?_,?_,?_,?_,?_,?_,trivial⟩;all_goals first | (simp +decide only[F,reduceIte,Nat.reduceAdd,qB,qC,EN, *,-h];done)| (simp +decide only[F,reduceIte,Nat.reduceAdd,qB,qC,EN, *,-h];rfl)| rfl
  rintro ca f241
  refine sq (rn ?_)
  refine an (sq ?_)
  refine Da (by first | (simp +decide only[F,reduceIte,Nat.reduceAdd,qB,qC,EN, *,-h];done)| (simp +decide only[F,reduceIte,Nat.reduceAdd,qB,qC,EN, *,-h];rfl)| rfl) ?_
  refine sk (an (sq (bk (sq (rn ?_)))))
  refine an (sq (rn ?_))
  refine an ?_
  refine DD (by first | (simp +decide only[F,reduceIte,Nat.reduceAdd,qB,qC,EN, *,-h];done)| (simp +decide only[F,reduceIte,Nat.reduceAdd,qB,qC,EN, *,-h];rfl)| rfl) ?_
  refine sk (ab (an (rn ?_)))
  refine BN ?_
  refine rnd ?_
  refine Cf (J:=λs=>s.t 0=vL enB p0/\s.t 4=vI x1.1/\s.t 5=vI C.2.1/\s.t 6=vB C.2.2/\s.t 7=vR 100025 j/\s.t 8=vI U/\s.t 9=vP 9 ((aa.h 9).1+1) 0/\s.t 10=vP 10 ((aa.h 10).1+1) 0/\s.t 41=vI 4/\s.h 9=((aa.h 9).1+1,oB 139 [cI C.1,cS (⟨#[]⟩:ByteArray),cI 0,cI 0,cS (⟨#[]⟩:ByteArray),.nil,cS (⟨#[]⟩:ByteArray)])/\s.h 10=((aa.h 10).1+1,QG)/\s.h 100025=(j,oW 139 7 M.Op.en aj)/\True) ?_ ?_
  ·refine⟨?_,?_,?_,?_,?_,?_,?_,?_,?_,?_,?_,?_,trivial⟩;all_goals first | (simp +decide only[F,reduceIte,Nat.reduceAdd,qB,qC,EN, *,-h];done)| (simp +decide only[F,reduceIte,Nat.reduceAdd,qB,qC,EN, *,-h];rfl)| rfl
  rintro cc f254
  refine sq (rn ?_)
  refine an (sq ?_)
  refine DD (by first | (simp +decide only[F,reduceIte,Nat.reduceAdd,qB,qC,EN, *,-h];done)| (simp +decide only[F,reduceIte,Nat.reduceAdd,qB,qC,EN, *,-h];rfl)| rfl) ?_
  refine xt (CS (CL (Ft (an (sq (sq (rn ?_)))))))
  refine an (ct (sq (rn ?_)))
  refine an (rt ?_)
  cases h
  simp[Ret,TB,EN, *]
 replace h:=bR ao h
 refine Da (by first | (simp +decide only[F,reduceIte,Nat.reduceAdd,qB,qC,EN, *,-h];done)| (simp +decide only[F,reduceIte,Nat.reduceAdd,qB,qC,EN, *,-h];rfl)| rfl) ?_
 obtain⟨I,cd,h⟩:=bind_some h
 apply iD
 ·simp +decide only[E,reduceIte,Nat.reduceAdd,Nat.reduceMul,qB,qC,Int.reduceToNat,Nat.reduceLT,qo,L,NN,Fm,EN,b3,b4,al,f22,ao]
  refine⟨_,V1.1 _ _ _ _ cd,?_⟩
  try simp +decide only[E,reduceIte,Nat.reduceAdd,Nat.reduceMul,qB,qC,Int.reduceToNat,Nat.reduceLT,qo,L,NN,Fm,EN,b3,b4,al,f22,ao]
  exact Is.mk _
 refine ab (an (rn ?_))
 refine BN ?_
 refine rnd ?_
 refine Fq (ghB 10 0 7060100 100051) ?_
 refine Cf (J:=λs=>s.t 0=vL enB p0/\s.t 4=vI x1.1/\s.t 5=vI I.2.1/\s.t 6=vB I.2.2/\s.t 7=vR 100025 j/\s.t 8=vI U/\s.t 9=vP 9 ((aa.h 9).1+1) 0/\s.t 10=vP 10 ((aa.h 10).1+1) 0/\s.t 41=vI 1/\s.h 9=((aa.h 9).1+1,oB 139 [cI C.1,cS (⟨#[]⟩:ByteArray),cI 0,cI 0,cS (⟨#[]⟩:ByteArray),.nil,cS (⟨#[]⟩:ByteArray)])/\s.h 10=((aa.h 10).1+1,oB 402 [.row 7060100 ((ak.h 7060100).1+1),.nil,.nil,.nil])/\s.h 100025=(j,oW 139 7 M.Op.en aj)/\s.h 7060100=((ak.h 7060100).1+1,oW 5 1 enB I.1)/\True) ?_ ?_
 ·refine⟨?_,?_,?_,?_,?_,?_,?_,?_,?_,?_,?_,?_,?_,trivial⟩;all_goals first | (simp +decide only[F,reduceIte,Nat.reduceAdd,qB,qC,EN, *,-h];done)| (simp +decide only[F,reduceIte,Nat.reduceAdd,qB,qC,EN, *,-h];rfl)| rfl
 rintro ax f38
 refine sq (rn ?_)
 refine an (sq ?_)
 refine Da (by first | (simp +decide only[F,reduceIte,Nat.reduceAdd,qB,qC,EN, *,-h];done)| (simp +decide only[F,reduceIte,Nat.reduceAdd,qB,qC,EN, *,-h];rfl)| rfl) ?_
 refine sk (an (sq (bk (sq (rn ?_)))))
 refine an (sq (rn ?_))
 refine an ?_
 rcases Ep I.2.2 with aq | aq
 ·replace h:=bQ aq h
  refine DD (by first | (simp +decide only[F,reduceIte,Nat.reduceAdd,qB,qC,EN, *,-h];done)| (simp +decide only[F,reduceIte,Nat.reduceAdd,qB,qC,EN, *,-h];rfl)| rfl) ?_
  refine sk (ab (an (rn ?_)))
  refine BN ?_
  refine rnd ?_
  refine Cf (J:=λs=>s.t 0=vL enB p0/\s.t 4=vI x1.1/\s.t 5=vI I.2.1/\s.t 6=vB I.2.2/\s.t 7=vR 100025 j/\s.t 8=vI U/\s.t 9=vP 9 ((aa.h 9).1+1) 0/\s.t 10=vP 10 ((aa.h 10).1+1) 0/\s.t 41=vI 2/\s.h 9=((aa.h 9).1+1,oB 139 [cI C.1,cS (⟨#[]⟩:ByteArray),cI 0,cI 0,cS (⟨#[]⟩:ByteArray),.nil,cS (⟨#[]⟩:ByteArray)])/\s.h 10=((aa.h 10).1+1,oB 402 [.row 7060100 ((ak.h 7060100).1+1),.nil,.nil,.nil])/\s.h 100025=(j,oW 139 7 M.Op.en aj)/\s.h 7060100=((ak.h 7060100).1+1,oW 5 1 enB I.1)/\True) ?_ ?_
  ·refine⟨?_,?_,?_,?_,?_,?_,?_,?_,?_,?_,?_,?_,?_,trivial⟩;all_goals first | (simp +decide only[F,reduceIte,Nat.reduceAdd,qB,qC,EN, *,-h];done)| (simp +decide only[F,reduceIte,Nat.reduceAdd,qB,qC,EN, *,-h];rfl)| rfl
  rintro cg f173
  refine sq (rn ?_)
  refine an (sq ?_)
  refine Da (by first | (simp +decide only[F,reduceIte,Nat.reduceAdd,qB,qC,EN, *,-h];done)| (simp +decide only[F,reduceIte,Nat.reduceAdd,qB,qC,EN, *,-h];rfl)| rfl) ?_
  refine sk (an (sq (bk (sq (rn ?_)))))
  refine an (sq (rn ?_))
  refine an ?_
  refine DD (by first | (simp +decide only[F,reduceIte,Nat.reduceAdd,qB,qC,EN, *,-h];done)| (simp +decide only[F,reduceIte,Nat.reduceAdd,qB,qC,EN, *,-h];rfl)| rfl) ?_
  refine sk (ab (an (rn ?_)))
  refine BN ?_
  refine rnd ?_
  refine Cf (J:=λs=>s.t 0=vL enB p0/\s.t 4=vI x1.1/\s.t 5=vI I.2.1/\s.t 6=vB I.2.2/\s.t 7=vR 100025 j/\s.t 8=vI U/\s.t 9=vP 9 ((aa.h 9).1+1) 0/\s.t 10=vP 10 ((aa.h 10).1+1) 0/\s.t 41=vI 3/\s.h 9=((aa.h 9).1+1,oB 139 [cI C.1,cS (⟨#[]⟩:ByteArray),cI 0,cI 0,cS (⟨#[]⟩:ByteArray),.nil,cS (⟨#[]⟩:ByteArray)])/\s.h 10=((aa.h 10).1+1,oB 402 [.row 7060100 ((ak.h 7060100).1+1),.nil,.nil,.nil])/\s.h 100025=(j,oW 139 7 M.Op.en aj)/\s.h 7060100=((ak.h 7060100).1+1,oW 5 1 enB I.1)/\True) ?_ ?_
  ·refine⟨?_,?_,?_,?_,?_,?_,?_,?_,?_,?_,?_,?_,?_,trivial⟩;all_goals first | (simp +decide only[F,reduceIte,Nat.reduceAdd,qB,qC,EN, *,-h];done)| (simp +decide only[F,reduceIte,Nat.reduceAdd,qB,qC,EN, *,-h];rfl)| rfl
  rintro cj f187
  refine sq (rn ?_)
  refine an (sq ?_)
  refine Da (by first | (simp +decide only[F,reduceIte,Nat.reduceAdd,qB,qC,EN, *,-h];done)| (simp +decide only[F,reduceIte,Nat.reduceAdd,qB,qC,EN, *,-h];rfl)| rfl) ?_
  refine sk (an (sq (bk (sq (rn ?_)))))
  refine an (sq (rn ?_))
  refine an ?_
  refine DD (by first | (simp +decide only[F,reduceIte,Nat.reduceAdd,qB,qC,EN, *,-h];done)| (simp +decide only[F,reduceIte,Nat.reduceAdd,qB,qC,EN, *,-h];rfl)| rfl) ?_
  refine sk (ab (an (rn ?_)))
  refine BN ?_
  refine rnd ?_
  refine Cf (J:=λs=>s.t 0=vL enB p0/\s.t 4=vI x1.1/\s.t 5=vI I.2.1/\s.t 6=vB I.2.2/\s.t 7=vR 100025 j/\s.t 8=vI U/\s.t 9=vP 9 ((aa.h 9).1+1) 0/\s.t 10=vP 10 ((aa.h 10).1+1) 0/\s.t 41=vI 4/\s.h 9=((aa.h 9).1+1,oB 139 [cI C.1,cS (⟨#[]⟩:ByteArray),cI 0,cI 0,cS (⟨#[]⟩:ByteArray),.nil,cS (⟨#[]⟩:ByteArray)])/\s.h 10=((aa.h 10).1+1,oB 402 [.row 7060100 ((ak.h 7060100).1+1),.nil,.nil,.nil])/\s.h 100025=(j,oW 139 7 M.Op.en aj)/\s.h 7060100=((ak.h 7060100).1+1,oW 5 1 enB I.1)/\True) ?_ ?_
  ·refine⟨?_,?_,?_,?_,?_,?_,?_,?_,?_,?_,?_,?_,?_,trivial⟩;all_goals first | (simp +decide only[F,reduceIte,Nat.reduceAdd,qB,qC,EN, *,-h];done)| (simp +decide only[F,reduceIte,Nat.reduceAdd,qB,qC,EN, *,-h];rfl)| rfl
  rintro ck f201
  refine sq (rn ?_)
  refine an (sq ?_)
  refine DD (by first | (simp +decide only[F,reduceIte,Nat.reduceAdd,qB,qC,EN, *,-h];done)| (simp +decide only[F,reduceIte,Nat.reduceAdd,qB,qC,EN, *,-h];rfl)| rfl) ?_
  refine xt (CS (CL (Ft (an (sq (sq (rn ?_)))))))
  refine an (ct (sq (rn ?_)))
  refine an (rt ?_)
  cases h
  simp[Ret,TB,EN, *]
 replace h:=bR aq h
 refine Da (by first | (simp +decide only[F,reduceIte,Nat.reduceAdd,qB,qC,EN, *,-h];done)| (simp +decide only[F,reduceIte,Nat.reduceAdd,qB,qC,EN, *,-h];rfl)| rfl) ?_
 obtain⟨av,cn,h⟩:=bind_some h
 apply iD
 ·simp +decide only[E,reduceIte,Nat.reduceAdd,Nat.reduceMul,qB,qC,Int.reduceToNat,Nat.reduceLT,qo,L,NN,Fm,EN,b3,b4,al,ao,f38,aq]
  refine⟨_,V1.1 _ _ _ _ cn,?_⟩
  try simp +decide only[E,reduceIte,Nat.reduceAdd,Nat.reduceMul,qB,qC,Int.reduceToNat,Nat.reduceLT,qo,L,NN,Fm,EN,b3,b4,al,ao,f38,aq]
  exact Is.mk _
 refine ab (an (rn ?_))
 refine BN ?_
 refine rnd ?_
 refine Fq (ghB 10 1 7060101 100051) ?_
 refine Cf (J:=λs=>s.t 0=vL enB p0/\s.t 4=vI x1.1/\s.t 5=vI av.2.1/\s.t 6=vB av.2.2/\s.t 7=vR 100025 j/\s.t 8=vI U/\s.t 9=vP 9 ((aa.h 9).1+1) 0/\s.t 10=vP 10 ((aa.h 10).1+1) 0/\s.t 41=vI 2/\s.h 9=((aa.h 9).1+1,oB 139 [cI C.1,cS (⟨#[]⟩:ByteArray),cI 0,cI 0,cS (⟨#[]⟩:ByteArray),.nil,cS (⟨#[]⟩:ByteArray)])/\s.h 10=((aa.h 10).1+1,oB 402 [.row 7060100 ((ak.h 7060100).1+1),.row 7060101 ((ax.h 7060101).1+1),.nil,.nil])/\s.h 100025=(j,oW 139 7 M.Op.en aj)/\s.h 7060100=((ak.h 7060100).1+1,oW 5 1 enB I.1)/\s.h 7060101=((ax.h 7060101).1+1,oW 5 1 enB av.1)/\True) ?_ ?_
 ·refine⟨?_,?_,?_,?_,?_,?_,?_,?_,?_,?_,?_,?_,?_,?_,trivial⟩;all_goals first | (simp +decide only[F,reduceIte,Nat.reduceAdd,qB,qC,EN, *,-h];done)| (simp +decide only[F,reduceIte,Nat.reduceAdd,qB,qC,EN, *,-h];rfl)| rfl
 rintro bd f55
 refine sq (rn ?_)
 refine an (sq ?_)
 refine Da (by first | (simp +decide only[F,reduceIte,Nat.reduceAdd,qB,qC,EN, *,-h];done)| (simp +decide only[F,reduceIte,Nat.reduceAdd,qB,qC,EN, *,-h];rfl)| rfl) ?_
 refine sk (an (sq (bk (sq (rn ?_)))))
 refine an (sq (rn ?_))
 refine an ?_
 rcases Ep av.2.2 with ar | ar
 ·replace h:=bQ ar h
  refine DD (by first | (simp +decide only[F,reduceIte,Nat.reduceAdd,qB,qC,EN, *,-h];done)| (simp +decide only[F,reduceIte,Nat.reduceAdd,qB,qC,EN, *,-h];rfl)| rfl) ?_
  refine sk (ab (an (rn ?_)))
  refine BN ?_
  refine rnd ?_
  refine Cf (J:=λs=>s.t 0=vL enB p0/\s.t 4=vI x1.1/\s.t 5=vI av.2.1/\s.t 6=vB av.2.2/\s.t 7=vR 100025 j/\s.t 8=vI U/\s.t 9=vP 9 ((aa.h 9).1+1) 0/\s.t 10=vP 10 ((aa.h 10).1+1) 0/\s.t 41=vI 3/\s.h 9=((aa.h 9).1+1,oB 139 [cI C.1,cS (⟨#[]⟩:ByteArray),cI 0,cI 0,cS (⟨#[]⟩:ByteArray),.nil,cS (⟨#[]⟩:ByteArray)])/\s.h 10=((aa.h 10).1+1,oB 402 [.row 7060100 ((ak.h 7060100).1+1),.row 7060101 ((ax.h 7060101).1+1),.nil,.nil])/\s.h 100025=(j,oW 139 7 M.Op.en aj)/\s.h 7060100=((ak.h 7060100).1+1,oW 5 1 enB I.1)/\s.h 7060101=((ax.h 7060101).1+1,oW 5 1 enB av.1)/\True) ?_ ?_
  ·refine⟨?_,?_,?_,?_,?_,?_,?_,?_,?_,?_,?_,?_,?_,?_,trivial⟩;all_goals first | (simp +decide only[F,reduceIte,Nat.reduceAdd,qB,qC,EN, *,-h];done)| (simp +decide only[F,reduceIte,Nat.reduceAdd,qB,qC,EN, *,-h];rfl)| rfl
  rintro cq f143
  refine sq (rn ?_)
  refine an (sq ?_)
  refine Da (by first | (simp +decide only[F,reduceIte,Nat.reduceAdd,qB,qC,EN, *,-h];done)| (simp +decide only[F,reduceIte,Nat.reduceAdd,qB,qC,EN, *,-h];rfl)| rfl) ?_
  refine sk (an (sq (bk (sq (rn ?_)))))
  refine an (sq (rn ?_))
  refine an ?_
  refine DD (by first | (simp +decide only[F,reduceIte,Nat.reduceAdd,qB,qC,EN, *,-h];done)| (simp +decide only[F,reduceIte,Nat.reduceAdd,qB,qC,EN, *,-h];rfl)| rfl) ?_
  refine sk (ab (an (rn ?_)))
  refine BN ?_
  refine rnd ?_
  refine Cf (J:=λs=>s.t 0=vL enB p0/\s.t 4=vI x1.1/\s.t 5=vI av.2.1/\s.t 6=vB av.2.2/\s.t 7=vR 100025 j/\s.t 8=vI U/\s.t 9=vP 9 ((aa.h 9).1+1) 0/\s.t 10=vP 10 ((aa.h 10).1+1) 0/\s.t 41=vI 4/\s.h 9=((aa.h 9).1+1,oB 139 [cI C.1,cS (⟨#[]⟩:ByteArray),cI 0,cI 0,cS (⟨#[]⟩:ByteArray),.nil,cS (⟨#[]⟩:ByteArray)])/\s.h 10=((aa.h 10).1+1,oB 402 [.row 7060100 ((ak.h 7060100).1+1),.row 7060101 ((ax.h 7060101).1+1),.nil,.nil])/\s.h 100025=(j,oW 139 7 M.Op.en aj)/\s.h 7060100=((ak.h 7060100).1+1,oW 5 1 enB I.1)/\s.h 7060101=((ax.h 7060101).1+1,oW 5 1 enB av.1)/\True) ?_ ?_
  ·refine⟨?_,?_,?_,?_,?_,?_,?_,?_,?_,?_,?_,?_,?_,?_,trivial⟩;all_goals first | (simp +decide only[F,reduceIte,Nat.reduceAdd,qB,qC,EN, *,-h];done)| (simp +decide only[F,reduceIte,Nat.reduceAdd,qB,qC,EN, *,-h];rfl)| rfl
  rintro cr f158
  refine sq (rn ?_)
  refine an (sq ?_)
  refine DD (by first | (simp +decide only[F,reduceIte,Nat.reduceAdd,qB,qC,EN, *,-h];done)| (simp +decide only[F,reduceIte,Nat.reduceAdd,qB,qC,EN, *,-h];rfl)| rfl) ?_
  refine xt (CS (CL (Ft (an (sq (sq (rn ?_)))))))
  refine an (ct (sq (rn ?_)))
  refine an (rt ?_)
  cases h
  simp[Ret,TB,EN, *]
 replace h:=bR ar h
 refine Da (by first | (simp +decide only[F,reduceIte,Nat.reduceAdd,qB,qC,EN, *,-h];done)| (simp +decide only[F,reduceIte,Nat.reduceAdd,qB,qC,EN, *,-h];rfl)| rfl) ?_
 obtain⟨ay,cw,h⟩:=bind_some h
 apply iD
 ·simp +decide only[E,reduceIte,Nat.reduceAdd,Nat.reduceMul,qB,qC,Int.reduceToNat,Nat.reduceLT,qo,L,NN,Fm,EN,b3,b4,al,ao,aq,f55,ar]
  refine⟨_,V1.1 _ _ _ _ cw,?_⟩
  try simp +decide only[E,reduceIte,Nat.reduceAdd,Nat.reduceMul,qB,qC,Int.reduceToNat,Nat.reduceLT,qo,L,NN,Fm,EN,b3,b4,al,ao,aq,f55,ar]
  exact Is.mk _
 refine ab (an (rn ?_))
 refine BN ?_
 refine rnd ?_
 refine Fq (ghB 10 2 7060102 100051) ?_
 refine Cf (J:=λs=>s.t 0=vL enB p0/\s.t 4=vI x1.1/\s.t 5=vI ay.2.1/\s.t 6=vB ay.2.2/\s.t 7=vR 100025 j/\s.t 8=vI U/\s.t 9=vP 9 ((aa.h 9).1+1) 0/\s.t 10=vP 10 ((aa.h 10).1+1) 0/\s.t 41=vI 3/\s.h 9=((aa.h 9).1+1,oB 139 [cI C.1,cS (⟨#[]⟩:ByteArray),cI 0,cI 0,cS (⟨#[]⟩:ByteArray),.nil,cS (⟨#[]⟩:ByteArray)])/\s.h 10=((aa.h 10).1+1,oB 402 [.row 7060100 ((ak.h 7060100).1+1),.row 7060101 ((ax.h 7060101).1+1),.row 7060102 ((bd.h 7060102).1+1),.nil])/\s.h 100025=(j,oW 139 7 M.Op.en aj)/\s.h 7060100=((ak.h 7060100).1+1,oW 5 1 enB I.1)/\s.h 7060101=((ax.h 7060101).1+1,oW 5 1 enB av.1)/\s.h 7060102=((bd.h 7060102).1+1,oW 5 1 enB ay.1)/\True) ?_ ?_
 ·refine⟨?_,?_,?_,?_,?_,?_,?_,?_,?_,?_,?_,?_,?_,?_,?_,trivial⟩;all_goals first | (simp +decide only[F,reduceIte,Nat.reduceAdd,qB,qC,EN, *,-h];done)| (simp +decide only[F,reduceIte,Nat.reduceAdd,qB,qC,EN, *,-h];rfl)| rfl
 rintro bt f73
 refine sq (rn ?_)
 refine an (sq ?_)
 refine Da (by first | (simp +decide only[F,reduceIte,Nat.reduceAdd,qB,qC,EN, *,-h];done)| (simp +decide only[F,reduceIte,Nat.reduceAdd,qB,qC,EN, *,-h];rfl)| rfl) ?_
 refine sk (an (sq (bk (sq (rn ?_)))))
 refine an (sq (rn ?_))
 refine an ?_
 rcases Ep ay.2.2 with aw | aw
 ·replace h:=bQ aw h
  refine DD (by first | (simp +decide only[F,reduceIte,Nat.reduceAdd,qB,qC,EN, *,-h];done)| (simp +decide only[F,reduceIte,Nat.reduceAdd,qB,qC,EN, *,-h];rfl)| rfl) ?_
  refine sk (ab (an (rn ?_)))
  refine BN ?_
  refine rnd ?_
  refine Cf (J:=λs=>s.t 0=vL enB p0/\s.t 4=vI x1.1/\s.t 5=vI ay.2.1/\s.t 6=vB ay.2.2/\s.t 7=vR 100025 j/\s.t 8=vI U/\s.t 9=vP 9 ((aa.h 9).1+1) 0/\s.t 10=vP 10 ((aa.h 10).1+1) 0/\s.t 41=vI 4/\s.h 9=((aa.h 9).1+1,oB 139 [cI C.1,cS (⟨#[]⟩:ByteArray),cI 0,cI 0,cS (⟨#[]⟩:ByteArray),.nil,cS (⟨#[]⟩:ByteArray)])/\s.h 10=((aa.h 10).1+1,oB 402 [.row 7060100 ((ak.h 7060100).1+1),.row 7060101 ((ax.h 7060101).1+1),.row 7060102 ((bd.h 7060102).1+1),.nil])/\s.h 100025=(j,oW 139 7 M.Op.en aj)/\s.h 7060100=((ak.h 7060100).1+1,oW 5 1 enB I.1)/\s.h 7060101=((ax.h 7060101).1+1,oW 5 1 enB av.1)/\s.h 7060102=((bd.h 7060102).1+1,oW 5 1 enB ay.1)/\True) ?_ ?_
  ·refine⟨?_,?_,?_,?_,?_,?_,?_,?_,?_,?_,?_,?_,?_,?_,?_,trivial⟩;all_goals first | (simp +decide only[F,reduceIte,Nat.reduceAdd,qB,qC,EN, *,-h];done)| (simp +decide only[F,reduceIte,Nat.reduceAdd,qB,qC,EN, *,-h];rfl)| rfl
  rintro cy f127
  refine sq (rn ?_)
  refine an (sq ?_)
  refine DD (by first | (simp +decide only[F,reduceIte,Nat.reduceAdd,qB,qC,EN, *,-h];done)| (simp +decide only[F,reduceIte,Nat.reduceAdd,qB,qC,EN, *,-h];rfl)| rfl) ?_
  refine xt (CS (CL (Ft (an (sq (sq (rn ?_)))))))
  refine an (ct (sq (rn ?_)))
  refine an (rt ?_)
  cases h
  simp[Ret,TB,EN, *]
 replace h:=bR aw h
 refine Da (by first | (simp +decide only[F,reduceIte,Nat.reduceAdd,qB,qC,EN, *,-h];done)| (simp +decide only[F,reduceIte,Nat.reduceAdd,qB,qC,EN, *,-h];rfl)| rfl) ?_
 obtain⟨az,cz,h⟩:=bind_some h
 apply iD
 ·simp +decide only[E,reduceIte,Nat.reduceAdd,Nat.reduceMul,qB,qC,Int.reduceToNat,Nat.reduceLT,qo,L,NN,Fm,EN,b3,b4,al,ao,aq,ar,f73,aw]
  refine⟨_,V1.1 _ _ _ _ cz,?_⟩
  try simp +decide only[E,reduceIte,Nat.reduceAdd,Nat.reduceMul,qB,qC,Int.reduceToNat,Nat.reduceLT,qo,L,NN,Fm,EN,b3,b4,al,ao,aq,ar,f73,aw]
  exact Is.mk _
 refine ab (an (rn ?_))
 refine BN ?_
 refine rnd ?_
 refine Fq (ghB 10 3 7060103 100051) ?_
 refine Cf (J:=λs=>s.t 0=vL enB p0/\s.t 4=vI x1.1/\s.t 5=vI az.2.1/\s.t 6=vB az.2.2/\s.t 7=vR 100025 j/\s.t 8=vI U/\s.t 9=vP 9 ((aa.h 9).1+1) 0/\s.t 10=vP 10 ((aa.h 10).1+1) 0/\s.t 41=vI 4/\s.h 9=((aa.h 9).1+1,oB 139 [cI C.1,cS (⟨#[]⟩:ByteArray),cI 0,cI 0,cS (⟨#[]⟩:ByteArray),.nil,cS (⟨#[]⟩:ByteArray)])/\s.h 10=((aa.h 10).1+1,oB 402 [.row 7060100 ((ak.h 7060100).1+1),.row 7060101 ((ax.h 7060101).1+1),.row 7060102 ((bd.h 7060102).1+1),.row 7060103 ((bt.h 7060103).1+1)])/\s.h 100025=(j,oW 139 7 M.Op.en aj)/\s.h 7060100=((ak.h 7060100).1+1,oW 5 1 enB I.1)/\s.h 7060101=((ax.h 7060101).1+1,oW 5 1 enB av.1)/\s.h 7060102=((bd.h 7060102).1+1,oW 5 1 enB ay.1)/\s.h 7060103=((bt.h 7060103).1+1,oW 5 1 enB az.1)/\True) ?_ ?_
 ·refine⟨?_,?_,?_,?_,?_,?_,?_,?_,?_,?_,?_,?_,?_,?_,?_,?_,trivial⟩;all_goals first | (simp +decide only[F,reduceIte,Nat.reduceAdd,qB,qC,EN, *,-h];done)| (simp +decide only[F,reduceIte,Nat.reduceAdd,qB,qC,EN, *,-h];rfl)| rfl
 rintro dh f92
 refine sq (rn ?_)
 refine an (sq ?_)
 refine DD (by first | (simp +decide only[F,reduceIte,Nat.reduceAdd,qB,qC,EN, *,-h];done)| (simp +decide only[F,reduceIte,Nat.reduceAdd,qB,qC,EN, *,-h];rfl)| rfl) ?_
 refine xt (CS (CL (Ft (an (sq (sq (rn ?_)))))))
 refine an ?_
 rcases dQ (!az.2.2)with ah | ah
 ·replace h:=bR ah h;refine ct (sq (rn ?_));refine an (rt ?_);cases h;simp[Ret,TB,EN, *]
 replace h:=bQ ah h
 refine cf (sk (an (sq ?_)))
 obtain⟨da,bm,h⟩:=bind_some h
 apply iD
 ·simp +decide only[E,reduceIte,Nat.reduceAdd,Nat.reduceMul,qB,qC,Fl,GY,Int.reduceToNat,Nat.reduceLT,qo,L,ti5,ti9,NN,L9,Fm,EN,b3,b4,al,ao,aq,ar,aw,f92,ah]
  refine⟨Ia bm,?_⟩
  try simp +decide only[E,reduceIte,Nat.reduceAdd,Nat.reduceMul,qB,qC,Fl,GY,Int.reduceToNat,Nat.reduceLT,qo,L,ti5,ti9,NN,L9,Fm,EN,b3,b4,al,ao,aq,ar,aw,f92,ah]
  exact Is.mk _
 refine an (sq ?_)
 obtain⟨bf,bn,h⟩:=bind_some h
 apply iD
 ·simp +decide only[E,reduceIte,Nat.reduceAdd,Nat.reduceMul,qB,qC,Int.reduceToNat,Nat.reduceLT,qo,L,NN,U7,L9,Fm,EN,b3,b4,al,ao,aq,ar,aw,f92,ah]
  refine⟨_,aDx _ _ bn,?_⟩
  try simp +decide only[E,reduceIte,Nat.reduceAdd,Nat.reduceMul,qB,qC,Int.reduceToNat,Nat.reduceLT,qo,L,NN,U7,L9,Fm,EN,b3,b4,al,ao,aq,ar,aw,f92,ah]
  exact Is.mk _
 refine an (sq ?_)
 obtain⟨bg,bo,h⟩:=bind_some h
 apply iD
 ·simp +decide only[E,reduceIte,Nat.reduceAdd,Nat.reduceMul,qB,qC,Int.reduceToNat,Nat.reduceLT,qo,L,NN,VW,L9,Fm,EN,b3,b4,al,ao,aq,ar,aw,f92,ah]
  refine⟨_,aDG _ _ bo,?_⟩
  try simp +decide only[E,reduceIte,Nat.reduceAdd,Nat.reduceMul,qB,qC,Int.reduceToNat,Nat.reduceLT,qo,L,NN,VW,L9,Fm,EN,b3,b4,al,ao,aq,ar,aw,f92,ah]
  exact Is.mk _
 refine an (sq ?_)
 obtain⟨db,bq,h⟩:=bind_some h
 apply iD
 ·simp +decide only[E,reduceIte,Nat.reduceAdd,Nat.reduceMul,qB,qC,Fl,GY,Int.reduceToNat,Nat.reduceLT,qo,L,ti5,ti9,NN,L9,Fm,EN,b3,b4,al,ao,aq,ar,aw,f92,ah]
  refine⟨Ia bq,?_⟩
  try simp +decide only[E,reduceIte,Nat.reduceAdd,Nat.reduceMul,qB,qC,Fl,GY,Int.reduceToNat,Nat.reduceLT,qo,L,ti5,ti9,NN,L9,Fm,EN,b3,b4,al,ao,aq,ar,aw,f92,ah]
  exact Is.mk _
 refine an ?_
 obtain⟨df,br,h⟩:=bind_some h
 refine rn1 br ?_
 refine ab (an ?_)
 refine cu (λs=>s.t 0=vL enB p0/\s.t 4=vI x1.1/\s.t 5=vI az.2.1/\s.t 7=vR 100025 (j+1)/\s.t 8=vI U/\s.h 100025=(j+1,oW 139 7 M.Op.en (aj++[(⟨C.1,aY I.1,bf.1,bg.1,aY az.1⟩:M.Op)]))/\True) ?_
 rintro dg f120
 refine rn ?_
 refine BN ⟨mL1,jD,az.2.1,i64.wrap (U+1),aj++[(⟨C.1,aY I.1,bf.1,bg.1,aY az.1⟩:M.Op)],j+1,?_,?_,?_,?_,?_,?_,h⟩
 all_goals simp +decide only[F,reduceIte,Nat.reduceAdd,qB,qC,EN, *,-h]
instance Yg:aZ 383 (∀p0 r (h:bN p0=some r),Sc 383 [aX (M.aC.en p0)] [rB r]):=⟨λp0 r h=>by
 have i1:=inv λm s=>∃v8:Int,(s.t 1=vP 1 1 0/\s.t 6=vL M.aES.en p0.aEM/\s.t 7=vI (List.length p0.aEM:Int)/\s.t 8=vI v8/\s.h 1=(1,oX 117 (M.aC.en p0)))/\gS p0 m v8=some r
 have e1:=@gS.eq_2
 unfold bN at h
 exact sgo 55 [.tmp 2] Tryz.func383⟩
instance:aZ 527 (∀p0 p1 r (h:Am p0 p1=some r),Sc 527 [aX (M.aC.en p0),aS p1] [rW 260 4 M.aES.en r]):=⟨λp0 p1 r h=>by
 have i1:=inv λm s=>∃ah:Int,∃ae:List M.aES,∃af:Nat,(s.t 1=vS p1/\s.t 5=vR 100011 af/\s.t 13=vL M.aES.en p0.aEM/\s.t 14=vI (List.length p0.aEM:Int)/\s.t 15=vI ah/\s.h 100011=(af,oW 260 4 M.aES.en ae))/\jS p0 p1 m ah ae=some r
 have e1:=@jS.eq_2
 have i2:=λ(ah:Int) (ae:List M.aES) (ai:M.aES) (aj:Int->Option (List M.aES)) (s7:St) (af:Nat)=>inv λm s=>∃aa:Int,(s.t 1=vS p1/\s.t 5=vR 100011 af/\s.t 7=vP 7 ((s7.h 7).1+1) 0/\s.t 10=vI aa/\s.t 13=vL M.aES.en p0.aEM/\s.t 14=vI (List.length p0.aEM:Int)/\s.t 15=vI ah/\s.h 7=((s7.h 7).1+1,oX 260 (M.aES.en ai))/\s.h 100011=(af,oW 260 4 M.aES.en ae))/\lQ p1 ae ai aj m aa=some r
 have e2:=@lQ.eq_2
 unfold Am at h
 exact sgo 52 [.tmp 4] Tryz.func527⟩
instance:aZ 450 (∀p0 p1 r (h:hU p0 p1=some r),Sc 450 [aX (M.aC.en p0),aS p1] [(true,M.Key.rs r.1),(true,M.Key.rs r.2.1),rB r.2.2]):=⟨λp0 p1 r h=>by
 have i1:=λ(x1:(List M.aES))=>inv λm s=>∃v8:Int,(s.t 1=vS p1/\s.t 4=vP 4 1 0/\s.t 5=vP 5 1 0/\s.t 7=vR 100015 1/\s.t 8=vI v8/\s.h 4=(1,oB 136 [cI 0,cI 0,cS (⟨#[]⟩:ByteArray)])/\s.h 5=(1,oB 136 [cI 0,cI 0,cS (⟨#[]⟩:ByteArray)])/\s.h 100015=(1,oW 260 4 M.aES.en x1))/\eK p1 x1 m v8=some r
 have e1:=@eK.eq_2
 unfold hU at h
 exact sgo 59 [.cell 4 136,.cell 5 136,.tmp 6] Tryz.func450⟩
instance UB:aZ 335 (∀p0 r (h:jR p0=some r),Sc 335 [aX (M.aEK.en p0)] [rB r]):=⟨λp0 r h=>by
 have i1:=inv λm s=>∃aa:Int,(s.t 1=vP 1 1 0/\s.t 34=vL M.aC.en p0.aEU/\s.t 35=vI (List.length p0.aEU:Int)/\s.t 36=vI aa/\s.h 1=(1,oX 112 (M.aEK.en p0)))/\dX p0 m aa=some r
 have e1:=@dX.eq_2
 have i2:=inv λm s=>∃ae:Int,(s.t 1=vP 1 1 0/\s.t 62=vL M.aG.en p0.aEb/\s.t 63=vI (List.length p0.aEb:Int)/\s.t 64=vI ae/\s.h 1=(1,oX 112 (M.aEK.en p0)))/\eB p0 m ae=some r
 have e2:=@eB.eq_2
 unfold jR at h
 exact sgo 103 [.tmp 2] Tryz.func335⟩
instance WG:aZ 529 (∀p0 p1 p2 r (h:nN p0 p1 p2=some r),Sc 529 [aX (M.aC.en p0),aX (M.Key.en p1),aX (M.aA.en p2)] [(true,M.aC.rs r.1),rB r.2]):=⟨λp0 p1 p2 r h=>by
 have i1:=λ(aa:M.aC)=>inv λm s=>∃v10:Int,(s.t 3=vP 3 1 0/\s.t 4=vP 4 1 0/\s.t 5=vP 5 1 0/\s.t 6=vP 6 1 0/\s.t 8=vP 8 1 0/\s.t 10=vI v10/\s.h 3=(1,oX 117 (M.aC.en p0))/\s.h 4=(1,oX 136 (M.Key.en p1))/\s.h 5=(1,oX 129 (M.aA.en p2))/\s.h 6=(1,oB 117 [cS (⟨#[]⟩:ByteArray),.nil,cI 0])/\s.h 8=(1,oB 117 [cS aa.Name,.row 200022 1,cI aa.aEo])/\s.h 200022=(1,oW 260 4 M.aES.en aa.aEM))/\lL p0 p1 p2 aa m v10=some r
 have e1:=@lL.eq_2
 unfold nN at h
 exact sgo 87 [.cell 6 117,.tmp 7] Tryz.func529⟩
theorem aDV(p0 p1 p2 r)(h:AB p0 p1 p2=some r):Sc 530 [aX (M.aC.en p0),aX (M.Key.en p1),aX (M.aA.en p2)] [(true,M.aC.rs r.1),rB r.2]:=by unfold AB at h;exact sgo 20 [.cell 6 117,.tmp 7] Tryz.func530
theorem ZC(p0 c0 r)(h:gX p0 c0=some r):Sc 589 [aX (M.aES.en p0),(false,[.ptr [.bool c0.aFD,.bool c0.aE1,.int .i64 c0.Low.aEc,.int .i64 c0.Low.N,.str c0.Low.aEj,.int .i64 c0.aE7.aEc,.int .i64 c0.aE7.N,.str c0.aE7.aEj]])] [rB r]:=by unfold gX at h;exact sgo 8 [.tmp 3] Tryz.func589
theorem aAr(p0 p1 r)(h:mI p0 p1=some r):Sc 531 [aX (M.aC.en p0),aX (M.cP.en p1)] [(true,M.aC.ra r.1),rI r.2]:=by
 unfold mI at h
 simp only[EN]
 refine sgn 26 [.cell 4 117,.tmp 5] Tryz.func531 λbase wd => ?_
 refine sq ?_
 apply iD
 ·simp +decide only[LN,LI,E,reduceIte,Nat.reduceAdd,Nat.reduceMul,qB,qC,L,GK,EN];exact Is.mk _
 refine an (sq ?_)
 obtain⟨x1,h2,h⟩:=bind_some h
 apply iD
 ·simp +decide only[LN,LI,E,reduceIte,Nat.reduceAdd,Nat.reduceMul,qB,qC,L,GK,EN]
  refine⟨_,Xd.1 _ _ h2,?_⟩
  try simp +decide only[LN,LI,E,reduceIte,Nat.reduceAdd,Nat.reduceMul,qB,qC,L,GK,EN]
  exact Is.mk _
 refine an (sq (sq ?_))
 obtain⟨x3,h4,h⟩:=bind_some h
 apply iD
 ·simp +decide only[LN,LI,E,reduceIte,Nat.reduceAdd,Nat.reduceMul,qB,qC,L,GK,EN]
  refine⟨_,Yg.1 _ _ h4,?_⟩
  try simp +decide only[LN,LI,E,reduceIte,Nat.reduceAdd,Nat.reduceMul,qB,qC,L,GK,EN]
  exact Is.mk _
 refine an ?_
 rcases dQ (!x3)with b5 | b5
 ·replace h:=bR b5 h;refine Da (by simp +decide only[LN,LI,F,reduceIte,Nat.reduceAdd,qB,qC,EN,b5]) ?_;refine sq ?_;apply iD;(simp +decide only[LN,LI,E,reduceIte,Nat.reduceAdd,Nat.reduceMul,qB,qC,L,GK,EN,b5];exact Is.mk _);refine an (frb 4 1 200008 ?_);refine rt ?_;cases h;simp[Ret,LN,LI,EN,GK,M.aES.en,b5]
 replace h:=bQ b5 h
 refine DD (by simp +decide only[LN,LI,F,reduceIte,Nat.reduceAdd,qB,qC,EN,b5]) ?_
 refine sk (an (sq ?_))
 apply QS (n:=3) (f:=588) (d:=16) (N':=42) (vars:=[.tmp 4]) rfl rfl rfl rfl jG Tryz.func588 rfl rfl rfl jH jG
 ·simp +decide only[LN,LI,E,reduceIte,Nat.reduceAdd,Nat.reduceMul,qB,qC,L,HF,GK,EN,b5];exact Is.mk _
 intro fv
 refine Fq (Gho.shallow (i:=200008) (ver:=1) (e:=260) (sz:=4) (xs:=List.map M.aES.en x1.aEM) (by first | (simp +decide only[LN,LI,F,reduceIte,Nat.reduceAdd,qB,qC,EN,M.aES.en,b5];done)| (simp +decide only[LN,LI,F,reduceIte,Nat.reduceAdd,qB,qC,EN,M.aES.en,b5];rfl)| rfl)) ?_
 refine Cf (J:=λs=>s.t 0=vR 200008 1/\s.t 1 = .v false [.clo 589 [(3,1,0)]]/\s.fr 2=vP 2 1 0/\s.fr 4=vP 4 1 0/\s.fr 6=vP 6 1 0/\s.h 2=(1,oX 117 (M.aC.en p0))/\s.h 3=(1,oX 533 (M.cP.en p1))/\s.h 4=(1,oB 117 [cS (⟨#[]⟩:ByteArray),.nil,cI 0])/\s.h 6=(1,oB 117 [cS x1.Name,.row 200008 1,cI x1.aEo])/\s.h 200008=(1,.row 260 4 (List.map M.aES.en x1.aEM) false)/\True) ?_ ?_
 ·and_intros<;>(try first | (simp +decide only[LN,LI,F,reduceIte,Nat.reduceAdd,qB,qC,EN,M.aES.en,b5];done)| (simp +decide only[LN,LI,F,reduceIte,Nat.reduceAdd,qB,qC,EN,M.aES.en,b5];rfl)| rfl)
 rintro s6 f7
 refine sq ?_
 apply iD
 ·simp +decide only[LN,LI,E,reduceIte,Nat.reduceAdd,Nat.reduceMul,qB,qC,L,EN, *,-h];exact Is.mk _
 refine an (sq ?_)
 obtain⟨af,ak,h⟩:=bind_some h
 apply iD
 ·simp +decide only[LN,LI,E,reduceIte,Nat.reduceAdd,Nat.reduceMul,qB,qC,L,EN, *,-h]
  refine⟨_,aCO x1.aEM (λz0=>gX z0 p1) 589 [.ptr [.bool p1.aFD,.bool p1.aE1,.int .i64 p1.Low.aEc,.int .i64 p1.Low.N,.str p1.Low.aEj,.int .i64 p1.aE7.aEc,.int .i64 p1.aE7.N,.str p1.aE7.aEj]] (λz0 r hr=>ZC z0 p1 r hr) af ak,?_⟩
  try simp +decide only[LN,LI,E,reduceIte,Nat.reduceAdd,Nat.reduceMul,qB,qC,L,EN, *,-h]
  exact Is.mk _
 refine an (sq (sq ?_))
 apply iD
 ·simp +decide only[LN,LI,E,reduceIte,Nat.reduceAdd,Nat.reduceMul,qB,qC,L,EN, *,-h];exact Is.mk _
 refine an ?_
 rcases dQ (af==(-1))with ae | ae
 ·replace h:=bR ae h;refine Da (by simp +decide only[LN,LI,F,reduceIte,Nat.reduceAdd,qB,qC,EN, *,-h]) ?_;refine sq ?_;apply iD;(simp +decide only[LN,LI,E,reduceIte,Nat.reduceAdd,Nat.reduceMul,qB,qC,L,EN, *,-h];exact Is.mk _);refine an (rt ?_);apply V5.mk (l:=[(false,[.row 200008 1])]) (by simp[LN,LI,EN,b5,f7,ae]);(simp +decide only[RK,LN,LI,E,reduceIte,Nat.reduceAdd,Nat.reduceMul,qB,qC,L,HF,GK,EN, *,-h];exact Is.mk _);refine an (sq ?_);apply E3 mixed;(simp +decide only[LN,LI,E,reduceIte,Nat.reduceAdd,Nat.reduceMul,qB,qC,L,HF,GK,EN, *,-h];exact⟨.mk jH,Is.mk _⟩);refine an (frb 4 1 200008 ?_ (by first | (simp +decide only[LN,LI,F,reduceIte,Nat.reduceAdd,qB,qC,EN, *,-h];done)| (simp +decide only[LN,LI,F,reduceIte,Nat.reduceAdd,qB,qC,EN, *,-h];rfl)| rfl) rfl (by first | (simp +decide only[LN,LI,F,reduceIte,Nat.reduceAdd,qB,qC,EN, *,-h];done)| (simp +decide only[LN,LI,F,reduceIte,Nat.reduceAdd,qB,qC,EN, *,-h];rfl)| rfl));refine rt ?_;cases h;simp[Ret,LN,LI,EN,GK,M.aES.en, *]
 replace h:=bQ ae h
 refine DD (by simp +decide only[LN,LI,F,reduceIte,Nat.reduceAdd,qB,qC,EN, *,-h]) ?_
 refine sk (an (sq (sq ?_)))
 apply iD
 ·simp +decide only[LN,LI,E,reduceIte,Nat.reduceAdd,Nat.reduceMul,qB,qC,L,EN, *,-h];exact Is.mk _
 refine an (bk ?_)
 refine DW (λm s=>∃C:Int,∃v6:Int,∃U:List M.aES,s.t 0=vR 200008 1/\s.t 1 = .v false [.clo 589 [(3,1,0)]]/\s.t 5=vI C/\s.t 6=vI v6/\s.fr 2=vP 2 1 0/\s.fr 4=vP 4 1 0/\s.fr 6=vP 6 1 0/\s.h 2=(1,oX 117 (M.aC.en p0))/\s.h 3=(1,oX 533 (M.cP.en p1))/\s.h 4=(1,oB 117 [cS (⟨#[]⟩:ByteArray),.nil,cI 0])/\s.h 6=(1,oB 117 [cS x1.Name,.row 200008 1,cI x1.aEo])/\s.h 200008=(1,.row 260 4 (List.map M.aES.en U) false)/\dL p0 p1 x1 m C v6 U=some r) fuel ?_ ?_
 ·refine⟨af,i64.wrap (af+1),x1.aEM,?_,?_,?_,?_,?_,?_,?_,?_,?_,?_,?_,?_,h⟩;all_goals simp +decide only[LN,LI,F,reduceIte,Nat.reduceAdd,qB,qC,EN,M.aES.en, *,-h]
 rintro mL1 av ⟨C,v6,U,f21,f22,f23,f24,f25,f26,f27,f28,f29,f30,f31,f32,h⟩
 rcases mL1 with _ | mL1
 ·exact absurd h (by simp[dL])
 simp only[dL]at h
 refine sq (sq ?_)
 apply iD
 ·simp +decide only[LN,LI,E,reduceIte,Nat.reduceAdd,Nat.reduceMul,qB,qC,L,HF,EN, *,-h];exact Is.mk _
 refine an ?_
 rcases dQ (decide (v6<(List.length U:Int)))with ah | ah
 ·replace h:=bR ah h
  refine Da (by simp +decide only[LN,LI,F,reduceIte,Nat.reduceAdd,qB,qC,EN, *,-h]) ?_
  refine sk (an (sq (bk (sq ?_))))
  obtain⟨aj,al,h⟩:=bind_some h
  obtain⟨aw,ax,ay⟩:=aO al
  apply iD
  ·simp +decide only[LN,LI,E,reduceIte,Nat.reduceAdd,Nat.reduceMul,qB,qC,L,HF,KX,M.aES.en,EN, *,-h];exact Is.mk _
  refine an (sq ?_)
  obtain⟨ao,aq,h⟩:=bind_some h
  apply iD
  ·simp +decide only[LN,LI,E,reduceIte,Nat.reduceAdd,Nat.reduceMul,qB,qC,L,KX,EN, *,-h]
   refine⟨_,ZC _ _ _ aq,?_⟩
   try simp +decide only[LN,LI,E,reduceIte,Nat.reduceAdd,Nat.reduceMul,qB,qC,L,KX,EN, *,-h]
   exact Is.mk _
  refine an ?_
  rcases Ep (!ao)with ai | ai
  ·replace h:=bQ ai h;refine DD (by simp +decide only[LN,LI,F,reduceIte,Nat.reduceAdd,qB,qC,EN, *,-h]) ?_;refine sk (ab (an ?_));apply iD;(simp +decide only[LN,LI,E,reduceIte,Nat.reduceAdd,Nat.reduceMul,qB,qC,L,EN, *,-h];exact Is.mk _);refine BN ⟨mL1,jD,C,i64.wrap (v6+1),U,?_,?_,?_,?_,?_,?_,?_,?_,?_,?_,?_,?_,h⟩;all_goals simp +decide only[LN,LI,F,reduceIte,Nat.reduceAdd,qB,qC,EN,M.aES.en, *,-h]
  replace h:=bR ai h
  refine Da (by simp +decide only[LN,LI,F,reduceIte,Nat.reduceAdd,qB,qC,EN, *,-h]) ?_
  refine sq ?_
  obtain⟨az,ar,h⟩:=bind_some h
  obtain⟨ba,bd,bf⟩:=aO ar
  apply iD
  ·simp +decide only[LN,LI,E,reduceIte,Nat.reduceAdd,Nat.reduceMul,qB,qC,L,HF,KX,M.aES.en,EN, *,-h];exact Is.mk _
  refine an ?_
  refine Cf (J:=λs=>s.t 0=vR 200008 1/\s.t 1 = .v false [.clo 589 [(3,1,0)]]/\s.t 5=vI C/\s.t 6=vI v6/\s.fr 2=vP 2 1 0/\s.fr 4=vP 4 1 0/\s.fr 6=vP 6 1 0/\s.h 2=(1,oX 117 (M.aC.en p0))/\s.h 3=(1,oX 533 (M.cP.en p1))/\s.h 4=(1,oB 117 [cS (⟨#[]⟩:ByteArray),.nil,cI 0])/\s.h 6=(1,oB 117 [cS x1.Name,.row 200008 1,cI x1.aEo])/\s.h 200008=(1,.row 260 4 (List.map M.aES.en (List.set U C.toNat aj)) false)/\True) ?_ ?_
  ·and_intros<;>(try simp +decide only[LN,LI,F,reduceIte,Nat.reduceAdd,qB,qC,EN,M.aES.en, *,-h])
  rintro bg f48
  apply iD
  ·simp +decide only[LN,LI,E,reduceIte,Nat.reduceAdd,Nat.reduceMul,qB,qC,L,EN, *,-h];exact Is.mk _
  refine ab (an ?_)
  apply iD
  ·simp +decide only[LN,LI,E,reduceIte,Nat.reduceAdd,Nat.reduceMul,qB,qC,L,EN, *,-h];exact Is.mk _
  refine BN ⟨mL1,jD,i64.wrap (C+1),i64.wrap (v6+1),List.set U C.toNat aj,?_,?_,?_,?_,?_,?_,?_,?_,?_,?_,?_,?_,h⟩
  all_goals simp +decide only[LN,LI,F,reduceIte,Nat.reduceAdd,qB,qC,EN,M.aES.en, *,-h]
 replace h:=bQ ah h
 refine DD (by simp +decide only[LN,LI,F,reduceIte,Nat.reduceAdd,qB,qC,EN, *,-h]) ?_
 refine xt (CS (CL (Ft (an (sq ?_)))))
 obtain⟨bh,I,h⟩:=bind_some h
 apply iD
 ·simp +decide only[LN,LI,E,reduceIte,Nat.reduceAdd,Nat.reduceMul,qB,qC,<-List.map_take,<-List.map_drop,L,HF,KX,M.aES.en,EN, *,-h]
  refine⟨by first | exact Ky I | exact(Ky I).2 | exact(Ky I).2.2,?_⟩
  try simp +decide only[LN,LI,E,reduceIte,Nat.reduceAdd,Nat.reduceMul,qB,qC,<-List.map_take,<-List.map_drop,L,HF,KX,M.aES.en,EN, *,-h]
  refine⟨by first | exact L1 I | exact(L1 I).2 | exact(L1 I).2.2 | (have hb:=L1 I;simpa using hb),?_⟩
  try simp +decide only[LN,LI,E,reduceIte,Nat.reduceAdd,Nat.reduceMul,qB,qC,<-List.map_take,<-List.map_drop,L,HF,KX,M.aES.en,EN, *,-h]
  exact Is.mk _
 refine an (sq ?_)
 apply iD
 ·simp +decide only[LN,LI,E,reduceIte,Nat.reduceAdd,Nat.reduceMul,qB,qC,<-List.map_take,<-List.map_drop,L,HF,KX,M.aES.en,EN, *,-h]
  refine⟨by first | exact NS (f:=M.aES.en) I | exact(NS (f:=M.aES.en) I).2 | exact(NS (f:=M.aES.en) I).2.2 | (have hb:=NS (f:=M.aES.en) I;simpa using hb),?_⟩
  try simp +decide only[LN,LI,E,reduceIte,Nat.reduceAdd,Nat.reduceMul,qB,qC,<-List.map_take,<-List.map_drop,L,HF,KX,M.aES.en,EN, *,-h]
  exact Is.mk _
 refine an (rt ?_)
 apply V5.mk (l:=[(false,[.part 200008 1 0 C.toNat])]) (by simp[LN,LI,EN,b5,ae,f21,f22,f23,f24,f25,f26,f27,f28,f29,f30,f31,f32,ah])
 ·simp +decide only[RK,LN,LI,E,reduceIte,Nat.reduceAdd,Nat.reduceMul,qB,qC,L,HF,GK,EN, *,-h];exact Is.mk _
 refine an (sq ?_)
 refine Fq (Gho.VS (b:=6) (vb:=1) (t:=117) (cells:=[.dat (.str x1.Name),.part 200008 1 0 C.toNat,.dat (.int .i64 x1.aEo)]) (c:=1) (j:=200008) (vj:=1) (K:=200008) (n:=C.toNat) (e:=260) (sz:=4) (dp:=false) (xs:=List.map M.aES.en (List.take C.toNat U)++List.replicate (List.length U-C.toNat) [.opq,.opq,.opq,.opq]) (List.map M.aES.en (List.take C.toNat U)) (by first | (simp +decide only[LN,LI,F,reduceIte,Nat.reduceAdd,qB,qC,EN, *,-h];done)| (simp +decide only[LN,LI,F,reduceIte,Nat.reduceAdd,qB,qC,EN, *,-h];rfl)| rfl) rfl (by first | (simp +decide only[LN,LI,F,reduceIte,Nat.reduceAdd,qB,qC,EN, *,-h];done)| (simp +decide only[LN,LI,F,reduceIte,Nat.reduceAdd,qB,qC,EN, *,-h];rfl)| rfl) jG ((NS (f:=M.aES.en) I).2) (TN I)) ?_
 refine Cf (J:=λs=>s.t 2=vP 2 1 0/\s.t 4=vP 4 1 0/\s.t 6=vP 6 1 0/\s.h 2=(1,oX 117 (M.aC.en p0))/\s.h 4=(1,oB 117 [cS (⟨#[]⟩:ByteArray),.nil,cI 0])/\s.h 6=(1,oB 117 [cS x1.Name,.row 200008 2,cI x1.aEo])/\s.h 200008=(2,.row 260 4 (List.map M.aES.en (List.take C.toNat U)) false)/\True) ?_ ?_
 ·and_intros<;>(try simp +decide only[LN,LI,F,reduceIte,Nat.reduceAdd,qB,qC,EN,M.aES.en, *,-h])
 rintro bj f63
 apply E3 mixed
 ·simp +decide only[LN,LI,E,reduceIte,Nat.reduceAdd,Nat.reduceMul,qB,qC,L,HF,GK,EN, *,-h];exact⟨.mk jH,Is.mk _⟩
 refine an (frb 4 1 200008 ?_)
 refine rt ?_
 cases h
 simp[Ret,LN,LI,EN,GK,M.aES.en, *]
instance c62:aZ 62 (∀p0 p1 p2 r (h:oD p0 p1 p2=some r),Sc 62 [aX (M.aA.en p0),aS p1,aI p2] [(true,M.aA.rs r.1),rB r.2]):=⟨λp0 p1 p2 r h=>by
 have i1:=λ(x1:M.aA)=>inv λm s=>∃v10:Int,(s.t 1=vS p1/\s.t 2=vI p2/\s.t 3=vP 3 1 0/\s.t 6=vP 6 1 0/\s.t 8=vP 8 1 0/\s.t 10=vI v10/\s.h 3=(1,oX 129 (M.aA.en p0))/\s.h 6=(1,oB 129 [.nil])/\s.h 8=(1,oB 129 [.row 100012 1])/\s.h 100012=(1,oW 262 2 M.Field.en x1.aEN))/\kM p0 p1 p2 x1 m v10=some r
 have e1:=@kM.eq_2
 unfold oD at h
 exact sgo 61 [.cell 6 129,.tmp 7] Tryz.func62⟩
theorem aDI(p0 p1 r)(h:DC p0 p1=some r):Sc 452 [aX (M.aC.en p0),aX (M.Op.en p1)] [(true,M.aC.ra r.1),rI r.2.1,rB r.2.2]:=by
 unfold DC at h
 simp only[EN]
 refine sgn 132 [.cell 4 117,.tmp 5,.tmp 6] Tryz.func452 λbase wd => ?_
 refine sq (rn ?_)
 refine an (sq ?_)
 obtain⟨x1,h2,h⟩:=bind_some h
 refine rn1 (X3.1 _ _ _ h2) ?_
 refine an (sq (sq (rn ?_)))
 refine an (bk (sq (rn ?_)))
 refine an ?_
 rcases dQ (p1.aEc==1)with b3 | b3
 ·replace h:=bR b3 h;refine ct (sq ?_);obtain⟨x4,h5,h⟩:=bind_some h;refine rn1 (WG.1 _ _ _ _ h5) ?_;refine an (sq (rn ?_));refine an (frb 4 1 200036 ?_);refine rt ?_;cases h;simp[Ret,TB,EN, *]
 replace h:=bQ b3 h
 refine cf (sq (rn ?_))
 refine an ?_
 rcases dQ (p1.aEc==2)with b6 | b6
 ·replace h:=bR b6 h;refine ct (sq ?_);obtain⟨x7,h8,h⟩:=bind_some h;refine rn1 (aDV _ _ _ _ h8) ?_;refine an (sq (rn ?_));refine an (frb 4 1 200049 ?_);refine rt ?_;cases h;simp[Ret,TB,EN, *]
 replace h:=bQ b6 h
 refine cf (sq (rn ?_))
 refine an ?_
 rcases dQ (p1.aEc==3)with b9 | b9
 ·replace h:=bR b9 h;refine ct (sq ?_);obtain⟨bh,C,h⟩:=bind_some h;refine rn1 (aAr _ _ _ C) ?_;refine an (sq (rn ?_));refine an (rt ?_);cases h;simp[Ret,TB,EN, *]
 replace h:=bQ b9 h
 refine cf (sq (rn ?_))
 refine an ?_
 rcases dQ (p1.aEc==5)with ae | ae
 ·replace h:=bR ae h;refine ct (sq ?_);obtain⟨bj,I,h⟩:=bind_some h;refine rn1 (aAr _ _ _ I) ?_;refine an (sq (rn ?_));refine an (rt ?_);cases h;simp[Ret,TB,EN, *]
 replace h:=bQ ae h
 refine cf (sq (rn ?_))
 refine an ?_
 rcases dQ (p1.aEc==4)with af | af
 ·replace h:=bR af h;refine ct (sq (sq (rn ?_)));refine an ?_;rcases dQ (decide (x1<0))with ah | ah;(replace h:=bR ah h;refine ct (sq (rn ?_));refine an (rt ?_);cases h;simp[Ret,TB,EN, *]);replace h:=bQ ah h;refine cf (sk (an (sq ?_)));obtain⟨bl,J,h⟩:=bind_some h;obtain⟨bm,bn,bo⟩:=aO J;refine rd mixed ?_;refine an (rt ?_);cases h;simp[Ret,TB,EN, *]
 replace h:=bQ af h
 refine cf (sk (ab (an (sq (rn ?_)))))
 refine an (sq (sq (rn ?_)))
 refine an ?_
 rcases Ep (decide (x1>=0))with ai | ai
 ·replace h:=bQ ai h;refine cf (sk (an (sq ?_)));obtain⟨bq,U,h⟩:=bind_some h;refine rn1 (WL.1 _ _ _ U) ?_;refine an (sq ?_);obtain⟨av,aw,h⟩:=bind_some h;refine rn1 (c62.1 _ _ _ _ aw) ?_;refine an (sq (sq (rn ?_)));refine an ?_;rcases dQ (!av.2)with aj | aj;(replace h:=bR aj h;refine ct (sq (rn ?_));refine an (rt ?_);cases h;simp[Ret,TB,EN, *]);replace h:=bQ aj h;refine cf (sk (an (sq ?_)));obtain⟨br,ax,h⟩:=bind_some h;refine rn1 (WG.1 _ _ _ _ ax) ?_;refine an (sq (rn ?_));refine an (frb 4 1 200125 ?_);refine rt ?_;cases h;simp[Ret,TB,EN, *]
 replace h:=bR ai h
 refine ct ?_
 obtain⟨bt,ay,h⟩:=bind_some h
 obtain⟨bu,bw,bz⟩:=aO ay
 refine rn ?_
 refine an (sq ?_)
 obtain⟨az,ba,h⟩:=bind_some h
 refine rn1 (WL.1 _ _ _ ba) ?_
 refine an (sq ?_)
 obtain⟨bd,bf,h⟩:=bind_some h
 refine rn1 (c62.1 _ _ _ _ bf) ?_
 refine an (sq (sq (rn ?_)))
 refine an ?_
 rcases dQ (!bd.2)with ak | ak
 ·replace h:=bR ak h;refine ct (sq (rn ?_));refine an (rt ?_);cases h;simp[Ret,TB,EN, *]
 replace h:=bQ ak h
 refine cf (sk (an (sq ?_)))
 obtain⟨j,bg,h⟩:=bind_some h
 refine rn1 (WG.1 _ _ _ _ bg) ?_
 refine an (sq ?_)
 refine cu (λs=>s.t 4=vP 4 1 0/\s.t 17=vI az.1/\s.t 20=vP 20 1 0/\s.t 21=vB j.2/\s.h 4=(1,oB 117 [cS (⟨#[]⟩:ByteArray),.nil,cI 0])/\s.h 20=(1,oB 117 [cS j.1.Name,.row 200125 1,cI j.1.aEo])/\s.h 200125=(1,oW 260 4 M.aES.en j.1.aEM)/\True) ?_
 rintro c5 f36
 refine rn ?_
 refine an (frb 4 1 200125 ?_)
 refine rt ?_
 cases h
 simp[Ret,TB,EN, *]
instance:aZ 202 (∀p0 p1 p2 r (h:vZ p0 p1 p2=some r),Sc 202 [aL enB p0,aI p1,aL enB p2] [rW 5 1 enB r.1,rB r.2]):=⟨λp0 p1 p2 r h=>by unfold vZ at h;exact sgo 26 [.tmp 6,.tmp 7] Tryz.func202⟩
instance:aZ 384 (∀p0 r (h:yC p0=some r),Sc 384 [aX (M.aU.en p0)] [rB r]):=⟨λp0 r h=>by
 have i1:=inv λm s=>∃aa:Int,(s.t 1=vP 1 1 0/\s.t 3=vI (List.length p0.aEm:Int)/\s.t 10=vL M.bB.en p0.aEm/\s.t 11=vI (List.length p0.aEm:Int)/\s.t 12=vI aa/\s.h 1=(1,oX 120 (M.aU.en p0)))/\kH p0 m aa=some r
 have e1:=@kH.eq_2
 unfold yC at h
 exact sgo 51 [.tmp 2] Tryz.func384⟩
instance:aZ 386 (∀p0 r (h:wK p0=some r),Sc 386 [aX (M.aF.en p0)] [rB r]):=⟨λp0 r h=>by unfold wK at h;exact sgo 23 [.tmp 2] Tryz.func386⟩
instance:aZ 480 (∀p0 r (h:pG p0=some r),Sc 480 [aX (M.aC.en p0)] [rI r]):=⟨λp0 r h=>by
 have i1:=inv λm s=>∃v3:Int,∃v9:Int,(s.t 3=vI v3/\s.t 7=vL M.aES.en p0.aEM/\s.t 8=vI (List.length p0.aEM:Int)/\s.t 9=vI v9)/\iI p0 m v3 v9=some r
 have e1:=@iI.eq_2
 unfold pG at h
 exact sgo 26 [.tmp 2] Tryz.func480⟩
instance:aZ 561 (∀p0 r (h:oI p0=some r),Sc 561 [aX (M.aEK.en p0)] [rI r]):=⟨λp0 r h=>by
 have i1:=inv λm s=>∃v3:Int,∃v9:Int,(s.t 3=vI v3/\s.t 7=vL M.aC.en p0.aEU/\s.t 8=vI (List.length p0.aEU:Int)/\s.t 9=vI v9)/\fG p0 m v3 v9=some r
 have e1:=@fG.eq_2
 unfold oI at h
 exact sgo 19 [.tmp 2] Tryz.func561⟩
instance:aZ 479 (∀p0 r (h:BI p0=some r),Sc 479 [aX (M.bK.en p0)] [rI r]):=⟨λp0 r h=>by unfold BI at h;exact sgo 10 [.tmp 2] Tryz.func479⟩
