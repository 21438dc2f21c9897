/-
  Helper text. No conditions.
-/
import Derived.Test.YtndidbigdalbnaaGreatNotesWimpl2
import Derived.Test.YtndidbigdalbnaaGreatNotesWimpl3
set_option linter.all false
namespace Go.Proofs.YtndidbigdalbnaaGreat.gen
open Go Go.Sh Tryz
set_option maxRecDepth 20000
set_option maxHeartbeats 4000000
instance c58:bU 58 (∀p0 r (h:eC p0=some r),Sc 58 [aX (M.aKc.en p0)] [(true,M.aKc.rs r)]):=⟨λp0 r h=>by
 have i1:=He [.b 3 2 7050000 66 3] λm s=>∃af:Int,∃aa:List M.aD,∃ae:Nat,(s.t 2=vP 2 1 0/\s.t 3=vP 3 1 0/\s.t 16=vL M.aD.en p0.aKm/\s.t 17=vI (List.length p0.aKm:Int)/\s.t 18=vI af/\s.h 2=(1,WT)/\s.h 3=(1,oB 56 [cS p0.Name,cI p0.aKb,.row 7050000 ae,.row 100010 2])/\s.h 100010=(2,oW 248 2 M.aV.en p0.aKz)/\s.h 7050000=(ae,oW 66 3 M.aD.en aa))/\iV p0 m af aa=some r
 have e1:=@iV.eq_2
 unfold eC at h
 exact sgo 31 [.cell 2 56] func58⟩
instance:bU 140 (∀p0 r (h:uF p0=some r),Sc 140 [aX (M.aH.en p0)] [(true,M.aH.rs r)]):=⟨λp0 r h=>by unfold uF at h;exact sgo 12 [.cell 2 73] func140⟩
instance:bU 56 (∀p0 r (h:AX p0=some r),Sc 56 [aX (M.aKt.en p0)] [(true,M.aKt.rs r)]):=⟨λp0 r h=>by unfold AX at h;exact sgo 15 [.cell 2 125] func56⟩
instance:bU 116 (∀p0 p1 r (h:A7 p0 p1=some r),Sc 116 [aI p0,aL enB p1] [rI r]):=⟨λp0 p1 r h=>by unfold A7 at h;exact sgo 11 [.tmp 4] func116⟩
theorem aJd(p0 r)(h:zQ p0=some r):Sc 117 [aL enB p0] [(true,M.bD.rs r.1),rB r.2]:=by
 have i1:=λ(x2:Int)=>inv λm s=>∃j:Int,∃v30:Int,(s.t 0=vL enB p0/\s.t 2=vP 2 1 0/\s.t 4=vP 4 1 0/\s.t 5=vL enB (List.drop (1:Int).toNat p0)/\s.t 6=vI j/\s.t 28=vL enB (List.take (6:Int).toNat (List.drop (1:Int).toNat p0))/\s.t 29=vI (List.length (List.take (6:Int).toNat (List.drop (1:Int).toNat p0)):Int)/\s.t 30=vI v30/\s.h 2=(1,oB 98 [cI 0,cI 0,cS (⟨#[]⟩:ByteArray)])/\s.h 4=(1,oB 98 [cI (IntKind.i64.wrap x2),cI 0,cS (⟨#[]⟩:ByteArray)]))/\nG p0 x2 m j v30=some r
 have e1:=@nG.eq_2
 unfold zQ at h
 exact sgo 55 [.cell 2 98,.tmp 3] func117
instance:bU 67 (∀p0 r (h:dA p0=some r),Sc 67 [aX (M.aF.en p0)] [rB r]):=⟨λp0 r h=>by
 have i1:=inv λm s=>∃v8:Int,(s.t 1=vP 1 1 0/\s.t 6=vL M.aR.en p0.aKj/\s.t 7=vI (List.length p0.aKj:Int)/\s.t 8=vI v8/\s.h 1=(1,oX 90 (M.aF.en p0)))/\mC p0 m v8=some r
 have e1:=@mC.eq_2
 unfold dA at h
 exact sgo 44 [.tmp 2] func67⟩
instance:bU 311 (∀p0 p1 p2 r (h:Ab p0 p1 p2=some r),Sc 311 [aX (M.aKy.en p0),aX (M.aKy.en p1),aS p2] [rB r]):=⟨λp0 p1 p2 r h=>by unfold Ab at h;exact sgo 41 [.tmp 6] func311⟩
instance:bU 315 (∀p0 p1 r (h:Bz p0 p1=some r),Sc 315 [aX (M.bD.en p0),aX (M.fY.en p1)] [rB r]):=⟨λp0 p1 r h=>by unfold Bz at h;exact sgo 50 [.tmp 4] func315⟩
instance:bU 193 (∀p0 r (h:Al p0=some r),Sc 193 [aX (M.aKd.en p0)] [rB r]):=⟨λp0 r h=>by
 unfold Al at h
 simp only[EN]
 refine sgn 37 [.tmp 2] func193 λbase wd=> ?_
 refine sq (rn ?_)
 refine an (sq (rn ?_))
 refine an (sq (sq (rn ?_)))
 refine an (bk ?_)
 obtain⟨V1,eV1⟩:=nmH ((1,oW 3 1 enI ([p0.aLL,p0.aLH,p0.aLB])))
 refine cu (λs=>s.t 1=vP 1 1 0/\s.t 3=vI 0/\s.t 12=vR 100012 1/\s.t 13=vI ((3:Nat):Int)/\s.t 14=vI 0/\s.h 1=(1,oX 60 (M.aKd.en p0))/\s.h 100012=V1/\True) ?_
 rintro s1 f2
 refine HG (λm s=>∃v3:Int,∃aa:Int,s.t 1=vP 1 1 0/\s.t 3=vI v3/\s.t 12=vR 100012 1/\s.t 13=vI ((3:Nat):Int)/\s.t 14=vI aa/\s.h 1=(1,oX 60 (M.aKd.en p0))/\s.h 100012=V1/\eG p0 m v3 aa=some r) aJ ?_ ?_
 ·exact⟨0,0,zM⟩
 rintro mL1 s9 ⟨v3,aa,f10,f11,f12,f13,f14,f15,f16,h⟩
 rcases mL1 with _|mL1
 ·exact absurd h (by simp[eG])
 simp only[eG]at h
 refine sq (rn ?_)
 refine an (sq ?_)
 rcases CP (decide (aa<((3:Nat):Int)))with af|af
 ·replace h:=bP af h;refine cf (xt (CO (CL (Gs (an (sq ?_))))));obtain⟨av,al,h⟩:=aA h;refine rn1 (aFh.1 _ _ al) ?_;exact an (rt zR)
 replace h:=bQ af h
 refine ct (sk (an (sq (bk (sq ?_)))))
 obtain⟨ae,ao,h⟩:=aA h
 obtain⟨aw,ax,aq⟩:=pK ao
 have q20m:=congrArg (Option.map enI) (show([p0.aLL,p0.aLH,p0.aLB])[aa.toNat]? =some ae by assumption)
 simp only[<-List.getElem?_map,jJ,jK,Option.map_some,EN]at q20m
 simp only[qJ,qK,Nat.reduceAdd]at aq
 refine rn ?_
 refine an (sq (sq ?_))
 obtain⟨ar,ah,h⟩:=aA h
 rcases gK (!ar)with ai|ai
 ·replace h:=bQ ai h;refine rn1 (aDp.1 _ _ _ _ ah) ?_;refine an (ct (sq (rn ?_)));exact an (rt zR)
 replace h:=bP ai h
 rcases CP (ae !=0)with aj|aj
 ·replace h:=bP aj h;refine rn1 (aDp.1 _ _ _ _ ah) ?_;refine an (cf (sk (an (rn ?_))));refine ab (an (rn ?_));exact fB ⟨mL1,wg,if ae>v3 then ae else v3,IntKind.i64.wrap (aa+1),zM⟩
 replace h:=bQ aj h
 refine rn1 (aDp.1 _ _ _ _ ah) ?_
 refine an ?_
 rcases gK (decide (ae<=v3))with ak|ak
 ·replace h:=bQ ak h;refine ct (sq (rn ?_));exact an (rt zR)
 replace h:=bP ak h
 refine cf (sk (an (rn ?_)))
 refine ab (an (rn ?_))
 exact fB ⟨mL1,wg,if ae>v3 then ae else v3,IntKind.i64.wrap (aa+1),zM⟩⟩
instance:bU 194 (∀p0 r (h:AG p0=some r),Sc 194 [aX (M.aN.en p0)] [rB r]):=⟨λp0 r h=>by
 have i1:=inv λm s=>∃v10:Int,(s.t 1=vP 1 1 0/\s.t 8=vL M.aKv.en p0.aKi/\s.t 9=vI (List.length p0.aKi:Int)/\s.t 10=vI v10/\s.h 1=(1,oX 63 (M.aN.en p0)))/\gA p0 m v10=some r
 have e1:=@gA.eq_2
 have i2:=λ(v10:Int) (x8:M.aKv) (af:Int->Option Bool) (s1:St)=>inv λm s=>∃aa:Int,(s.t 1=vP 1 1 0/\s.t 4=vP 4 ((s1.h 4).1+1) 0/\s.t 8=vL M.aKv.en p0.aKi/\s.t 9=vI (List.length p0.aKi:Int)/\s.t 10=vI v10/\s.t 42=vL M.aK2.en x8.aKs/\s.t 43=vI (List.length x8.aKs:Int)/\s.t 44=vI aa/\s.h 1=(1,oX 63 (M.aN.en p0))/\s.h 4=((s1.h 4).1+1,oX 262 (M.aKv.en x8)))/\gB x8 af m aa=some r
 have e2:=@gB.eq_2
 have i3:=λ(v10:Int) (x8:M.aKv) (ah:Int->Option Bool) (s1:St)=>inv λm s=>∃ae:Int,(s.t 1=vP 1 1 0/\s.t 4=vP 4 ((s1.h 4).1+1) 0/\s.t 8=vL M.aKv.en p0.aKi/\s.t 9=vI (List.length p0.aKi:Int)/\s.t 10=vI v10/\s.t 42=vL M.aK2.en x8.aKs/\s.t 43=vI (List.length x8.aKs:Int)/\s.t 44=vI ae/\s.h 1=(1,oX 63 (M.aN.en p0))/\s.h 4=((s1.h 4).1+1,oX 262 (M.aKv.en x8)))/\fQ x8 ah m ae=some r
 have e3:=@fQ.eq_2
 unfold AG at h
 exact sgo 81 [.tmp 2] func194⟩
instance:bU 318 (∀p0 r (h:pR p0=some r),Sc 318 [aX (M.cH.en p0)] [rB r]):=⟨λp0 r h=>by unfold pR at h;exact sgo 26 [.tmp 2] func318⟩
theorem aJc(p0 p1 r)(h:tW p0 p1=some r):Sc 273 [aX (M.aK2.en p0),aX (M.aK2.en p1)] [rB r]:=by unfold tW at h;exact sgo 24 [.tmp 4] func273
instance c99:bU 99 (∀p0 p1 r (h:iY p0 p1=some r),Sc 99 [aX (M.aD.en p0),aX (M.aD.en p1)] [rB r]):=⟨λp0 p1 r h=>by
 unfold iY at h
 simp only[EN]
 refine sgn 24 [.tmp 4] func99 λbase wd=> ?_
 refine sq (rn ?_)
 refine an (sq ?_)
 rcases CP (p0.Name.toList==p1.Name.toList)with b1|b1
 ·replace h:=bP b1 h;refine rn ?_;exact an (rt zR)
 replace h:=bQ b1 h
 rcases CP (p0.aK7==p1.aK7)with b2|b2
 ·replace h:=bP b2 h;refine rn ?_;exact an (rt zR)
 replace h:=bQ b2 h
 obtain⟨x3,h4,h⟩:=aA h
 refine rn1 (aJg p0.aKg p1.aKg (λz0 z1=>xJ z0 z1) 167 [] (λz0 z1 r hr=>aJm z0 z1 r hr) x3 h4) ?_
 exact an (rt zR)⟩
