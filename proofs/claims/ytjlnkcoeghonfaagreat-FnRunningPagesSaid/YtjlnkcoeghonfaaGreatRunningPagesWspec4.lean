/-
  Helper text. No conditions.
-/
import Derived.Test.YtjlnkcoeghonfaaGreatRunningPagesWspec0
import Derived.Test.YtjlnkcoeghonfaaGreatRunningPagesWspec1
import Derived.Test.YtjlnkcoeghonfaaGreatRunningPagesWspec2
set_option linter.all false
namespace Go.Proofs.YtjlnkcoeghonfaaGreat.gen
open Go Go.Sh Tryz
set_option maxRecDepth 20000
set_option maxHeartbeats 4000000
instance:bK 88 (∀p0 r (h:B6 p0=some r),Sc 88 [aX (M.aLa.en p0)] [rB r]):=⟨λp0 r h=>by
 have i1:=inv λm s=>∃v3:Int,(s.t 1=vP 1 1 0/\s.t 3=vI v3/\s.h 1=(1,oX 151 (M.aLa.en p0)))/\nK p0 m v3=some r
 have e1:=@nK.eq_2
 unfold B6 at h
 exact sgo 50 [.tmp 2] func88⟩
instance:bK 205 (∀p0 r (h:mJ p0=some r),Sc 205 [aX (M.bR.en p0)] [rB r]):=⟨λp0 r h=>by unfold mJ at h;exact sgo 26 [.tmp 2] func205⟩
instance:bK 319 (∀p0 r (h:pB p0=some r),Sc 319 [aX (M.aLU.en p0)] [rB r]):=⟨λp0 r h=>by
 unfold pB at h
 simp only[EN]
 refine sgn 52 [.tmp 2] func319 λbase wd=> ?_
 refine sq (rn ?_)
 refine an (sq (rn ?_))
 refine an (sq (rn ?_))
 refine an (sq (sq ?_))
 obtain⟨V1,eV1⟩:=nmH ((1,oW 3 1 enI ([p0.aMA,p0.aL6,p0.aL0])))
 refine cu (λs=>s.t 1=vP 1 1 0/\s.t 3=vI 0/\s.t 4=vR 100012 1/\s.h 1=(1,oX 63 (M.aLU.en p0))/\s.h 100012=V1/\True) ?_
 rintro s1 f2
 refine rn ?_
 refine an (bk ?_)
 refine Hn (λm s=>∃v3:Int,∃v5:Int,s.t 1=vP 1 1 0/\s.t 3=vI v3/\s.t 4=vR 100012 1/\s.t 5=vI v5/\s.h 1=(1,oX 63 (M.aLU.en p0))/\s.h 100012=V1/\cV p0 m v3 v5=some r) aH ?_ ?_
 ·exact⟨0,0,zM⟩
 rintro mL1 s7 ⟨v3,v5,f8,f9,f10,f11,f12,f13,h⟩
 rcases mL1 with _|mL1
 ·exact absurd h (by simp[cV])
 simp only[cV]at h
 refine sq (sq (rn ?_))
 refine an ?_
 rcases Dz (decide (v5<((3:Nat):Int)))with ae|ae
 ·replace h:=bM ae h;refine cf (xt (Da (CW (GI (an (sq ?_))))));obtain⟨ar,ak,h⟩:=aA h;refine rn1 (aDX.1 _ _ ak) ?_;exact an (rt zR)
 replace h:=bN ae h
 refine ct (sk (an (sq (bk (sq (sq ?_))))))
 obtain⟨aa,al,h⟩:=aA h
 obtain⟨av,aw,ao⟩:=nJ al
 have q17m:=congrArg (Option.map enI) (show([p0.aMA,p0.aL6,p0.aL0])[v5.toNat]? =some aa by assumption)
 simp only[<-List.getElem?_map,jI,jJ,Option.map_some,EN]at q17m
 simp only[qJ,qK,Nat.reduceAdd]at ao
 obtain⟨aq,af,h⟩:=aA h
 rcases dX (!aq)with ah|ah
 ·replace h:=bN ah h;refine rn1 (c93.1 _ _ _ _ af) ?_;refine an (ct (sq (rn ?_)));exact an (rt zR)
 replace h:=bM ah h
 rcases Dz (aa !=0)with ai|ai
 ·replace h:=bM ai h;refine rn1 (c93.1 _ _ _ _ af) ?_;refine an (cf (sk (an (sq (rn ?_)))));refine an (cf (sk (ab (an (rn ?_)))));exact cZ ⟨mL1,wi,v3,IntKind.i64.wrap (v5+1),zM⟩
 replace h:=bN ai h
 refine rn1 (c93.1 _ _ _ _ af) ?_
 refine an ?_
 rcases dX (decide (aa<=v3))with aj|aj
 ·replace h:=bN aj h;refine ct (sq (rn ?_));exact an (rt zR)
 replace h:=bM aj h
 refine cf (sk (an (sq (rn ?_))))
 refine an (ct (rn ?_))
 refine ab (an (rn ?_))
 exact cZ ⟨mL1,wi,aa,IntKind.i64.wrap (v5+1),zM⟩⟩
instance:bK 441 (∀p0 r (h:yI p0=some r),Sc 441 [aL M.aLr.en p0] [rB r]):=⟨λp0 r h=>by
 have i1:=inv λm s=>∃v3:Int,(s.t 0=vL M.aLr.en p0/\s.t 3=vI v3)/\fZ p0 m v3=some r
 have e1:=@fZ.eq_2
 have i2:=λ(v3:Int) (x5:M.aLr) (ae:Int->Option Bool)=>inv λm s=>∃aa:Int,(s.t 0=vL M.aLr.en p0/\s.t 3=vI v3/\s.t 4=vI aa)/\kA p0 v3 x5 ae m aa=some r
 have e2:=@kA.eq_2
 unfold yI at h
 exact sgo 68 [.tmp 2] func441⟩
instance:bK 349 (∀p0 r (h:nG p0=some r),Sc 349 [aX (M.bD.en p0)] [rW 5 1 enB r]):=⟨λp0 r h=>by
 have i1:=inv λm s=>∃v4:Int,∃aa:List Int,∃ae:Nat,(s.t 1=vP 1 1 0/\s.t 3=vR 100012 ae/\s.t 4=vI v4/\s.h 1=(1,oX 216 (M.bD.en p0))/\s.h 100012=(ae,oW 5 1 enB aa))/\bU p0 m v4 aa=some r
 have e1:=@bU.eq_2
 unfold nG at h
 exact sgo 38 [.tmp 2] func349⟩
instance:bK 348 (∀p0 p1 r (h:cF p0 p1=some r),Sc 348 [aL enB p0,aL enB p1] [rW 5 1 enB r]):=⟨λp0 p1 r h=>by unfold cF at h;exact sgo 11 [.tmp 4] func348⟩
instance:bK 95 (∀p0 r (h:A7 p0=some r),Sc 95 [aX (M.aT.en p0)] [rB r]):=⟨λp0 r h=>by
 have i1:=inv λm s=>∃v3:Int,(s.t 1=vP 1 1 0/\s.t 3=vI v3/\s.h 1=(1,oX 43 (M.aT.en p0)))/\hJ p0 m v3=some r
 have e1:=@hJ.eq_2
 have i2:=λ(v3:Int) (x6:M.uY) (ae:Int->Option Bool) (s1:St)=>inv λm s=>∃aa:Int,(s.t 1=vP 1 1 0/\s.t 3=vI v3/\s.t 4=vP 4 ((s1.h 4).1+1) 0/\s.t 5=vI aa/\s.h 1=(1,oX 43 (M.aT.en p0))/\s.h 4=((s1.h 4).1+1,oX 144 (M.uY.en x6)))/\dK p0 v3 x6 ae m aa=some r
 have e2:=@dK.eq_2
 unfold A7 at h
 exact sgo 67 [.tmp 2] func95⟩
theorem aKY(p0 p1 r)(h:zL p0 p1=some r):Sc 500 [aX (M.aT.en p0),aI p1] [(true,M.aT.rs r)]:=by
 have i1:=G8 [.b 5 0 7050000 144 4] λm s=>∃I:Int,∃j:List M.uY,∃C:Nat,(s.t 1=vI p1/\s.t 2=vP 2 1 0/\s.t 4=vP 4 1 0/\s.t 5=vP 5 1 0/\s.t 6=vI I/\s.h 2=(1,oX 43 (M.aT.en p0))/\s.h 4=(1,oB 43 [.nil])/\s.h 5=(1,oB 43 [.row 7050000 C])/\s.h 7050000=(C,oW 144 4 M.uY.en j))/\fT p0 p1 m I j=some r
 have e1:=@fT.eq_2
 unfold zL at h
 exact sgo 35 [.cell 4 43] func500
instance aEX:bK 430 (∀p0 p1 r (h:kD p0 p1=some r),Sc 430 [(false,[.ptr [.sl (List.map enB p0.b),.int .i64 p0.i,.int .i64 p0.h]]),aL enS p1] [(false,[.edit (.lend 256 [.int .i64 r.1,.int .i64 r.2.1])]),rS r.2.2]):=⟨λp0 p1 r h=>by
 unfold kD at h
 simp only[EN]
 refine sgB 12 [.tmp 4] func430 λbase wd B0 u0 hw0=> ?_
 refine cY (J:=λs=>s.t 0=vP 7059000 1 0/\s.t 1=vL enS p1/\s.h 7059000=(1,oB 256 [.old B0 (.sl (List.map enB p0.b)) (some u0),cI p0.i,cI p0.h])/\True) ?_ ?_
 ·and_intros<;>(try simp only[LN,jI,jJ])<;>rfl
 rintro s1 f2
 exact sgX⟩
instance c76:bK 76 (∀p0 p1 r (h:dF p0 p1=some r),Sc 76 [(false,[.ptr [.sl (List.map enB p0.b),.int .i64 p0.i,.int .i64 p0.h]]),aI p1] [(false,[.edit (.lend 256 [.int .i64 r.1,.int .i64 r.2.1])]),rB r.2.2]):=⟨λp0 p1 r h=>by
 unfold dF at h
 simp only[EN]
 refine sgB 9 [.tmp 4] func76 λbase wd B0 u0 hw0=> ?_
 refine cY (J:=λs=>s.t 0=vP 7059000 1 0/\s.t 1=vI p1/\s.h 7059000=(1,oB 256 [.old B0 (.sl (List.map enB p0.b)) (some u0),cI p0.i,cI p0.h])/\True) ?_ ?_
 ·and_intros<;>(try simp only[LN,jI,jJ])<;>rfl
 rintro s1 f2
 exact sgX⟩
instance:bK 460 (∀p0 r (h:E8 p0=some r),Sc 460 [aL enI p0] [rI r]):=⟨λp0 r h=>by
 have i1:=inv λm s=>∃v3:Int,∃v4:Int,(s.t 0=vL enI p0/\s.t 3=vI v3/\s.t 4=vI v4)/\Bc p0 m v3 v4=some r
 have e1:=@Bc.eq_2
 unfold E8 at h
 exact sgo 22 [.tmp 2] func460⟩
instance aDL:bK 306 (∀p0 p1 r (h:cD p0 p1=some r),Sc 306 [(false,[.ptr [.sl (List.map enB p0.b),.int .i64 p0.i,.int .i64 p0.h]]),aL enI p1] [(false,[.edit (.lend 256 [.int .i64 r.1,.int .i64 r.2.1])]),rI r.2.2]):=⟨λp0 p1 r h=>by
 unfold cD at h
 simp only[EN]
 refine sgB 12 [.tmp 4] func306 λbase wd B0 u0 hw0=> ?_
 refine cY (J:=λs=>s.t 0=vP 7059000 1 0/\s.t 1=vL enI p1/\s.h 7059000=(1,oB 256 [.old B0 (.sl (List.map enB p0.b)) (some u0),cI p0.i,cI p0.h])/\True) ?_ ?_
 ·and_intros<;>(try simp only[LN,jI,jJ])<;>rfl
 rintro s1 f2
 exact sgX⟩
instance:bK 96 (∀p0 p1 r (h:uL p0 p1=some r),Sc 96 [aX (M.aJ.en p0),aX (M.aJ.en p1)] [rB r]):=⟨λp0 p1 r h=>by
 have i1:=inv λm s=>∃v5:Int,(s.t 2=vP 2 1 0/\s.t 3=vP 3 1 0/\s.t 5=vI v5/\s.h 2=(1,oX 66 (M.aJ.en p0))/\s.h 3=(1,oX 66 (M.aJ.en p1)))/\kR p0 p1 m v5=some r
 have e1:=@kR.eq_2
 have i2:=λ(v5:Int) (x9:M.aLi) (ae:M.aLi) (af:Int->Option Bool) (s2:St)=>inv λm s=>∃aa:Int,(s.t 2=vP 2 1 0/\s.t 3=vP 3 1 0/\s.t 5=vI v5/\s.t 6=vP 6 ((s2.h 6).1+1) 0/\s.t 7=vP 7 ((s2.h 7).1+1) 0/\s.t 8=vI aa/\s.h 2=(1,oX 66 (M.aJ.en p0))/\s.h 3=(1,oX 66 (M.aJ.en p1))/\s.h 6=((s2.h 6).1+1,oX 277 (M.aLi.en x9))/\s.h 7=((s2.h 7).1+1,oX 277 (M.aLi.en ae)))/\gT x9 ae af m aa=some r
 have e2:=@gT.eq_2
 unfold uL at h
 exact sgo 98 [.tmp 4] func96⟩
instance:bK 211 (∀p0 p1 r (h:uU p0 p1=some r),Sc 211 [aX (M.aLS.en p0),aX (M.aLS.en p1)] [rB r]):=⟨λp0 p1 r h=>by
 have i1:=inv λm s=>∃v5:Int,(s.t 2=vP 2 1 0/\s.t 3=vP 3 1 0/\s.t 5=vI v5/\s.h 2=(1,oX 70 (M.aLS.en p0))/\s.h 3=(1,oX 70 (M.aLS.en p1)))/\eM p0 p1 m v5=some r
 have e1:=@eM.eq_2
 have i2:=inv λm s=>∃v6:Int,(s.t 2=vP 2 1 0/\s.t 3=vP 3 1 0/\s.t 6=vI v6/\s.h 2=(1,oX 70 (M.aLS.en p0))/\s.h 3=(1,oX 70 (M.aLS.en p1)))/\eN p0 p1 m v6=some r
 have e2:=@eN.eq_2
 unfold uU at h
 exact sgo 74 [.tmp 4] func211⟩
instance:bK 98 (∀p0 p1 r (h:xM p0 p1=some r),Sc 98 [aX (M.aG.en p0),aX (M.aG.en p1)] [rB r]):=⟨λp0 p1 r h=>by unfold xM at h;exact sgo 24 [.tmp 4] func98⟩
