/-
  Helper text. No conditions.
-/
import Derived.Test.YtbpbocchokbggaaGreatUpdatesWspec5
set_option linter.all false
namespace Go.Proofs.YtbpbocchokbggaaGreat.gen
open Go Go.Sh
set_option maxRecDepth 20000
set_option maxHeartbeats 4000000
instance aAY:bE 105 (∀p0 r (h:gV p0=some r),Sc 105 [aX (M.aI3.en p0)] [(true,M.aI3.rs r)]):=⟨λp0 r h=>by unfold gV at h;exact sgo 18 [.cell 2 126] Tryz.func105⟩
instance:bE 159 (∀p0 r (h:fO p0=some r),Sc 159 [aX (M.aA.en p0)] [(true,M.aA.rs r)]):=⟨λp0 r h=>by
 have i1:=E5 [.b 3 0 7050000 126 24] λm s=>∃v4:Int,∃aa:List M.aI3,∃ae:Nat,(s.t 1=vP 1 1 0/\s.t 2=vP 2 1 0/\s.t 3=vP 3 1 0/\s.t 4=vI v4/\s.h 1=(1,oX 47 (M.aA.en p0))/\s.h 2=(1,oB 47 [.nil])/\s.h 3=(1,oB 47 [.row 7050000 ae])/\s.h 7050000=(ae,oW 126 24 M.aI3.en aa))/\pW p0 m v4 aa=some r
 have e1:=@pW.eq_2
 unfold fO at h
 exact sgo 25 [.cell 2 47] Tryz.func159⟩
instance:bE 434 (∀p0 p1 r (h:xO p0 p1=some r),Sc 434 [aX (M.aD.en p0),aS p1] [(true,M.Key.rs r.1),(true,M.Key.rs r.2.1),rB r.2.2]):=⟨λp0 p1 r h=>by
 have i1:=λ(x1:(List M.aJN))=>inv λm s=>∃v8:Int,(s.t 1=vS p1/\s.t 4=vP 4 1 0/\s.t 5=vP 5 1 0/\s.t 7=vR 100015 1/\s.t 8=vI v8/\s.h 4=(1,oB 136 [cI 0,cI 0,cS (⟨#[]⟩:ByteArray)])/\s.h 5=(1,oB 136 [cI 0,cI 0,cS (⟨#[]⟩:ByteArray)])/\s.h 100015=(1,oW 260 4 M.aJN.en x1))/\nO p1 x1 m v8=some r
 have e1:=@nO.eq_2
 unfold xO at h
 exact sgo 59 [.cell 4 136,.cell 5 136,.tmp 6] Tryz.func434⟩
instance Tl:bE 310 (∀p0 r (h:cF p0=some r),Sc 310 [aX (M.aI2.en p0)] [rB r]):=⟨λp0 r h=>by
 have i1:=inv λm s=>∃v3:Int,(s.t 1=vP 1 1 0/\s.t 3=vI v3/\s.h 1=(1,oX 112 (M.aI2.en p0)))/\fC p0 m v3=some r
 have e1:=@fC.eq_2
 have i2:=inv λm s=>∃v4:Int,(s.t 1=vP 1 1 0/\s.t 4=vI v4/\s.h 1=(1,oX 112 (M.aI2.en p0)))/\fD p0 m v4=some r
 have e2:=@fD.eq_2
 have i3:=λ(v4:Int) (ae:M.aN) (af:Int->Option Bool)=>inv λm s=>∃aa:Int,(s.t 1=vP 1 1 0/\s.t 4=vI v4/\s.t 9=vI aa/\s.h 1=(1,oX 112 (M.aI2.en p0)))/\hH p0 v4 ae af m aa=some r
 have e3:=@hH.eq_2
 unfold cF at h
 exact sgo 124 [.tmp 2] Tryz.func310⟩
instance:bE 564 (∀p0 r (h:wE p0=some r),Sc 564 [aX (M.aI2.en p0)] [rI r]):=⟨λp0 r h=>by
 have i1:=inv λm s=>∃v3:Int,∃v4:Int,(s.t 1=vP 1 1 0/\s.t 3=vI v3/\s.t 4=vI v4/\s.h 1=(1,oX 112 (M.aI2.en p0)))/\iC p0 m v3 v4=some r
 have e1:=@iC.eq_2
 unfold wE at h
 exact sgo 21 [.tmp 2] Tryz.func564⟩
instance:bE 487 (∀p0 r (h:CS p0=some r),Sc 487 [aX (M.bR.en p0)] [rI r]):=⟨λp0 r h=>by unfold CS at h;exact sgo 10 [.tmp 2] Tryz.func487⟩
instance c93:bE 93 (∀p0 r (h:jY p0=some r),Sc 93 [(false,[.ptr [.sl (List.map enB p0.b),.int .i64 p0.i,.int .i64 p0.h]])] [(false,[.edit (.lend 304 [.int .i64 r.1,.int .i64 r.2.1])]),rW 308 4 M.Instr.en r.2.2]):=⟨λp0 r h=>by
 unfold jY at h
 simp only[EN]
 refine sgB 21 [.tmp 2] Tryz.func93 λbase wd B0 u0 hw0=> ?_
 refine dR (J:=λs=>s.t 0=vP 7059000 1 0/\s.h 7059000=(1,oB 304 [.old B0 (.sl (List.map enB p0.b)) (some u0),cI p0.i,cI p0.h])/\True) ?_ ?_
 ·and_intros<;>(try simp only[LN,List.map_cons,List.map_nil])<;>rfl
 rintro s1 f2
 have i1:=λ(x4:(Int×Int×Int))=>inv λm s=>∃v5:Int,∃r8:List M.Instr,∃aa:Int,∃ae:Int,∃u8:Nat,(s.t 0=vP 7059000 1 0/\s.t 3=vI x4.2.2/\s.t 4=vR 100008 u8/\s.t 5=vI v5/\s.h 100008=(u8,oW 308 4 M.Instr.en r8)/\s.h 7059000=(1,oB 304 [.old B0 (.sl (List.map enB p0.b)) (some u0),cI aa,cI ae]))/\mJ p0 x4 m v5 r8 aa ae=some r
 have e1:=@mJ.eq_2
 exact sgX⟩
instance aCn:bE 107 (∀p0 p1 p2 p3 p4 r (h:mA p0 p1 p2 p3 p4=some r),Sc 107 [aI p0,aS p1,aS p2,aI p3,aL M.Instr.en p4] [(true,M.bG.rs r.1),rB r.2]):=⟨λp0 p1 p2 p3 p4 r h=>by unfold mA at h;exact sgo 25 [.cell 10 67,.tmp 11] Tryz.func107⟩
instance:bE 419 (∀p0 p1 p2 r (h:Ae p0 p1 p2=some r),Sc 419 [aX (M.aI7.en p0),aS p1,aI p2] [rW 5 1 enB r]):=⟨λp0 p1 p2 r h=>by
 have i1:=λ(x5:Int)=>inv λm s=>∃v9:Int,∃aa:List Int,∃ae:Nat,(s.t 7=vI x5/\s.t 8=vR 100019 ae/\s.t 9=vI v9/\s.h 100019=(ae,oW 5 1 enB aa))/\wY x5 m v9 aa=some r
 have e1:=@wY.eq_2
 unfold Ae at h
 exact sgo 34 [.tmp 6] Tryz.func419⟩
instance:bE 292 (∀p0 p1 p2 r (h:kB p0 p1 p2=some r),Sc 292 [aX (M.aI7.en p0),aS p1,aI p2] [(true,M.aI8.rs r)]):=⟨λp0 p1 p2 r h=>by unfold kB at h;exact sgo 32 [.cell 6 189] Tryz.func292⟩
instance:bE 555 (∀p0 r (h:A0 p0=some r),Sc 555 [(false,[.ptr [.sl (List.map enB p0.b),.int .i64 p0.i,.int .i64 p0.h]])] [(false,[.edit (.lend 304 [.int .i64 r.1,.int .i64 r.2.1])]),(true,M.Key.rs r.2.2)]):=⟨λp0 r h=>by
 unfold A0 at h
 simp only[EN]
 refine sgB 26 [.cell 2 136] Tryz.func555 λbase wd B0 u0 hw0=> ?_
 refine dR (J:=λs=>s.t 0=vP 7059000 1 0/\s.h 7059000=(1,oB 304 [.old B0 (.sl (List.map enB p0.b)) (some u0),cI p0.i,cI p0.h])/\True) ?_ ?_
 ·and_intros<;>(try simp only[LN,List.map_cons,List.map_nil])<;>rfl
 rintro s1 f2
 exact sgX⟩
instance:bE 556 (∀p0 r (h:DA p0=some r),Sc 556 [(false,[.ptr [.sl (List.map enB p0.b),.int .i64 p0.i,.int .i64 p0.h]])] [(false,[.edit (.lend 304 [.int .i64 r.1,.int .i64 r.2.1])]),(true,M.aE.rs r.2.2)]):=⟨λp0 r h=>by
 unfold DA at h
 simp only[EN]
 refine sgB 40 [.cell 2 129] Tryz.func556 λbase wd B0 u0 hw0 => ?_
 refine dR (J:=λs=>s.t 0=vP 7059000 1 0/\s.h 7059000=(1,oB 304 [.old B0 (.sl (List.map enB p0.b)) (some u0),cI p0.i,cI p0.h])/\True) ?_ ?_
 ·and_intros<;>(try simp only[LN,List.map_cons,List.map_nil])<;>rfl
 rintro s1 f2
 refine sq (rn ?_)
 refine an (sq ?_)
 obtain⟨x4,h5,h⟩:=bind_some h
 refine rn1 (aCA.1 _ _ h5) ?_
 refine an (sq (sq ?_))
 refine cu (λs=>s.t 0=vP 7059000 1 0/\s.t 2=vP 2 ((s1.h 2).1+1) 0/\s.t 3=vP 3 ((s1.h 3).1+1) 0/\s.h 2=((s1.h 2).1+1,oB 129 [.nil])/\s.h 3=((s1.h 3).1+1,oB 129 [.row 100007 ((s1.h 100007).1+1)])/\s.h 100007=((s1.h 100007).1+1,oW 262 2 M.Field.en x4.2.2.aI9)/\s.h 7059000=(1,oB 304 [.old B0 (.sl (List.map enB p0.b)) (some u0),cI x4.1,cI x4.2.1])/\True) ?_
 rintro s6 f7
 obtain⟨af,ao,h⟩:=bind_some h
 refine rn1 (O4.1 _ _ _ ao) ?_
 refine an (bk (sq ?_))
 refine cu (λs=>s.t 0=vP 7059000 1 0/\s.t 2=vP 2 ((s1.h 2).1+1) 0/\s.t 3=vP 3 ((s1.h 3).1+1) 0/\s.t 9=vI af.2.2/\s.h 2=((s1.h 2).1+1,oB 129 [.nil])/\s.h 3=((s1.h 3).1+1,oB 129 [.row 100007 ((s1.h 100007).1+1)])/\s.h 100007=((s1.h 100007).1+1,oW 262 2 M.Field.en x4.2.2.aI9)/\s.h 7059000=(1,oB 304 [.old B0 (.sl (List.map enB p0.b)) (some u0),cI af.1,cI af.2.1])/\True) ?_
 rintro s16 f17
 refine rn ?_
 refine an ?_
 rcases mT (af.2.2==0)with ai | ai
 ·replace h:=bZ ai h;refine ct ?_;obtain⟨bd,aq,h⟩:=bind_some h;obtain⟨bf,ar,h⟩:=bind_some h;obtain⟨bg,av,h⟩:=bind_some h;refine rd3 mixed (c91.1 _ _ _ aq) (aA1.1 _ _ _ ar) av ?_;refine ab (an (sq (rn ?_)));refine an (rt ?_);cases h;simp[JO,Ret,TB,EN, *]
 replace h:=bY ai h
 refine cf (sq (rn ?_))
 refine an ?_
 rcases C1 (af.2.2==1)with aj | aj
 ·replace h:=bY aj h;refine cf (sk (ab (an (sq (rn ?_)))));refine an (rt ?_);cases h;simp[JO,Ret,TB,EN, *]
 replace h:=bZ aj h
 refine ct (sq (rn ?_))
 refine an (bk ?_)
 refine cu (λs=>s.h 7059000=s16.h 7059000/\s.t 0=vP 7059000 1 0/\s.t 2=vP 2 ((s1.h 2).1+1) 0/\s.t 3=vP 3 ((s1.h 3).1+1) 0/\s.t 26=vR 100026 ((s16.h 100026).1+1)/\s.t 27=vI ((6:Nat):Int)/\s.t 28=vI 0/\s.h 2=((s1.h 2).1+1,oB 129 [.nil])/\s.h 3=((s1.h 3).1+1,oB 129 [.row 100007 ((s1.h 100007).1+1)])/\s.h 100007=((s1.h 100007).1+1,oW 262 2 M.Field.en x4.2.2.aI9)/\s.h 100026=((s16.h 100026).1+1,oW 9 1 enS ([(⟨#[100]⟩:ByteArray),(⟨#[101]⟩:ByteArray),(⟨#[102]⟩:ByteArray),(⟨#[103]⟩:ByteArray),(⟨#[104]⟩:ByteArray),(⟨#[105]⟩:ByteArray)]))/\True) ?_
 rintro ak ⟨f44,f34⟩
 replace f44:=f44.trans f17.2.2.2.2.2.2.2.1
 refine GS (ghB 3 0 7050000 100007) ?_
 refine Hs (λm s=>∃ah:Int,∃ae:List M.Field,∃aa:Nat,s.h 100026=ak.h 100026/\s.h 7059000=ak.h 7059000/\s.t 0=vP 7059000 1 0/\s.t 2=vP 2 ((s1.h 2).1+1) 0/\s.t 3=vP 3 ((s1.h 3).1+1) 0/\s.t 26=vR 100026 ((s16.h 100026).1+1)/\s.t 27=vI ((6:Nat):Int)/\s.t 28=vI ah/\s.h 2=((s1.h 2).1+1,oB 129 [.nil])/\s.h 3=((s1.h 3).1+1,oB 129 [.row 7050000 aa])/\s.h 7050000=(aa,oW 262 2 M.Field.en ae)/\vN af m ah ae=some r) fuel ?_ ?_
 ·refine⟨0,x4.2.2.aI9,(ak.h 7050000).1+1,?_,?_,?_,?_,?_,?_,?_,?_,?_,?_,?_,h⟩;all_goals simp +decide only[F,reduceIte,Nat.reduceAdd,qB,qC,EN, *,-h]
 rintro mL1 bh ⟨ah,ae,aa,f54,f56,f46,f47,f48,f49,f50,f51,f52,f53,f55,h⟩
 replace f54:=f54.trans f34.2.2.2.2.2.2.2.2.2.1
 replace f56:=f56.trans f44
 rcases mL1 with _ | mL1
 ·exact absurd h (by simp[vN])
 simp only[vN]at h
 refine sq (rn ?_)
 refine an (sq ?_)
 rcases C1 (decide (ah<((6:Nat):Int)))with al | al
 ·replace h:=bY al h;refine cf (xt (Gn (Gg (Lk (ab (an (sq (rn ?_))))))));refine an (rt ?_);cases h;simp[JO,Ret,TB,EN, *]
 replace h:=bZ al h
 refine ct (sk (an (sq (bk (sq ?_)))))
 obtain⟨aw,ax,h⟩:=bind_some h
 obtain⟨bj,bl,ay⟩:=wM ax
 have q60m:=congrArg (Option.map enS) (show([(⟨#[100]⟩:ByteArray),(⟨#[101]⟩:ByteArray),(⟨#[102]⟩:ByteArray),(⟨#[103]⟩:ByteArray),(⟨#[104]⟩:ByteArray),(⟨#[105]⟩:ByteArray)])[ah.toNat]? = some aw by assumption)
 simp only[<-List.getElem?_map,List.map_cons,List.map_nil,Option.map_some,EN]at q60m
 simp only[qJ,qK,Nat.reduceAdd]at ay
 refine rn ?_
 refine an ?_
 obtain⟨az,ba,h⟩:=bind_some h
 refine rn1 (c45.1 _ _ _ _ ba) ?_
 refine ab (an (rn ?_))
 refine iU ⟨_,ghB 3 0 7050000 100035,mL1,jB,IntKind.i64.wrap (ah+1),az.1.aI9,aa+1,?_,?_,?_,?_,?_,?_,?_,?_,?_,?_,?_,h⟩
 all_goals simp +decide only[F,reduceIte,Nat.reduceAdd,qB,qC,EN, *,-h]⟩
instance:bE 630 (∀p0 p1 r (h:AB p0 p1=some r),Sc 630 [(false,[.ptr [.sl (List.map enB p0.b),.int .i64 p0.i,.int .i64 p0.h]]),aI p1] [(false,[.edit (.lend 304 [.int .i64 r.1,.int .i64 r.2.1])]),(true,M.aK.rs r.2.2)]):=⟨λp0 p1 r h=>by
 unfold AB at h
 simp only[EN]
 refine sgB 41 [.cell 4 120] Tryz.func630 λbase wd B0 u0 hw0=> ?_
 refine dR (J:=λs=>s.t 0=vP 7059000 1 0/\s.t 1=vI p1/\s.h 7059000=(1,oB 304 [.old B0 (.sl (List.map enB p0.b)) (some u0),cI p0.i,cI p0.h])/\True) ?_ ?_
 ·and_intros<;>(try simp only[LN,List.map_cons,List.map_nil])<;>rfl
 rintro s1 f2
 have i1:=E5 [.b 5 2 7050000 328 7] λm s=>∃v7:Int,∃ai:Int,∃aj:Int,∃aa:Int,∃ae:Int,∃af:List M.bC,∃ah:Nat,(s.t 0=vP 7059000 1 0/\s.t 4=vP 4 ((s1.h 4).1+1) 0/\s.t 5=vP 5 ((s1.h 5).1+1) 0/\s.t 7=vI v7/\s.h 4=((s1.h 4).1+1,oB 120 [cI 0,cI 0,.nil])/\s.h 5=((s1.h 5).1+1,oB 120 [cI ai,cI aj,.row 7050000 ah])/\s.h 7050000=(ah,oW 328 7 M.bC.en af)/\s.h 7059000=(1,oB 304 [.old B0 (.sl (List.map enB p0.b)) (some u0),cI aa,cI ae]))/\mP p0 m v7 ai aj aa ae af=some r
 have e1:=@mP.eq_2
 exact sgX⟩
instance:bE 605 (∀p0 r (h:Cu p0=some r),Sc 605 [(false,[.ptr [.sl (List.map enB p0.b),.int .i64 p0.i,.int .i64 p0.h]])] [(false,[.edit (.lend 304 [.int .i64 r.1,.int .i64 r.2.1])]),(true,M.aK.rs r.2.2)]):=⟨λp0 r h=>by
 unfold Cu at h
 simp only[EN]
 refine sgB 58 [.cell 2 120] Tryz.func605 λbase wd B0 u0 hw0=> ?_
 refine dR (J:=λs=>s.t 0=vP 7059000 1 0/\s.h 7059000=(1,oB 304 [.old B0 (.sl (List.map enB p0.b)) (some u0),cI p0.i,cI p0.h])/\True) ?_ ?_
 ·and_intros<;>(try simp only[LN,List.map_cons,List.map_nil])<;>rfl
 rintro s1 f2
 have i1:=E5 [.b 3 2 7050000 328 7] λm s=>∃ai:Int,∃aj:Int,∃aa:Int,∃ae:Int,∃af:List M.bC,∃ah:Nat,(s.t 0=vP 7059000 1 0/\s.t 2=vP 2 ((s1.h 2).1+1) 0/\s.t 3=vP 3 ((s1.h 3).1+1) 0/\s.h 2=((s1.h 2).1+1,oB 120 [cI 0,cI 0,.nil])/\s.h 3=((s1.h 3).1+1,oB 120 [cI ai,cI aj,.row 7050000 ah])/\s.h 7050000=(ah,oW 328 7 M.bC.en af)/\s.h 7059000=(1,oB 304 [.old B0 (.sl (List.map enB p0.b)) (some u0),cI aa,cI ae]))/\xK p0 m ai aj aa ae af=some r
 have e1:=@xK.eq_2
 exact sgX⟩
instance:bE 472 (∀p0 r (h:B4 p0=some r),Sc 472 [(false,[.ptr [.sl (List.map enB p0.b),.int .i64 p0.i,.int .i64 p0.h]])] [(false,[.edit (.lend 304 [.int .i64 r.1,.int .i64 r.2.1])]),(true,M.bG.rs r.2.2)]):=⟨λp0 r h=>by
 unfold B4 at h
 simp only[EN]
 refine sgB 46 [.cell 2 67] Tryz.func472 λbase wd B0 u0 hw0 => ?_
 refine dR (J:=λs=>s.t 0=vP 7059000 1 0/\s.h 7059000=(1,oB 304 [.old B0 (.sl (List.map enB p0.b)) (some u0),cI p0.i,cI p0.h])/\True) ?_ ?_
 ·and_intros<;>(try simp only[LN,List.map_cons,List.map_nil])<;>rfl
 rintro s1 f2
 refine sq (rn ?_)
 refine an (sq ?_)
 obtain⟨x4,h5,h⟩:=bind_some h
 refine rn1 (aA3.1 _ _ h5) ?_
 refine an (sq ?_)
 refine cu (λs=>s.t 0=vP 7059000 1 0/\s.t 2=vP 2 ((s1.h 2).1+1) 0/\s.t 3=vS x4.2.2/\s.h 2=((s1.h 2).1+1,YW)/\s.h 7059000=(1,oB 304 [.old B0 (.sl (List.map enB p0.b)) (some u0),cI x4.1,cI x4.2.1])/\True) ?_
 rintro s6 f7
 refine rn ?_
 refine an ?_
 obtain⟨bm,bn,h⟩:=bind_some h
 refine wJ (λs=>s.t 0=vP 7059000 1 0/\s.t 2=vP 2 ((s1.h 2).1+1) 0/\s.t 3=vS x4.2.2/\s.t 4=vS bm.1/\s.h 2=((s1.h 2).1+1,YW)/\s.h 7059000=(1,oB 304 [.old B0 (.sl (List.map enB p0.b)) (some u0),cI bm.2.1,cI bm.2.2])/\True) ?_ ?_
 ·replace h:=bn;clear bn;refine sq ?_;obtain⟨bj,bw,h⟩:=bind_some h;refine rn1 (c92.1 _ _ _ bw) ?_;refine an ?_;refine cu (λs=>s.t 0=vP 7059000 1 0/\s.t 2=vP 2 ((s1.h 2).1+1) 0/\s.t 3=vS x4.2.2/\s.t 4=vS x4.2.2/\s.t 12=vB bj.2.2/\s.h 2=((s1.h 2).1+1,YW)/\s.h 7059000=(1,oB 304 [.old B0 (.sl (List.map enB p0.b)) (some u0),cI bj.1,cI bj.2.1])/\True) ?_;rintro cl f24;rcases C1 bj.2.2 with bo | bo;(replace h:=bY bo h;refine cf (sk ?_);cases h;refine iU ⟨?_,?_,?_,?_,?_,?_,trivial⟩<;>(try simp +decide only[F,reduceIte,Nat.reduceAdd,qB,qC,EN, *,-h]));replace h:=bZ bo h;refine ct ?_;obtain⟨cn,bx,h⟩:=bind_some h;refine rn1 (aA3.1 _ _ bx) ?_;cases h;refine iU ⟨?_,?_,?_,?_,?_,?_,trivial⟩<;>(try simp +decide only[F,reduceIte,Nat.reduceAdd,qB,qC,EN, *,-h])
 clear bn
 rintro ai f15
 refine sq ?_
 obtain⟨cp,bz,h⟩:=bind_some h
 obtain⟨cq,c9,h⟩:=bind_some h
 obtain⟨bu,ca,h⟩:=bind_some h
 obtain⟨af,cc,h⟩:=bind_some h
 refine rn4 (O4.1 _ _ _ bz) (O4.1 _ _ _ c9) (c93.1 _ _ ca) (aCn.1 _ _ _ _ _ _ cc) ?_
 refine an (sq (sq ?_))
 refine cu (λs=>s.t 0=vP 7059000 1 0/\s.t 2=vP 2 ((s1.h 2).1+1) 0/\s.t 5=vP 5 ((ai.h 5).1+1) 0/\s.h 2=((s1.h 2).1+1,YW)/\s.h 5=((ai.h 5).1+1,oB 67 [cI af.1.Id,cS af.1.aI7,cS af.1.Top,cI af.1.aI0,.row 500026 ((ai.h 500026).1+1),.row 600026 ((ai.h 600026).1+1),cI af.1.aJH.Pc,.row 800026 ((ai.h 800026).1+1),cI af.1.aJH.aJp,cB af.1.aJH.aJy,cB af.1.aJH.aJ0])/\s.h 500026=((ai.h 500026).1+1,oW 81 2 M.aV.en af.1.aV)/\s.h 600026=((ai.h 600026).1+1,oW 308 4 M.Instr.en af.1.aJH.aJj)/\s.h 800026=((ai.h 800026).1+1,oW 3 1 enI af.1.aJH.aJt)/\s.h 7059000=(1,oB 304 [.old B0 (.sl (List.map enB p0.b)) (some u0),cI bu.1,cI bu.2.1])/\True) ?_
 rintro cd f43
 obtain⟨bg,cg,h⟩:=bind_some h
 refine rn1 (O4.1 _ _ _ cg) ?_
 refine an (bk ?_)
 refine cu (λs=>s.h 5=cd.h 5/\s.t 0=vP 7059000 1 0/\s.t 2=vP 2 ((s1.h 2).1+1) 0/\s.t 5=vP 5 ((ai.h 5).1+1) 0/\s.t 7=vI bg.2.2/\s.h 2=((s1.h 2).1+1,YW)/\s.h 500026=((ai.h 500026).1+1,oW 81 2 M.aV.en af.1.aV)/\s.h 600026=((ai.h 600026).1+1,oW 308 4 M.Instr.en af.1.aJH.aJj)/\s.h 800026=((ai.h 800026).1+1,oW 3 1 enI af.1.aJH.aJt)/\s.h 7059000=(1,oB 304 [.old B0 (.sl (List.map enB p0.b)) (some u0),cI bg.1,cI bg.2.1])/\True) ?_
 rintro bq ⟨f60,f55⟩
 replace f60:=f60.trans f43.2.2.2.2.1
 refine GS (Gho.trans (Gho.trans (ghB 5 4 7050000 500026) (ghB 5 5 7050001 600026)) (ghB 5 7 7050002 800026)) ?_
 refine Hs (λm s=>∃v7:Int,∃aw:Int,∃ax:ByteArray,∃ay:ByteArray,∃az:Int,∃ba:Int,∃bd:Int,∃bf:Bool,∃av:Bool,∃aa:Int,∃ae:Int,∃aj:List M.aV,∃ak:List M.Instr,∃al:List Int,∃ao:Nat,∃aq:Nat,∃ar:Nat,s.t 0=vP 7059000 1 0/\s.t 2=vP 2 ((s1.h 2).1+1) 0/\s.t 5=vP 5 ((ai.h 5).1+1) 0/\s.t 7=vI v7/\s.h 2=((s1.h 2).1+1,YW)/\s.h 5=((ai.h 5).1+1,oB 67 [cI aw,cS ax,cS ay,cI az,.row 7050000 ao,.row 7050001 aq,cI ba,.row 7050002 ar,cI bd,cB bf,cB av])/\s.h 7050000=(ao,oW 81 2 M.aV.en aj)/\s.h 7050001=(aq,oW 308 4 M.Instr.en ak)/\s.h 7050002=(ar,oW 3 1 enI al)/\s.h 7059000=(1,oB 304 [.old B0 (.sl (List.map enB p0.b)) (some u0),cI aa,cI ae])/\rL p0 m v7 aw ax ay az ba bd bf av aa ae aj ak al=some r) fuel ?_ ?_
 ·refine⟨bg.2.2,af.1.Id,af.1.aI7,af.1.Top,af.1.aI0,af.1.aJH.Pc,af.1.aJH.aJp,af.1.aJH.aJy,af.1.aJH.aJ0,bg.1,bg.2.1,af.1.aV,af.1.aJH.aJj,af.1.aJH.aJt,(bq.h 7050000).1+1,(bq.h 7050001).1+1,(bq.h 7050002).1+1,?_,?_,?_,?_,?_,?_,?_,?_,?_,?_,h⟩;all_goals simp +decide only[F,reduceIte,Nat.reduceAdd,qB,qC,EN, *,-h]
 rintro mL1 bh ⟨v7,aw,ax,ay,az,ba,bd,bf,av,aa,ae,aj,ak,al,ao,aq,ar,f66,f67,f68,f69,f70,f71,f72,f73,f74,f75,h⟩
 rcases mL1 with _ | mL1
 ·exact absurd h (by simp[rL])
 simp only[rL]at h
 refine sq (sq (rn ?_))
 refine an ?_
 rcases C1 (decide (v7>0))with br | br
 ·replace h:=bY br h;refine cf (xt (Gn (Gg (Lk (an (sq (rn ?_)))))));refine an (rt ?_);cases h;simp[JO,Ret,TB,EN, *]
 replace h:=bZ br h
 refine ct (sk (an (sq (bk ?_))))
 obtain⟨bl,cj,h⟩:=bind_some h
 obtain⟨ah,ck,h⟩:=bind_some h
 refine rd2 mixed (aCy.1 _ _ cj) (aCi.1 _ _ _ _ ck) ?_
 refine ab (an ?_)
 refine cu (λs=>s.t 0=vP 7059000 1 0/\s.t 2=vP 2 ((s1.h 2).1+1) 0/\s.t 5=vP 5 ((ai.h 5).1+1) 0/\s.t 7=vI v7/\s.h 2=((s1.h 2).1+1,YW)/\s.h 5=((ai.h 5).1+1,oB 67 [cI ah.1.Id,cS ah.1.aI7,cS ah.1.Top,cI ah.1.aI0,.row 500042 ((bh.h 500042).1+1),.row 600042 ((bh.h 600042).1+1),cI ah.1.aJH.Pc,.row 800042 ((bh.h 800042).1+1),cI ah.1.aJH.aJp,cB ah.1.aJH.aJy,cB ah.1.aJH.aJ0])/\s.h 500042=((bh.h 500042).1+1,oW 81 2 M.aV.en ah.1.aV)/\s.h 600042=((bh.h 600042).1+1,oW 308 4 M.Instr.en ah.1.aJH.aJj)/\s.h 800042=((bh.h 800042).1+1,oW 3 1 enI ah.1.aJH.aJt)/\s.h 7059000=(1,oB 304 [.old B0 (.sl (List.map enB p0.b)) (some u0),cI bl.1,cI bl.2.1])/\True) ?_
 rintro bt f82
 refine rn ?_
 refine iU ⟨_,Gho.trans (Gho.trans (ghB 5 4 7050000 500042) (ghB 5 5 7050001 600042)) (ghB 5 7 7050002 800042),mL1,jB,IntKind.i64.wrap (v7-1),ah.1.Id,ah.1.aI7,ah.1.Top,ah.1.aI0,ah.1.aJH.Pc,ah.1.aJH.aJp,ah.1.aJH.aJy,ah.1.aJH.aJ0,bl.1,bl.2.1,ah.1.aV,ah.1.aJH.aJj,ah.1.aJH.aJt,(bt.h 7050000).1+1,(bt.h 7050001).1+1,(bt.h 7050002).1+1,?_,?_,?_,?_,?_,?_,?_,?_,?_,?_,h⟩
 all_goals simp +decide only[F,reduceIte,Nat.reduceAdd,qB,qC,EN, *,-h]⟩
instance:bE 475 (∀p0 r (h:A4 p0=some r),Sc 475 [(false,[.ptr [.sl (List.map enB p0.b),.int .i64 p0.i,.int .i64 p0.h]])] [(false,[.edit (.lend 304 [.int .i64 r.1,.int .i64 r.2.1])]),(true,M.bC.rs r.2.2)]):=⟨λp0 r h=>by
 unfold A4 at h
 simp only[EN]
 refine sgB 46 [.cell 2 328] Tryz.func475 λbase wd B0 u0 hw0=> ?_
 refine dR (J:=λs=>s.t 0=vP 7059000 1 0/\s.h 7059000=(1,oB 304 [.old B0 (.sl (List.map enB p0.b)) (some u0),cI p0.i,cI p0.h])/\True) ?_ ?_
 ·and_intros<;>(try simp only[LN,List.map_cons,List.map_nil])<;>rfl
 rintro s1 f2
 exact sgX⟩
