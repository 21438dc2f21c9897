/-
  Helper text. No conditions.
-/
import Derived.Test.YtbpbocchokbggaaGreatOpenedWspec4
set_option linter.all false
namespace Go.Proofs.YtbpbocchokbggaaGreat.gen
open Go Go.Sh
set_option maxRecDepth 20000
set_option maxHeartbeats 4000000
instance:bK 105 (∀p0 r (h:nM p0=some r),Sc 105 [aX (M.aHD.en p0)] [(true,M.aHD.rs r)]):=⟨λp0 r h=>by unfold nM at h;exact sgo 18 [.cell 2 126] Tryz.func105⟩
instance:bK 159 (∀p0 r (h:fO p0=some r),Sc 159 [aX (M.aA.en p0)] [(true,M.aA.rs r)]):=⟨λp0 r h=>by
 have i1:=ES [.b 3 0 7050000 126 24] λm s=>∃v4:Int,∃aa:List M.aHD,∃ae:Nat,(s.t 1=vP 1 1 0/\s.t 2=vP 2 1 0/\s.t 3=vP 3 1 0/\s.t 4=vI v4/\s.h 1=(1,oX 47 (M.aA.en p0))/\s.h 2=(1,oB 47 [.nil])/\s.h 3=(1,oB 47 [.row 7050000 ae])/\s.h 7050000=(ae,oW 126 24 M.aHD.en aa))/\pR p0 m v4 aa=some r
 have e1:=@pR.eq_2
 unfold fO at h
 exact sgo 25 [.cell 2 47] Tryz.func159⟩
instance:bK 434 (∀p0 p1 r (h:wT p0 p1=some r),Sc 434 [aX (M.aC.en p0),aS p1] [(true,M.Key.rs r.1),(true,M.Key.rs r.2.1),rB r.2.2]):=⟨λp0 p1 r h=>by
 have i1:=λ(x1:(List M.aHV))=>inv λm s=>∃v8:Int,(s.t 1=vS p1/\s.t 4=vP 4 1 0/\s.t 5=vP 5 1 0/\s.t 7=vR 100015 1/\s.t 8=vI v8/\s.h 4=(1,oB 136 [cI 0,cI 0,cS (⟨#[]⟩:ByteArray)])/\s.h 5=(1,oB 136 [cI 0,cI 0,cS (⟨#[]⟩:ByteArray)])/\s.h 100015=(1,oW 260 4 M.aHV.en x1))/\mZ p1 x1 m v8=some r
 have e1:=@mZ.eq_2
 unfold wT at h
 exact sgo 59 [.cell 4 136,.cell 5 136,.tmp 6] Tryz.func434⟩
instance Sf:bK 310 (∀p0 r (h:cA p0=some r),Sc 310 [aX (M.aHB.en p0)] [rB r]):=⟨λp0 r h=>by
 have i1:=inv λm s=>∃v3:Int,(s.t 1=vP 1 1 0/\s.t 3=vI v3/\s.h 1=(1,oX 112 (M.aHB.en p0)))/\fB p0 m v3=some r
 have e1:=@fB.eq_2
 have i2:=inv λm s=>∃v4:Int,(s.t 1=vP 1 1 0/\s.t 4=vI v4/\s.h 1=(1,oX 112 (M.aHB.en p0)))/\fC p0 m v4=some r
 have e2:=@fC.eq_2
 have i3:=λ(v4:Int) (ae:M.aN) (af:Int->Option Bool)=>inv λm s=>∃aa:Int,(s.t 1=vP 1 1 0/\s.t 4=vI v4/\s.t 9=vI aa/\s.h 1=(1,oX 112 (M.aHB.en p0)))/\gS p0 v4 ae af m aa=some r
 have e3:=@gS.eq_2
 unfold cA at h
 exact sgo 124 [.tmp 2] Tryz.func310⟩
instance:bK 564 (∀p0 r (h:vH p0=some r),Sc 564 [aX (M.aHB.en p0)] [rI r]):=⟨λp0 r h=>by
 have i1:=inv λm s=>∃v3:Int,∃v4:Int,(s.t 1=vP 1 1 0/\s.t 3=vI v3/\s.t 4=vI v4/\s.h 1=(1,oX 112 (M.aHB.en p0)))/\gZ p0 m v3 v4=some r
 have e1:=@gZ.eq_2
 unfold vH at h
 exact sgo 21 [.tmp 2] Tryz.func564⟩
instance:bK 487 (∀p0 r (h:Co p0=some r),Sc 487 [aX (M.bP.en p0)] [rI r]):=⟨λp0 r h=>by unfold Co at h;exact sgo 10 [.tmp 2] Tryz.func487⟩
instance c93:bK 93 (∀p0 r (h:lP p0=some r),Sc 93 [(false,[.ptr [.sl (List.map enB p0.b),.int .i64 p0.i,.int .i64 p0.h]])] [(false,[.edit (.lend 304 [.int .i64 r.1,.int .i64 r.2.1])]),rW 308 4 M.Instr.en r.2.2]):=⟨λp0 r h=>by
 unfold lP at h
 simp only[EN]
 refine sgB 21 [.tmp 2] Tryz.func93 λbase wd B0 u0 hw0=> ?_
 refine eE (J:=λs=>s.t 0=vP 7059000 1 0/\s.h 7059000=(1,oB 304 [.old B0 (.sl (List.map enB p0.b)) (some u0),cI p0.i,cI p0.h])/\True) ?_ ?_
 ·and_intros<;>(try simp only[LN,List.map_cons,List.map_nil])<;>rfl
 rintro s1 f2
 have i1:=λ(x4:(Int×Int×Int))=>inv λm s=>∃v5:Int,∃r8:List M.Instr,∃aa:Int,∃ae:Int,∃u8:Nat,(s.t 0=vP 7059000 1 0/\s.t 3=vI x4.2.2/\s.t 4=vR 100008 u8/\s.t 5=vI v5/\s.h 100008=(u8,oW 308 4 M.Instr.en r8)/\s.h 7059000=(1,oB 304 [.old B0 (.sl (List.map enB p0.b)) (some u0),cI aa,cI ae]))/\lV p0 x4 m v5 r8 aa ae=some r
 have e1:=@lV.eq_2
 exact sgX⟩
instance aA7:bK 107 (∀p0 p1 p2 p3 p4 r (h:lO p0 p1 p2 p3 p4=some r),Sc 107 [aI p0,aS p1,aS p2,aI p3,aL M.Instr.en p4] [(true,M.bC.rs r.1),rB r.2]):=⟨λp0 p1 p2 p3 p4 r h=>by unfold lO at h;exact sgo 25 [.cell 10 67,.tmp 11] Tryz.func107⟩
instance:bK 419 (∀p0 p1 p2 r (h:Cf p0 p1 p2=some r),Sc 419 [aX (M.aHL.en p0),aS p1,aI p2] [rW 5 1 enB r]):=⟨λp0 p1 p2 r h=>by
 have i1:=λ(x5:Int)=>inv λm s=>∃v9:Int,∃aa:List Int,∃ae:Nat,(s.t 7=vI x5/\s.t 8=vR 100019 ae/\s.t 9=vI v9/\s.h 100019=(ae,oW 5 1 enB aa))/\wF x5 m v9 aa=some r
 have e1:=@wF.eq_2
 unfold Cf at h
 exact sgo 34 [.tmp 6] Tryz.func419⟩
instance:bK 292 (∀p0 p1 p2 r (h:Af p0 p1 p2=some r),Sc 292 [aX (M.aHL.en p0),aS p1,aI p2] [(true,M.aHH.rs r)]):=⟨λp0 p1 p2 r h=>by unfold Af at h;exact sgo 32 [.cell 6 189] Tryz.func292⟩
instance:bK 555 (∀p0 r (h:AF p0=some r),Sc 555 [(false,[.ptr [.sl (List.map enB p0.b),.int .i64 p0.i,.int .i64 p0.h]])] [(false,[.edit (.lend 304 [.int .i64 r.1,.int .i64 r.2.1])]),(true,M.Key.rs r.2.2)]):=⟨λp0 r h=>by
 unfold AF at h
 simp only[EN]
 refine sgB 26 [.cell 2 136] Tryz.func555 λbase wd B0 u0 hw0=> ?_
 refine eE (J:=λs=>s.t 0=vP 7059000 1 0/\s.h 7059000=(1,oB 304 [.old B0 (.sl (List.map enB p0.b)) (some u0),cI p0.i,cI p0.h])/\True) ?_ ?_
 ·and_intros<;>(try simp only[LN,List.map_cons,List.map_nil])<;>rfl
 rintro s1 f2
 exact sgX⟩
instance:bK 556 (∀p0 r (h:Db p0=some r),Sc 556 [(false,[.ptr [.sl (List.map enB p0.b),.int .i64 p0.i,.int .i64 p0.h]])] [(false,[.edit (.lend 304 [.int .i64 r.1,.int .i64 r.2.1])]),(true,M.aD.rs r.2.2)]):=⟨λp0 r h=>by
 unfold Db at h
 simp only[EN]
 refine sgB 40 [.cell 2 129] Tryz.func556 λbase wd B0 u0 hw0 => ?_
 refine eE (J:=λs=>s.t 0=vP 7059000 1 0/\s.h 7059000=(1,oB 304 [.old B0 (.sl (List.map enB p0.b)) (some u0),cI p0.i,cI p0.h])/\True) ?_ ?_
 ·and_intros<;>(try simp only[LN,List.map_cons,List.map_nil])<;>rfl
 rintro s1 f2
 refine sq (rn ?_)
 refine an (sq ?_)
 obtain⟨x4,h5,h⟩:=bind_some h
 refine rn1 (aAZ.1 _ _ h5) ?_
 refine an (sq (sq ?_))
 refine cu (λs=>s.t 0=vP 7059000 1 0/\s.t 2=vP 2 ((s1.h 2).1+1) 0/\s.t 3=vP 3 ((s1.h 3).1+1) 0/\s.h 2=((s1.h 2).1+1,oB 129 [.nil])/\s.h 3=((s1.h 3).1+1,oB 129 [.row 100007 ((s1.h 100007).1+1)])/\s.h 100007=((s1.h 100007).1+1,oW 262 2 M.Field.en x4.2.2.aHG)/\s.h 7059000=(1,oB 304 [.old B0 (.sl (List.map enB p0.b)) (some u0),cI x4.1,cI x4.2.1])/\True) ?_
 rintro s6 f7
 obtain⟨af,ao,h⟩:=bind_some h
 refine rn1 (Ob.1 _ _ _ ao) ?_
 refine an (bk (sq ?_))
 refine cu (λs=>s.t 0=vP 7059000 1 0/\s.t 2=vP 2 ((s1.h 2).1+1) 0/\s.t 3=vP 3 ((s1.h 3).1+1) 0/\s.t 9=vI af.2.2/\s.h 2=((s1.h 2).1+1,oB 129 [.nil])/\s.h 3=((s1.h 3).1+1,oB 129 [.row 100007 ((s1.h 100007).1+1)])/\s.h 100007=((s1.h 100007).1+1,oW 262 2 M.Field.en x4.2.2.aHG)/\s.h 7059000=(1,oB 304 [.old B0 (.sl (List.map enB p0.b)) (some u0),cI af.1,cI af.2.1])/\True) ?_
 rintro s16 f17
 refine rn ?_
 refine an ?_
 rcases dP (af.2.2==0)with ai | ai
 ·replace h:=bG ai h;refine ct ?_;obtain⟨bd,aq,h⟩:=bind_some h;obtain⟨bf,ar,h⟩:=bind_some h;obtain⟨bg,av,h⟩:=bind_some h;refine rd3 mixed (c91.1 _ _ _ aq) (Zw.1 _ _ _ ar) av ?_;refine ab (an (sq (rn ?_)));refine an (rt ?_);cases h;simp[I5,Ret,TB,EN, *]
 replace h:=bF ai h
 refine cf (sq (rn ?_))
 refine an ?_
 rcases Cw (af.2.2==1)with aj | aj
 ·replace h:=bF aj h;refine cf (sk (ab (an (sq (rn ?_)))));refine an (rt ?_);cases h;simp[I5,Ret,TB,EN, *]
 replace h:=bG aj h
 refine ct (sq (rn ?_))
 refine an (bk ?_)
 refine cu (λs=>s.h 7059000=s16.h 7059000/\s.t 0=vP 7059000 1 0/\s.t 2=vP 2 ((s1.h 2).1+1) 0/\s.t 3=vP 3 ((s1.h 3).1+1) 0/\s.t 26=vR 100026 ((s16.h 100026).1+1)/\s.t 27=vI ((6:Nat):Int)/\s.t 28=vI 0/\s.h 2=((s1.h 2).1+1,oB 129 [.nil])/\s.h 3=((s1.h 3).1+1,oB 129 [.row 100007 ((s1.h 100007).1+1)])/\s.h 100007=((s1.h 100007).1+1,oW 262 2 M.Field.en x4.2.2.aHG)/\s.h 100026=((s16.h 100026).1+1,oW 9 1 enS ([(⟨#[100]⟩:ByteArray),(⟨#[101]⟩:ByteArray),(⟨#[102]⟩:ByteArray),(⟨#[103]⟩:ByteArray),(⟨#[104]⟩:ByteArray),(⟨#[105]⟩:ByteArray)]))/\True) ?_
 rintro ak ⟨f44,f34⟩
 replace f44:=f44.trans f17.2.2.2.2.2.2.2.1
 refine G7 (ghB 3 0 7050000 100007) ?_
 refine GI (λm s=>∃ah:Int,∃ae:List M.Field,∃aa:Nat,s.h 100026=ak.h 100026/\s.h 7059000=ak.h 7059000/\s.t 0=vP 7059000 1 0/\s.t 2=vP 2 ((s1.h 2).1+1) 0/\s.t 3=vP 3 ((s1.h 3).1+1) 0/\s.t 26=vR 100026 ((s16.h 100026).1+1)/\s.t 27=vI ((6:Nat):Int)/\s.t 28=vI ah/\s.h 2=((s1.h 2).1+1,oB 129 [.nil])/\s.h 3=((s1.h 3).1+1,oB 129 [.row 7050000 aa])/\s.h 7050000=(aa,oW 262 2 M.Field.en ae)/\uV af m ah ae=some r) fuel ?_ ?_
 ·refine⟨0,x4.2.2.aHG,(ak.h 7050000).1+1,?_,?_,?_,?_,?_,?_,?_,?_,?_,?_,?_,h⟩;all_goals simp +decide only[F,reduceIte,Nat.reduceAdd,qB,qC,EN, *,-h]
 rintro mL1 bh ⟨ah,ae,aa,f54,f56,f46,f47,f48,f49,f50,f51,f52,f53,f55,h⟩
 replace f54:=f54.trans f34.2.2.2.2.2.2.2.2.2.1
 replace f56:=f56.trans f44
 rcases mL1 with _ | mL1
 ·exact absurd h (by simp[uV])
 simp only[uV]at h
 refine sq (rn ?_)
 refine an (sq ?_)
 rcases Cw (decide (ah<((6:Nat):Int)))with al | al
 ·replace h:=bF al h;refine cf (xt (EP (EF (Js (ab (an (sq (rn ?_))))))));refine an (rt ?_);cases h;simp[I5,Ret,TB,EN, *]
 replace h:=bG al h
 refine ct (sk (an (sq (bk (sq ?_)))))
 obtain⟨aw,ax,h⟩:=bind_some h
 obtain⟨bj,bl,ay⟩:=rR ax
 have q60m:=congrArg (Option.map enS) (show([(⟨#[100]⟩:ByteArray),(⟨#[101]⟩:ByteArray),(⟨#[102]⟩:ByteArray),(⟨#[103]⟩:ByteArray),(⟨#[104]⟩:ByteArray),(⟨#[105]⟩:ByteArray)])[ah.toNat]? = some aw by assumption)
 simp only[<-List.getElem?_map,List.map_cons,List.map_nil,Option.map_some,EN]at q60m
 simp only[qJ,qK,Nat.reduceAdd]at ay
 refine rn ?_
 refine an ?_
 obtain⟨az,ba,h⟩:=bind_some h
 refine rn1 (c45.1 _ _ _ _ ba) ?_
 refine ab (an (rn ?_))
 refine dV ⟨_,ghB 3 0 7050000 100035,mL1,jF,IntKind.i64.wrap (ah+1),az.1.aHG,aa+1,?_,?_,?_,?_,?_,?_,?_,?_,?_,?_,?_,h⟩
 all_goals simp +decide only[F,reduceIte,Nat.reduceAdd,qB,qC,EN, *,-h]⟩
instance:bK 630 (∀p0 p1 r (h:Aj p0 p1=some r),Sc 630 [(false,[.ptr [.sl (List.map enB p0.b),.int .i64 p0.i,.int .i64 p0.h]]),aI p1] [(false,[.edit (.lend 304 [.int .i64 r.1,.int .i64 r.2.1])]),(true,M.aJ.rs r.2.2)]):=⟨λp0 p1 r h=>by
 unfold Aj at h
 simp only[EN]
 refine sgB 41 [.cell 4 120] Tryz.func630 λbase wd B0 u0 hw0=> ?_
 refine eE (J:=λs=>s.t 0=vP 7059000 1 0/\s.t 1=vI p1/\s.h 7059000=(1,oB 304 [.old B0 (.sl (List.map enB p0.b)) (some u0),cI p0.i,cI p0.h])/\True) ?_ ?_
 ·and_intros<;>(try simp only[LN,List.map_cons,List.map_nil])<;>rfl
 rintro s1 f2
 have i1:=ES [.b 5 2 7050000 328 7] λm s=>∃v7:Int,∃ai:Int,∃aj:Int,∃aa:Int,∃ae:Int,∃af:List M.bB,∃ah:Nat,(s.t 0=vP 7059000 1 0/\s.t 4=vP 4 ((s1.h 4).1+1) 0/\s.t 5=vP 5 ((s1.h 5).1+1) 0/\s.t 7=vI v7/\s.h 4=((s1.h 4).1+1,oB 120 [cI 0,cI 0,.nil])/\s.h 5=((s1.h 5).1+1,oB 120 [cI ai,cI aj,.row 7050000 ah])/\s.h 7050000=(ah,oW 328 7 M.bB.en af)/\s.h 7059000=(1,oB 304 [.old B0 (.sl (List.map enB p0.b)) (some u0),cI aa,cI ae]))/\mA p0 m v7 ai aj aa ae af=some r
 have e1:=@mA.eq_2
 exact sgX⟩
instance:bK 605 (∀p0 r (h:B5 p0=some r),Sc 605 [(false,[.ptr [.sl (List.map enB p0.b),.int .i64 p0.i,.int .i64 p0.h]])] [(false,[.edit (.lend 304 [.int .i64 r.1,.int .i64 r.2.1])]),(true,M.aJ.rs r.2.2)]):=⟨λp0 r h=>by
 unfold B5 at h
 simp only[EN]
 refine sgB 58 [.cell 2 120] Tryz.func605 λbase wd B0 u0 hw0=> ?_
 refine eE (J:=λs=>s.t 0=vP 7059000 1 0/\s.h 7059000=(1,oB 304 [.old B0 (.sl (List.map enB p0.b)) (some u0),cI p0.i,cI p0.h])/\True) ?_ ?_
 ·and_intros<;>(try simp only[LN,List.map_cons,List.map_nil])<;>rfl
 rintro s1 f2
 have i1:=ES [.b 3 2 7050000 328 7] λm s=>∃ai:Int,∃aj:Int,∃aa:Int,∃ae:Int,∃af:List M.bB,∃ah:Nat,(s.t 0=vP 7059000 1 0/\s.t 2=vP 2 ((s1.h 2).1+1) 0/\s.t 3=vP 3 ((s1.h 3).1+1) 0/\s.h 2=((s1.h 2).1+1,oB 120 [cI 0,cI 0,.nil])/\s.h 3=((s1.h 3).1+1,oB 120 [cI ai,cI aj,.row 7050000 ah])/\s.h 7050000=(ah,oW 328 7 M.bB.en af)/\s.h 7059000=(1,oB 304 [.old B0 (.sl (List.map enB p0.b)) (some u0),cI aa,cI ae]))/\wO p0 m ai aj aa ae af=some r
 have e1:=@wO.eq_2
 exact sgX⟩
instance:bK 472 (∀p0 r (h:BB p0=some r),Sc 472 [(false,[.ptr [.sl (List.map enB p0.b),.int .i64 p0.i,.int .i64 p0.h]])] [(false,[.edit (.lend 304 [.int .i64 r.1,.int .i64 r.2.1])]),(true,M.bC.rs r.2.2)]):=⟨λp0 r h=>by
 unfold BB at h
 simp only[EN]
 refine sgB 46 [.cell 2 67] Tryz.func472 λbase wd B0 u0 hw0 => ?_
 refine eE (J:=λs=>s.t 0=vP 7059000 1 0/\s.h 7059000=(1,oB 304 [.old B0 (.sl (List.map enB p0.b)) (some u0),cI p0.i,cI p0.h])/\True) ?_ ?_
 ·and_intros<;>(try simp only[LN,List.map_cons,List.map_nil])<;>rfl
 rintro s1 f2
 refine sq (rn ?_)
 refine an (sq ?_)
 obtain⟨x4,h5,h⟩:=bind_some h
 refine rn1 (ZA.1 _ _ h5) ?_
 refine an (sq ?_)
 refine cu (λs=>s.t 0=vP 7059000 1 0/\s.t 2=vP 2 ((s1.h 2).1+1) 0/\s.t 3=vS x4.2.2/\s.h 2=((s1.h 2).1+1,Xz)/\s.h 7059000=(1,oB 304 [.old B0 (.sl (List.map enB p0.b)) (some u0),cI x4.1,cI x4.2.1])/\True) ?_
 rintro s6 f7
 refine rn ?_
 refine an ?_
 obtain⟨bm,bn,h⟩:=bind_some h
 refine sD (λs=>s.t 0=vP 7059000 1 0/\s.t 2=vP 2 ((s1.h 2).1+1) 0/\s.t 3=vS x4.2.2/\s.t 4=vS bm.1/\s.h 2=((s1.h 2).1+1,Xz)/\s.h 7059000=(1,oB 304 [.old B0 (.sl (List.map enB p0.b)) (some u0),cI bm.2.1,cI bm.2.2])/\True) ?_ ?_
 ·replace h:=bn;clear bn;refine sq ?_;obtain⟨bj,bw,h⟩:=bind_some h;refine rn1 (c92.1 _ _ _ bw) ?_;refine an ?_;refine cu (λs=>s.t 0=vP 7059000 1 0/\s.t 2=vP 2 ((s1.h 2).1+1) 0/\s.t 3=vS x4.2.2/\s.t 4=vS x4.2.2/\s.t 12=vB bj.2.2/\s.h 2=((s1.h 2).1+1,Xz)/\s.h 7059000=(1,oB 304 [.old B0 (.sl (List.map enB p0.b)) (some u0),cI bj.1,cI bj.2.1])/\True) ?_;rintro cn f24;rcases Cw bj.2.2 with bo | bo;(replace h:=bF bo h;refine cf (sk ?_);cases h;refine dV ⟨?_,?_,?_,?_,?_,?_,trivial⟩<;>(try simp +decide only[F,reduceIte,Nat.reduceAdd,qB,qC,EN, *,-h]));replace h:=bG bo h;refine ct ?_;obtain⟨cp,bx,h⟩:=bind_some h;refine rn1 (ZA.1 _ _ bx) ?_;cases h;refine dV ⟨?_,?_,?_,?_,?_,?_,trivial⟩<;>(try simp +decide only[F,reduceIte,Nat.reduceAdd,qB,qC,EN, *,-h])
 clear bn
 rintro ai f15
 refine sq ?_
 obtain⟨cq,bz,h⟩:=bind_some h
 obtain⟨cr,c9,h⟩:=bind_some h
 obtain⟨bu,ca,h⟩:=bind_some h
 obtain⟨af,cd,h⟩:=bind_some h
 refine rn4 (Ob.1 _ _ _ bz) (Ob.1 _ _ _ c9) (c93.1 _ _ ca) (aA7.1 _ _ _ _ _ _ cd) ?_
 refine an (sq (sq ?_))
 refine cu (λs=>s.t 0=vP 7059000 1 0/\s.t 2=vP 2 ((s1.h 2).1+1) 0/\s.t 5=vP 5 ((ai.h 5).1+1) 0/\s.h 2=((s1.h 2).1+1,Xz)/\s.h 5=((ai.h 5).1+1,oB 67 [cI af.1.Id,cS af.1.aHL,cS af.1.Top,cI af.1.aHA,.row 500026 ((ai.h 500026).1+1),.row 600026 ((ai.h 600026).1+1),cI af.1.aHJ.Pc,.row 800026 ((ai.h 800026).1+1),cI af.1.aHJ.aHy,cB af.1.aHJ.aH5,cB af.1.aHJ.aH6])/\s.h 500026=((ai.h 500026).1+1,oW 81 2 M.aT.en af.1.aT)/\s.h 600026=((ai.h 600026).1+1,oW 308 4 M.Instr.en af.1.aHJ.aHt)/\s.h 800026=((ai.h 800026).1+1,oW 3 1 enI af.1.aHJ.aH1)/\s.h 7059000=(1,oB 304 [.old B0 (.sl (List.map enB p0.b)) (some u0),cI bu.1,cI bu.2.1])/\True) ?_
 rintro cg f43
 obtain⟨bg,cj,h⟩:=bind_some h
 refine rn1 (Ob.1 _ _ _ cj) ?_
 refine an (bk ?_)
 refine cu (λs=>s.h 5=cg.h 5/\s.t 0=vP 7059000 1 0/\s.t 2=vP 2 ((s1.h 2).1+1) 0/\s.t 5=vP 5 ((ai.h 5).1+1) 0/\s.t 7=vI bg.2.2/\s.h 2=((s1.h 2).1+1,Xz)/\s.h 500026=((ai.h 500026).1+1,oW 81 2 M.aT.en af.1.aT)/\s.h 600026=((ai.h 600026).1+1,oW 308 4 M.Instr.en af.1.aHJ.aHt)/\s.h 800026=((ai.h 800026).1+1,oW 3 1 enI af.1.aHJ.aH1)/\s.h 7059000=(1,oB 304 [.old B0 (.sl (List.map enB p0.b)) (some u0),cI bg.1,cI bg.2.1])/\True) ?_
 rintro bq ⟨f60,f55⟩
 replace f60:=f60.trans f43.2.2.2.2.1
 refine G7 (Gho.trans (Gho.trans (ghB 5 4 7050000 500026) (ghB 5 5 7050001 600026)) (ghB 5 7 7050002 800026)) ?_
 refine GI (λm s=>∃v7:Int,∃aw:Int,∃ax:ByteArray,∃ay:ByteArray,∃az:Int,∃ba:Int,∃bd:Int,∃bf:Bool,∃av:Bool,∃aa:Int,∃ae:Int,∃aj:List M.aT,∃ak:List M.Instr,∃al:List Int,∃ao:Nat,∃aq:Nat,∃ar:Nat,s.t 0=vP 7059000 1 0/\s.t 2=vP 2 ((s1.h 2).1+1) 0/\s.t 5=vP 5 ((ai.h 5).1+1) 0/\s.t 7=vI v7/\s.h 2=((s1.h 2).1+1,Xz)/\s.h 5=((ai.h 5).1+1,oB 67 [cI aw,cS ax,cS ay,cI az,.row 7050000 ao,.row 7050001 aq,cI ba,.row 7050002 ar,cI bd,cB bf,cB av])/\s.h 7050000=(ao,oW 81 2 M.aT.en aj)/\s.h 7050001=(aq,oW 308 4 M.Instr.en ak)/\s.h 7050002=(ar,oW 3 1 enI al)/\s.h 7059000=(1,oB 304 [.old B0 (.sl (List.map enB p0.b)) (some u0),cI aa,cI ae])/\rD p0 m v7 aw ax ay az ba bd bf av aa ae aj ak al=some r) fuel ?_ ?_
 ·refine⟨bg.2.2,af.1.Id,af.1.aHL,af.1.Top,af.1.aHA,af.1.aHJ.Pc,af.1.aHJ.aHy,af.1.aHJ.aH5,af.1.aHJ.aH6,bg.1,bg.2.1,af.1.aT,af.1.aHJ.aHt,af.1.aHJ.aH1,(bq.h 7050000).1+1,(bq.h 7050001).1+1,(bq.h 7050002).1+1,?_,?_,?_,?_,?_,?_,?_,?_,?_,?_,h⟩;all_goals simp +decide only[F,reduceIte,Nat.reduceAdd,qB,qC,EN, *,-h]
 rintro mL1 bh ⟨v7,aw,ax,ay,az,ba,bd,bf,av,aa,ae,aj,ak,al,ao,aq,ar,f66,f67,f68,f69,f70,f71,f72,f73,f74,f75,h⟩
 rcases mL1 with _ | mL1
 ·exact absurd h (by simp[rD])
 simp only[rD]at h
 refine sq (sq (rn ?_))
 refine an ?_
 rcases Cw (decide (v7>0))with br | br
 ·replace h:=bF br h;refine cf (xt (EP (EF (Js (an (sq (rn ?_)))))));refine an (rt ?_);cases h;simp[I5,Ret,TB,EN, *]
 replace h:=bG br h
 refine ct (sk (an (sq (bk ?_))))
 obtain⟨bl,ck,h⟩:=bind_some h
 obtain⟨ah,cl,h⟩:=bind_some h
 refine rd2 mixed (aBJ.1 _ _ ck) (aA2.1 _ _ _ _ cl) ?_
 refine ab (an ?_)
 refine cu (λs=>s.t 0=vP 7059000 1 0/\s.t 2=vP 2 ((s1.h 2).1+1) 0/\s.t 5=vP 5 ((ai.h 5).1+1) 0/\s.t 7=vI v7/\s.h 2=((s1.h 2).1+1,Xz)/\s.h 5=((ai.h 5).1+1,oB 67 [cI ah.1.Id,cS ah.1.aHL,cS ah.1.Top,cI ah.1.aHA,.row 500042 ((bh.h 500042).1+1),.row 600042 ((bh.h 600042).1+1),cI ah.1.aHJ.Pc,.row 800042 ((bh.h 800042).1+1),cI ah.1.aHJ.aHy,cB ah.1.aHJ.aH5,cB ah.1.aHJ.aH6])/\s.h 500042=((bh.h 500042).1+1,oW 81 2 M.aT.en ah.1.aT)/\s.h 600042=((bh.h 600042).1+1,oW 308 4 M.Instr.en ah.1.aHJ.aHt)/\s.h 800042=((bh.h 800042).1+1,oW 3 1 enI ah.1.aHJ.aH1)/\s.h 7059000=(1,oB 304 [.old B0 (.sl (List.map enB p0.b)) (some u0),cI bl.1,cI bl.2.1])/\True) ?_
 rintro bt f82
 refine rn ?_
 refine dV ⟨_,Gho.trans (Gho.trans (ghB 5 4 7050000 500042) (ghB 5 5 7050001 600042)) (ghB 5 7 7050002 800042),mL1,jF,IntKind.i64.wrap (v7-1),ah.1.Id,ah.1.aHL,ah.1.Top,ah.1.aHA,ah.1.aHJ.Pc,ah.1.aHJ.aHy,ah.1.aHJ.aH5,ah.1.aHJ.aH6,bl.1,bl.2.1,ah.1.aT,ah.1.aHJ.aHt,ah.1.aHJ.aH1,(bt.h 7050000).1+1,(bt.h 7050001).1+1,(bt.h 7050002).1+1,?_,?_,?_,?_,?_,?_,?_,?_,?_,?_,h⟩
 all_goals simp +decide only[F,reduceIte,Nat.reduceAdd,qB,qC,EN, *,-h]⟩
instance:bK 475 (∀p0 r (h:AH p0=some r),Sc 475 [(false,[.ptr [.sl (List.map enB p0.b),.int .i64 p0.i,.int .i64 p0.h]])] [(false,[.edit (.lend 304 [.int .i64 r.1,.int .i64 r.2.1])]),(true,M.bB.rs r.2.2)]):=⟨λp0 r h=>by
 unfold AH at h
 simp only[EN]
 refine sgB 46 [.cell 2 328] Tryz.func475 λbase wd B0 u0 hw0=> ?_
 refine eE (J:=λs=>s.t 0=vP 7059000 1 0/\s.h 7059000=(1,oB 304 [.old B0 (.sl (List.map enB p0.b)) (some u0),cI p0.i,cI p0.h])/\True) ?_ ?_
 ·and_intros<;>(try simp only[LN,List.map_cons,List.map_nil])<;>rfl
 rintro s1 f2
 exact sgX⟩
