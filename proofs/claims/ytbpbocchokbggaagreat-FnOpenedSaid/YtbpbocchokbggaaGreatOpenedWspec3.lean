/-
  Helper text. No conditions.
-/
import Derived.Test.YtbpbocchokbggaaGreatOpenedWspec0
import Derived.Test.YtbpbocchokbggaaGreatOpenedWspec1
set_option linter.all false
namespace Go.Proofs.YtbpbocchokbggaaGreat.gen
open Go Go.Sh
set_option maxRecDepth 20000
set_option maxHeartbeats 4000000
instance:bK 268 (∀p0 r (h:kS p0=some r),Sc 268 [aX (M.bB.en p0)] [rB r]):=⟨λp0 r h=>by unfold kS at h;exact sgo 26 [.tmp 2] Tryz.func268⟩
instance:bK 169 (∀p0 r (h:bL p0=some r),Sc 169 [aX (M.aD.en p0)] [rB r]):=⟨λp0 r h=>by
 have i1:=inv λm s=>∃v3:Int,(s.t 1=vP 1 1 0/\s.t 3=vI v3/\s.h 1=(1,oX 129 (M.aD.en p0)))/\hU p0 m v3=some r
 have e1:=@hU.eq_2
 unfold bL at h
 exact sgo 53 [.tmp 2] Tryz.func169⟩
instance:bK 408 (∀p0 p1 r (h:bI p0 p1=some r),Sc 408 [aX (M.Key.en p0),aX (M.Key.en p1)] [rI r]):=⟨λp0 p1 r h=>by unfold bI at h;exact sgo 46 [.tmp 4] Tryz.func408⟩
instance:bK 269 (∀p0 r (h:nO p0=some r),Sc 269 [aX (M.aC.en p0)] [rB r]):=⟨λp0 r h=>by
 have i1:=inv λm s=>∃v3:Int,(s.t 1=vP 1 1 0/\s.t 3=vI v3/\s.h 1=(1,oX 117 (M.aC.en p0)))/\kH p0 m v3=some r
 have e1:=@kH.eq_2
 unfold nO at h
 exact sgo 64 [.tmp 2] Tryz.func269⟩
instance:bK 287 (∀p0 r (h:nC p0=some r),Sc 287 [aX (M.aG9.en p0)] [rB r]):=⟨λp0 r h=>by
 unfold nC at h
 simp only[EN]
 refine sgn 52 [.tmp 2] Tryz.func287 λbase wd => ?_
 refine sq (rn ?_)
 refine an (sq (rn ?_))
 refine an (sq (rn ?_))
 refine an (sq (sq ?_))
 refine cu (λs=>s.t 1=vP 1 1 0/\s.t 3=vI 0/\s.t 4=vR 100012 1/\s.h 1=(1,oX 105 (M.aG9.en p0))/\s.h 100012=(1,oW 3 1 enI ([p0.aHp,p0.aHm,p0.aHf]))/\True) ?_
 rintro s1 f2
 refine rn ?_
 refine an (bk ?_)
 refine Hv (λm s=>∃v3:Int,∃v5:Int,s.t 1=vP 1 1 0/\s.t 3=vI v3/\s.t 4=vR 100012 1/\s.t 5=vI v5/\s.h 1=(1,oX 105 (M.aG9.en p0))/\s.h 100012=(1,oW 3 1 enI ([p0.aHp,p0.aHm,p0.aHf]))/\cE p0 m v3 v5=some r) fuel ?_ ?_
 ·refine⟨0,0,?_,?_,?_,?_,?_,?_,h⟩;all_goals simp +decide only[F,reduceIte,Nat.reduceAdd,qB,qC,EN, *,-h]
 rintro mL1 s7 ⟨v3,v5,f8,f9,f10,f11,f12,f13,h⟩
 rcases mL1 with _ | mL1
 ·exact absurd h (by simp[cE])
 simp only[cE]at h
 refine sq (sq (rn ?_))
 refine an ?_
 rcases Cw (decide (v5<((3:Nat):Int)))with ae | ae
 ·replace h:=bF ae h;refine cf (xt (EP (EF (Js (an (sq ?_))))));obtain⟨ar,ak,h⟩:=bind_some h;refine rn1 (aAG.1 _ _ ak) ?_;refine an (rt ?_);cases h;simp[Ret,TB,EN, *]
 replace h:=bG ae h
 refine ct (sk (an (sq (bk (sq (sq ?_))))))
 obtain⟨aa,al,h⟩:=bind_some h
 obtain⟨av,aw,ao⟩:=rR al
 have q17m:=congrArg (Option.map enI) (show([p0.aHp,p0.aHm,p0.aHf])[v5.toNat]? = some aa by assumption)
 simp only[<-List.getElem?_map,List.map_cons,List.map_nil,Option.map_some,EN]at q17m
 simp only[qJ,qK,Nat.reduceAdd]at ao
 obtain⟨aq,af,h⟩:=bind_some h
 rcases dP (!aq)with ah | ah
 ·replace h:=bG ah h;refine rn1 (Tr.1 _ _ _ _ af) ?_;refine an (ct (sq (rn ?_)));refine an (rt ?_);cases h;simp[Ret,TB,EN, *]
 replace h:=bF ah h
 rcases Cw (aa != 0)with ai | ai
 ·replace h:=bF ai h;refine rn1 (Tr.1 _ _ _ _ af) ?_;refine an (cf (sk (an (sq (rn ?_)))));refine an (cf (sk (ab (an (rn ?_)))));refine dV ⟨mL1,jF,v3,IntKind.i64.wrap (v5+1),?_,?_,?_,?_,?_,?_,h⟩;all_goals simp +decide only[F,reduceIte,Nat.reduceAdd,qB,qC,EN, *,-h]
 replace h:=bG ai h
 refine rn1 (Tr.1 _ _ _ _ af) ?_
 refine an ?_
 rcases dP (decide (aa<=v3))with aj | aj
 ·replace h:=bG aj h;refine ct (sq (rn ?_));refine an (rt ?_);cases h;simp[Ret,TB,EN, *]
 replace h:=bF aj h
 refine cf (sk (an (sq (rn ?_))))
 refine an (ct (rn ?_))
 refine ab (an (rn ?_))
 refine dV ⟨mL1,jF,aa,IntKind.i64.wrap (v5+1),?_,?_,?_,?_,?_,?_,h⟩
 all_goals simp +decide only[F,reduceIte,Nat.reduceAdd,qB,qC,EN, *,-h]⟩
instance:bK 579 (∀p0 p1 p2 r (h:Cv p0 p1 p2=some r),Sc 579 [aX (M.aHV.en p0),aX (M.aHV.en p1),aS p2] [rB r]):=⟨λp0 p1 p2 r h=>by unfold Cv at h;exact sgo 41 [.tmp 6] Tryz.func579⟩
instance:bK 391 (∀p0 r (h:iO p0=some r),Sc 391 [aX (M.aJ.en p0)] [rB r]):=⟨λp0 r h=>by
 have i1:=inv λm s=>∃v4:Int,(s.t 1=vP 1 1 0/\s.t 3=vI (List.length p0.aHW:Int)/\s.t 4=vI v4/\s.h 1=(1,oX 120 (M.aJ.en p0)))/\nV p0 m v4=some r
 have e1:=@nV.eq_2
 unfold iO at h
 exact sgo 60 [.tmp 2] Tryz.func391⟩
instance:bK 315 (∀p0 r (h:lM p0=some r),Sc 315 [aX (M.Key.en p0)] [rW 5 1 enB r]):=⟨λp0 r h=>by
 have i1:=inv λm s=>∃v4:Int,∃aa:List Int,∃ae:Nat,(s.t 1=vP 1 1 0/\s.t 3=vR 100012 ae/\s.t 4=vI v4/\s.h 1=(1,oX 136 (M.Key.en p0))/\s.h 100012=(ae,oW 5 1 enB aa))/\bH p0 m v4 aa=some r
 have e1:=@bH.eq_2
 unfold lM at h
 exact sgo 38 [.tmp 2] Tryz.func315⟩
instance:bK 314 (∀p0 p1 r (h:bQ p0 p1=some r),Sc 314 [aL enB p0,aL enB p1] [rW 5 1 enB r]):=⟨λp0 p1 r h=>by unfold bQ at h;exact sgo 11 [.tmp 4] Tryz.func314⟩
instance:bK 316 (∀p0 r (h:gJ p0=some r),Sc 316 [aX (M.aD.en p0)] [rW 5 1 enB r]):=⟨λp0 r h=>by
 have i1:=ES [.t 3 7050000 5 1] λm s=>∃v4:Int,∃aa:List Int,∃ae:Nat,(s.t 1=vP 1 1 0/\s.t 3=vR 7050000 ae/\s.t 4=vI v4/\s.h 1=(1,oX 129 (M.aD.en p0))/\s.h 7050000=(ae,oW 5 1 enB aa))/\cU p0 m v4 aa=some r
 have e1:=@cU.eq_2
 unfold gJ at h
 exact sgo 38 [.tmp 2] Tryz.func316⟩
instance:bK 128 (∀p0 r (h:xJ p0=some r),Sc 128 [aX (M.aM.en p0)] [rB r]):=⟨λp0 r h=>by
 have i1:=inv λm s=>∃v3:Int,(s.t 1=vP 1 1 0/\s.t 3=vI v3/\s.h 1=(1,oX 51 (M.aM.en p0)))/\fX p0 m v3=some r
 have e1:=@fX.eq_2
 have i2:=λ(v3:Int) (x6:M.dO) (ae:Int->Option Bool) (s1:St)=>inv λm s=>∃aa:Int,(s.t 1=vP 1 1 0/\s.t 3=vI v3/\s.t 4=vP 4 ((s1.h 4).1+1) 0/\s.t 5=vI aa/\s.h 1=(1,oX 51 (M.aM.en p0))/\s.h 4=((s1.h 4).1+1,oX 196 (M.dO.en x6)))/\cQ p0 v3 x6 ae m aa=some r
 have e2:=@cQ.eq_2
 unfold xJ at h
 exact sgo 67 [.tmp 2] Tryz.func128⟩
theorem aGu(p0 p1 r)(h:vF p0 p1=some r):Sc 468 [aX (M.aM.en p0),aI p1] [(true,M.aM.rs r)]:=by
 have i1:=ES [.b 5 0 7050000 196 4] λm s=>∃I:Int,∃j:List M.dO,∃C:Nat,(s.t 1=vI p1/\s.t 2=vP 2 1 0/\s.t 4=vP 4 1 0/\s.t 5=vP 5 1 0/\s.t 6=vI I/\s.h 2=(1,oX 51 (M.aM.en p0))/\s.h 4=(1,oB 51 [.nil])/\s.h 5=(1,oB 51 [.row 7050000 C])/\s.h 7050000=(C,oW 196 4 M.dO.en j))/\eM p0 p1 m I j=some r
 have e1:=@eM.eq_2
 unfold vF at h
 exact sgo 35 [.cell 4 51] Tryz.func468
instance c92:bK 92 (∀p0 p1 r (h:cF p0 p1=some r),Sc 92 [(false,[.ptr [.sl (List.map enB p0.b),.int .i64 p0.i,.int .i64 p0.h]]),aI p1] [(false,[.edit (.lend 304 [.int .i64 r.1,.int .i64 r.2.1])]),rB r.2.2]):=⟨λp0 p1 r h=>by
 unfold cF at h
 simp only[EN]
 refine sgB 9 [.tmp 4] Tryz.func92 λbase wd B0 u0 hw0=> ?_
 refine eE (J:=λs=>s.t 0=vP 7059000 1 0/\s.t 1=vI p1/\s.h 7059000=(1,oB 304 [.old B0 (.sl (List.map enB p0.b)) (some u0),cI p0.i,cI p0.h])/\True) ?_ ?_
 ·and_intros<;>(try simp only[LN,List.map_cons,List.map_nil])<;>rfl
 rintro s1 f2
 exact sgX⟩
instance:bK 436 (∀p0 r (h:CD p0=some r),Sc 436 [aL enI p0] [rI r]):=⟨λp0 r h=>by
 have i1:=inv λm s=>∃v3:Int,∃v4:Int,(s.t 0=vL enI p0/\s.t 3=vI v3/\s.t 4=vI v4)/\xN p0 m v3 v4=some r
 have e1:=@xN.eq_2
 unfold CD at h
 exact sgo 22 [.tmp 2] Tryz.func436⟩
instance:bK 501 (∀p0 p1 r (h:wJ p0 p1=some r),Sc 501 [aI p0,aL enI p1] [rI r]):=⟨λp0 p1 r h=>by unfold wJ at h;exact sgo 13 [.tmp 4] Tryz.func501⟩
instance Zw:bK 375 (∀p0 p1 r (h:bN p0 p1=some r),Sc 375 [(false,[.ptr [.sl (List.map enB p0.b),.int .i64 p0.i,.int .i64 p0.h]]),aL enI p1] [(false,[.edit (.lend 304 [.int .i64 r.1,.int .i64 r.2.1])]),rI r.2.2]):=⟨λp0 p1 r h=>by
 unfold bN at h
 simp only[EN]
 refine sgB 12 [.tmp 4] Tryz.func375 λbase wd B0 u0 hw0=> ?_
 refine eE (J:=λs=>s.t 0=vP 7059000 1 0/\s.t 1=vL enI p1/\s.h 7059000=(1,oB 304 [.old B0 (.sl (List.map enB p0.b)) (some u0),cI p0.i,cI p0.h])/\True) ?_ ?_
 ·and_intros<;>(try simp only[LN,List.map_cons,List.map_nil])<;>rfl
 rintro s1 f2
 exact sgX⟩
instance aAa:bK 545 (∀p0 r (h:dN p0=some r),Sc 545 [(false,[.ptr [.sl (List.map enB p0.b),.int .i64 p0.i,.int .i64 p0.h]])] [(false,[.edit (.lend 304 [.int .i64 r.1,.int .i64 r.2.1])]),(true,M.Key.rs r.2.2)]):=⟨λp0 r h=>by
 unfold dN at h
 simp only[EN]
 refine sgB 6 [.cell 2 136] Tryz.func545 λbase wd B0 u0 hw0=> ?_
 refine eE (J:=λs=>s.t 0=vP 7059000 1 0/\s.h 7059000=(1,oB 304 [.old B0 (.sl (List.map enB p0.b)) (some u0),cI p0.i,cI p0.h])/\True) ?_ ?_
 ·and_intros<;>(try simp only[LN,List.map_cons,List.map_nil])<;>rfl
 rintro s1 f2
 exact sgX⟩
instance c45:bK 45 (∀p0 p1 p2 r (h:iQ p0 p1 p2=some r),Sc 45 [aX (M.aD.en p0),aS p1,aI p2] [(true,M.aD.rs r.1),rB r.2]):=⟨λp0 p1 p2 r h=>by
 have i1:=λ(x1:M.aD)=>inv λm s=>∃v9:Int,(s.t 1=vS p1/\s.t 2=vI p2/\s.t 3=vP 3 1 0/\s.t 6=vP 6 1 0/\s.t 8=vP 8 1 0/\s.t 9=vI v9/\s.h 3=(1,oX 129 (M.aD.en p0))/\s.h 6=(1,oB 129 [.nil])/\s.h 8=(1,oB 129 [.row 100011 1])/\s.h 100011=(1,oW 262 2 M.Field.en x1.aHG))/\nQ p0 p1 p2 x1 m v9=some r
 have e1:=@nQ.eq_2
 unfold iQ at h
 exact sgo 78 [.cell 6 129,.tmp 7] Tryz.func45⟩
instance:bK 317 (∀p0 p1 r (h:yB p0 p1=some r),Sc 317 [aI p0,aL enB p1] [rI r]):=⟨λp0 p1 r h=>by unfold yB at h;exact sgo 11 [.tmp 4] Tryz.func317⟩
instance:bK 578 (∀p0 p1 r (h:Du p0 p1=some r),Sc 578 [aL enB p0,aI p1] [(true,M.aD.rs r.1),rI r.2.1,rB r.2.2]):=⟨λp0 p1 r h=>by
 have i1:=λ(x1:(Int×Int×Bool))=>ES [.b 10 0 7050000 262 2] λm s=>∃v8:Int,∃v11:Int,∃aa:List M.Field,∃ae:Nat,(s.t 0=vL enB p0/\s.t 4=vP 4 1 0/\s.t 7=vI x1.1/\s.t 8=vI v8/\s.t 10=vP 10 1 0/\s.t 11=vI v11/\s.h 4=(1,oB 129 [.nil])/\s.h 10=(1,oB 129 [.row 7050000 ae])/\s.h 7050000=(ae,oW 262 2 M.Field.en aa))/\tM p0 x1 m v8 v11 aa=some r
 have e1:=@tM.eq_2
 unfold Du at h
 exact sgo 72 [.cell 4 129,.tmp 5,.tmp 6] Tryz.func578⟩
instance:bK 313 (∀p0 r (h:CI p0=some r),Sc 313 [aX (M.Op.en p0)] [rB r]):=⟨λp0 r h=>by unfold CI at h;exact sgo 46 [.tmp 2] Tryz.func313⟩
instance:bK 580 (∀p0 p1 r (h:Ac p0 p1=some r),Sc 580 [aX (M.Key.en p0),aX (M.gN.en p1)] [rB r]):=⟨λp0 p1 r h=>by unfold Ac at h;exact sgo 50 [.tmp 4] Tryz.func580⟩
instance aBp:bK 601 (∀p0 r (h:sR p0=some r),Sc 601 [(false,[.ptr [.sl (List.map enB p0.b),.int .i64 p0.i,.int .i64 p0.h]])] [(false,[.edit (.lend 304 [.int .i64 r.1,.int .i64 r.2.1])]),(true,M.aHH.rs r.2.2)]):=⟨λp0 r h=>by
 unfold sR at h
 simp only[EN]
 refine sgB 40 [.cell 2 189] Tryz.func601 λbase wd B0 u0 hw0=> ?_
 refine eE (J:=λs=>s.t 0=vP 7059000 1 0/\s.h 7059000=(1,oB 304 [.old B0 (.sl (List.map enB p0.b)) (some u0),cI p0.i,cI p0.h])/\True) ?_ ?_
 ·and_intros<;>(try simp only[LN,List.map_cons,List.map_nil])<;>rfl
 rintro s1 f2
 exact sgX⟩
instance:bK 631 (∀p0 r (h:yF p0=some r),Sc 631 [(false,[.ptr [.sl (List.map enB p0.b),.int .i64 p0.i,.int .i64 p0.h]])] [(false,[.edit (.lend 304 [.int .i64 r.1,.int .i64 r.2.1])]),rI r.2.2]):=⟨λp0 r h=>by
 unfold yF at h
 simp only[EN]
 refine sgB 8 [.tmp 2] Tryz.func631 λbase wd B0 u0 hw0=> ?_
 refine eE (J:=λs=>s.t 0=vP 7059000 1 0/\s.h 7059000=(1,oB 304 [.old B0 (.sl (List.map enB p0.b)) (some u0),cI p0.i,cI p0.h])/\True) ?_ ?_
 ·and_intros<;>(try simp only[LN,List.map_cons,List.map_nil])<;>rfl
 rintro s1 f2
 exact sgX⟩
instance:bK 603 (∀p0 p1 r (h:Ct p0 p1=some r),Sc 603 [(false,[.ptr [.sl (List.map enB p0.b),.int .i64 p0.i,.int .i64 p0.h]]),aL enB p1] [(false,[.edit (.lend 304 [.int .i64 r.1,.int .i64 r.2.1])]),rW 5 1 enB r.2.2]):=⟨λp0 p1 r h=>by
 unfold Ct at h
 simp only[EN]
 refine sgB 44 [.tmp 4] Tryz.func603 λbase wd B0 u0 hw0 => ?_
 refine eE (J:=λs=>s.t 0=vP 7059000 1 0/\s.t 1=vL enB p1/\s.h 7059000=(1,oB 304 [.old B0 (.sl (List.map enB p0.b)) (some u0),cI p0.i,cI p0.h])/\True) ?_ ?_
 ·and_intros<;>(try simp only[LN,List.map_cons,List.map_nil])<;>rfl
 rintro s1 f2
 refine sq (rn ?_)
 refine an (sq ?_)
 obtain⟨x5,h6,h⟩:=bind_some h
 refine rn1 h6 ?_
 refine an (sq (sq ?_))
 refine cu (λs=>s.t 0=vP 7059000 1 0/\s.t 5=vR 100006 (((s1.h 100006).1+1)+1)/\s.h 100006=(((s1.h 100006).1+1)+1,oW 5 1 enB p1)/\s.h 7059000=(1,oB 304 [.old B0 (.sl (List.map enB p0.b)) (some u0),cI p0.i,cI p0.h])/\True) ?_
 rintro s7 f8
 obtain⟨aa,al,h⟩:=bind_some h
 refine rn1 (Ob.1 _ _ _ al) ?_
 refine an (bk (sq ?_))
 refine cu (λs=>s.t 0=vP 7059000 1 0/\s.t 5=vR 100006 (((s1.h 100006).1+1)+1)/\s.t 10=vI aa.2.2/\s.h 100006=(((s1.h 100006).1+1)+1,oW 5 1 enB p1)/\s.h 7059000=(1,oB 304 [.old B0 (.sl (List.map enB p0.b)) (some u0),cI aa.1,cI aa.2.1])/\True) ?_
 rintro ay f15
 refine rn ?_
 refine an ?_
 rcases dP (aa.2.2==0)with ae | ae
 ·replace h:=bG ae h;refine ct (sq (rn ?_));refine an ?_;rcases Cw (decide ((List.length p1:Int)>0))with ai | ai;(replace h:=bF ai h;refine cf (sk (ab (an (sq (rn ?_)))));refine an (rt ?_);cases h;simp[I5,Ret,TB,EN, *]);replace h:=bG ai h;refine ct ?_;obtain⟨az,ao,h⟩:=bind_some h;obtain⟨ba,aq,h⟩:=bind_some h;obtain⟨bd,ar,h⟩:=bind_some h;obtain⟨bf,bg,bh⟩:=rR ar;refine rn2 (Ob.1 _ _ _ ao) (Ob.1 _ _ _ aq) ?_;refine ab (an (sq (rn ?_)));refine an (rt ?_);cases h;simp[I5,Ret,TB,EN, *]
 replace h:=bF ae h
 refine cf (sq (rn ?_))
 refine an ?_
 rcases Cw (aa.2.2==1)with af | af
 ·replace h:=bF af h;refine cf (sq (rn ?_));refine an ?_;rcases Cw (aa.2.2==2)with aj | aj;(replace h:=bF aj h;refine cf (sk (ab (an (sq (rn ?_)))));refine an (rt ?_);cases h;simp[I5,Ret,TB,EN, *]);replace h:=bG aj h;refine ct ?_;obtain⟨bj,av,h⟩:=bind_some h;obtain⟨bl,aw,h⟩:=bind_some h;refine rn2 (Zw.1 _ _ _ av) aw ?_;refine ab (an (sq (rn ?_)));refine an (rt ?_);cases h;simp[I5,Ret,TB,EN, *]
 replace h:=bG af h
 refine ct ?_
 obtain⟨ak,ax,h⟩:=bind_some h
 obtain⟨bm,ah,h⟩:=bind_some h
 apply bE
 ·simp +decide only[E,reduceIte,Nat.reduceAdd,Nat.reduceMul,qB,qC,<-List.map_take,<-List.map_drop,L,ti5,aAb,enB,EN,f15,ae,af]
  refine⟨_,Ob.1 _ _ _ ax,?_⟩
  try simp +decide only[E,reduceIte,Nat.reduceAdd,Nat.reduceMul,qB,qC,<-List.map_take,<-List.map_drop,L,ti5,aAb,enB,EN,f15,ae,af]
  refine⟨by first | exact rM ah | exact(rM ah).2 | exact(rM ah).2.2,?_⟩
  try simp +decide only[E,reduceIte,Nat.reduceAdd,Nat.reduceMul,qB,qC,<-List.map_take,<-List.map_drop,L,ti5,aAb,enB,EN,f15,ae,af]
  exact Is.mk _
 refine ab (an (sq (rn ?_)))
 refine an ?_
 refine G7 (Gho.Zt (i:=4) (j:=100006) (vj:=((s1.h 100006).1+1)+1) (K:=100006) (n:=ak.2.2.toNat) (e:=5) (sz:=1) (dp:=true) (xs:=List.map enB p1) (List.map enB (List.take ak.2.2.toNat p1)) (by first | (simp +decide only[F,reduceIte,Nat.reduceAdd,qB,qC,EN, *,-h];done)| (simp +decide only[F,reduceIte,Nat.reduceAdd,qB,qC,EN, *,-h];rfl)| rfl) (by first | (simp +decide only[F,reduceIte,Nat.reduceAdd,qB,qC,EN, *,-h];done)| (simp +decide only[F,reduceIte,Nat.reduceAdd,qB,qC,EN, *,-h];rfl)| rfl) (by rw[qU];exact(rM ah).2) (by rw[List.map_take])) ?_
 refine rt ?_
 cases h
 simp[I5,Ret,TB,EN, *]⟩
