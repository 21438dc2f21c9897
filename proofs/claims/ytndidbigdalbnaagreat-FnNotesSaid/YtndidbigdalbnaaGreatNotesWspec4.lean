/-
  Helper text. No conditions.
-/
import Derived.Test.YtndidbigdalbnaaGreatNotesWspec0
import Derived.Test.YtndidbigdalbnaaGreatNotesWspec1
import Derived.Test.YtndidbigdalbnaaGreatNotesWspec2
set_option linter.all false
namespace Go.Proofs.YtndidbigdalbnaaGreat.gen
open Go Go.Sh Tryz
set_option maxRecDepth 20000
set_option maxHeartbeats 4000000
instance:bU 77 (∀p0 r (h:mL p0=some r),Sc 77 [aX (M.bK.en p0)] [(true,M.bK.rs r)]):=⟨λp0 r h=>by unfold mL at h;exact sgo 15 [.cell 2 44] func77⟩
instance:bU 286 (∀p0 r (h:Bp p0=some r),Sc 286 [aX (M.aKl.en p0)] [rB r]):=⟨λp0 r h=>by
 have i1:=inv λm s=>∃v3:Int,(s.t 1=vP 1 1 0/\s.t 3=vI v3/\s.h 1=(1,oX 120 (M.aKl.en p0)))/\mX p0 m v3=some r
 have e1:=@mX.eq_2
 unfold Bp at h
 exact sgo 50 [.tmp 2] func286⟩
instance:bU 86 (∀p0 r (h:cA p0=some r),Sc 86 [aX (M.aF.en p0)] [rB r]):=⟨λp0 r h=>by
 have i1:=inv λm s=>∃v3:Int,(s.t 1=vP 1 1 0/\s.t 3=vI v3/\s.h 1=(1,oX 90 (M.aF.en p0)))/\lW p0 m v3=some r
 have e1:=@lW.eq_2
 unfold cA at h
 exact sgo 53 [.tmp 2] func86⟩
instance:bU 258 (∀p0 p1 r (h:bV p0 p1=some r),Sc 258 [aX (M.bD.en p0),aX (M.bD.en p1)] [rI r]):=⟨λp0 p1 r h=>by unfold bV at h;exact sgo 46 [.tmp 4] func258⟩
instance:bU 204 (∀p0 r (h:oP p0=some r),Sc 204 [aX (M.aD.en p0)] [rB r]):=⟨λp0 r h=>by
 have i1:=inv λm s=>∃v3:Int,(s.t 1=vP 1 1 0/\s.t 3=vI v3/\s.h 1=(1,oX 66 (M.aD.en p0)))/\lN p0 m v3=some r
 have e1:=@lN.eq_2
 unfold oP at h
 exact sgo 64 [.tmp 2] func204⟩
instance:bU 237 (∀p0 r (h:vW p0=some r),Sc 237 [aX (M.bK.en p0)] [rB r]):=⟨λp0 r h=>by
 have i1:=inv λm s=>∃v3:Int,(s.t 1=vP 1 1 0/\s.t 3=vI v3/\s.h 1=(1,oX 44 (M.bK.en p0)))/\uR p0 m v3=some r
 have e1:=@uR.eq_2
 unfold vW at h
 exact sgo 54 [.tmp 2] func237⟩
instance:bU 210 (∀p0 r (h:oH p0=some r),Sc 210 [aX (M.aKd.en p0)] [rB r]):=⟨λp0 r h=>by
 unfold oH at h
 simp only[EN]
 refine sgn 52 [.tmp 2] func210 λbase wd=> ?_
 refine sq (rn ?_)
 refine an (sq (rn ?_))
 refine an (sq (rn ?_))
 refine an (sq (sq ?_))
 obtain⟨V1,eV1⟩:=nmH ((1,oW 3 1 enI ([p0.aLL,p0.aLH,p0.aLB])))
 refine cu (λs=>s.t 1=vP 1 1 0/\s.t 3=vI 0/\s.t 4=vR 100012 1/\s.h 1=(1,oX 60 (M.aKd.en p0))/\s.h 100012=V1/\True) ?_
 rintro s1 f2
 refine rn ?_
 refine an (bk ?_)
 refine HG (λm s=>∃v3:Int,∃v5:Int,s.t 1=vP 1 1 0/\s.t 3=vI v3/\s.t 4=vR 100012 1/\s.t 5=vI v5/\s.h 1=(1,oX 60 (M.aKd.en p0))/\s.h 100012=V1/\cZ p0 m v3 v5=some r) aJ ?_ ?_
 ·exact⟨0,0,zM⟩
 rintro mL1 s7 ⟨v3,v5,f8,f9,f10,f11,f12,f13,h⟩
 rcases mL1 with _|mL1
 ·exact absurd h (by simp[cZ])
 simp only[cZ]at h
 refine sq (sq (rn ?_))
 refine an ?_
 rcases CP (decide (v5<((3:Nat):Int)))with ae|ae
 ·replace h:=bP ae h;refine cf (xt (CO (CL (Gs (an (sq ?_))))));obtain⟨ar,ak,h⟩:=aA h;refine rn1 (aEF.1 _ _ ak) ?_;exact an (rt zR)
 replace h:=bQ ae h
 refine ct (sk (an (sq (bk (sq (sq ?_))))))
 obtain⟨aa,al,h⟩:=aA h
 obtain⟨av,aw,ao⟩:=pK al
 have q17m:=congrArg (Option.map enI) (show([p0.aLL,p0.aLH,p0.aLB])[v5.toNat]? =some aa by assumption)
 simp only[<-List.getElem?_map,jJ,jK,Option.map_some,EN]at q17m
 simp only[qJ,qK,Nat.reduceAdd]at ao
 obtain⟨aq,af,h⟩:=aA h
 rcases gK (!aq)with ah|ah
 ·replace h:=bQ ah h;refine rn1 (Xl.1 _ _ _ _ af) ?_;refine an (ct (sq (rn ?_)));exact an (rt zR)
 replace h:=bP ah h
 rcases CP (aa !=0)with ai|ai
 ·replace h:=bP ai h;refine rn1 (Xl.1 _ _ _ _ af) ?_;refine an (cf (sk (an (sq (rn ?_)))));refine an (cf (sk (ab (an (rn ?_)))));exact fB ⟨mL1,wg,v3,IntKind.i64.wrap (v5+1),zM⟩
 replace h:=bQ ai h
 refine rn1 (Xl.1 _ _ _ _ af) ?_
 refine an ?_
 rcases gK (decide (aa<=v3))with aj|aj
 ·replace h:=bQ aj h;refine ct (sq (rn ?_));exact an (rt zR)
 replace h:=bP aj h
 refine cf (sk (an (sq (rn ?_))))
 refine an (ct (rn ?_))
 refine ab (an (rn ?_))
 exact fB ⟨mL1,wg,aa,IntKind.i64.wrap (v5+1),zM⟩⟩
instance:bU 267 (∀p0 r (h:xD p0=some r),Sc 267 [aL M.aK2.en p0] [rB r]):=⟨λp0 r h=>by
 have i1:=inv λm s=>∃v3:Int,(s.t 0=vL M.aK2.en p0/\s.t 3=vI v3)/\fU p0 m v3=some r
 have e1:=@fU.eq_2
 have i2:=λ(v3:Int) (x5:M.aK2) (ae:Int->Option Bool)=>inv λm s=>∃aa:Int,(s.t 0=vL M.aK2.en p0/\s.t 3=vI v3/\s.t 4=vI aa)/\iL p0 v3 x5 ae m aa=some r
 have e2:=@iL.eq_2
 unfold xD at h
 exact sgo 68 [.tmp 2] func267⟩
instance aBk:bU 211 (∀p0 r (h:dC p0=some r),Sc 211 [aX (M.aN.en p0)] [rB r]):=⟨λp0 r h=>by
 have i1:=inv λm s=>∃v3:Int,(s.t 1=vP 1 1 0/\s.t 3=vI v3/\s.h 1=(1,oX 63 (M.aN.en p0)))/\fR p0 m v3=some r
 have e1:=@fR.eq_2
 unfold dC at h
 exact sgo 53 [.tmp 2] func211⟩
instance:bU 323 (∀p0 p1 p2 r (h:Ea p0 p1 p2=some r),Sc 323 [aX (M.aKy.en p0),aX (M.aKy.en p1),aS p2] [rB r]):=⟨λp0 p1 p2 r h=>by unfold Ea at h;exact sgo 41 [.tmp 6] func323⟩
instance:bU 153 (∀p0 p1 r (h:cJ p0 p1=some r),Sc 153 [aL enB p0,aL enB p1] [rW 5 1 enB r]):=⟨λp0 p1 r h=>by unfold cJ at h;exact sgo 11 [.tmp 4] func153⟩
instance:bU 155 (∀p0 r (h:hJ p0=some r),Sc 155 [aX (M.aF.en p0)] [rW 5 1 enB r]):=⟨λp0 r h=>by
 have i1:=He [.t 3 7050000 5 1] λm s=>∃v4:Int,∃aa:List Int,∃ae:Nat,(s.t 1=vP 1 1 0/\s.t 3=vR 7050000 ae/\s.t 4=vI v4/\s.h 1=(1,oX 90 (M.aF.en p0))/\s.h 7050000=(ae,oW 5 1 enB aa))/\dL p0 m v4 aa=some r
 have e1:=@dL.eq_2
 unfold hJ at h
 exact sgo 38 [.tmp 2] func155⟩
theorem aJ6(p0 p1 r)(h:yC p0 p1=some r):Sc 279 [aX (M.aW.en p0),aI p1] [(true,M.aW.rs r)]:=by
 have i1:=He [.b 5 0 7050000 113 4] λm s=>∃I:Int,∃j:List M.vE,∃C:Nat,(s.t 1=vI p1/\s.t 2=vP 2 1 0/\s.t 4=vP 4 1 0/\s.t 5=vP 5 1 0/\s.t 6=vI I/\s.h 2=(1,oX 30 (M.aW.en p0))/\s.h 4=(1,oB 30 [.nil])/\s.h 5=(1,oB 30 [.row 7050000 C])/\s.h 7050000=(C,oW 113 4 M.vE.en j))/\fN p0 p1 m I j=some r
 have e1:=@fN.eq_2
 unfold yC at h
 exact sgo 35 [.cell 4 30] func279
instance c49:bU 49 (∀p0 p1 r (h:cF p0 p1=some r),Sc 49 [(false,[.ptr [.sl (List.map enB p0.b),.int .i64 p0.i,.int .i64 p0.h]]),aI p1] [(false,[.edit (.lend 138 [.int .i64 r.1,.int .i64 r.2.1])]),rB r.2.2]):=⟨λp0 p1 r h=>by
 unfold cF at h
 simp only[EN]
 refine sgB 9 [.tmp 4] func49 λbase wd B0 u0 hw0=> ?_
 refine bY (J:=λs=>s.t 0=vP 7059000 1 0/\s.t 1=vI p1/\s.h 7059000=(1,oB 138 [.old B0 (.sl (List.map enB p0.b)) (some u0),cI p0.i,cI p0.h])/\True) ?_ ?_
 ·and_intros<;>(try simp only[LN,jJ,jK])<;>rfl
 rintro s1 f2
 exact sgX⟩
instance:bU 352 (∀p0 p1 r (h:vO p0 p1=some r),Sc 352 [aX (M.aKl.en p0),aI p1] [rB r]):=⟨λp0 p1 r h=>by unfold vO at h;exact sgo 18 [.tmp 4] func352⟩
instance aFq:bU 178 (∀p0 p1 p2 r (h:kI p0 p1 p2=some r),Sc 178 [aX (M.bK.en p0),aS p1,aX (M.aKo.en p2)] [(true,M.bK.rs r.1),rB r.2]):=⟨λp0 p1 p2 r h=>by unfold kI at h;exact sgo 43 [.cell 6 44,.tmp 7] func178⟩
instance:bU 228 (∀p0 p1 p2 r (h:pP p0 p1 p2=some r),Sc 228 [aX (M.aKh.en p0),aI p1,aI p2] [(true,M.aKh.rs r.1),rB r.2]):=⟨λp0 p1 p2 r h=>by unfold pP at h;exact sgo 36 [.cell 6 42,.tmp 7] func228⟩
instance:bU 256 (∀p0 r (h:yS p0=some r),Sc 256 [aL enB p0] [(true,M.bD.rs r.1),rB r.2]):=⟨λp0 r h=>by
 have i1:=λ(x2:Int)=>inv λm s=>∃v6:Int,∃v7:Int,(s.t 0=vL enB p0/\s.t 2=vP 2 1 0/\s.t 4=vP 4 1 0/\s.t 6=vI v6/\s.t 7=vI v7/\s.h 2=(1,oB 98 [cI 0,cI 0,cS (⟨#[]⟩:ByteArray)])/\s.h 4=(1,oB 98 [cI (IntKind.i64.wrap x2),cI 0,cS (⟨#[]⟩:ByteArray)]))/\nD p0 x2 m v6 v7=some r
 have e1:=@nD.eq_2
 unfold yS at h
 exact sgo 49 [.cell 2 98,.tmp 3] func256⟩
instance:bU 321 (∀p0 p1 r (h:Fy p0 p1=some r),Sc 321 [aL enB p0,aI p1] [(true,M.aF.rs r.1),rI r.2.1,rB r.2.2]):=⟨λp0 p1 r h=>by
 have i1:=λ(x1:(Int×Int×Bool))=>He [.b 10 0 7050000 157 2] λm s=>∃v8:Int,∃v11:Int,∃aa:List M.aR,∃ae:Nat,(s.t 0=vL enB p0/\s.t 4=vP 4 1 0/\s.t 7=vI x1.1/\s.t 8=vI v8/\s.t 10=vP 10 1 0/\s.t 11=vI v11/\s.h 4=(1,oB 90 [.nil])/\s.h 10=(1,oB 90 [.row 7050000 ae])/\s.h 7050000=(ae,oW 157 2 M.aR.en aa))/\uU p0 x1 m v8 v11 aa=some r
 have e1:=@uU.eq_2
 unfold Fy at h
 exact sgo 72 [.cell 4 90,.tmp 5,.tmp 6] func321⟩
instance:bU 152 (∀p0 r (h:EA p0=some r),Sc 152 [aX (M.fA.en p0)] [rB r]):=⟨λp0 r h=>by unfold EA at h;exact sgo 46 [.tmp 2] func152⟩
instance:bU 324 (∀p0 p1 r (h:BH p0 p1=some r),Sc 324 [aX (M.bD.en p0),aX (M.fY.en p1)] [rB r]):=⟨λp0 p1 r h=>by unfold BH at h;exact sgo 50 [.tmp 4] func324⟩
instance c29:bU 29 (∀p0 p1 p2 r (h:iC p0 p1 p2=some r),Sc 29 [aX (M.aF.en p0),aS p1,aI p2] [(true,M.aF.rs r.1),rB r.2]):=⟨λp0 p1 p2 r h=>by
 have i1:=λ(x1:M.aF)=>inv λm s=>∃v9:Int,(s.t 1=vS p1/\s.t 2=vI p2/\s.t 3=vP 3 1 0/\s.t 6=vP 6 1 0/\s.t 8=vP 8 1 0/\s.t 9=vI v9/\s.h 3=(1,oX 90 (M.aF.en p0))/\s.h 6=(1,oB 90 [.nil])/\s.h 8=(1,oB 90 [.row 100011 1])/\s.h 100011=(1,oW 157 2 M.aR.en x1.aKj))/\oR p0 p1 p2 x1 m v9=some r
 have e1:=@oR.eq_2
 unfold iC at h
 exact sgo 78 [.cell 6 90,.tmp 7] func29⟩
instance c17:bU 17 (∀p0 p1 r (h:cD p0 p1=some r),Sc 17 [(false,[.ptr [.sl (List.map enB p0.b),.int .i64 p0.i,.int .i64 p0.h]]),aL enI p1] [(false,[.edit (.lend 138 [.int .i64 r.1,.int .i64 r.2.1])]),rI r.2.2]):=⟨λp0 p1 r h=>by
 unfold cD at h
 simp only[EN]
 refine sgB 12 [.tmp 4] func17 λbase wd B0 u0 hw0=> ?_
 refine bY (J:=λs=>s.t 0=vP 7059000 1 0/\s.t 1=vL enI p1/\s.h 7059000=(1,oB 138 [.old B0 (.sl (List.map enB p0.b)) (some u0),cI p0.i,cI p0.h])/\True) ?_ ?_
 ·and_intros<;>(try simp only[LN,jJ,jK])<;>rfl
 rintro s1 f2
 exact sgX⟩
instance aFs:bU 339 (∀p0 r (h:Ag p0=some r),Sc 339 [(false,[.ptr [.sl (List.map enB p0.b),.int .i64 p0.i,.int .i64 p0.h]])] [(false,[.edit (.lend 138 [.int .i64 r.1,.int .i64 r.2.1])]),(true,M.aKo.rs r.2.2)]):=⟨λp0 r h=>by
 unfold Ag at h
 simp only[EN]
 refine sgB 40 [.cell 2 244] func339 λbase wd B0 u0 hw0=> ?_
 refine bY (J:=λs=>s.t 0=vP 7059000 1 0/\s.h 7059000=(1,oB 138 [.old B0 (.sl (List.map enB p0.b)) (some u0),cI p0.i,cI p0.h])/\True) ?_ ?_
 ·and_intros<;>(try simp only[LN,jJ,jK])<;>rfl
 rintro s1 f2
 exact sgX⟩
instance:bU 364 (∀p0 r (h:Ce p0=some r),Sc 364 [(false,[.ptr [.sl (List.map enB p0.b),.int .i64 p0.i,.int .i64 p0.h]])] [(false,[.edit (.lend 138 [.int .i64 r.1,.int .i64 r.2.1])]),rI r.2.2]):=⟨λp0 r h=>by
 unfold Ce at h
 simp only[EN]
 refine sgB 8 [.tmp 2] func364 λbase wd B0 u0 hw0=> ?_
 refine bY (J:=λs=>s.t 0=vP 7059000 1 0/\s.h 7059000=(1,oB 138 [.old B0 (.sl (List.map enB p0.b)) (some u0),cI p0.i,cI p0.h])/\True) ?_ ?_
 ·and_intros<;>(try simp only[LN,jJ,jK])<;>rfl
 rintro s1 f2
 exact sgX⟩
instance:bU 341 (∀p0 p1 r (h:D6 p0 p1=some r),Sc 341 [(false,[.ptr [.sl (List.map enB p0.b),.int .i64 p0.i,.int .i64 p0.h]]),aL enB p1] [(false,[.edit (.lend 138 [.int .i64 r.1,.int .i64 r.2.1])]),rW 5 1 enB r.2.2]):=⟨λp0 p1 r h=>by
 unfold D6 at h
 simp only[EN]
 refine sgB 44 [.tmp 4] func341 λbase wd B0 u0 hw0 => ?_
 refine bY (J:=λs=>s.t 0=vP 7059000 1 0/\s.t 1=vL enB p1/\s.h 7059000=(1,oB 138 [.old B0 (.sl (List.map enB p0.b)) (some u0),cI p0.i,cI p0.h])/\True) ?_ ?_
 ·and_intros<;>(try simp only[LN,jJ,jK])<;>rfl
 rintro s1 f2
 refine sq (rn ?_)
 refine an (sq ?_)
 obtain⟨x5,h6,h⟩:=aA h
 refine rn1 h6 ?_
 refine an (sq (sq ?_))
 obtain⟨V1,eV1⟩:=nmT (vR 100006 (((s1.h 100006).1+1)+1))
 refine cu (λs=>s.t 0=vP 7059000 1 0/\s.t 5=V1/\s.h 100006=(((s1.h 100006).1+1)+1,oW 5 1 enB p1)/\s.h 7059000=(1,oB 138 [.old B0 (.sl (List.map enB p0.b)) (some u0),cI p0.i,cI p0.h])/\True) ?_
 rintro s7 f8
 obtain⟨aa,al,h⟩:=aA h
 refine rn1 (c48.1 _ _ _ al) ?_
 refine an (bk (sq ?_))
 refine cu (λs=>s.t 0=vP 7059000 1 0/\s.t 5=V1/\s.t 10=vI aa.2.2/\s.h 100006=(((s1.h 100006).1+1)+1,oW 5 1 enB p1)/\s.h 7059000=(1,oB 138 [.old B0 (.sl (List.map enB p0.b)) (some u0),cI aa.1,cI aa.2.1])/\True) ?_
 rintro ay f15
 refine rn ?_
 refine an ?_
 rcases gK (aa.2.2==0)with ae | ae
 ·replace h:=bQ ae h;refine ct (sq (rn ?_));refine an ?_;rcases CP (decide ((List.length p1:Int)>0))with ai | ai;(replace h:=bP ai h;refine cf (sk (ab (an (sq (rn ?_)))));refine an (rt ?_);cases h;simp[Ma,Ret,TB,EN, *]);replace h:=bQ ai h;refine ct ?_;obtain⟨az,ao,h⟩:=aA h;obtain⟨ba,aq,h⟩:=aA h;obtain⟨bd,ar,h⟩:=aA h;obtain⟨bf,bg,bh⟩:=pK ar;refine rn2 (c48.1 _ _ _ ao) (c48.1 _ _ _ aq) ?_;refine ab (an (sq (rn ?_)));refine an (rt ?_);cases h;simp[Ma,Ret,TB,EN, *]
 replace h:=bP ae h
 refine cf (sq (rn ?_))
 refine an ?_
 rcases CP (aa.2.2==1)with af | af
 ·replace h:=bP af h;refine cf (sq (rn ?_));refine an ?_;rcases CP (aa.2.2==2)with aj | aj;(replace h:=bP aj h;refine cf (sk (ab (an (sq (rn ?_)))));refine an (rt ?_);cases h;simp[Ma,Ret,TB,EN, *]);replace h:=bQ aj h;refine ct ?_;obtain⟨bj,av,h⟩:=aA h;obtain⟨bl,aw,h⟩:=aA h;refine rn2 (c17.1 _ _ _ av) aw ?_;refine ab (an (sq (rn ?_)));refine an (rt ?_);cases h;simp[Ma,Ret,TB,EN, *]
 replace h:=bQ af h
 refine ct ?_
 obtain⟨ak,ax,h⟩:=aA h
 obtain⟨bm,ah,h⟩:=aA h
 apply AA
 ·simp +decide only[E,reduceIte,Nat.reduceAdd,Nat.reduceMul,qB,qC,<-List.map_take,<-List.map_drop,L,ti5,Ql,enB,EN,f15,ae,af,eV1]
  refine⟨_,c48.1 _ _ _ ax,?_⟩
  try simp +decide only[E,reduceIte,Nat.reduceAdd,Nat.reduceMul,qB,qC,<-List.map_take,<-List.map_drop,L,ti5,Ql,enB,EN,f15,ae,af,eV1]
  refine⟨by first | exact vU ah | exact(vU ah).2 | exact(vU ah).2.2,?_⟩
  try simp +decide only[E,reduceIte,Nat.reduceAdd,Nat.reduceMul,qB,qC,<-List.map_take,<-List.map_drop,L,ti5,Ql,enB,EN,f15,ae,af,eV1]
  exact Is.mk _
 refine ab (an (sq (rn ?_)))
 refine an ?_
 refine Cj (Gho.aDX (i:=4) (j:=100006) (vj:=((s1.h 100006).1+1)+1) (K:=100006) (n:=ak.2.2.toNat) (e:=5) (sz:=1) (dp:=true) (xs:=List.map enB p1) (List.map enB (List.take ak.2.2.toNat p1)) zM zM (by rw[qU];exact(vU ah).2) (by rw[List.map_take])) ?_
 refine rt ?_
 cases h
 simp[Ma,Ret,TB,EN, *]⟩
