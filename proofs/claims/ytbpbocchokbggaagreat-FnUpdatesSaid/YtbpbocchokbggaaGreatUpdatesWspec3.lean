/-
  Helper text. No conditions.
-/
import Derived.Test.YtbpbocchokbggaaGreatUpdatesWspec0
import Derived.Test.YtbpbocchokbggaaGreatUpdatesWspec1
import Derived.Test.YtbpbocchokbggaaGreatUpdatesWspec2
set_option linter.all false
namespace Go.Proofs.YtbpbocchokbggaaGreat.gen
open Go Go.Sh
set_option maxRecDepth 20000
set_option maxHeartbeats 4000000
instance ZV:bE 307 (∀p0 r (h:eY p0=some r),Sc 307 [aX (M.aI2.en p0)] [(true,M.aI2.rs r)]):=⟨λp0 r h=>by
 have i1:=E5 [.b 3 2 7050000 117 3] λm s=>∃v4:Int,∃aa:List M.aD,∃ae:Nat,(s.t 1=vP 1 1 0/\s.t 2=vP 2 1 0/\s.t 3=vP 3 1 0/\s.t 4=vI v4/\s.h 1=(1,oX 112 (M.aI2.en p0))/\s.h 2=(1,Ey)/\s.h 3=(1,oB 112 [cS p0.Name,cI p0.aI0,.row 7050000 ae,.row 100009 2])/\s.h 100009=(2,oW 471 2 M.aN.en p0.aJO)/\s.h 7050000=(ae,oW 117 3 M.aD.en aa))/\tR p0 m v4 aa=some r
 have e1:=@tR.eq_2
 unfold eY at h
 exact sgo 33 [.cell 2 112] Tryz.func307⟩
instance Zm:bE 392 (∀p0 r (h:cT p0=some r),Sc 392 [aX (M.aC.en p0)] [rB r]):=⟨λp0 r h=>by
 have i1:=inv λm s=>∃v3:Int,(s.t 1=vP 1 1 0/\s.t 3=vI v3/\s.h 1=(1,oX 108 (M.aC.en p0)))/\eX p0 m v3=some r
 have e1:=@eX.eq_2
 unfold cT at h
 exact sgo 53 [.tmp 2] Tryz.func392⟩
instance:bE 278 (∀p0 r (h:kA p0=some r),Sc 278 [(false,[.ptr [.sl (List.map enB p0.b),.int .i64 p0.i,.int .i64 p0.h]])] [(false,[.edit (.lend 304 [.int .i64 r.1,.int .i64 r.2.1])]),rS r.2.2]):=⟨λp0 r h=>by
 unfold kA at h
 simp only[EN]
 refine sgB 6 [.tmp 2] Tryz.func278 λbase wd B0 u0 hw0=> ?_
 refine dR (J:=λs=>s.t 0=vP 7059000 1 0/\s.h 7059000=(1,oB 304 [.old B0 (.sl (List.map enB p0.b)) (some u0),cI p0.i,cI p0.h])/\True) ?_ ?_
 ·and_intros<;>(try simp only[LN,List.map_cons,List.map_nil])<;>rfl
 rintro s1 f2
 exact sgX⟩
instance:bE 397 (∀p0 r (h:Bm p0=some r),Sc 397 [aL M.Instr.en p0] [rB r]):=⟨λp0 r h=>by
 have i1:=inv λm s=>∃v3:Int,(s.t 0=vL M.Instr.en p0/\s.t 3=vI v3)/\oN p0 m v3=some r
 have e1:=@oN.eq_2
 unfold Bm at h
 exact sgo 21 [.tmp 2] Tryz.func397⟩
instance:bE 290 (∀p0 p1 r (h:pC p0 p1=some r),Sc 290 [aX (M.aI7.en p0),aI p1] [rB r]):=⟨λp0 p1 r h=>by unfold pC at h;exact sgo 18 [.tmp 4] Tryz.func290⟩
instance:bE 501 (∀p0 p1 r (h:xD p0 p1=some r),Sc 501 [aI p0,aL enI p1] [rI r]):=⟨λp0 p1 r h=>by unfold xD at h;exact sgo 13 [.tmp 4] Tryz.func501⟩
instance:bE 610 (∀p0 r (h:B3 p0=some r),Sc 610 [aX (M.aI7.en p0)] [(true,M.aI7.rs r.1),rB r.2]):=⟨λp0 r h=>by unfold B3 at h;exact sgo 22 [.cell 2 92,.tmp 3] Tryz.func610⟩
instance:bE 139 (∀p0 p1 r (h:wB p0 p1=some r),Sc 139 [aX (M.aIz.en p0),aI p1] [(true,M.aIz.rs r.1),rB r.2]):=⟨λp0 p1 r h=>by unfold wB at h;exact sgo 29 [.cell 4 105,.tmp 5] Tryz.func139⟩
instance:bE 149 (∀p0 p1 p2 r (h:BX p0 p1 p2=some r),Sc 149 [aX (M.World.en p0),aS p1,aS p2] [rW 67 11 M.bG.en r]):=⟨λp0 p1 p2 r h=>by
 have i1:=inv λm s=>∃v8:Int,∃r9:List M.bG,∃u9:Nat,(s.t 1=vS p1/\s.t 2=vS p2/\s.t 3=vP 3 1 0/\s.t 7=vR 100009 u9/\s.t 8=vI v8/\s.h 3=(1,oX 58 (M.World.en p0))/\s.h 100009=(u9,oW 67 11 M.bG.en r9))/\kK p0 p1 p2 m v8 r9=some r
 have e1:=@kK.eq_2
 unfold BX at h
 exact sgo 45 [.tmp 6] Tryz.func149⟩
instance:bE 295 (∀p0 p1 r (h:xN p0 p1=some r),Sc 295 [aX (M.aIz.en p0),aL enI p1] [rB r]):=⟨λp0 p1 r h=>by
 have i1:=inv λm s=>∃v5:Int,(s.t 1=vL enI p1/\s.t 2=vP 2 1 0/\s.t 5=vI v5/\s.h 2=(1,oX 105 (M.aIz.en p0)))/\iO p0 p1 m v5=some r
 have e1:=@iO.eq_2
 unfold xN at h
 exact sgo 26 [.tmp 4] Tryz.func295⟩
instance c45:bE 45 (∀p0 p1 p2 r (h:jW p0 p1 p2=some r),Sc 45 [aX (M.aE.en p0),aS p1,aI p2] [(true,M.aE.rs r.1),rB r.2]):=⟨λp0 p1 p2 r h=>by
 have i1:=λ(x1:M.aE)=>inv λm s=>∃v9:Int,(s.t 1=vS p1/\s.t 2=vI p2/\s.t 3=vP 3 1 0/\s.t 6=vP 6 1 0/\s.t 8=vP 8 1 0/\s.t 9=vI v9/\s.h 3=(1,oX 129 (M.aE.en p0))/\s.h 6=(1,oB 129 [.nil])/\s.h 8=(1,oB 129 [.row 100011 1])/\s.h 100011=(1,oW 262 2 M.Field.en x1.aI9))/\nZ p0 p1 p2 x1 m v9=some r
 have e1:=@nZ.eq_2
 unfold jW at h
 exact sgo 78 [.cell 6 129,.tmp 7] Tryz.func45⟩
instance:bE 313 (∀p0 r (h:De p0=some r),Sc 313 [aX (M.Op.en p0)] [rB r]):=⟨λp0 r h=>by unfold De at h;exact sgo 46 [.tmp 2] Tryz.func313⟩
instance:bE 580 (∀p0 p1 r (h:Aw p0 p1=some r),Sc 580 [aX (M.Key.en p0),aX (M.gT.en p1)] [rB r]):=⟨λp0 p1 r h=>by unfold Aw at h;exact sgo 50 [.tmp 4] Tryz.func580⟩
instance aCy:bE 551 (∀p0 r (h:yM p0=some r),Sc 551 [(false,[.ptr [.sl (List.map enB p0.b),.int .i64 p0.i,.int .i64 p0.h]])] [(false,[.edit (.lend 304 [.int .i64 r.1,.int .i64 r.2.1])]),rS r.2.2]):=⟨λp0 r h=>by
 unfold yM at h
 simp only[EN]
 refine sgB 6 [.tmp 2] Tryz.func551 λbase wd B0 u0 hw0=> ?_
 refine dR (J:=λs=>s.t 0=vP 7059000 1 0/\s.h 7059000=(1,oB 304 [.old B0 (.sl (List.map enB p0.b)) (some u0),cI p0.i,cI p0.h])/\True) ?_ ?_
 ·and_intros<;>(try simp only[LN,List.map_cons,List.map_nil])<;>rfl
 rintro s1 f2
 exact sgX⟩
instance:bE 603 (∀p0 p1 r (h:CX p0 p1=some r),Sc 603 [(false,[.ptr [.sl (List.map enB p0.b),.int .i64 p0.i,.int .i64 p0.h]]),aL enB p1] [(false,[.edit (.lend 304 [.int .i64 r.1,.int .i64 r.2.1])]),rW 5 1 enB r.2.2]):=⟨λp0 p1 r h=>by
 unfold CX at h
 simp only[EN]
 refine sgB 44 [.tmp 4] Tryz.func603 λbase wd B0 u0 hw0 => ?_
 refine dR (J:=λs=>s.t 0=vP 7059000 1 0/\s.t 1=vL enB p1/\s.h 7059000=(1,oB 304 [.old B0 (.sl (List.map enB p0.b)) (some u0),cI p0.i,cI p0.h])/\True) ?_ ?_
 ·and_intros<;>(try simp only[LN,List.map_cons,List.map_nil])<;>rfl
 rintro s1 f2
 refine sq (rn ?_)
 refine an (sq ?_)
 obtain⟨x5,h6,h⟩:=bind_some h
 refine rn1 h6 ?_
 refine an (sq (sq ?_))
 refine cu (λs=>s.t 0=vP 7059000 1 0/\s.t 5=vR 100006 (((s1.h 100006).1+1)+1)/\s.h 100006=(((s1.h 100006).1+1)+1,oW 5 1 enB p1)/\s.h 7059000=(1,oB 304 [.old B0 (.sl (List.map enB p0.b)) (some u0),cI p0.i,cI p0.h])/\True) ?_
 rintro s7 f8
 obtain⟨aa,al,h⟩:=bind_some h
 refine rn1 (O4.1 _ _ _ al) ?_
 refine an (bk (sq ?_))
 refine cu (λs=>s.t 0=vP 7059000 1 0/\s.t 5=vR 100006 (((s1.h 100006).1+1)+1)/\s.t 10=vI aa.2.2/\s.h 100006=(((s1.h 100006).1+1)+1,oW 5 1 enB p1)/\s.h 7059000=(1,oB 304 [.old B0 (.sl (List.map enB p0.b)) (some u0),cI aa.1,cI aa.2.1])/\True) ?_
 rintro ay f15
 refine rn ?_
 refine an ?_
 rcases mT (aa.2.2==0)with ae | ae
 ·replace h:=bZ ae h;refine ct (sq (rn ?_));refine an ?_;rcases C1 (decide ((List.length p1:Int)>0))with ai | ai;(replace h:=bY ai h;refine cf (sk (ab (an (sq (rn ?_)))));refine an (rt ?_);cases h;simp[JO,Ret,TB,EN, *]);replace h:=bZ ai h;refine ct ?_;obtain⟨az,ao,h⟩:=bind_some h;obtain⟨ba,aq,h⟩:=bind_some h;obtain⟨bd,ar,h⟩:=bind_some h;obtain⟨bf,bg,bh⟩:=wM ar;refine rn2 (O4.1 _ _ _ ao) (O4.1 _ _ _ aq) ?_;refine ab (an (sq (rn ?_)));refine an (rt ?_);cases h;simp[JO,Ret,TB,EN, *]
 replace h:=bY ae h
 refine cf (sq (rn ?_))
 refine an ?_
 rcases C1 (aa.2.2==1)with af | af
 ·replace h:=bY af h;refine cf (sq (rn ?_));refine an ?_;rcases C1 (aa.2.2==2)with aj | aj;(replace h:=bY aj h;refine cf (sk (ab (an (sq (rn ?_)))));refine an (rt ?_);cases h;simp[JO,Ret,TB,EN, *]);replace h:=bZ aj h;refine ct ?_;obtain⟨bj,av,h⟩:=bind_some h;obtain⟨bl,aw,h⟩:=bind_some h;refine rn2 (aA1.1 _ _ _ av) aw ?_;refine ab (an (sq (rn ?_)));refine an (rt ?_);cases h;simp[JO,Ret,TB,EN, *]
 replace h:=bZ af h
 refine ct ?_
 obtain⟨ak,ax,h⟩:=bind_some h
 obtain⟨bm,ah,h⟩:=bind_some h
 apply bJ
 ·simp +decide only[E,reduceIte,Nat.reduceAdd,Nat.reduceMul,qB,qC,<-List.map_take,<-List.map_drop,L,ti5,aCD,enB,EN,f15,ae,af]
  refine⟨_,O4.1 _ _ _ ax,?_⟩
  try simp +decide only[E,reduceIte,Nat.reduceAdd,Nat.reduceMul,qB,qC,<-List.map_take,<-List.map_drop,L,ti5,aCD,enB,EN,f15,ae,af]
  refine⟨by first | exact rU ah | exact(rU ah).2 | exact(rU ah).2.2,?_⟩
  try simp +decide only[E,reduceIte,Nat.reduceAdd,Nat.reduceMul,qB,qC,<-List.map_take,<-List.map_drop,L,ti5,aCD,enB,EN,f15,ae,af]
  exact Is.mk _
 refine ab (an (sq (rn ?_)))
 refine an ?_
 refine GS (Gho.aAy (i:=4) (j:=100006) (vj:=((s1.h 100006).1+1)+1) (K:=100006) (n:=ak.2.2.toNat) (e:=5) (sz:=1) (dp:=true) (xs:=List.map enB p1) (List.map enB (List.take ak.2.2.toNat p1)) (by first | (simp +decide only[F,reduceIte,Nat.reduceAdd,qB,qC,EN, *,-h];done)| (simp +decide only[F,reduceIte,Nat.reduceAdd,qB,qC,EN, *,-h];rfl)| rfl) (by first | (simp +decide only[F,reduceIte,Nat.reduceAdd,qB,qC,EN, *,-h];done)| (simp +decide only[F,reduceIte,Nat.reduceAdd,qB,qC,EN, *,-h];rfl)| rfl) (by rw[List.length_map];exact(rU ah).2) (by rw[List.map_take])) ?_
 refine rt ?_
 cases h
 simp[JO,Ret,TB,EN, *]⟩
