/-
  Helper text. No conditions.
-/
import Derived.Test.YtjlnkcoeghonfaaGreatRunningPagesWspec3
import Derived.Test.YtjlnkcoeghonfaaGreatRunningPagesWspec4
set_option linter.all false
namespace Go.Proofs.YtjlnkcoeghonfaaGreat.gen
open Go Go.Sh Tryz
set_option maxRecDepth 20000
set_option maxHeartbeats 4000000
instance aB7:bK 342 (∀p0 r (h:fY p0=some r),Sc 342 [aX (M.aLS.en p0)] [(true,M.aLS.rs r)]):=⟨λp0 r h=>by
 have i1:=G8 [.b 3 2 7050000 75 3] λm s=>∃v4:Int,∃aa:List M.aE,∃ae:Nat,(s.t 1=vP 1 1 0/\s.t 2=vP 2 1 0/\s.t 3=vP 3 1 0/\s.t 4=vI v4/\s.h 1=(1,oX 70 (M.aLS.en p0))/\s.h 2=(1,WI)/\s.h 3=(1,oB 70 [cS p0.Name,cI p0.aLT,.row 7050000 ae,.row 100009 2])/\s.h 100009=(2,oW 382 2 M.aU.en p0.aLm)/\s.h 7050000=(ae,oW 75 3 M.aE.en aa))/\xJ p0 m v4 aa=some r
 have e1:=@xJ.eq_2
 unfold fY at h
 exact sgo 33 [.cell 2 70] func342⟩
instance aFe:bK 233 (∀p0 r (h:Bb p0=some r),Sc 233 [aX (M.bP.en p0)] [(true,M.bP.rs r)]):=⟨λp0 r h=>by unfold Bb at h;exact sgo 13 [.cell 2 72] func233⟩
instance:bK 577 (∀p0 p1 p2 r (h:EU p0 p1 p2=some r),Sc 577 [aX (M.aLo.en p0),aX (M.aLo.en p1),aS p2] [rB r]):=⟨λp0 p1 p2 r h=>by unfold EU at h;exact sgo 41 [.tmp 6] func577⟩
instance:bK 529 (∀p0 p1 r (h:DO p0 p1=some r),Sc 529 [aX (M.aE.en p0),aS p1] [rW 320 4 M.aLo.en r]):=⟨λp0 p1 r h=>by
 have i1:=G8 [.t 5 7050000 320 4] λm s=>∃v6:Int,∃aa:List M.aLo,∃ae:Nat,(s.t 1=vS p1/\s.t 2=vP 2 1 0/\s.t 5=vR 7050000 ae/\s.t 6=vI v6/\s.h 2=(1,oX 75 (M.aE.en p0))/\s.h 7050000=(ae,oW 320 4 M.aLo.en aa))/\oO p0 p1 m v6 aa=some r
 have e1:=@oO.eq_2
 have i2:=λ(v6:Int) (aa:List M.aLo) (ah:M.aLo) (ai:Int->Option (List M.aLo)) (ae:Nat)=>inv λm s=>∃af:Int,(s.t 1=vS p1/\s.t 2=vP 2 1 0/\s.t 5=vR 7050000 ae/\s.t 6=vI v6/\s.t 9=vI af/\s.h 2=(1,oX 75 (M.aE.en p0))/\s.h 7050000=(ae,oW 320 4 M.aLo.en aa))/\sO p1 aa ah ai m af=some r
 have e2:=@sO.eq_2
 unfold DO at h
 exact sgo 72 [.tmp 4] func529⟩
instance aEk:bK 510 (∀p0 r (h:eK p0=some r),Sc 510 [(false,[.ptr [.sl (List.map enB p0.b),.int .i64 p0.i,.int .i64 p0.h]])] [(false,[.edit (.lend 256 [.int .i64 r.1,.int .i64 r.2.1])]),rS r.2.2]):=⟨λp0 r h=>by
 unfold eK at h
 simp only[EN]
 refine sgB 6 [.tmp 2] func510 λbase wd B0 u0 hw0=> ?_
 refine cY (J:=λs=>s.t 0=vP 7059000 1 0/\s.h 7059000=(1,oB 256 [.old B0 (.sl (List.map enB p0.b)) (some u0),cI p0.i,cI p0.h])/\True) ?_ ?_
 ·and_intros<;>(try simp only[LN,jI,jJ])<;>rfl
 rintro s1 f2
 exact sgX⟩
instance:bK 506 (∀p0 p1 r (h:C8 p0 p1=some r),Sc 506 [(false,[.ptr [.sl (List.map enB p0.b),.int .i64 p0.i,.int .i64 p0.h]]),aI p1] [(false,[.edit (.lend 256 [.int .i64 r.1,.int .i64 r.2.1])]),(true,M.aZ.rs r.2.2)]):=⟨λp0 p1 r h=>by
 unfold C8 at h
 simp only[EN]
 refine sgB 59 [.cell 4 197] func506 λbase wd B0 u0 hw0=> ?_
 refine cY (J:=λs=>s.t 0=vP 7059000 1 0/\s.t 1=vI p1/\s.h 7059000=(1,oB 256 [.old B0 (.sl (List.map enB p0.b)) (some u0),cI p0.i,cI p0.h])/\True) ?_ ?_
 ·and_intros<;>(try simp only[LN,jI,jJ])<;>rfl
 rintro s1 f2
 exact sgX⟩
instance:bK 339 (∀p0 p1 r (h:xT p0 p1=some r),Sc 339 [aX (M.aLa.en p0),aI p1] [rB r]):=⟨λp0 p1 r h=>by unfold xT at h;exact sgo 18 [.tmp 4] func339⟩
instance:bK 351 (∀p0 p1 r (h:Bs p0 p1=some r),Sc 351 [aI p0,aL enB p1] [rI r]):=⟨λp0 p1 r h=>by unfold Bs at h;exact sgo 11 [.tmp 4] func351⟩
instance:bK 343 (∀p0 r (h:Ft p0=some r),Sc 343 [aL enB p0] [rW 58 1 (enL enB) r.1,rI r.2]):=⟨λp0 r h=>by
 have i1:=inv λm s=>∃v5:Int,∃aa:List (List Int),∃ae:Nat,(s.t 0=vL enB p0/\s.t 4=vR 100012 ae/\s.t 5=vI v5/\s.h 100012=(ae,oW 58 1 (enL enB) aa))/\yQ p0 m v5 aa=some r
 have e1:=@yQ.eq_2
 unfold Ft at h
 exact sgo 50 [.tmp 2,.tmp 3] func343⟩
instance aEx:bK 120 (∀p0 p1 p2 r (h:iS p0 p1 p2=some r),Sc 120 [aX (M.aF.en p0),aS p1,aI p2] [(true,M.aF.rs r.1),rB r.2]):=⟨λp0 p1 p2 r h=>by
 have i1:=λ(x1:M.aF)=>inv λm s=>∃v9:Int,(s.t 1=vS p1/\s.t 2=vI p2/\s.t 3=vP 3 1 0/\s.t 6=vP 6 1 0/\s.t 8=vP 8 1 0/\s.t 9=vI v9/\s.h 3=(1,oX 207 (M.aF.en p0))/\s.h 6=(1,oB 207 [.nil])/\s.h 8=(1,oB 207 [.row 100011 1])/\s.h 100011=(1,oW 322 2 M.aR.en x1.aLY))/\pJ p0 p1 p2 x1 m v9=some r
 have e1:=@pJ.eq_2
 unfold iS at h
 exact sgo 78 [.cell 6 207,.tmp 7] func120⟩
instance:bK 236 (∀p0 p1 p2 r (h:An p0 p1 p2=some r),Sc 236 [aL enB p0,aI p1,aL enB p2] [rW 5 1 enB r.1,rB r.2]):=⟨λp0 p1 p2 r h=>by unfold An at h;exact sgo 29 [.tmp 6,.tmp 7] func236⟩
instance aEc:bK 509 (∀p0 r (h:pT p0=some r),Sc 509 [(false,[.ptr [.sl (List.map enB p0.b),.int .i64 p0.i,.int .i64 p0.h]])] [(false,[.edit (.lend 256 [.int .i64 r.1,.int .i64 r.2.1])]),(true,M.aF.rs r.2.2)]):=⟨λp0 r h=>by
 unfold pT at h
 simp only[EN]
 refine sgB 22 [.cell 2 207] func509 λbase wd B0 u0 hw0=> ?_
 refine cY (J:=λs=>s.t 0=vP 7059000 1 0/\s.h 7059000=(1,oB 256 [.old B0 (.sl (List.map enB p0.b)) (some u0),cI p0.i,cI p0.h])/\True) ?_ ?_
 ·and_intros<;>(try simp only[LN,jI,jJ])<;>rfl
 rintro s1 f2
 have i1:=G8 [.b 3 0 7050000 322 2] λm s=>∃v4:Int,∃aa:Int,∃ae:Int,∃af:List M.aR,∃ah:Nat,(s.t 0=vP 7059000 1 0/\s.t 2=vP 2 ((s1.h 2).1+1) 0/\s.t 3=vP 3 ((s1.h 3).1+1) 0/\s.t 4=vI v4/\s.h 2=((s1.h 2).1+1,oB 207 [.nil])/\s.h 3=((s1.h 3).1+1,oB 207 [.row 7050000 ah])/\s.h 7050000=(ah,oW 322 2 M.aR.en af)/\s.h 7059000=(1,oB 256 [.old B0 (.sl (List.map enB p0.b)) (some u0),cI aa,cI ae]))/\vJ p0 m v4 aa ae af=some r
 have e1:=@vJ.eq_2
 exact sgX⟩
instance aFw:bK 515 (∀p0 r (h:Cz p0=some r),Sc 515 [(false,[.ptr [.sl (List.map enB p0.b),.int .i64 p0.i,.int .i64 p0.h]])] [(false,[.edit (.lend 256 [.int .i64 r.1,.int .i64 r.2.1])]),rS r.2.2]):=⟨λp0 r h=>by
 unfold Cz at h
 simp only[EN]
 refine sgB 6 [.tmp 2] func515 λbase wd B0 u0 hw0=> ?_
 refine cY (J:=λs=>s.t 0=vP 7059000 1 0/\s.h 7059000=(1,oB 256 [.old B0 (.sl (List.map enB p0.b)) (some u0),cI p0.i,cI p0.h])/\True) ?_ ?_
 ·and_intros<;>(try simp only[LN,jI,jJ])<;>rfl
 rintro s1 f2
 exact sgX⟩
instance aFI:bK 569 (∀p0 r (h:AW p0=some r),Sc 569 [(false,[.ptr [.sl (List.map enB p0.b),.int .i64 p0.i,.int .i64 p0.h]])] [(false,[.edit (.lend 256 [.int .i64 r.1,.int .i64 r.2.1])]),(true,M.aLb.rs r.2.2)]):=⟨λp0 r h=>by
 unfold AW at h
 simp only[EN]
 refine sgB 40 [.cell 2 107] func569 λbase wd B0 u0 hw0=> ?_
 refine cY (J:=λs=>s.t 0=vP 7059000 1 0/\s.h 7059000=(1,oB 256 [.old B0 (.sl (List.map enB p0.b)) (some u0),cI p0.i,cI p0.h])/\True) ?_ ?_
 ·and_intros<;>(try simp only[LN,jI,jJ])<;>rfl
 rintro s1 f2
 exact sgX⟩
theorem aLB(p0 p1 r)(h:Ib p0 p1=some r):Sc 622 [aX (M.aLS.en p0),aS p1] [(true,M.aLS.rs r)]:=by
 have i1:=G8 [.b 5 2 7050000 75 3] λm s=>∃U:Int,∃j:List M.aE,∃C:Nat,(s.t 1=vS p1/\s.t 2=vP 2 1 0/\s.t 4=vP 4 1 0/\s.t 5=vP 5 1 0/\s.t 6=vI U/\s.h 2=(1,oX 70 (M.aLS.en p0))/\s.h 4=(1,WI)/\s.h 5=(1,oB 70 [cS p0.Name,cI p0.aLT,.row 7050000 C,.nil])/\s.h 7050000=(C,oW 75 3 M.aE.en j))/\Cq p0 p1 m U j=some r
 have e1:=@Cq.eq_2
 have i2:=λ(j:List M.aE) (C:Nat)=>G8 [.b 5 3 7050100 382 2] λm s=>∃v7:Int,∃I:List M.aU,∃J:Nat,(s.t 1=vS p1/\s.t 2=vP 2 1 0/\s.t 4=vP 4 1 0/\s.t 5=vP 5 1 0/\s.t 7=vI v7/\s.h 2=(1,oX 70 (M.aLS.en p0))/\s.h 4=(1,WI)/\s.h 5=(1,oB 70 [cS p0.Name,cI p0.aLT,.row 7050000 C,.row 7050100 J])/\s.h 7050000=(C,oW 75 3 M.aE.en j)/\s.h 7050100=(J,oW 382 2 M.aU.en I))/\Ch p0 p1 j m v7 I=some r
 have e2:=@Ch.eq_2
 unfold Ib at h
 exact sgo 65 [.cell 4 70] func622
instance:bK 571 (∀p0 p1 r (h:ER p0 p1=some r),Sc 571 [(false,[.ptr [.sl (List.map enB p0.b),.int .i64 p0.i,.int .i64 p0.h]]),aL enB p1] [(false,[.edit (.lend 256 [.int .i64 r.1,.int .i64 r.2.1])]),rW 5 1 enB r.2.2]):=⟨λp0 p1 r h=>by
 unfold ER at h
 simp only[EN]
 refine sgB 44 [.tmp 4] func571 λbase wd B0 u0 hw0 => ?_
 refine cY (J:=λs=>s.t 0=vP 7059000 1 0/\s.t 1=vL enB p1/\s.h 7059000=(1,oB 256 [.old B0 (.sl (List.map enB p0.b)) (some u0),cI p0.i,cI p0.h])/\True) ?_ ?_
 ·and_intros<;>(try simp only[LN,jI,jJ])<;>rfl
 rintro s1 f2
 refine sq (rn ?_)
 refine an (sq ?_)
 obtain⟨x5,h6,h⟩:=aA h
 refine rn1 h6 ?_
 refine an (sq (sq ?_))
 obtain⟨V1,eV1⟩:=nmT (vR 100006 (((s1.h 100006).1+1)+1))
 refine cu (λs=>s.t 0=vP 7059000 1 0/\s.t 5=V1/\s.h 100006=(((s1.h 100006).1+1)+1,oW 5 1 enB p1)/\s.h 7059000=(1,oB 256 [.old B0 (.sl (List.map enB p0.b)) (some u0),cI p0.i,cI p0.h])/\True) ?_
 rintro s7 f8
 obtain⟨aa,al,h⟩:=aA h
 refine rn1 (c77.1 _ _ _ al) ?_
 refine an (bk (sq ?_))
 refine cu (λs=>s.t 0=vP 7059000 1 0/\s.t 5=V1/\s.t 10=vI aa.2.2/\s.h 100006=(((s1.h 100006).1+1)+1,oW 5 1 enB p1)/\s.h 7059000=(1,oB 256 [.old B0 (.sl (List.map enB p0.b)) (some u0),cI aa.1,cI aa.2.1])/\True) ?_
 rintro ay f15
 refine rn ?_
 refine an ?_
 rcases dX (aa.2.2==0)with ae | ae
 ·replace h:=bN ae h;refine ct (sq (rn ?_));refine an ?_;rcases Dz (decide ((List.length p1:Int)>0))with ai | ai;(replace h:=bM ai h;refine cf (sk (ab (an (sq (rn ?_)))));refine an (rt ?_);cases h;simp[Mi,Ret,TB,EN, *]);replace h:=bN ai h;refine ct ?_;obtain⟨az,ao,h⟩:=aA h;obtain⟨ba,aq,h⟩:=aA h;obtain⟨bd,ar,h⟩:=aA h;obtain⟨bf,bg,bh⟩:=nJ ar;refine rn2 (c77.1 _ _ _ ao) (c77.1 _ _ _ aq) ?_;refine ab (an (sq (rn ?_)));refine an (rt ?_);cases h;simp[Mi,Ret,TB,EN, *]
 replace h:=bM ae h
 refine cf (sq (rn ?_))
 refine an ?_
 rcases Dz (aa.2.2==1)with af | af
 ·replace h:=bM af h;refine cf (sq (rn ?_));refine an ?_;rcases Dz (aa.2.2==2)with aj | aj;(replace h:=bM aj h;refine cf (sk (ab (an (sq (rn ?_)))));refine an (rt ?_);cases h;simp[Mi,Ret,TB,EN, *]);replace h:=bN aj h;refine ct ?_;obtain⟨bj,av,h⟩:=aA h;obtain⟨bl,aw,h⟩:=aA h;refine rn2 (aDL.1 _ _ _ av) aw ?_;refine ab (an (sq (rn ?_)));refine an (rt ?_);cases h;simp[Mi,Ret,TB,EN, *]
 replace h:=bN af h
 refine ct ?_
 obtain⟨ak,ax,h⟩:=aA h
 obtain⟨bm,ah,h⟩:=aA h
 apply Bk
 ·simp +decide only[E,reduceIte,Nat.reduceAdd,Nat.reduceMul,qB,qC,<-List.map_take,<-List.map_drop,L,ti5,QH,enB,EN,f15,ae,af,eV1]
  refine⟨_,c77.1 _ _ _ ax,?_⟩
  try simp +decide only[E,reduceIte,Nat.reduceAdd,Nat.reduceMul,qB,qC,<-List.map_take,<-List.map_drop,L,ti5,QH,enB,EN,f15,ae,af,eV1]
  refine⟨by first | exact xZ ah | exact(xZ ah).2 | exact(xZ ah).2.2,?_⟩
  try simp +decide only[E,reduceIte,Nat.reduceAdd,Nat.reduceMul,qB,qC,<-List.map_take,<-List.map_drop,L,ti5,QH,enB,EN,f15,ae,af,eV1]
  exact Is.mk _
 refine ab (an (sq (rn ?_)))
 refine an ?_
 refine Ey (Gho.aDE (i:=4) (j:=100006) (vj:=((s1.h 100006).1+1)+1) (K:=100006) (n:=ak.2.2.toNat) (e:=5) (sz:=1) (dp:=true) (xs:=List.map enB p1) (List.map enB (List.take ak.2.2.toNat p1)) zM zM (by rw[qU];exact(xZ ah).2) (by rw[List.map_take])) ?_
 refine rt ?_
 cases h
 simp[Mi,Ret,TB,EN, *]⟩
instance:bK 97 (∀p0 p1 r (h:Bu p0 p1=some r),Sc 97 [aX (M.bP.en p0),aX (M.bP.en p1)] [rB r]):=⟨λp0 p1 r h=>by unfold Bu at h;exact sgo 24 [.tmp 4] func97⟩
theorem c20(p0 p1 r)(h:nZ p0 p1=some r):Sc 20 [aX (M.Bucket.en p0),aX (M.Bucket.en p1)] [rB r]:=by unfold nZ at h;exact sgo 59 [.tmp 4] func20
