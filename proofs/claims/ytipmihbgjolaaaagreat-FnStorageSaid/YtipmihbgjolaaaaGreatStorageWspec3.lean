/-
  Helper text. No conditions.
-/
import Derived.Test.YtipmihbgjolaaaaGreatStorageTi
import Derived.Test.YtipmihbgjolaaaaGreatStorageWspec0
import Derived.Test.YtipmihbgjolaaaaGreatStorageWspec1
import Derived.Test.YtipmihbgjolaaaaGreatStorageWspec2
set_option linter.unusedVariables false
set_option linter.unusedSimpArgs false
namespace Go.Proofs.YtipmihbgjolaaaaGreat.gen
open Go Go.Sh
set_option maxRecDepth 20000
set_option maxHeartbeats 4000000
instance S2:bR 205 (∀p0 r (h:jV p0=some r),Sc 205 [(false,[.ptr [.sl (List.map enB p0.b),.int .i64 p0.i,.int .i64 p0.h]])] [(false,[.edit (.lend 182 [.int .i64 r.1,.int .i64 r.2.1])]),rS r.2.2]):=⟨λp0 r h=>by
 unfold jV at h
 simp only[EN]
 refine sgB 6 [.tmp 2] Tryz.func205 λbase wd B0 u0 hw0=> ?_
 refine gK (J:=λs=>s.t 0=vP 7059000 1 0/\s.h 7059000=(1,oB 182 [.old B0 (.sl (List.map enB p0.b)) (some u0),cI p0.i,cI p0.h])/\True) ?_ ?_
 ·and_intros<;>(try simp only[LN,List.map_cons,List.map_nil])<;>rfl
 rintro s1 f2
 exact sgX⟩
instance:bR 301 (∀p0 r (h:fX p0=some r),Sc 301 [aX (M.aF.en p0)] [rB r]):=⟨λp0 r h=>by
 have i1:=inv λm s=>∃v4:Int,(s.t 1=vP 1 1 0/\s.t 3=vI (List.length p0.Y9:Int)/\s.t 4=vI v4/\s.h 1=(1,oX 43 (M.aF.en p0)))/\kB p0 m v4=some r
 have e1:=@kB.eq_2
 unfold fX at h
 exact sgo 60 [.tmp 2] Tryz.func301⟩
instance Rs:bR 235 (∀p0 r (h:bS p0=some r),Sc 235 [aX (M.aE.en p0)] [rB r]):=⟨λp0 r h=>by
 have i1:=inv λm s=>∃v3:Int,(s.t 1=vP 1 1 0/\s.t 3=vI v3/\s.h 1=(1,oX 31 (M.aE.en p0)))/\dQ p0 m v3=some r
 have e1:=@dQ.eq_2
 unfold bS at h
 exact sgo 53 [.tmp 2] Tryz.func235⟩
instance:bR 159 (∀p0 r (h:jU p0=some r),Sc 159 [aX (M.aA.en p0)] [rB r]):=⟨λp0 r h=>by
 have i1:=inv λm s=>∃v3:Int,(s.t 1=vP 1 1 0/\s.t 3=vI v3/\s.h 1=(1,oX 40 (M.aA.en p0)))/\gG p0 m v3=some r
 have e1:=@gG.eq_2
 unfold jU at h
 exact sgo 64 [.tmp 2] Tryz.func159⟩
instance:bR 395 (∀p0 p1 p2 r (h:xW p0 p1 p2=some r),Sc 395 [aX (M.Zd.en p0),aX (M.Zd.en p1),aS p2] [rB r]):=⟨λp0 p1 p2 r h=>by unfold xW at h;exact sgo 41 [.tmp 6] Tryz.func395⟩
instance:bR 346 (∀p0 r (h:eT p0=some r),Sc 346 [aX (M.aC.en p0)] [rW 5 1 enB r]):=⟨λp0 r h=>by
 have i1:=CO [.t 3 7050000 5 1] λm s=>∃v4:Int,∃aa:List Int,∃ae:Nat,(s.t 1=vP 1 1 0/\s.t 3=vR 7050000 ae/\s.t 4=vI v4/\s.h 1=(1,oX 254 (M.aC.en p0))/\s.h 7050000=(ae,oW 5 1 enB aa))/\bZ p0 m v4 aa=some r
 have e1:=@bZ.eq_2
 unfold eT at h
 exact sgo 38 [.tmp 2] Tryz.func346⟩
instance Uv:bR 211 (∀p0 r (h:cT p0=some r),Sc 211 [(false,[.ptr [.sl (List.map enB p0.b),.int .i64 p0.i,.int .i64 p0.h]])] [(false,[.edit (.lend 182 [.int .i64 r.1,.int .i64 r.2.1])]),rS r.2.2]):=⟨λp0 r h=>by
 unfold cT at h
 simp only[EN]
 refine sgB 6 [.tmp 2] Tryz.func211 λbase wd B0 u0 hw0=> ?_
 refine gK (J:=λs=>s.t 0=vP 7059000 1 0/\s.h 7059000=(1,oB 182 [.old B0 (.sl (List.map enB p0.b)) (some u0),cI p0.i,cI p0.h])/\True) ?_ ?_
 ·and_intros<;>(try simp only[LN,List.map_cons,List.map_nil])<;>rfl
 rintro s1 f2
 exact sgX⟩
instance Uy:bR 281 (∀p0 p1 p2 r (h:fY p0 p1 p2=some r),Sc 281 [aX (M.aC.en p0),aS p1,aI p2] [(true,M.aC.rs r.1),rB r.2]):=⟨λp0 p1 p2 r h=>by
 have i1:=λ(x1:M.aC)=>inv λm s=>∃v9:Int,(s.t 1=vS p1/\s.t 2=vI p2/\s.t 3=vP 3 1 0/\s.t 6=vP 6 1 0/\s.t 8=vP 8 1 0/\s.t 9=vI v9/\s.h 3=(1,oX 254 (M.aC.en p0))/\s.h 6=(1,oB 254 [.nil])/\s.h 8=(1,oB 254 [.row 100011 1])/\s.h 100011=(1,oW 356 2 M.Field.en x1.Y4))/\jX p0 p1 p2 x1 m v9=some r
 have e1:=@jX.eq_2
 unfold fY at h
 exact sgo 78 [.cell 6 254,.tmp 7] Tryz.func281⟩
instance RH:bR 231 (∀p0 r (h:dR p0=some r),Sc 231 [aX (M.YY.en p0)] [(true,M.YY.rs r)]):=⟨λp0 r h=>by
 have i1:=CO [.b 3 2 7050000 40 3] λm s=>∃v4:Int,∃aa:List M.aA,∃ae:Nat,(s.t 1=vP 1 1 0/\s.t 2=vP 2 1 0/\s.t 3=vP 3 1 0/\s.t 4=vI v4/\s.h 1=(1,oX 35 (M.YY.en p0))/\s.h 2=(1,Hs)/\s.h 3=(1,oB 35 [cS p0.Name,cI p0.Y2,.row 7050000 ae,.row 100009 2])/\s.h 100009=(2,oW 282 2 M.aM.en p0.Za)/\s.h 7050000=(ae,oW 40 3 M.aA.en aa))/\nE p0 m v4 aa=some r
 have e1:=@nE.eq_2
 unfold dR at h
 exact sgo 33 [.cell 2 35] Tryz.func231⟩
instance:bR 290 (∀p0 p1 r (h:rX p0 p1=some r),Sc 290 [aI p0,aL enB p1] [rI r]):=⟨λp0 p1 r h=>by unfold rX at h;exact sgo 11 [.tmp 4] Tryz.func290⟩
instance:bR 408 (∀p0 p1 r (h:zR p0 p1=some r),Sc 408 [aL enB p0,aI p1] [(true,M.aC.rs r.1),rI r.2.1,rB r.2.2]):=⟨λp0 p1 r h=>by
 have i1:=λ(x1:(Int×Int×Bool))=>CO [.b 10 0 7050000 356 2] λm s=>∃v8:Int,∃v11:Int,∃aa:List M.Field,∃ae:Nat,(s.t 0=vL enB p0/\s.t 4=vP 4 1 0/\s.t 7=vI x1.1/\s.t 8=vI v8/\s.t 10=vP 10 1 0/\s.t 11=vI v11/\s.h 4=(1,oB 254 [.nil])/\s.h 10=(1,oB 254 [.row 7050000 ae])/\s.h 7050000=(ae,oW 356 2 M.Field.en aa))/\nC p0 x1 m v8 v11 aa=some r
 have e1:=@nC.eq_2
 unfold zR at h
 exact sgo 72 [.cell 4 254,.tmp 5,.tmp 6] Tryz.func408⟩
instance:bR 344 (∀p0 r (h:yF p0=some r),Sc 344 [aX (M.Op.en p0)] [rB r]):=⟨λp0 r h=>by unfold yF at h;exact sgo 46 [.tmp 2] Tryz.func344⟩
instance:bR 409 (∀p0 p1 r (h:tO p0 p1=some r),Sc 409 [aX (M.Key.en p0),aX (M.eX.en p1)] [rB r]):=⟨λp0 p1 r h=>by unfold tO at h;exact sgo 50 [.tmp 4] Tryz.func409⟩
instance:bR 135 (∀p0 r (h:rQ p0=some r),Sc 135 [aX (M.aD.en p0)] [(true,M.aD.rs r)]):=⟨λp0 r h=>by unfold rQ at h;exact sgo 12 [.cell 2 47] Tryz.func135⟩
instance Uu:bR 188 (∀p0 r (h:rP p0=some r),Sc 188 [(false,[.ptr [.sl (List.map enB p0.b),.int .i64 p0.i,.int .i64 p0.h]])] [(false,[.edit (.lend 182 [.int .i64 r.1,.int .i64 r.2.1])]),rS r.2.2]):=⟨λp0 r h=>by
 unfold rP at h
 simp only[EN]
 refine sgB 6 [.tmp 2] Tryz.func188 λbase wd B0 u0 hw0=> ?_
 refine gK (J:=λs=>s.t 0=vP 7059000 1 0/\s.h 7059000=(1,oB 182 [.old B0 (.sl (List.map enB p0.b)) (some u0),cI p0.i,cI p0.h])/\True) ?_ ?_
 ·and_intros<;>(try simp only[LN,List.map_cons,List.map_nil])<;>rfl
 rintro s1 f2
 exact sgX⟩
instance UP:bR 214 (∀p0 r (h:mQ p0=some r),Sc 214 [(false,[.ptr [.sl (List.map enB p0.b),.int .i64 p0.i,.int .i64 p0.h]])] [(false,[.edit (.lend 182 [.int .i64 r.1,.int .i64 r.2.1])]),(true,M.Y7.rs r.2.2)]):=⟨λp0 r h=>by
 unfold mQ at h
 simp only[EN]
 refine sgB 40 [.cell 2 105] Tryz.func214 λbase wd B0 u0 hw0=> ?_
 refine gK (J:=λs=>s.t 0=vP 7059000 1 0/\s.h 7059000=(1,oB 182 [.old B0 (.sl (List.map enB p0.b)) (some u0),cI p0.i,cI p0.h])/\True) ?_ ?_
 ·and_intros<;>(try simp only[LN,List.map_cons,List.map_nil])<;>rfl
 rintro s1 f2
 exact sgX⟩
instance:bR 391 (∀p0 r (h:sB p0=some r),Sc 391 [(false,[.ptr [.sl (List.map enB p0.b),.int .i64 p0.i,.int .i64 p0.h]])] [(false,[.edit (.lend 182 [.int .i64 r.1,.int .i64 r.2.1])]),rI r.2.2]):=⟨λp0 r h=>by
 unfold sB at h
 simp only[EN]
 refine sgB 8 [.tmp 2] Tryz.func391 λbase wd B0 u0 hw0=> ?_
 refine gK (J:=λs=>s.t 0=vP 7059000 1 0/\s.h 7059000=(1,oB 182 [.old B0 (.sl (List.map enB p0.b)) (some u0),cI p0.i,cI p0.h])/\True) ?_ ?_
 ·and_intros<;>(try simp only[LN,List.map_cons,List.map_nil])<;>rfl
 rintro s1 f2
 exact sgX⟩
theorem YM(p0 p1 r)(h:BA p0 p1=some r):Sc 390 [aX (M.YY.en p0),aS p1] [(true,M.YY.rs r)]:=by
 have i1:=CO [.b 5 2 7050000 40 3] λm s=>∃U:Int,∃j:List M.aA,∃C:Nat,(s.t 1=vS p1/\s.t 2=vP 2 1 0/\s.t 4=vP 4 1 0/\s.t 5=vP 5 1 0/\s.t 6=vI U/\s.h 2=(1,oX 35 (M.YY.en p0))/\s.h 4=(1,Hs)/\s.h 5=(1,oB 35 [cS p0.Name,cI p0.Y2,.row 7050000 C,.nil])/\s.h 7050000=(C,oW 40 3 M.aA.en j))/\tR p0 p1 m U j=some r
 have e1:=@tR.eq_2
 have i2:=λ(j:List M.aA) (C:Nat)=>CO [.b 5 3 7050100 282 2] λm s=>∃v7:Int,∃I:List M.aM,∃J:Nat,(s.t 1=vS p1/\s.t 2=vP 2 1 0/\s.t 4=vP 4 1 0/\s.t 5=vP 5 1 0/\s.t 7=vI v7/\s.h 2=(1,oX 35 (M.YY.en p0))/\s.h 4=(1,Hs)/\s.h 5=(1,oB 35 [cS p0.Name,cI p0.Y2,.row 7050000 C,.row 7050100 J])/\s.h 7050000=(C,oW 40 3 M.aA.en j)/\s.h 7050100=(J,oW 282 2 M.aM.en I))/\tL p0 p1 j m v7 I=some r
 have e2:=@tL.eq_2
 unfold BA at h
 exact sgo 65 [.cell 4 35] Tryz.func390
instance:bR 216 (∀p0 p1 r (h:xV p0 p1=some r),Sc 216 [(false,[.ptr [.sl (List.map enB p0.b),.int .i64 p0.i,.int .i64 p0.h]]),aL enB p1] [(false,[.edit (.lend 182 [.int .i64 r.1,.int .i64 r.2.1])]),rW 5 1 enB r.2.2]):=⟨λp0 p1 r h=>by
 unfold xV at h
 simp only[EN]
 refine sgB 44 [.tmp 4] Tryz.func216 λbase wd B0 u0 hw0 => ?_
 refine gK (J:=λs=>s.t 0=vP 7059000 1 0/\s.t 1=vL enB p1/\s.h 7059000=(1,oB 182 [.old B0 (.sl (List.map enB p0.b)) (some u0),cI p0.i,cI p0.h])/\True) ?_ ?_
 ·and_intros<;>(try simp only[LN,List.map_cons,List.map_nil])<;>rfl
 rintro s1 f2
 refine sq (rn ?_)
 refine an (sq ?_)
 obtain⟨x5,h6,h⟩:=bind_some h
 refine rn1 h6 ?_
 refine an (sq (sq ?_))
 refine cu (λs=>s.t 0=vP 7059000 1 0/\s.t 5=vR 100006 (((s1.h 100006).1+1)+1)/\s.h 100006=(((s1.h 100006).1+1)+1,oW 5 1 enB p1)/\s.h 7059000=(1,oB 182 [.old B0 (.sl (List.map enB p0.b)) (some u0),cI p0.i,cI p0.h])/\True) ?_
 rintro s7 f8
 obtain⟨aa,al,h⟩:=bind_some h
 refine rn1 (c65.1 _ _ _ al) ?_
 refine an (bk (sq ?_))
 refine cu (λs=>s.t 0=vP 7059000 1 0/\s.t 5=vR 100006 (((s1.h 100006).1+1)+1)/\s.t 10=vI aa.2.2/\s.h 100006=(((s1.h 100006).1+1)+1,oW 5 1 enB p1)/\s.h 7059000=(1,oB 182 [.old B0 (.sl (List.map enB p0.b)) (some u0),cI aa.1,cI aa.2.1])/\True) ?_
 rintro ay f15
 refine rn ?_
 refine an ?_
 rcases jR (aa.2.2==0)with ae | ae
 ·replace h:=bX ae h;refine ct (sq (rn ?_));refine an ?_;rcases AU (decide ((List.length p1:Int)>0))with ai | ai;(replace h:=bW ai h;refine cf (sk (ab (an (sq (rn ?_)))));refine an (rt ?_);cases h;simp[HO,Ret,TB,EN, *]);replace h:=bX ai h;refine ct ?_;obtain⟨az,ao,h⟩:=bind_some h;obtain⟨ba,aq,h⟩:=bind_some h;obtain⟨bd,ar,h⟩:=bind_some h;obtain⟨bf,bg,bh⟩:=pZ ar;refine rn2 (c65.1 _ _ _ ao) (c65.1 _ _ _ aq) ?_;refine ab (an (sq (rn ?_)));refine an (rt ?_);cases h;simp[HO,Ret,TB,EN, *]
 replace h:=bW ae h
 refine cf (sq (rn ?_))
 refine an ?_
 rcases AU (aa.2.2==1)with af | af
 ·replace h:=bW af h;refine cf (sq (rn ?_));refine an ?_;rcases AU (aa.2.2==2)with aj | aj;(replace h:=bW aj h;refine cf (sk (ab (an (sq (rn ?_)))));refine an (rt ?_);cases h;simp[HO,Ret,TB,EN, *]);replace h:=bX aj h;refine ct ?_;obtain⟨bj,av,h⟩:=bind_some h;obtain⟨bl,aw,h⟩:=bind_some h;refine rn2 (c69.1 _ _ _ av) aw ?_;refine ab (an (sq (rn ?_)));refine an (rt ?_);cases h;simp[HO,Ret,TB,EN, *]
 replace h:=bX af h
 refine ct ?_
 obtain⟨ak,ax,h⟩:=bind_some h
 obtain⟨bm,ah,h⟩:=bind_some h
 apply iH
 ·simp +decide only[E,reduceIte,Nat.reduceAdd,Nat.reduceMul,qB,qC,<-List.map_take,<-List.map_drop,L,ti5,TV,enB,EN,f15,ae,af]
  refine⟨_,c65.1 _ _ _ ax,?_⟩
  try simp +decide only[E,reduceIte,Nat.reduceAdd,Nat.reduceMul,qB,qC,<-List.map_take,<-List.map_drop,L,ti5,TV,enB,EN,f15,ae,af]
  refine⟨by first | exact uY ah | exact(uY ah).2 | exact(uY ah).2.2,?_⟩
  try simp +decide only[E,reduceIte,Nat.reduceAdd,Nat.reduceMul,qB,qC,<-List.map_take,<-List.map_drop,L,ti5,TV,enB,EN,f15,ae,af]
  exact Is.mk _
 refine ab (an (sq (rn ?_)))
 refine an ?_
 refine FA (Gho.S1 (i:=4) (j:=100006) (vj:=((s1.h 100006).1+1)+1) (K:=100006) (n:=ak.2.2.toNat) (e:=5) (sz:=1) (dp:=true) (xs:=List.map enB p1) (List.map enB (List.take ak.2.2.toNat p1)) (by first | (simp +decide only[F,reduceIte,Nat.reduceAdd,qB,qC,EN, *,-h];done)| (simp +decide only[F,reduceIte,Nat.reduceAdd,qB,qC,EN, *,-h];rfl)| rfl) (by first | (simp +decide only[F,reduceIte,Nat.reduceAdd,qB,qC,EN, *,-h];done)| (simp +decide only[F,reduceIte,Nat.reduceAdd,qB,qC,EN, *,-h];rfl)| rfl) (by rw[qT];exact(uY ah).2) (by rw[List.map_take])) ?_
 refine rt ?_
 cases h
 simp[HO,Ret,TB,EN, *]⟩
instance:bR 181 (∀p0 r (h:jT p0=some r),Sc 181 [aX (M.Zk.en p0)] [(true,M.Zk.rs r)]):=⟨λp0 r h=>by unfold jT at h;exact sgo 15 [.cell 2 137] Tryz.func181⟩
instance:bR 62 (∀p0 p1 r (h:rZ p0 p1=some r),Sc 62 [aX (M.bG.en p0),aX (M.bG.en p1)] [rB r]):=⟨λp0 p1 r h=>by unfold rZ at h;exact sgo 24 [.tmp 4] Tryz.func62⟩
instance:bR 253 (∀p0 r (h:uX p0=some r),Sc 253 [aL M.Instr.en p0] [rB r]):=⟨λp0 r h=>by
 have i1:=inv λm s=>∃v3:Int,(s.t 0=vL M.Instr.en p0/\s.t 3=vI v3)/\kG p0 m v3=some r
 have e1:=@kG.eq_2
 unfold uX at h
 exact sgo 21 [.tmp 2] Tryz.func253⟩
theorem Yw(p0 p1 p2 r)(h:oP p0 p1 p2=some r):Sc 104 [aX (M.fS.en p0),aS p1,aX (M.Y7.en p2)] [(true,M.fS.rs r.1),rB r.2]:=by unfold oP at h;exact sgo 43 [.cell 6 96,.tmp 7] Tryz.func104
end Go.Proofs.YtipmihbgjolaaaaGreat.gen
