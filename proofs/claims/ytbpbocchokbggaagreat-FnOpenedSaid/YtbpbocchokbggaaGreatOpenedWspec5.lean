/-
  Helper text. No conditions.
-/
import Derived.Test.YtbpbocchokbggaaGreatOpenedWspec4
set_option linter.all false
namespace Go.Proofs.YtbpbocchokbggaaGreat.gen
open Go Go.Sh
set_option maxRecDepth 20000
set_option maxHeartbeats 4000000
instance:bK 432 (∀p0 p1 r (h:B3 p0 p1=some r),Sc 432 [aL enB p0,aI p1] [(true,M.Op.rs r.1),rI r.2.1,rB r.2.2]):=⟨λp0 p1 r h=>by unfold B3 at h;exact sgo 103 [.cell 4 139,.tmp 5,.tmp 6] Tryz.func432⟩
instance:bK 309 (∀p0 r (h:vY p0=some r),Sc 309 [aL enB p0] [rW 139 7 M.Op.en r.1,rB r.2]):=⟨λp0 r h=>by
 have i1:=λ(x1:(Int×Int×Bool))=>inv λm s=>∃v5:Int,∃v8:Int,∃aa:List M.Op,∃ae:Nat,(s.t 0=vL enB p0/\s.t 4=vI x1.1/\s.t 5=vI v5/\s.t 7=vR 100025 ae/\s.t 8=vI v8/\s.h 100025=(ae,oW 139 7 M.Op.en aa))/\mD p0 x1 m v5 v8 aa=some r
 have e1:=@mD.eq_2
 unfold vY at h
 exact sgo 53 [.tmp 2,.tmp 3] Tryz.func309⟩
instance:bK 515 (∀p0 p1 p2 r (h:Aq p0 p1 p2=some r),Sc 515 [aX (M.aC.en p0),aX (M.Key.en p1),aX (M.aD.en p2)] [(true,M.aC.rs r.1),rB r.2]):=⟨λp0 p1 p2 r h=>by unfold Aq at h;exact sgo 20 [.cell 6 117,.tmp 7] Tryz.func515⟩
instance:bK 517 (∀p0 p1 p2 r (h:C5 p0 p1 p2=some r),Sc 517 [aX (M.aC.en p0),aX (M.Key.en p1),aS p2] [(true,M.aC.rs r.1),rI r.2.1,rB r.2.2]):=⟨λp0 p1 p2 r h=>by unfold C5 at h;exact sgo 57 [.cell 6 117,.tmp 7,.tmp 8] Tryz.func517⟩
instance:bK 435 (∀p0 p1 r (h:Bw p0 p1=some r),Sc 435 [aX (M.aC.en p0),aX (M.Op.en p1)] [(true,M.aC.rs r.1),rI r.2.1,rB r.2.2]):=⟨λp0 p1 r h=>by unfold Bw at h;exact sgo 97 [.cell 4 117,.tmp 5,.tmp 6] Tryz.func435⟩
instance:bK 598 (∀p0 p1 r (h:lT p0 p1=some r),Sc 598 [aX (M.aC.en p0),aX (M.bB.en p1)] [(true,M.aC.rs r.1),rB r.2]):=⟨λp0 p1 r h=>by unfold lT at h;exact sgo 43 [.cell 4 117,.tmp 5] Tryz.func598⟩
instance:bK 623 (∀p0 p1 r (h:yT p0 p1=some r),Sc 623 [aX (M.aC.en p0),aL M.bB.en p1] [(true,M.aC.rs r)]):=⟨λp0 p1 r h=>by
 have i1:=ES [.b 5 1 7050000 260 4] λm s=>∃v6:Int,∃af:ByteArray,∃ah:Int,∃aa:List M.aHV,∃ae:Nat,(s.t 1=vL M.bB.en p1/\s.t 4=vP 4 1 0/\s.t 5=vP 5 1 0/\s.t 6=vI v6/\s.h 4=(1,oB 117 [cS (⟨#[]⟩:ByteArray),.nil,cI 0])/\s.h 5=(1,oB 117 [cS af,.row 7050000 ae,cI ah])/\s.h 7050000=(ae,oW 260 4 M.aHV.en aa))/\kU p1 m v6 af ah aa=some r
 have e1:=@kU.eq_2
 unfold yT at h
 exact sgo 29 [.cell 4 117] Tryz.func623⟩
theorem aG8(p0 r)(h:B8 p0=some r):Sc 600 [(false,[.ptr [.sl (List.map enB p0.b),.int .i64 p0.i,.int .i64 p0.h]])] [(false,[.edit (.lend 304 [.int .i64 r.1,.int .i64 r.2.1])]),(true,M.aF.rs r.2.2)]:=by
 unfold B8 at h
 simp only[EN]
 refine sgB 42 [.cell 2 108] Tryz.func600 λbase wd j C hw0=> ?_
 refine eE (J:=λs=>s.t 0=vP 7059000 1 0/\s.h 7059000=(1,oB 304 [.old j (.sl (List.map enB p0.b)) (some C),cI p0.i,cI p0.h])/\True) ?_ ?_
 ·and_intros<;>(try simp only[LN,List.map_cons,List.map_nil])<;>rfl
 rintro s1 f2
 have i1:=ES [.b 3 0 7050000 345 2] λm s=>∃v4:Int,∃af:Int,∃ah:Int,∃ak:List M.aHM,∃al:Nat,(s.t 0=vP 7059000 1 0/\s.t 2=vP 2 ((s1.h 2).1+1) 0/\s.t 3=vP 3 ((s1.h 3).1+1) 0/\s.t 4=vI v4/\s.h 2=((s1.h 2).1+1,oB 108 [.nil])/\s.h 3=((s1.h 3).1+1,oB 108 [.row 7050000 al])/\s.h 7050000=(al,oW 345 2 M.aHM.en ak)/\s.h 7059000=(1,oB 304 [.old j (.sl (List.map enB p0.b)) (some C),cI af,cI ah]))/\tH p0 m v4 af ah ak=some r
 have e1:=@tH.eq_2
 have i2:=ES [.b 3 0 7050100 345 2] λm s=>∃ao:Int,∃I:Int,∃U:Int,∃ai:List M.aHM,∃aj:Nat,(s.t 0=vP 7059000 1 0/\s.t 2=vP 2 ((s1.h 2).1+1) 0/\s.t 3=vP 3 ((s1.h 3).1+1) 0/\s.t 5=vI ao/\s.h 2=((s1.h 2).1+1,oB 108 [.nil])/\s.h 3=((s1.h 3).1+1,oB 108 [.row 7050100 aj])/\s.h 7050100=(aj,oW 345 2 M.aHM.en ai)/\s.h 7059000=(1,oB 304 [.old j (.sl (List.map enB p0.b)) (some C),cI I,cI U]))/\pC p0 m ao I U ai=some r
 have e2:=@pC.eq_2
 exact sgX
instance:bK 548 (∀p0 r (h:Ce p0=some r),Sc 548 [(false,[.ptr [.sl (List.map enB p0.b),.int .i64 p0.i,.int .i64 p0.h]])] [(false,[.edit (.lend 304 [.int .i64 r.1,.int .i64 r.2.1])]),(true,M.aF.rs r.2.2)]):=⟨λp0 r h=>by
 unfold Ce at h
 simp only[EN]
 refine sgB 56 [.cell 2 108] Tryz.func548 λbase wd B0 u0 hw0 => ?_
 refine eE (J:=λs=>s.t 0 = .v false [.bp 7059000 1 0]/\s.h 7059000=(1,.box 304 [.old B0 (.sl (List.map enB p0.b)) (some u0),.dat (.int .i64 p0.i),.dat (.int .i64 p0.h)])/\True) ?_ ?_
 ·and_intros<;>(try simp only[LN,List.map_cons,List.map_nil])<;>rfl
 rintro s1 f2
 refine sq ?_
 apply bE
 ·simp +decide only[LN,E,reduceIte,Nat.reduceAdd,Nat.reduceMul,qB,qC,L,pG,EN,f2];exact Is.mk _
 refine an (sq ?_)
 obtain⟨x4,h5,h⟩:=bind_some h
 apply bE
 ·simp +decide only[LN,E,reduceIte,Nat.reduceAdd,Nat.reduceMul,qB,qC,L,pG,EN,f2]
  refine⟨_,aG8 _ _ h5,?_⟩
  try simp +decide only[LN,E,reduceIte,Nat.reduceAdd,Nat.reduceMul,qB,qC,L,pG,EN,f2]
  exact Is.mk _
 refine an (sq (sq ?_))
 refine eE (J:=λs=>s.t 0 = .v false [.bp 7059000 1 0]/\s.t 2 = .v false [.bp 2 ((s1.h 2).1+1) 0]/\s.t 3 = .v false [.bp 3 ((s1.h 3).1+1) 0]/\s.h 2=((s1.h 2).1+1,.box 108 [.nil])/\s.h 3=((s1.h 3).1+1,.box 108 [.row 100006 ((s1.h 100006).1+1)])/\s.h 100006=((s1.h 100006).1+1,.row 345 2 (List.map M.aHM.en x4.2.2.aHC) true)/\s.h 7059000=(1,.box 304 [.old B0 (.sl (List.map enB p0.b)) (some u0),.dat (.int .i64 x4.1),.dat (.int .i64 x4.2.1)])/\True) ?_ ?_
 ·and_intros<;>(try simp +decide only[LN,F,reduceIte,Nat.reduceAdd,qB,qC,EN,M.aHM.en,f2])
 rintro s6 f7
 obtain⟨af,ar,h⟩:=bind_some h
 apply bE
 ·simp +decide only[LN,E,reduceIte,Nat.reduceAdd,Nat.reduceMul,qB,qC,L,EN, *,-h]
  refine⟨_,Ob.1 _ _ _ ar,?_⟩
  try simp +decide only[LN,E,reduceIte,Nat.reduceAdd,Nat.reduceMul,qB,qC,L,EN, *,-h]
  exact Is.mk _
 refine an (bk (sq ?_))
 refine eE (J:=λs=>s.t 0 = .v false [.bp 7059000 1 0]/\s.t 2 = .v false [.bp 2 ((s1.h 2).1+1) 0]/\s.t 3 = .v false [.bp 3 ((s1.h 3).1+1) 0]/\s.t 8 = .v false [.dat (.int .i64 af.2.2)]/\s.h 2=((s1.h 2).1+1,.box 108 [.nil])/\s.h 3=((s1.h 3).1+1,.box 108 [.row 100006 ((s1.h 100006).1+1)])/\s.h 100006=((s1.h 100006).1+1,.row 345 2 (List.map M.aHM.en x4.2.2.aHC) true)/\s.h 7059000=(1,.box 304 [.old B0 (.sl (List.map enB p0.b)) (some u0),.dat (.int .i64 af.1),.dat (.int .i64 af.2.1)])/\True) ?_ ?_
 ·and_intros<;>(try simp +decide only[LN,F,reduceIte,Nat.reduceAdd,qB,qC,EN,M.aHM.en, *,-h])
 rintro s16 f17
 apply bE
 ·simp +decide only[LN,E,reduceIte,Nat.reduceAdd,Nat.reduceMul,qB,qC,L,EN, *,-h];exact Is.mk _
 refine an ?_
 rcases dP (af.2.2==0)with ai | ai
 ·replace h:=bG ai h
  refine CE (by simp +decide only[LN,F,reduceIte,Nat.reduceAdd,qB,qC,EN, *,-h]) ?_
  obtain⟨bg,av,h⟩:=bind_some h
  obtain⟨bh,aw,h⟩:=bind_some h
  apply BO mixed
  ·simp +decide only[LN,E,reduceIte,Nat.reduceAdd,Nat.reduceMul,qB,qC,L,ti3,X9,It,pG,Gk,M.aHM.en,enI,EN, *,-h]
   have hc:=Zw.1 _ _ _ av
   simp only[List.map_append,List.map_cons,List.map_nil,M.aHM.en,enI]at hc
   refine⟨_,hc,?_⟩
   try simp +decide only[LN,E,reduceIte,Nat.reduceAdd,Nat.reduceMul,qB,qC,L,ti3,X9,It,pG,Gk,M.aHM.en,enI,EN, *,-h]
   refine⟨by(have hb:=gO aw);simp[M.aHM.en,enI,qE,aP]at hb ⊢ <;> omega,?_⟩
   try simp +decide only[LN,E,reduceIte,Nat.reduceAdd,Nat.reduceMul,qB,qC,L,ti3,X9,It,pG,Gk,M.aHM.en,enI,EN, *,-h]
   exact⟨.mk jJ,Is.mk _⟩
  refine ab (an (sq ?_))
  apply bE
  ·simp +decide only[LN,E,reduceIte,Nat.reduceAdd,Nat.reduceMul,qB,qC,L,pG,EN, *,-h];exact Is.mk _
  refine an (rt ?_)
  cases h
  simp[I5,Ret,TB,EN, *]
 replace h:=bF ai h
 refine Dk (by simp +decide only[LN,F,reduceIte,Nat.reduceAdd,qB,qC,EN, *,-h]) ?_
 refine sq ?_
 apply bE
 ·simp +decide only[LN,E,reduceIte,Nat.reduceAdd,Nat.reduceMul,qB,qC,L,EN, *,-h];exact Is.mk _
 refine an ?_
 rcases Cw (af.2.2==1)with aj | aj
 ·replace h:=bF aj h
  refine Dk (by simp +decide only[LN,F,reduceIte,Nat.reduceAdd,qB,qC,EN, *,-h]) ?_
  refine sq ?_
  apply bE
  ·simp +decide only[LN,E,reduceIte,Nat.reduceAdd,Nat.reduceMul,qB,qC,L,EN, *,-h];exact Is.mk _
  refine an ?_
  rcases Cw (af.2.2==2)with ak | ak
  ·replace h:=bF ak h;refine Dk (by simp +decide only[LN,F,reduceIte,Nat.reduceAdd,qB,qC,EN, *,-h]) ?_;refine sk (ab (an (sq ?_)));apply bE;(simp +decide only[LN,E,reduceIte,Nat.reduceAdd,Nat.reduceMul,qB,qC,L,pG,EN, *,-h];exact Is.mk _);refine an (rt ?_);cases h;simp[I5,Ret,TB,EN, *]
  replace h:=bG ak h
  refine CE (by simp +decide only[LN,F,reduceIte,Nat.reduceAdd,qB,qC,EN, *,-h]) ?_
  refine sq ?_
  apply bE
  ·simp +decide only[LN,E,reduceIte,Nat.reduceAdd,Nat.reduceMul,qB,qC,L,EN, *,-h];exact Is.mk _
  refine an (bk ?_)
  refine G7 (Gho.Xo (b:=3) (c:=0) (K:=7050000) (j:=100006) (by simp +decide only[LN,F,reduceIte,Nat.reduceAdd,qB,qC,EN, *,-h];rfl) rfl (by simp +decide only[LN,F,reduceIte,Nat.reduceAdd,qB,qC,EN, *,-h];rfl) jI) ?_
  refine GI (λm s=>∃v4:Int,∃ae:List M.aHM,∃aa:Nat,s.t 0 = .v false [.bp 7059000 1 0]/\s.t 2 = .v false [.bp 2 ((s1.h 2).1+1) 0]/\s.t 3 = .v false [.bp 3 ((s1.h 3).1+1) 0]/\s.t 4 = .v false [.dat (.int .i64 v4)]/\s.h 2=((s1.h 2).1+1,.box 108 [.nil])/\s.h 3=((s1.h 3).1+1,.box 108 [.row 7050000 aa])/\s.h 7050000=(aa,.row 345 2 (List.map M.aHM.en ae) true)/\s.h 7059000=(1,.box 304 [.old B0 (.sl (List.map enB p0.b)) (some u0),.dat (.int .i64 af.1),.dat (.int .i64 af.2.1)])/\tL af m v4 ae=some r) fuel ?_ ?_
  ·refine⟨1,x4.2.2.aHC,(s16.h 7050000).1+1,?_,?_,?_,?_,?_,?_,?_,?_,h⟩;all_goals simp +decide only[LN,F,reduceIte,Nat.reduceAdd,qB,qC,EN,M.aHM.en, *,-h]
  rintro mL1 bj ⟨v4,ae,aa,f56,f57,f58,f59,f60,f61,f62,f63,h⟩
  rcases mL1 with _ | mL1
  ·exact absurd h (by simp[tL])
  simp only[tL]at h
  refine sq (sq ?_)
  apply bE
  ·simp +decide only[LN,E,reduceIte,Nat.reduceAdd,Nat.reduceMul,qB,qC,L,EN, *,-h];exact Is.mk _
  refine an ?_
  rcases Cw (decide (v4<=4))with al | al
  ·replace h:=bF al h;refine Dk (by simp +decide only[LN,F,reduceIte,Nat.reduceAdd,qB,qC,EN, *,-h]) ?_;refine xt (EP (EF (Js (ab (an (sq ?_))))));apply bE;(simp +decide only[LN,E,reduceIte,Nat.reduceAdd,Nat.reduceMul,qB,qC,L,pG,EN, *,-h];exact Is.mk _);refine an (rt ?_);cases h;simp[I5,Ret,TB,EN, *]
  replace h:=bG al h
  refine CE (by simp +decide only[LN,F,reduceIte,Nat.reduceAdd,qB,qC,EN, *,-h]) ?_
  refine sk (an (sq (bk ?_)))
  obtain⟨ax,ay,h⟩:=bind_some h
  apply bE
  ·simp +decide only[LN,E,reduceIte,Nat.reduceAdd,Nat.reduceMul,qB,qC,L,pG,EN, *,-h]
   refine⟨_,aAd.1 _ _ _ ay,?_⟩
   try simp +decide only[LN,E,reduceIte,Nat.reduceAdd,Nat.reduceMul,qB,qC,L,pG,EN, *,-h]
   exact Is.mk _
  refine ab (an ?_)
  apply bE
  ·simp +decide only[LN,E,reduceIte,Nat.reduceAdd,Nat.reduceMul,qB,qC,L,EN, *,-h];exact Is.mk _
  refine dV ⟨_,Gho.Xo (b:=3) (c:=0) (K:=7050000) (j:=100052) (by simp +decide only[LN,F,reduceIte,Nat.reduceAdd,qB,qC,EN, *,-h];rfl) rfl (by simp +decide only[LN,F,reduceIte,Nat.reduceAdd,qB,qC,EN, *,-h];rfl) jI,mL1,jF,IntKind.i64.wrap (v4+1),ax.1.aHC,aa+1,?_,?_,?_,?_,?_,?_,?_,?_,h⟩
  all_goals simp +decide only[LN,F,reduceIte,Nat.reduceAdd,qB,qC,EN,M.aHM.en, *,-h]
 replace h:=bG aj h
 refine CE (by simp +decide only[LN,F,reduceIte,Nat.reduceAdd,qB,qC,EN, *,-h]) ?_
 refine sq ?_
 apply bE
 ·simp +decide only[LN,E,reduceIte,Nat.reduceAdd,Nat.reduceMul,qB,qC,L,It,pG,EN, *,-h];exact Is.mk _
 refine an ?_
 rcases Cw (decide ((List.length x4.2.2.aHC:Int)>0))with ao | ao
 ·replace h:=bF ao h;refine Dk (by simp +decide only[LN,F,reduceIte,Nat.reduceAdd,qB,qC,EN, *,-h]) ?_;refine sk (ab (an (sq ?_)));apply bE;(simp +decide only[LN,E,reduceIte,Nat.reduceAdd,Nat.reduceMul,qB,qC,L,pG,EN, *,-h];exact Is.mk _);refine an (rt ?_);cases h;simp[I5,Ret,TB,EN, *]
 replace h:=bG ao h
 refine CE (by simp +decide only[LN,F,reduceIte,Nat.reduceAdd,qB,qC,EN, *,-h]) ?_
 obtain⟨ah,az,h⟩:=bind_some h
 obtain⟨bl,aq,bm⟩:=rR az
 refine Q4 [0,2,3] [2,3,7059000] (i:=100006) (ver:=(s1.h 100006).1+1) (e:=345) (sz:=2) (xs:=List.map M.aHM.en x4.2.2.aHC) (j:=(0:Int).toNat) (x:=M.aHM.en ah) (off:=1) (K:=7057000) (e':=351) (sz':=7) (ys:=List.map M.aHU.en ah.aHS) (by first | (simp +decide only[LN,F,reduceIte,Nat.reduceAdd,qB,qC,EN,M.aHM.en, *,-h];done)| (simp +decide only[LN,F,reduceIte,Nat.reduceAdd,qB,qC,EN,M.aHM.en, *,-h];rfl)| rfl) ?_ rfl ?_ hw0.2.1 (.inr jI) hw0.2.2 jI jI jI ?_ ?_ λu => ?_
 ·rw[List.getElem?_map,aq];rfl
 ·rw[<-(dL Gk).sl];rfl
 ·simp +decide only[LC,hw0.1,LN,F,reduceIte,Nat.reduceAdd,qB,qC,EN,M.aHM.en, *,-h]
 ·simp +decide only[LC,hw0.1,LN,F,reduceIte,Nat.reduceAdd,qB,qC,EN,M.aHM.en, *,-h]
 have bn:(List.set (List.map M.aHM.en x4.2.2.aHC) (0:Int).toNat [.int .i64 ah.aHA,.val u])[(0:Int).toNat]? = some [.int .i64 ah.aHA,.val u]:=Vz (b:=M.aHM.en ah) (by rw[List.getElem?_map,aq];rfl)
 refine eE (J:=λs=>s.t 0 = .v false [.bp 7059000 1 0]/\s.t 2 = .v false [.bp 2 ((s1.h 2).1+1) 0]/\s.t 3 = .v false [.bp 3 ((s1.h 3).1+1) 0]/\s.h 2=((s1.h 2).1+1,.box 108 [.nil])/\s.h 3=((s1.h 3).1+1,.box 108 [.row 100006 ((s1.h 100006).1+1)])/\s.h 100006=((s1.h 100006).1+1,.row 345 2 (List.set (List.map M.aHM.en x4.2.2.aHC) (0:Int).toNat [.int .i64 ah.aHA,.val u]) true)/\s.h 7057000=((s16.h 7057000).1+1,.row 351 7 (List.map M.aHU.en ah.aHS) true)/\s.h 7058000=((s16.h 7058000).1+1,.pin 7057000 ((s16.h 7057000).1+1) u)/\s.h 7059000=(1,.box 304 [.old B0 (.sl (List.map enB p0.b)) (some u0),.dat (.int .i64 af.1),.dat (.int .i64 af.2.1)])/\True) ?_ ?_
 ·and_intros<;>(try first | (simp +decide only[LN,F,reduceIte,Nat.reduceAdd,qB,qC,EN,M.aHM.en,M.aHU.en, *,-h];done)| (simp +decide only[LN,F,reduceIte,Nat.reduceAdd,qB,qC,EN,M.aHM.en,M.aHU.en, *,-h];rfl)| rfl)
 rintro bo f39
 obtain⟨bq,ba,h⟩:=bind_some h
 obtain⟨br,bd,h⟩:=bind_some h
 obtain⟨bt,bf,h⟩:=bind_some h
 apply BO mixed
 ·simp +decide only[LN,E,reduceIte,Nat.reduceAdd,Nat.reduceMul,qB,qC,L,ti9,Z2,It,pG,Pm,Gk,MH,M.aHM.en,M.aHU.en,enS,EN, *,-h]
  have hc:=c91.1 _ _ _ ba
  simp only[List.map_append,List.map_cons,List.map_nil,M.aHM.en,M.aHU.en,enS]at hc
  refine⟨_,hc,?_⟩
  try simp +decide only[LN,E,reduceIte,Nat.reduceAdd,Nat.reduceMul,qB,qC,L,ti9,Z2,It,pG,Pm,Gk,MH,M.aHM.en,M.aHU.en,enS,EN, *,-h]
  refine⟨_,aBp.1 _ _ bd,?_⟩
  try simp +decide only[LN,E,reduceIte,Nat.reduceAdd,Nat.reduceMul,qB,qC,L,ti9,Z2,It,pG,Pm,Gk,MH,M.aHM.en,M.aHU.en,enS,EN, *,-h]
  refine⟨by(have hb:=gO bf);simp[M.aHM.en,M.aHU.en,enS,qE,aP]at hb ⊢ <;> omega,?_⟩
  try simp +decide only[LN,E,reduceIte,Nat.reduceAdd,Nat.reduceMul,qB,qC,L,ti9,Z2,It,pG,Pm,Gk,MH,M.aHM.en,M.aHU.en,enS,EN, *,-h]
  exact⟨.mk jJ,Is.mk _⟩
 refine ab (an (sq ?_))
 apply bE
 ·simp +decide only[LN,E,reduceIte,Nat.reduceAdd,Nat.reduceMul,qB,qC,L,pG,EN, *,-h];exact Is.mk _
 refine an (rt ?_)
 cases h
 simp[I5,Ret,TB,EN, *]⟩
instance:bK 552 (∀p0 p1 r (h:rT p0 p1=some r),Sc 552 [(false,[.ptr [.sl (List.map enB p0.b),.int .i64 p0.i,.int .i64 p0.h]]),aS p1] [(false,[.edit (.lend 304 [.int .i64 r.1,.int .i64 r.2.1])]),(true,M.aC.rs r.2.2)]):=⟨λp0 p1 r h=>by
 unfold rT at h
 simp only[EN]
 refine sgB 37 [.cell 4 117] Tryz.func552 λbase wd B0 u0 hw0=> ?_
 refine eE (J:=λs=>s.t 0=vP 7059000 1 0/\s.t 1=vS p1/\s.h 7059000=(1,oB 304 [.old B0 (.sl (List.map enB p0.b)) (some u0),cI p0.i,cI p0.h])/\True) ?_ ?_
 ·and_intros<;>(try simp only[LN,List.map_cons,List.map_nil])<;>rfl
 rintro s1 f2
 have i1:=ES [.b 5 1 7050000 260 4] λm s=>∃v6:Int,∃ai:ByteArray,∃aj:Int,∃aa:Int,∃ae:Int,∃af:List M.aHV,∃ah:Nat,(s.t 0=vP 7059000 1 0/\s.t 4=vP 4 ((s1.h 4).1+1) 0/\s.t 5=vP 5 ((s1.h 5).1+1) 0/\s.t 6=vI v6/\s.h 4=((s1.h 4).1+1,oB 117 [cS (⟨#[]⟩:ByteArray),.nil,cI 0])/\s.h 5=((s1.h 5).1+1,oB 117 [cS ai,.row 7050000 ah,cI aj])/\s.h 7050000=(ah,oW 260 4 M.aHV.en af)/\s.h 7059000=(1,oB 304 [.old B0 (.sl (List.map enB p0.b)) (some u0),cI aa,cI ae]))/\pX p0 m v6 ai aj aa ae af=some r
 have e1:=@pX.eq_2
 exact sgX⟩
instance:bK 642 (∀p0 r (h:DM p0=some r),Sc 642 [(false,[.ptr [.sl (List.map enB p0.b),.int .i64 p0.i,.int .i64 p0.h]])] [(false,[.edit (.lend 304 [.int .i64 r.1,.int .i64 r.2.1])]),(true,M.Op.rs r.2.2)]):=⟨λp0 r h=>by
 unfold DM at h
 simp only[EN]
 refine sgB 37 [.cell 2 139] Tryz.func642 λbase wd B0 u0 hw0=> ?_
 refine eE (J:=λs=>s.t 0=vP 7059000 1 0/\s.h 7059000=(1,oB 304 [.old B0 (.sl (List.map enB p0.b)) (some u0),cI p0.i,cI p0.h])/\True) ?_ ?_
 ·and_intros<;>(try simp only[LN,List.map_cons,List.map_nil])<;>rfl
 rintro s1 f2
 exact sgX⟩
instance:bK 626 (∀p0 p1 r (h:Df p0 p1=some r),Sc 626 [(false,[.ptr [.sl (List.map enB p0.b),.int .i64 p0.i,.int .i64 p0.h]]),aI p1] [(false,[.edit (.lend 304 [.int .i64 r.1,.int .i64 r.2.1])]),rW 139 7 M.Op.en r.2.2]):=⟨λp0 p1 r h=>by
 unfold Df at h
 simp only[EN]
 refine sgB 22 [.tmp 4] Tryz.func626 λbase wd B0 u0 hw0=> ?_
 refine eE (J:=λs=>s.t 0=vP 7059000 1 0/\s.t 1=vI p1/\s.h 7059000=(1,oB 304 [.old B0 (.sl (List.map enB p0.b)) (some u0),cI p0.i,cI p0.h])/\True) ?_ ?_
 ·and_intros<;>(try simp only[LN,List.map_cons,List.map_nil])<;>rfl
 rintro s1 f2
 have i1:=inv λm s=>∃v6:Int,∃r7:List M.Op,∃aa:Int,∃ae:Int,∃u7:Nat,(s.t 0=vP 7059000 1 0/\s.t 5=vR 100007 u7/\s.t 6=vI v6/\s.h 100007=(u7,oW 139 7 M.Op.en r7)/\s.h 7059000=(1,oB 304 [.old B0 (.sl (List.map enB p0.b)) (some u0),cI aa,cI ae]))/\vQ p0 m v6 r7 aa ae=some r
 have e1:=@vQ.eq_2
 exact sgX⟩
instance:bK 553 (∀p0 p1 r (h:cV p0 p1=some r),Sc 553 [aX (M.aHO.en p0),aX (M.bB.en p1)] [(true,M.aHO.rs r.1),rI r.2]):=⟨λp0 p1 r h=>by unfold cV at h;exact sgo 70 [.cell 4 205,.tmp 5] Tryz.func553⟩
instance:bK 627 (∀p0 p1 r (h:yK p0 p1=some r),Sc 627 [aX (M.aHO.en p0),aI p1] [(true,M.aE.rs r.1),rB r.2]):=⟨λp0 p1 r h=>by unfold yK at h;exact sgo 37 [.cell 4 124,.tmp 5] Tryz.func627⟩
instance:bK 557 (∀p0 p1 r (h:AB p0 p1=some r),Sc 557 [aX (M.aC.en p0),aX (M.aD.en p1)] [(true,M.aC.rs r.1),(true,M.Key.rs r.2.1),rB r.2.2]):=⟨λp0 p1 r h=>by unfold AB at h;exact sgo 34 [.cell 4 117,.cell 5 136,.tmp 6] Tryz.func557⟩
