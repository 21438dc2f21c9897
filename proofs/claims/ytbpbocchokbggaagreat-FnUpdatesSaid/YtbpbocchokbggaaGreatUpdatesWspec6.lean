/-
  Helper text. No conditions.
-/
import Derived.Test.YtbpbocchokbggaaGreatUpdatesWspec5
set_option linter.all false
namespace Go.Proofs.YtbpbocchokbggaaGreat.gen
open Go Go.Sh
set_option maxRecDepth 20000
set_option maxHeartbeats 4000000
instance:bE 432 (∀p0 p1 r (h:Cr p0 p1=some r),Sc 432 [aL enB p0,aI p1] [(true,M.Op.rs r.1),rI r.2.1,rB r.2.2]):=⟨λp0 p1 r h=>by unfold Cr at h;exact sgo 103 [.cell 4 139,.tmp 5,.tmp 6] Tryz.func432⟩
instance:bE 309 (∀p0 r (h:wQ p0=some r),Sc 309 [aL enB p0] [rW 139 7 M.Op.en r.1,rB r.2]):=⟨λp0 r h=>by
 have i1:=λ(x1:(Int×Int×Bool))=>inv λm s=>∃v5:Int,∃v8:Int,∃aa:List M.Op,∃ae:Nat,(s.t 0=vL enB p0/\s.t 4=vI x1.1/\s.t 5=vI v5/\s.t 7=vR 100025 ae/\s.t 8=vI v8/\s.h 100025=(ae,oW 139 7 M.Op.en aa))/\mS p0 x1 m v5 v8 aa=some r
 have e1:=@mS.eq_2
 unfold wQ at h
 exact sgo 53 [.tmp 2,.tmp 3] Tryz.func309⟩
instance:bE 515 (∀p0 p1 p2 r (h:AL p0 p1 p2=some r),Sc 515 [aX (M.aD.en p0),aX (M.Key.en p1),aX (M.aE.en p2)] [(true,M.aD.rs r.1),rB r.2]):=⟨λp0 p1 p2 r h=>by unfold AL at h;exact sgo 20 [.cell 6 117,.tmp 7] Tryz.func515⟩
instance:bE 517 (∀p0 p1 p2 r (h:Du p0 p1 p2=some r),Sc 517 [aX (M.aD.en p0),aX (M.Key.en p1),aS p2] [(true,M.aD.rs r.1),rI r.2.1,rB r.2.2]):=⟨λp0 p1 p2 r h=>by unfold Du at h;exact sgo 57 [.cell 6 117,.tmp 7,.tmp 8] Tryz.func517⟩
instance:bE 435 (∀p0 p1 r (h:BV p0 p1=some r),Sc 435 [aX (M.aD.en p0),aX (M.Op.en p1)] [(true,M.aD.rs r.1),rI r.2.1,rB r.2.2]):=⟨λp0 p1 r h=>by unfold BV at h;exact sgo 97 [.cell 4 117,.tmp 5,.tmp 6] Tryz.func435⟩
instance:bE 598 (∀p0 p1 r (h:mF p0 p1=some r),Sc 598 [aX (M.aD.en p0),aX (M.bC.en p1)] [(true,M.aD.rs r.1),rB r.2]):=⟨λp0 p1 r h=>by unfold mF at h;exact sgo 43 [.cell 4 117,.tmp 5] Tryz.func598⟩
instance:bE 623 (∀p0 p1 r (h:zN p0 p1=some r),Sc 623 [aX (M.aD.en p0),aL M.bC.en p1] [(true,M.aD.rs r)]):=⟨λp0 p1 r h=>by
 have i1:=E5 [.b 5 1 7050000 260 4] λm s=>∃v6:Int,∃af:ByteArray,∃ah:Int,∃aa:List M.aJN,∃ae:Nat,(s.t 1=vL M.bC.en p1/\s.t 4=vP 4 1 0/\s.t 5=vP 5 1 0/\s.t 6=vI v6/\s.h 4=(1,oB 117 [cS (⟨#[]⟩:ByteArray),.nil,cI 0])/\s.h 5=(1,oB 117 [cS af,.row 7050000 ae,cI ah])/\s.h 7050000=(ae,oW 260 4 M.aJN.en aa))/\lC p1 m v6 af ah aa=some r
 have e1:=@lC.eq_2
 unfold zN at h
 exact sgo 29 [.cell 4 117] Tryz.func623⟩
theorem aIy(p0 r)(h:Cy p0=some r):Sc 600 [(false,[.ptr [.sl (List.map enB p0.b),.int .i64 p0.i,.int .i64 p0.h]])] [(false,[.edit (.lend 304 [.int .i64 r.1,.int .i64 r.2.1])]),(true,M.aC.rs r.2.2)]:=by
 unfold Cy at h
 simp only[EN]
 refine sgB 42 [.cell 2 108] Tryz.func600 λbase wd j C hw0=> ?_
 refine dR (J:=λs=>s.t 0=vP 7059000 1 0/\s.h 7059000=(1,oB 304 [.old j (.sl (List.map enB p0.b)) (some C),cI p0.i,cI p0.h])/\True) ?_ ?_
 ·and_intros<;>(try simp only[LN,List.map_cons,List.map_nil])<;>rfl
 rintro s1 f2
 have i1:=E5 [.b 3 0 7050000 345 2] λm s=>∃v4:Int,∃af:Int,∃ah:Int,∃ak:List M.aI5,∃al:Nat,(s.t 0=vP 7059000 1 0/\s.t 2=vP 2 ((s1.h 2).1+1) 0/\s.t 3=vP 3 ((s1.h 3).1+1) 0/\s.t 4=vI v4/\s.h 2=((s1.h 2).1+1,oB 108 [.nil])/\s.h 3=((s1.h 3).1+1,oB 108 [.row 7050000 al])/\s.h 7050000=(al,oW 345 2 M.aI5.en ak)/\s.h 7059000=(1,oB 304 [.old j (.sl (List.map enB p0.b)) (some C),cI af,cI ah]))/\tJ p0 m v4 af ah ak=some r
 have e1:=@tJ.eq_2
 have i2:=E5 [.b 3 0 7050100 345 2] λm s=>∃ao:Int,∃I:Int,∃U:Int,∃ai:List M.aI5,∃aj:Nat,(s.t 0=vP 7059000 1 0/\s.t 2=vP 2 ((s1.h 2).1+1) 0/\s.t 3=vP 3 ((s1.h 3).1+1) 0/\s.t 5=vI ao/\s.h 2=((s1.h 2).1+1,oB 108 [.nil])/\s.h 3=((s1.h 3).1+1,oB 108 [.row 7050100 aj])/\s.h 7050100=(aj,oW 345 2 M.aI5.en ai)/\s.h 7059000=(1,oB 304 [.old j (.sl (List.map enB p0.b)) (some C),cI I,cI U]))/\pK p0 m ao I U ai=some r
 have e2:=@pK.eq_2
 exact sgX
instance:bE 548 (∀p0 r (h:CE p0=some r),Sc 548 [(false,[.ptr [.sl (List.map enB p0.b),.int .i64 p0.i,.int .i64 p0.h]])] [(false,[.edit (.lend 304 [.int .i64 r.1,.int .i64 r.2.1])]),(true,M.aC.rs r.2.2)]):=⟨λp0 r h=>by
 unfold CE at h
 simp only[EN]
 refine sgB 56 [.cell 2 108] Tryz.func548 λbase wd B0 u0 hw0 => ?_
 refine dR (J:=λs=>s.t 0 = .v false [.bp 7059000 1 0]/\s.h 7059000=(1,.box 304 [.old B0 (.sl (List.map enB p0.b)) (some u0),.dat (.int .i64 p0.i),.dat (.int .i64 p0.h)])/\True) ?_ ?_
 ·and_intros<;>(try simp only[LN,List.map_cons,List.map_nil])<;>rfl
 rintro s1 f2
 refine sq ?_
 apply bJ
 ·simp +decide only[LN,E,reduceIte,Nat.reduceAdd,Nat.reduceMul,qB,qC,L,dQ,EN,f2];exact Is.mk _
 refine an (sq ?_)
 obtain⟨x4,h5,h⟩:=bind_some h
 apply bJ
 ·simp +decide only[LN,E,reduceIte,Nat.reduceAdd,Nat.reduceMul,qB,qC,L,dQ,EN,f2]
  refine⟨_,aIy _ _ h5,?_⟩
  try simp +decide only[LN,E,reduceIte,Nat.reduceAdd,Nat.reduceMul,qB,qC,L,dQ,EN,f2]
  exact Is.mk _
 refine an (sq (sq ?_))
 refine dR (J:=λs=>s.t 0 = .v false [.bp 7059000 1 0]/\s.t 2 = .v false [.bp 2 ((s1.h 2).1+1) 0]/\s.t 3 = .v false [.bp 3 ((s1.h 3).1+1) 0]/\s.h 2=((s1.h 2).1+1,.box 108 [.nil])/\s.h 3=((s1.h 3).1+1,.box 108 [.row 100006 ((s1.h 100006).1+1)])/\s.h 100006=((s1.h 100006).1+1,.row 345 2 (List.map M.aI5.en x4.2.2.aI1) true)/\s.h 7059000=(1,.box 304 [.old B0 (.sl (List.map enB p0.b)) (some u0),.dat (.int .i64 x4.1),.dat (.int .i64 x4.2.1)])/\True) ?_ ?_
 ·and_intros<;>(try simp +decide only[LN,F,reduceIte,Nat.reduceAdd,qB,qC,EN,M.aI5.en,f2])
 rintro s6 f7
 obtain⟨af,ar,h⟩:=bind_some h
 apply bJ
 ·simp +decide only[LN,E,reduceIte,Nat.reduceAdd,Nat.reduceMul,qB,qC,L,EN, *,-h]
  refine⟨_,O4.1 _ _ _ ar,?_⟩
  try simp +decide only[LN,E,reduceIte,Nat.reduceAdd,Nat.reduceMul,qB,qC,L,EN, *,-h]
  exact Is.mk _
 refine an (bk (sq ?_))
 refine dR (J:=λs=>s.t 0 = .v false [.bp 7059000 1 0]/\s.t 2 = .v false [.bp 2 ((s1.h 2).1+1) 0]/\s.t 3 = .v false [.bp 3 ((s1.h 3).1+1) 0]/\s.t 8 = .v false [.dat (.int .i64 af.2.2)]/\s.h 2=((s1.h 2).1+1,.box 108 [.nil])/\s.h 3=((s1.h 3).1+1,.box 108 [.row 100006 ((s1.h 100006).1+1)])/\s.h 100006=((s1.h 100006).1+1,.row 345 2 (List.map M.aI5.en x4.2.2.aI1) true)/\s.h 7059000=(1,.box 304 [.old B0 (.sl (List.map enB p0.b)) (some u0),.dat (.int .i64 af.1),.dat (.int .i64 af.2.1)])/\True) ?_ ?_
 ·and_intros<;>(try simp +decide only[LN,F,reduceIte,Nat.reduceAdd,qB,qC,EN,M.aI5.en, *,-h])
 rintro s16 f17
 apply bJ
 ·simp +decide only[LN,E,reduceIte,Nat.reduceAdd,Nat.reduceMul,qB,qC,L,EN, *,-h];exact Is.mk _
 refine an ?_
 rcases mT (af.2.2==0)with ai | ai
 ·replace h:=bZ ai h
  refine CF (by simp +decide only[LN,F,reduceIte,Nat.reduceAdd,qB,qC,EN, *,-h]) ?_
  obtain⟨bg,av,h⟩:=bind_some h
  obtain⟨bh,aw,h⟩:=bind_some h
  apply BH mixed
  ·simp +decide only[LN,E,reduceIte,Nat.reduceAdd,Nat.reduceMul,qB,qC,L,ti3,aA7,FV,dQ,B2,M.aI5.en,enI,EN, *,-h]
   have hc:=aA1.1 _ _ _ av
   simp only[List.map_append,List.map_cons,List.map_nil,M.aI5.en,enI]at hc
   refine⟨_,hc,?_⟩
   try simp +decide only[LN,E,reduceIte,Nat.reduceAdd,Nat.reduceMul,qB,qC,L,ti3,aA7,FV,dQ,B2,M.aI5.en,enI,EN, *,-h]
   refine⟨by(have hb:=gO aw);simp[M.aI5.en,enI,qE,aO]at hb ⊢ <;> omega,?_⟩
   try simp +decide only[LN,E,reduceIte,Nat.reduceAdd,Nat.reduceMul,qB,qC,L,ti3,aA7,FV,dQ,B2,M.aI5.en,enI,EN, *,-h]
   exact⟨.mk jF,Is.mk _⟩
  refine ab (an (sq ?_))
  apply bJ
  ·simp +decide only[LN,E,reduceIte,Nat.reduceAdd,Nat.reduceMul,qB,qC,L,dQ,EN, *,-h];exact Is.mk _
  refine an (rt ?_)
  cases h
  simp[JO,Ret,TB,EN, *]
 replace h:=bY ai h
 refine Ev (by simp +decide only[LN,F,reduceIte,Nat.reduceAdd,qB,qC,EN, *,-h]) ?_
 refine sq ?_
 apply bJ
 ·simp +decide only[LN,E,reduceIte,Nat.reduceAdd,Nat.reduceMul,qB,qC,L,EN, *,-h];exact Is.mk _
 refine an ?_
 rcases C1 (af.2.2==1)with aj | aj
 ·replace h:=bY aj h
  refine Ev (by simp +decide only[LN,F,reduceIte,Nat.reduceAdd,qB,qC,EN, *,-h]) ?_
  refine sq ?_
  apply bJ
  ·simp +decide only[LN,E,reduceIte,Nat.reduceAdd,Nat.reduceMul,qB,qC,L,EN, *,-h];exact Is.mk _
  refine an ?_
  rcases C1 (af.2.2==2)with ak | ak
  ·replace h:=bY ak h;refine Ev (by simp +decide only[LN,F,reduceIte,Nat.reduceAdd,qB,qC,EN, *,-h]) ?_;refine sk (ab (an (sq ?_)));apply bJ;(simp +decide only[LN,E,reduceIte,Nat.reduceAdd,Nat.reduceMul,qB,qC,L,dQ,EN, *,-h];exact Is.mk _);refine an (rt ?_);cases h;simp[JO,Ret,TB,EN, *]
  replace h:=bZ ak h
  refine CF (by simp +decide only[LN,F,reduceIte,Nat.reduceAdd,qB,qC,EN, *,-h]) ?_
  refine sq ?_
  apply bJ
  ·simp +decide only[LN,E,reduceIte,Nat.reduceAdd,Nat.reduceMul,qB,qC,L,EN, *,-h];exact Is.mk _
  refine an (bk ?_)
  refine GS (Gho.YJ (b:=3) (c:=0) (K:=7050000) (j:=100006) (by simp +decide only[LN,F,reduceIte,Nat.reduceAdd,qB,qC,EN, *,-h];rfl) rfl (by simp +decide only[LN,F,reduceIte,Nat.reduceAdd,qB,qC,EN, *,-h];rfl) jE) ?_
  refine Hs (λm s=>∃v4:Int,∃ae:List M.aI5,∃aa:Nat,s.t 0 = .v false [.bp 7059000 1 0]/\s.t 2 = .v false [.bp 2 ((s1.h 2).1+1) 0]/\s.t 3 = .v false [.bp 3 ((s1.h 3).1+1) 0]/\s.t 4 = .v false [.dat (.int .i64 v4)]/\s.h 2=((s1.h 2).1+1,.box 108 [.nil])/\s.h 3=((s1.h 3).1+1,.box 108 [.row 7050000 aa])/\s.h 7050000=(aa,.row 345 2 (List.map M.aI5.en ae) true)/\s.h 7059000=(1,.box 304 [.old B0 (.sl (List.map enB p0.b)) (some u0),.dat (.int .i64 af.1),.dat (.int .i64 af.2.1)])/\tL af m v4 ae=some r) fuel ?_ ?_
  ·refine⟨1,x4.2.2.aI1,(s16.h 7050000).1+1,?_,?_,?_,?_,?_,?_,?_,?_,h⟩;all_goals simp +decide only[LN,F,reduceIte,Nat.reduceAdd,qB,qC,EN,M.aI5.en, *,-h]
  rintro mL1 bj ⟨v4,ae,aa,f56,f57,f58,f59,f60,f61,f62,f63,h⟩
  rcases mL1 with _ | mL1
  ·exact absurd h (by simp[tL])
  simp only[tL]at h
  refine sq (sq ?_)
  apply bJ
  ·simp +decide only[LN,E,reduceIte,Nat.reduceAdd,Nat.reduceMul,qB,qC,L,EN, *,-h];exact Is.mk _
  refine an ?_
  rcases C1 (decide (v4<=4))with al | al
  ·replace h:=bY al h;refine Ev (by simp +decide only[LN,F,reduceIte,Nat.reduceAdd,qB,qC,EN, *,-h]) ?_;refine xt (Gn (Gg (Lk (ab (an (sq ?_))))));apply bJ;(simp +decide only[LN,E,reduceIte,Nat.reduceAdd,Nat.reduceMul,qB,qC,L,dQ,EN, *,-h];exact Is.mk _);refine an (rt ?_);cases h;simp[JO,Ret,TB,EN, *]
  replace h:=bZ al h
  refine CF (by simp +decide only[LN,F,reduceIte,Nat.reduceAdd,qB,qC,EN, *,-h]) ?_
  refine sk (an (sq (bk ?_)))
  obtain⟨ax,ay,h⟩:=bind_some h
  apply bJ
  ·simp +decide only[LN,E,reduceIte,Nat.reduceAdd,Nat.reduceMul,qB,qC,L,dQ,EN, *,-h]
   refine⟨_,aCE.1 _ _ _ ay,?_⟩
   try simp +decide only[LN,E,reduceIte,Nat.reduceAdd,Nat.reduceMul,qB,qC,L,dQ,EN, *,-h]
   exact Is.mk _
  refine ab (an ?_)
  apply bJ
  ·simp +decide only[LN,E,reduceIte,Nat.reduceAdd,Nat.reduceMul,qB,qC,L,EN, *,-h];exact Is.mk _
  refine iU ⟨_,Gho.YJ (b:=3) (c:=0) (K:=7050000) (j:=100052) (by simp +decide only[LN,F,reduceIte,Nat.reduceAdd,qB,qC,EN, *,-h];rfl) rfl (by simp +decide only[LN,F,reduceIte,Nat.reduceAdd,qB,qC,EN, *,-h];rfl) jE,mL1,jB,IntKind.i64.wrap (v4+1),ax.1.aI1,aa+1,?_,?_,?_,?_,?_,?_,?_,?_,h⟩
  all_goals simp +decide only[LN,F,reduceIte,Nat.reduceAdd,qB,qC,EN,M.aI5.en, *,-h]
 replace h:=bZ aj h
 refine CF (by simp +decide only[LN,F,reduceIte,Nat.reduceAdd,qB,qC,EN, *,-h]) ?_
 refine sq ?_
 apply bJ
 ·simp +decide only[LN,E,reduceIte,Nat.reduceAdd,Nat.reduceMul,qB,qC,L,FV,dQ,EN, *,-h];exact Is.mk _
 refine an ?_
 rcases C1 (decide ((List.length x4.2.2.aI1:Int)>0))with ao | ao
 ·replace h:=bY ao h;refine Ev (by simp +decide only[LN,F,reduceIte,Nat.reduceAdd,qB,qC,EN, *,-h]) ?_;refine sk (ab (an (sq ?_)));apply bJ;(simp +decide only[LN,E,reduceIte,Nat.reduceAdd,Nat.reduceMul,qB,qC,L,dQ,EN, *,-h];exact Is.mk _);refine an (rt ?_);cases h;simp[JO,Ret,TB,EN, *]
 replace h:=bZ ao h
 refine CF (by simp +decide only[LN,F,reduceIte,Nat.reduceAdd,qB,qC,EN, *,-h]) ?_
 obtain⟨ah,az,h⟩:=bind_some h
 obtain⟨bl,aq,bm⟩:=wM az
 refine M0 [0,2,3] [2,3,7059000] (i:=100006) (ver:=(s1.h 100006).1+1) (e:=345) (sz:=2) (xs:=List.map M.aI5.en x4.2.2.aI1) (j:=(0:Int).toNat) (x:=M.aI5.en ah) (off:=1) (K:=7057000) (e':=351) (sz':=7) (ys:=List.map M.aJE.en ah.aJB) (by first | (simp +decide only[LN,F,reduceIte,Nat.reduceAdd,qB,qC,EN,M.aI5.en, *,-h];done)| (simp +decide only[LN,F,reduceIte,Nat.reduceAdd,qB,qC,EN,M.aI5.en, *,-h];rfl)| rfl) ?_ rfl ?_ hw0.2.1 (.inr jE) hw0.2.2 jE jE jE ?_ ?_ λu => ?_
 ·rw[List.getElem?_map,aq];rfl
 ·rw[<-(dL B2).sl];rfl
 ·simp +decide only[LC,hw0.1,LN,F,reduceIte,Nat.reduceAdd,qB,qC,EN,M.aI5.en, *,-h]
 ·simp +decide only[LC,hw0.1,LN,F,reduceIte,Nat.reduceAdd,qB,qC,EN,M.aI5.en, *,-h]
 have bn:(List.set (List.map M.aI5.en x4.2.2.aI1) (0:Int).toNat [.int .i64 ah.aI0,.val u])[(0:Int).toNat]? = some [.int .i64 ah.aI0,.val u]:=QR (b:=M.aI5.en ah) (by rw[List.getElem?_map,aq];rfl)
 refine dR (J:=λs=>s.t 0 = .v false [.bp 7059000 1 0]/\s.t 2 = .v false [.bp 2 ((s1.h 2).1+1) 0]/\s.t 3 = .v false [.bp 3 ((s1.h 3).1+1) 0]/\s.h 2=((s1.h 2).1+1,.box 108 [.nil])/\s.h 3=((s1.h 3).1+1,.box 108 [.row 100006 ((s1.h 100006).1+1)])/\s.h 100006=((s1.h 100006).1+1,.row 345 2 (List.set (List.map M.aI5.en x4.2.2.aI1) (0:Int).toNat [.int .i64 ah.aI0,.val u]) true)/\s.h 7057000=((s16.h 7057000).1+1,.row 351 7 (List.map M.aJE.en ah.aJB) true)/\s.h 7058000=((s16.h 7058000).1+1,.pin 7057000 ((s16.h 7057000).1+1) u)/\s.h 7059000=(1,.box 304 [.old B0 (.sl (List.map enB p0.b)) (some u0),.dat (.int .i64 af.1),.dat (.int .i64 af.2.1)])/\True) ?_ ?_
 ·and_intros<;>(try first | (simp +decide only[LN,F,reduceIte,Nat.reduceAdd,qB,qC,EN,M.aI5.en,M.aJE.en, *,-h];done)| (simp +decide only[LN,F,reduceIte,Nat.reduceAdd,qB,qC,EN,M.aI5.en,M.aJE.en, *,-h];rfl)| rfl)
 rintro bo f39
 obtain⟨bq,ba,h⟩:=bind_some h
 obtain⟨br,bd,h⟩:=bind_some h
 obtain⟨bt,bf,h⟩:=bind_some h
 apply BH mixed
 ·simp +decide only[LN,E,reduceIte,Nat.reduceAdd,Nat.reduceMul,qB,qC,L,ti9,aBZ,FV,dQ,J8,B2,Ij,M.aI5.en,M.aJE.en,enS,EN, *,-h]
  have hc:=c91.1 _ _ _ ba
  simp only[List.map_append,List.map_cons,List.map_nil,M.aI5.en,M.aJE.en,enS]at hc
  refine⟨_,hc,?_⟩
  try simp +decide only[LN,E,reduceIte,Nat.reduceAdd,Nat.reduceMul,qB,qC,L,ti9,aBZ,FV,dQ,J8,B2,Ij,M.aI5.en,M.aJE.en,enS,EN, *,-h]
  refine⟨_,aDT.1 _ _ bd,?_⟩
  try simp +decide only[LN,E,reduceIte,Nat.reduceAdd,Nat.reduceMul,qB,qC,L,ti9,aBZ,FV,dQ,J8,B2,Ij,M.aI5.en,M.aJE.en,enS,EN, *,-h]
  refine⟨by(have hb:=gO bf);simp[M.aI5.en,M.aJE.en,enS,qE,aO]at hb ⊢ <;> omega,?_⟩
  try simp +decide only[LN,E,reduceIte,Nat.reduceAdd,Nat.reduceMul,qB,qC,L,ti9,aBZ,FV,dQ,J8,B2,Ij,M.aI5.en,M.aJE.en,enS,EN, *,-h]
  exact⟨.mk jF,Is.mk _⟩
 refine ab (an (sq ?_))
 apply bJ
 ·simp +decide only[LN,E,reduceIte,Nat.reduceAdd,Nat.reduceMul,qB,qC,L,dQ,EN, *,-h];exact Is.mk _
 refine an (rt ?_)
 cases h
 simp[JO,Ret,TB,EN, *]⟩
instance:bE 552 (∀p0 p1 r (h:rY p0 p1=some r),Sc 552 [(false,[.ptr [.sl (List.map enB p0.b),.int .i64 p0.i,.int .i64 p0.h]]),aS p1] [(false,[.edit (.lend 304 [.int .i64 r.1,.int .i64 r.2.1])]),(true,M.aD.rs r.2.2)]):=⟨λp0 p1 r h=>by
 unfold rY at h
 simp only[EN]
 refine sgB 37 [.cell 4 117] Tryz.func552 λbase wd B0 u0 hw0=> ?_
 refine dR (J:=λs=>s.t 0=vP 7059000 1 0/\s.t 1=vS p1/\s.h 7059000=(1,oB 304 [.old B0 (.sl (List.map enB p0.b)) (some u0),cI p0.i,cI p0.h])/\True) ?_ ?_
 ·and_intros<;>(try simp only[LN,List.map_cons,List.map_nil])<;>rfl
 rintro s1 f2
 have i1:=E5 [.b 5 1 7050000 260 4] λm s=>∃v6:Int,∃ai:ByteArray,∃aj:Int,∃aa:Int,∃ae:Int,∃af:List M.aJN,∃ah:Nat,(s.t 0=vP 7059000 1 0/\s.t 4=vP 4 ((s1.h 4).1+1) 0/\s.t 5=vP 5 ((s1.h 5).1+1) 0/\s.t 6=vI v6/\s.h 4=((s1.h 4).1+1,oB 117 [cS (⟨#[]⟩:ByteArray),.nil,cI 0])/\s.h 5=((s1.h 5).1+1,oB 117 [cS ai,.row 7050000 ah,cI aj])/\s.h 7050000=(ah,oW 260 4 M.aJN.en af)/\s.h 7059000=(1,oB 304 [.old B0 (.sl (List.map enB p0.b)) (some u0),cI aa,cI ae]))/\rF p0 m v6 ai aj aa ae af=some r
 have e1:=@rF.eq_2
 exact sgX⟩
instance:bE 642 (∀p0 r (h:Em p0=some r),Sc 642 [(false,[.ptr [.sl (List.map enB p0.b),.int .i64 p0.i,.int .i64 p0.h]])] [(false,[.edit (.lend 304 [.int .i64 r.1,.int .i64 r.2.1])]),(true,M.Op.rs r.2.2)]):=⟨λp0 r h=>by
 unfold Em at h
 simp only[EN]
 refine sgB 37 [.cell 2 139] Tryz.func642 λbase wd B0 u0 hw0=> ?_
 refine dR (J:=λs=>s.t 0=vP 7059000 1 0/\s.h 7059000=(1,oB 304 [.old B0 (.sl (List.map enB p0.b)) (some u0),cI p0.i,cI p0.h])/\True) ?_ ?_
 ·and_intros<;>(try simp only[LN,List.map_cons,List.map_nil])<;>rfl
 rintro s1 f2
 exact sgX⟩
instance:bE 626 (∀p0 p1 r (h:DF p0 p1=some r),Sc 626 [(false,[.ptr [.sl (List.map enB p0.b),.int .i64 p0.i,.int .i64 p0.h]]),aI p1] [(false,[.edit (.lend 304 [.int .i64 r.1,.int .i64 r.2.1])]),rW 139 7 M.Op.en r.2.2]):=⟨λp0 p1 r h=>by
 unfold DF at h
 simp only[EN]
 refine sgB 22 [.tmp 4] Tryz.func626 λbase wd B0 u0 hw0=> ?_
 refine dR (J:=λs=>s.t 0=vP 7059000 1 0/\s.t 1=vI p1/\s.h 7059000=(1,oB 304 [.old B0 (.sl (List.map enB p0.b)) (some u0),cI p0.i,cI p0.h])/\True) ?_ ?_
 ·and_intros<;>(try simp only[LN,List.map_cons,List.map_nil])<;>rfl
 rintro s1 f2
 have i1:=inv λm s=>∃v6:Int,∃r7:List M.Op,∃aa:Int,∃ae:Int,∃u7:Nat,(s.t 0=vP 7059000 1 0/\s.t 5=vR 100007 u7/\s.t 6=vI v6/\s.h 100007=(u7,oW 139 7 M.Op.en r7)/\s.h 7059000=(1,oB 304 [.old B0 (.sl (List.map enB p0.b)) (some u0),cI aa,cI ae]))/\wI p0 m v6 r7 aa ae=some r
 have e1:=@wI.eq_2
 exact sgX⟩
instance:bE 553 (∀p0 p1 r (h:dD p0 p1=some r),Sc 553 [aX (M.aJC.en p0),aX (M.bC.en p1)] [(true,M.aJC.rs r.1),rI r.2]):=⟨λp0 p1 r h=>by unfold dD at h;exact sgo 70 [.cell 4 205,.tmp 5] Tryz.func553⟩
instance:bE 627 (∀p0 p1 r (h:zH p0 p1=some r),Sc 627 [aX (M.aJC.en p0),aI p1] [(true,M.aG.rs r.1),rB r.2]):=⟨λp0 p1 r h=>by unfold zH at h;exact sgo 37 [.cell 4 124,.tmp 5] Tryz.func627⟩
instance:bE 557 (∀p0 p1 r (h:AY p0 p1=some r),Sc 557 [aX (M.aD.en p0),aX (M.aE.en p1)] [(true,M.aD.rs r.1),(true,M.Key.rs r.2.1),rB r.2.2]):=⟨λp0 p1 r h=>by unfold AY at h;exact sgo 34 [.cell 4 117,.cell 5 136,.tmp 6] Tryz.func557⟩
