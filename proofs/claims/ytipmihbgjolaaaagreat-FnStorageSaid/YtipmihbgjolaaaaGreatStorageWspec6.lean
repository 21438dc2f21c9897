/-
  Helper text. No conditions.
-/
import Derived.Test.YtipmihbgjolaaaaGreatStorageTi
import Derived.Test.YtipmihbgjolaaaaGreatStorageWspec0
import Derived.Test.YtipmihbgjolaaaaGreatStorageWspec1
import Derived.Test.YtipmihbgjolaaaaGreatStorageWspec2
import Derived.Test.YtipmihbgjolaaaaGreatStorageWspec3
import Derived.Test.YtipmihbgjolaaaaGreatStorageWspec4
import Derived.Test.YtipmihbgjolaaaaGreatStorageWspec5
set_option linter.unusedVariables false
set_option linter.unusedSimpArgs false
namespace Go.Proofs.YtipmihbgjolaaaaGreat.gen
open Go Go.Sh
set_option maxRecDepth 20000
set_option maxHeartbeats 4000000
instance Mj:bR 236 (∀p0 r (h:bM p0=some r),Sc 236 [aX (M.YY.en p0)] [rB r]):=⟨λp0 r h=>by
 have i1:=inv λm s=>∃v3:Int,(s.t 1=vP 1 1 0/\s.t 3=vI v3/\s.h 1=(1,oX 35 (M.YY.en p0)))/\dV p0 m v3=some r
 have e1:=@dV.eq_2
 have i2:=inv λm s=>∃v4:Int,(s.t 1=vP 1 1 0/\s.t 4=vI v4/\s.h 1=(1,oX 35 (M.YY.en p0)))/\dW p0 m v4=some r
 have e2:=@dW.eq_2
 have i3:=λ(v4:Int) (ae:M.aM) (af:Int->Option Bool)=>inv λm s=>∃aa:Int,(s.t 1=vP 1 1 0/\s.t 4=vI v4/\s.t 9=vI aa/\s.h 1=(1,oX 35 (M.YY.en p0)))/\fC p0 v4 ae af m aa=some r
 have e3:=@fC.eq_2
 unfold bM at h
 exact sgo 124 [.tmp 2] Tryz.func236⟩
instance:bR 316 (∀p0 r (h:xS p0=some r),Sc 316 [aX (M.bG.en p0)] [rI r]):=⟨λp0 r h=>by unfold xS at h;exact sgo 10 [.tmp 2] Tryz.func316⟩
instance:bR 238 (∀p0 r (h:wK p0=some r),Sc 238 [aX (M.aK.en p0)] [rI r]):=⟨λp0 r h=>by unfold wK at h;exact sgo 23 [.tmp 2] Tryz.func238⟩
instance:bR 342 (∀p0 r (h:pF p0=some r),Sc 342 [aL enB p0] [rW 257 7 M.Op.en r.1,rB r.2]):=⟨λp0 r h=>by
 have i1:=λ(x1:(Int×Int×Bool))=>inv λm s=>∃v5:Int,∃v8:Int,∃aa:List M.Op,∃ae:Nat,(s.t 0=vL enB p0/\s.t 4=vI x1.1/\s.t 5=vI v5/\s.t 7=vR 100025 ae/\s.t 8=vI v8/\s.h 100025=(ae,oW 257 7 M.Op.en aa))/\iU p0 x1 m v5 v8 aa=some r
 have e1:=@iU.eq_2
 unfold pF at h
 exact sgo 53 [.tmp 2,.tmp 3] Tryz.func342⟩
instance:bR 388 (∀p0 p1 r (h:wE p0 p1=some r),Sc 388 [aX (M.aA.en p0),aX (M.Op.en p1)] [(true,M.aA.rs r.1),rI r.2.1,rB r.2.2]):=⟨λp0 p1 r h=>by unfold wE at h;exact sgo 97 [.cell 4 40,.tmp 5,.tmp 6] Tryz.func388⟩
instance:bR 343 (∀p0 p1 r (h:wW p0 p1=some r),Sc 343 [aX (M.YY.en p0),aX (M.Op.en p1)] [(true,M.YY.rs r.1),rI r.2.1,rB r.2.2]):=⟨λp0 p1 r h=>by unfold wW at h;exact sgo 58 [.cell 4 35,.tmp 5,.tmp 6] Tryz.func343⟩
instance:bR 350 (∀p0 p1 r (h:sK p0 p1=some r),Sc 350 [aX (M.aA.en p0),aL M.aV.en p1] [(true,M.aA.rs r)]):=⟨λp0 p1 r h=>by
 have i1:=CO [.b 5 1 7050000 284 4] λm s=>∃v6:Int,∃af:ByteArray,∃ah:Int,∃aa:List M.Zd,∃ae:Nat,(s.t 1=vL M.aV.en p1/\s.t 4=vP 4 1 0/\s.t 5=vP 5 1 0/\s.t 6=vI v6/\s.h 4=(1,oB 40 [cS (⟨#[]⟩:ByteArray),.nil,cI 0])/\s.h 5=(1,oB 40 [cS af,.row 7050000 ae,cI ah])/\s.h 7050000=(ae,oW 284 4 M.Zd.en aa))/\gU p1 m v6 af ah aa=some r
 have e1:=@gU.eq_2
 unfold sK at h
 exact sgo 29 [.cell 4 40] Tryz.func350⟩
instance:bR 284 (∀p0 r (h:vM p0=some r),Sc 284 [aX (M.aD.en p0)] [(true,M.aA.rs r)]):=⟨λp0 r h=>by unfold vM at h;exact sgo 10 [.cell 2 40] Tryz.func284⟩
instance:bR 52 (∀p0 r (h:eZ p0=some r),Sc 52 [aX (M.aH.en p0)] [(true,M.aH.rs r)]):=⟨λp0 r h=>by
 have i1:=CO [.b 3 0 7050000 49 24] λm s=>∃v4:Int,∃aa:List M.aK,∃ae:Nat,(s.t 1=vP 1 1 0/\s.t 2=vP 2 1 0/\s.t 3=vP 3 1 0/\s.t 4=vI v4/\s.h 1=(1,oX 26 (M.aH.en p0))/\s.h 2=(1,oB 26 [.nil])/\s.h 3=(1,oB 26 [.row 7050000 ae])/\s.h 7050000=(ae,oW 49 24 M.aK.en aa))/\lH p0 m v4 aa=some r
 have e1:=@lH.eq_2
 unfold eZ at h
 exact sgo 25 [.cell 2 26] Tryz.func52⟩
instance:bR 124 (∀p0 r (h:xM p0=some r),Sc 124 [(false,[.ptr [.sl (List.map enB p0.b),.int .i64 p0.i,.int .i64 p0.h]])] [(false,[.edit (.lend 182 [.int .i64 r.1,.int .i64 r.2.1])]),(true,M.aE.rs r.2.2)]):=⟨λp0 r h=>by
 unfold xM at h
 simp only[EN]
 refine sgB 56 [.cell 2 31] Tryz.func124 λbase wd B0 u0 hw0 => ?_
 refine gK (J:=λs=>s.t 0 = .v false [.bp 7059000 1 0]/\s.h 7059000=(1,.box 182 [.old B0 (.sl (List.map enB p0.b)) (some u0),.dat (.int .i64 p0.i),.dat (.int .i64 p0.h)])/\True) ?_ ?_
 ·and_intros<;>(try simp only[LN,List.map_cons,List.map_nil])<;>rfl
 rintro s1 f2
 refine sq ?_
 apply iH
 ·simp +decide only[LN,E,reduceIte,Nat.reduceAdd,Nat.reduceMul,qB,qC,L,xY,EN,f2];exact Is.mk _
 refine an (sq ?_)
 obtain⟨x4,h5,h⟩:=bind_some h
 apply iH
 ·simp +decide only[LN,E,reduceIte,Nat.reduceAdd,Nat.reduceMul,qB,qC,L,xY,EN,f2]
  refine⟨_,YG _ _ h5,?_⟩
  try simp +decide only[LN,E,reduceIte,Nat.reduceAdd,Nat.reduceMul,qB,qC,L,xY,EN,f2]
  exact Is.mk _
 refine an (sq (sq ?_))
 refine gK (J:=λs=>s.t 0 = .v false [.bp 7059000 1 0]/\s.t 2 = .v false [.bp 2 ((s1.h 2).1+1) 0]/\s.t 3 = .v false [.bp 3 ((s1.h 3).1+1) 0]/\s.h 2=((s1.h 2).1+1,.box 31 [.nil])/\s.h 3=((s1.h 3).1+1,.box 31 [.row 100006 ((s1.h 100006).1+1)])/\s.h 100006=((s1.h 100006).1+1,.row 193 2 (List.map M.Y6.en x4.2.2.Y1) true)/\s.h 7059000=(1,.box 182 [.old B0 (.sl (List.map enB p0.b)) (some u0),.dat (.int .i64 x4.1),.dat (.int .i64 x4.2.1)])/\True) ?_ ?_
 ·and_intros<;>(try simp +decide only[LN,F,reduceIte,Nat.reduceAdd,qB,qC,EN,M.Y6.en,f2])
 rintro s6 f7
 obtain⟨af,ar,h⟩:=bind_some h
 apply iH
 ·simp +decide only[LN,E,reduceIte,Nat.reduceAdd,Nat.reduceMul,qB,qC,L,EN, *,-h]
  refine⟨_,c65.1 _ _ _ ar,?_⟩
  try simp +decide only[LN,E,reduceIte,Nat.reduceAdd,Nat.reduceMul,qB,qC,L,EN, *,-h]
  exact Is.mk _
 refine an (bk (sq ?_))
 refine gK (J:=λs=>s.t 0 = .v false [.bp 7059000 1 0]/\s.t 2 = .v false [.bp 2 ((s1.h 2).1+1) 0]/\s.t 3 = .v false [.bp 3 ((s1.h 3).1+1) 0]/\s.t 8 = .v false [.dat (.int .i64 af.2.2)]/\s.h 2=((s1.h 2).1+1,.box 31 [.nil])/\s.h 3=((s1.h 3).1+1,.box 31 [.row 100006 ((s1.h 100006).1+1)])/\s.h 100006=((s1.h 100006).1+1,.row 193 2 (List.map M.Y6.en x4.2.2.Y1) true)/\s.h 7059000=(1,.box 182 [.old B0 (.sl (List.map enB p0.b)) (some u0),.dat (.int .i64 af.1),.dat (.int .i64 af.2.1)])/\True) ?_ ?_
 ·and_intros<;>(try simp +decide only[LN,F,reduceIte,Nat.reduceAdd,qB,qC,EN,M.Y6.en, *,-h])
 rintro s16 f17
 apply iH
 ·simp +decide only[LN,E,reduceIte,Nat.reduceAdd,Nat.reduceMul,qB,qC,L,EN, *,-h];exact Is.mk _
 refine an ?_
 rcases jR (af.2.2==0)with ai | ai
 ·replace h:=bX ai h
  refine FX (by simp +decide only[LN,F,reduceIte,Nat.reduceAdd,qB,qC,EN, *,-h]) ?_
  obtain⟨bg,av,h⟩:=bind_some h
  obtain⟨bh,aw,h⟩:=bind_some h
  apply AM mixed
  ·simp +decide only[LN,E,reduceIte,Nat.reduceAdd,Nat.reduceMul,qB,qC,L,ti3,Ms,xY,TY,Cy,M.Y6.en,enI,EN, *,-h]
   have hc:=c69.1 _ _ _ av
   simp only[List.map_append,List.map_cons,List.map_nil,M.Y6.en,enI]at hc
   refine⟨_,hc,?_⟩
   try simp +decide only[LN,E,reduceIte,Nat.reduceAdd,Nat.reduceMul,qB,qC,L,ti3,Ms,xY,TY,Cy,M.Y6.en,enI,EN, *,-h]
   refine⟨by(have hb:=kN aw);simp[M.Y6.en,enI,qE,aP]at hb ⊢ <;> omega,?_⟩
   try simp +decide only[LN,E,reduceIte,Nat.reduceAdd,Nat.reduceMul,qB,qC,L,ti3,Ms,xY,TY,Cy,M.Y6.en,enI,EN, *,-h]
   exact⟨.mk qg,Is.mk _⟩
  refine ab (an (sq ?_))
  apply iH
  ·simp +decide only[LN,E,reduceIte,Nat.reduceAdd,Nat.reduceMul,qB,qC,L,xY,EN, *,-h];exact Is.mk _
  refine an (rt ?_)
  cases h
  simp[HO,Ret,TB,EN, *]
 replace h:=bW ai h
 refine HI (by simp +decide only[LN,F,reduceIte,Nat.reduceAdd,qB,qC,EN, *,-h]) ?_
 refine sq ?_
 apply iH
 ·simp +decide only[LN,E,reduceIte,Nat.reduceAdd,Nat.reduceMul,qB,qC,L,EN, *,-h];exact Is.mk _
 refine an ?_
 rcases AU (af.2.2==1)with aj | aj
 ·replace h:=bW aj h
  refine HI (by simp +decide only[LN,F,reduceIte,Nat.reduceAdd,qB,qC,EN, *,-h]) ?_
  refine sq ?_
  apply iH
  ·simp +decide only[LN,E,reduceIte,Nat.reduceAdd,Nat.reduceMul,qB,qC,L,EN, *,-h];exact Is.mk _
  refine an ?_
  rcases AU (af.2.2==2)with ak | ak
  ·replace h:=bW ak h;refine HI (by simp +decide only[LN,F,reduceIte,Nat.reduceAdd,qB,qC,EN, *,-h]) ?_;refine sk (ab (an (sq ?_)));apply iH;(simp +decide only[LN,E,reduceIte,Nat.reduceAdd,Nat.reduceMul,qB,qC,L,xY,EN, *,-h];exact Is.mk _);refine an (rt ?_);cases h;simp[HO,Ret,TB,EN, *]
  replace h:=bX ak h
  refine FX (by simp +decide only[LN,F,reduceIte,Nat.reduceAdd,qB,qC,EN, *,-h]) ?_
  refine sq ?_
  apply iH
  ·simp +decide only[LN,E,reduceIte,Nat.reduceAdd,Nat.reduceMul,qB,qC,L,EN, *,-h];exact Is.mk _
  refine an (bk ?_)
  refine FA (Gho.Q4 (b:=3) (c:=0) (K:=7050000) (j:=100006) (by simp +decide only[LN,F,reduceIte,Nat.reduceAdd,qB,qC,EN, *,-h];rfl) rfl (by simp +decide only[LN,F,reduceIte,Nat.reduceAdd,qB,qC,EN, *,-h];rfl) qf) ?_
  refine CE (λm s=>∃v4:Int,∃ae:List M.Y6,∃aa:Nat,s.t 0 = .v false [.bp 7059000 1 0]/\s.t 2 = .v false [.bp 2 ((s1.h 2).1+1) 0]/\s.t 3 = .v false [.bp 3 ((s1.h 3).1+1) 0]/\s.t 4 = .v false [.dat (.int .i64 v4)]/\s.h 2=((s1.h 2).1+1,.box 31 [.nil])/\s.h 3=((s1.h 3).1+1,.box 31 [.row 7050000 aa])/\s.h 7050000=(aa,.row 193 2 (List.map M.Y6.en ae) true)/\s.h 7059000=(1,.box 182 [.old B0 (.sl (List.map enB p0.b)) (some u0),.dat (.int .i64 af.1),.dat (.int .i64 af.2.1)])/\nB af m v4 ae=some r) fuel ?_ ?_
  ·refine⟨1,x4.2.2.Y1,(s16.h 7050000).1+1,?_,?_,?_,?_,?_,?_,?_,?_,h⟩;all_goals simp +decide only[LN,F,reduceIte,Nat.reduceAdd,qB,qC,EN,M.Y6.en, *,-h]
  rintro mL1 bj ⟨v4,ae,aa,f56,f57,f58,f59,f60,f61,f62,f63,h⟩
  rcases mL1 with _ | mL1
  ·exact absurd h (by simp[nB])
  simp only[nB]at h
  refine sq (sq ?_)
  apply iH
  ·simp +decide only[LN,E,reduceIte,Nat.reduceAdd,Nat.reduceMul,qB,qC,L,EN, *,-h];exact Is.mk _
  refine an ?_
  rcases AU (decide (v4<=4))with al | al
  ·replace h:=bW al h;refine HI (by simp +decide only[LN,F,reduceIte,Nat.reduceAdd,qB,qC,EN, *,-h]) ?_;refine xt (Bl (Bb (EJ (ab (an (sq ?_))))));apply iH;(simp +decide only[LN,E,reduceIte,Nat.reduceAdd,Nat.reduceMul,qB,qC,L,xY,EN, *,-h];exact Is.mk _);refine an (rt ?_);cases h;simp[HO,Ret,TB,EN, *]
  replace h:=bX al h
  refine FX (by simp +decide only[LN,F,reduceIte,Nat.reduceAdd,qB,qC,EN, *,-h]) ?_
  refine sk (an (sq (bk ?_)))
  obtain⟨ax,ay,h⟩:=bind_some h
  apply iH
  ·simp +decide only[LN,E,reduceIte,Nat.reduceAdd,Nat.reduceMul,qB,qC,L,xY,EN, *,-h]
   refine⟨_,TS.1 _ _ _ ay,?_⟩
   try simp +decide only[LN,E,reduceIte,Nat.reduceAdd,Nat.reduceMul,qB,qC,L,xY,EN, *,-h]
   exact Is.mk _
  refine ab (an ?_)
  apply iH
  ·simp +decide only[LN,E,reduceIte,Nat.reduceAdd,Nat.reduceMul,qB,qC,L,EN, *,-h];exact Is.mk _
  refine fA ⟨_,Gho.Q4 (b:=3) (c:=0) (K:=7050000) (j:=100052) (by simp +decide only[LN,F,reduceIte,Nat.reduceAdd,qB,qC,EN, *,-h];rfl) rfl (by simp +decide only[LN,F,reduceIte,Nat.reduceAdd,qB,qC,EN, *,-h];rfl) qf,mL1,qc,IntKind.i64.wrap (v4+1),ax.1.Y1,aa+1,?_,?_,?_,?_,?_,?_,?_,?_,h⟩
  all_goals simp +decide only[LN,F,reduceIte,Nat.reduceAdd,qB,qC,EN,M.Y6.en, *,-h]
 replace h:=bX aj h
 refine FX (by simp +decide only[LN,F,reduceIte,Nat.reduceAdd,qB,qC,EN, *,-h]) ?_
 refine sq ?_
 apply iH
 ·simp +decide only[LN,E,reduceIte,Nat.reduceAdd,Nat.reduceMul,qB,qC,L,Ms,xY,EN, *,-h];exact Is.mk _
 refine an ?_
 rcases AU (decide ((List.length x4.2.2.Y1:Int)>0))with ao | ao
 ·replace h:=bW ao h;refine HI (by simp +decide only[LN,F,reduceIte,Nat.reduceAdd,qB,qC,EN, *,-h]) ?_;refine sk (ab (an (sq ?_)));apply iH;(simp +decide only[LN,E,reduceIte,Nat.reduceAdd,Nat.reduceMul,qB,qC,L,xY,EN, *,-h];exact Is.mk _);refine an (rt ?_);cases h;simp[HO,Ret,TB,EN, *]
 replace h:=bX ao h
 refine FX (by simp +decide only[LN,F,reduceIte,Nat.reduceAdd,qB,qC,EN, *,-h]) ?_
 obtain⟨ah,az,h⟩:=bind_some h
 obtain⟨bl,aq,bm⟩:=pZ az
 refine Lo [0,2,3] [2,3,7059000] (i:=100006) (ver:=(s1.h 100006).1+1) (e:=193) (sz:=2) (xs:=List.map M.Y6.en x4.2.2.Y1) (j:=(0:Int).toNat) (x:=M.Y6.en ah) (off:=1) (K:=7057000) (e':=195) (sz':=7) (ys:=List.map M.Zb.en ah.Y8) (by first | (simp +decide only[LN,F,reduceIte,Nat.reduceAdd,qB,qC,EN,M.Y6.en, *,-h];done)| (simp +decide only[LN,F,reduceIte,Nat.reduceAdd,qB,qC,EN,M.Y6.en, *,-h];rfl)| rfl) ?_ rfl ?_ hw0.2.1 (.inr qf) hw0.2.2 qf qf qf ?_ ?_ λu => ?_
 ·rw[List.getElem?_map,aq];rfl
 ·rw[<-(cY Cy).sl];rfl
 ·simp +decide only[LC,hw0.1,LN,F,reduceIte,Nat.reduceAdd,qB,qC,EN,M.Y6.en, *,-h]
 ·simp +decide only[LC,hw0.1,LN,F,reduceIte,Nat.reduceAdd,qB,qC,EN,M.Y6.en, *,-h]
 have bn:(List.set (List.map M.Y6.en x4.2.2.Y1) (0:Int).toNat [.int .i64 ah.Y2,.val u])[(0:Int).toNat]? = some [.int .i64 ah.Y2,.val u]:=Px (b:=M.Y6.en ah) (by rw[List.getElem?_map,aq];rfl)
 refine gK (J:=λs=>s.t 0 = .v false [.bp 7059000 1 0]/\s.t 2 = .v false [.bp 2 ((s1.h 2).1+1) 0]/\s.t 3 = .v false [.bp 3 ((s1.h 3).1+1) 0]/\s.h 2=((s1.h 2).1+1,.box 31 [.nil])/\s.h 3=((s1.h 3).1+1,.box 31 [.row 100006 ((s1.h 100006).1+1)])/\s.h 100006=((s1.h 100006).1+1,.row 193 2 (List.set (List.map M.Y6.en x4.2.2.Y1) (0:Int).toNat [.int .i64 ah.Y2,.val u]) true)/\s.h 7057000=((s16.h 7057000).1+1,.row 195 7 (List.map M.Zb.en ah.Y8) true)/\s.h 7058000=((s16.h 7058000).1+1,.pin 7057000 ((s16.h 7057000).1+1) u)/\s.h 7059000=(1,.box 182 [.old B0 (.sl (List.map enB p0.b)) (some u0),.dat (.int .i64 af.1),.dat (.int .i64 af.2.1)])/\True) ?_ ?_
 ·and_intros<;>(try first | (simp +decide only[LN,F,reduceIte,Nat.reduceAdd,qB,qC,EN,M.Y6.en,M.Zb.en, *,-h];done)| (simp +decide only[LN,F,reduceIte,Nat.reduceAdd,qB,qC,EN,M.Y6.en,M.Zb.en, *,-h];rfl)| rfl)
 rintro bo f39
 obtain⟨bq,ba,h⟩:=bind_some h
 obtain⟨br,bd,h⟩:=bind_some h
 obtain⟨bt,bf,h⟩:=bind_some h
 apply AM mixed
 ·simp +decide only[LN,E,reduceIte,Nat.reduceAdd,Nat.reduceMul,qB,qC,L,ti9,Ms,xY,TR,JM,Cy,HG,M.Y6.en,M.Zb.en,enS,EN, *,-h]
  have hc:=c82.1 _ _ _ ba
  simp only[List.map_append,List.map_cons,List.map_nil,M.Y6.en,M.Zb.en,enS]at hc
  refine⟨_,hc,?_⟩
  try simp +decide only[LN,E,reduceIte,Nat.reduceAdd,Nat.reduceMul,qB,qC,L,ti9,Ms,xY,TR,JM,Cy,HG,M.Y6.en,M.Zb.en,enS,EN, *,-h]
  refine⟨_,UP.1 _ _ bd,?_⟩
  try simp +decide only[LN,E,reduceIte,Nat.reduceAdd,Nat.reduceMul,qB,qC,L,ti9,Ms,xY,TR,JM,Cy,HG,M.Y6.en,M.Zb.en,enS,EN, *,-h]
  refine⟨by(have hb:=kN bf);simp[M.Y6.en,M.Zb.en,enS,qE,aP]at hb ⊢ <;> omega,?_⟩
  try simp +decide only[LN,E,reduceIte,Nat.reduceAdd,Nat.reduceMul,qB,qC,L,ti9,Ms,xY,TR,JM,Cy,HG,M.Y6.en,M.Zb.en,enS,EN, *,-h]
  exact⟨.mk qg,Is.mk _⟩
 refine ab (an (sq ?_))
 apply iH
 ·simp +decide only[LN,E,reduceIte,Nat.reduceAdd,Nat.reduceMul,qB,qC,L,xY,EN, *,-h];exact Is.mk _
 refine an (rt ?_)
 cases h
 simp[HO,Ret,TB,EN, *]⟩
instance:bR 351 (∀p0 p1 r (h:iY p0 p1=some r),Sc 351 [aX (M.YY.en p0),aX (M.iN.en p1)] [(true,M.YY.rs r.1),rB r.2]):=⟨λp0 p1 r h=>by
 unfold iY at h
 simp only[EN]
 refine sgn 130 [.cell 4 35,.tmp 5] Tryz.func351 λbase wd => ?_
 refine sq (rn ?_)
 refine an (sq ?_)
 obtain⟨x1,h2,h⟩:=bind_some h
 refine rn1 (RH.1 _ _ h2) ?_
 refine an (sq ?_)
 obtain⟨x3,h4,h⟩:=bind_some h
 refine rn1 (UN.1 _ _ _ h4) ?_
 refine an (sq ?_)
 obtain⟨x5,h6,h⟩:=bind_some h
 refine rn1 (Yn _ _ _ h6) ?_
 refine an (sq (bk ?_))
 obtain⟨x7,h8,h⟩:=bind_some h
 refine nT (λs=>s.t 2=vP 2 1 0/\s.t 3=vP 3 1 0/\s.t 4=vP 4 1 0/\s.t 6=vP 6 1 0/\s.t 7=vI x3/\s.t 8=vI x5/\s.t 21=vB x7/\s.h 2=(1,oX 35 (M.YY.en p0))/\s.h 3=(1,oX 380 (M.iN.en p1))/\s.h 4=(1,Hs)/\s.h 6=(1,oB 35 [cS x1.Name,cI x1.Y2,.row 300012 1,.row 400012 1])/\s.h 300012=(1,oW 40 3 M.aA.en x1.Y5)/\s.h 400012=(1,oW 282 2 M.aM.en x1.Za)/\True) ?_ ?_
 ·replace h:=h8;clear h8;rcases jR (p1.Zi==1)with cq | cq;(replace h:=bX cq h;refine rn ?_;cases h;refine fA ⟨?_,?_,?_,?_,?_,?_,?_,?_,?_,?_,?_,?_,?_,trivial⟩<;>(try simp +decide only[F,reduceIte,Nat.reduceAdd,qB,qC,EN, *,-h]));replace h:=bW cq h;refine rn ?_;cases h;refine fA ⟨?_,?_,?_,?_,?_,?_,?_,?_,?_,?_,?_,?_,?_,trivial⟩<;>(try simp +decide only[F,reduceIte,Nat.reduceAdd,qB,qC,EN, *,-h])
 clear h8
 rintro s9 f10
 rcases jR x7 with ah | ah
 ·replace h:=bX ah h
  refine ct (sq (rn ?_))
  refine an (sq (bk ?_))
  refine Dk (λm s=>∃v9:Int,s.t 2=vP 2 1 0/\s.t 3=vP 3 1 0/\s.t 4=vP 4 1 0/\s.t 6=vP 6 1 0/\s.t 9=vI v9/\s.h 2=(1,oX 35 (M.YY.en p0))/\s.h 3=(1,oX 380 (M.iN.en p1))/\s.h 4=(1,Hs)/\s.h 6=(1,oB 35 [cS x1.Name,cI x1.Y2,.row 300012 1,.row 400012 1])/\s.h 300012=(1,oW 40 3 M.aA.en x1.Y5)/\s.h 400012=(1,oW 282 2 M.aM.en x1.Za)/\lB p0 p1 x1 m v9=some r) fuel ?_ ?_
  ·refine⟨0,?_,?_,?_,?_,?_,?_,?_,?_,?_,?_,?_,h⟩;all_goals simp +decide only[F,reduceIte,Nat.reduceAdd,qB,qC,EN, *,-h]
  rintro mL1 fx ⟨v9,f26,f27,f28,f29,f30,f31,f32,f33,f34,f35,f36,h⟩
  rcases mL1 with _ | mL1
  ·exact absurd h (by simp[lB])
  simp only[lB]at h
  refine sq ?_
  obtain⟨dw,cr,h⟩:=bind_some h
  refine nT (λs=>s.t 2=vP 2 1 0/\s.t 3=vP 3 1 0/\s.t 4=vP 4 1 0/\s.t 6=vP 6 1 0/\s.t 9=vI v9/\s.t 44=vB dw/\s.h 2=(1,oX 35 (M.YY.en p0))/\s.h 3=(1,oX 380 (M.iN.en p1))/\s.h 4=(1,Hs)/\s.h 6=(1,oB 35 [cS x1.Name,cI x1.Y2,.row 300012 1,.row 400012 1])/\s.h 300012=(1,oW 40 3 M.aA.en x1.Y5)/\s.h 400012=(1,oW 282 2 M.aM.en x1.Za)/\True) ?_ ?_
  ·replace h:=cr;clear cr;rcases AU (decide (v9<(List.length p0.Y5:Int)))with cw | cw;(replace h:=bW cw h;refine rd mixed ?_;cases h;refine fA ⟨?_,?_,?_,?_,?_,?_,?_,?_,?_,?_,?_,?_,trivial⟩<;>(try simp +decide only[F,reduceIte,Nat.reduceAdd,qB,qC,EN, *,-h]));replace h:=bX cw h;obtain⟨fy,dy,h⟩:=bind_some h;obtain⟨fz,g0,g7⟩:=pZ dy;refine rd mixed ?_;cases h;refine fA ⟨?_,?_,?_,?_,?_,?_,?_,?_,?_,?_,?_,?_,trivial⟩<;>(try simp +decide only[F,reduceIte,Nat.reduceAdd,qB,qC,EN, *,-h])
  clear cr
  rintro bt f40
  rcases jR dw with ak | ak
  ·replace h:=bX ak h;refine ct (sk (an (bk (rn ?_))));refine ab ?_;refine fA ⟨mL1,qc,IntKind.i64.wrap (v9+1),?_,?_,?_,?_,?_,?_,?_,?_,?_,?_,?_,h⟩;all_goals simp +decide only[F,reduceIte,Nat.reduceAdd,qB,qC,EN, *,-h]
  replace h:=bW ak h
  refine cf (xt (Bl (Bb (EJ (an (sq ?_))))))
  obtain⟨g8,bu,h⟩:=bind_some h
  obtain⟨g9,dz,h⟩:=bind_some h
  apply iH
  ·simp +decide only[E,reduceIte,Nat.reduceAdd,Nat.reduceMul,qB,qC,<-List.map_take,<-List.map_drop,L,SG,OQ,SB,M.aA.en,EN,ah,f40,ak]
   refine⟨by first | exact uY bu | exact(uY bu).2 | exact(uY bu).2.2,?_⟩
   try simp +decide only[E,reduceIte,Nat.reduceAdd,Nat.reduceMul,qB,qC,<-List.map_take,<-List.map_drop,L,SG,OQ,SB,M.aA.en,EN,ah,f40,ak]
   refine⟨by(have hb:=kN dz);simp[M.aA.en,qE,aP,<-List.map_take,<-List.map_drop,-List.map_take,-List.map_drop]at hb ⊢ <;> omega,?_⟩
   try simp +decide only[E,reduceIte,Nat.reduceAdd,Nat.reduceMul,qB,qC,<-List.map_take,<-List.map_drop,L,SG,OQ,SB,M.aA.en,EN,ah,f40,ak]
   exact Is.mk _
  refine an (sq ?_)
  refine cu (λs=>s.t 2=vP 2 1 0/\s.t 3=vP 3 1 0/\s.t 4=vP 4 1 0/\s.t 6=vP 6 1 0/\s.t 9=vI v9/\s.t 10=vR 100047 (((bt.h 100047).1+1)+1)/\s.h 2=(1,oX 35 (M.YY.en p0))/\s.h 3=(1,oX 380 (M.iN.en p1))/\s.h 4=(1,Hs)/\s.h 6=(1,oB 35 [cS x1.Name,cI x1.Y2,.row 300012 1,.row 400012 1])/\s.h 100047=(((bt.h 100047).1+1)+1,oW 40 3 M.aA.en (List.take v9.toNat x1.Y5))/\s.h 300012=(1,.row 40 3 (F8 3 0 v9.toNat (List.map M.aA.en x1.Y5)) true)/\s.h 400012=(1,oW 282 2 M.aM.en x1.Za)/\True) ?_
  rintro ga f64
  obtain⟨gb,ec,h⟩:=bind_some h
  refine rn1 ec ?_
  refine an ?_
  refine cu (λs=>s.t 2=vP 2 1 0/\s.t 4=vP 4 1 0/\s.t 6=vP 6 1 0/\s.t 9=vI v9/\s.t 10=vR 100047 ((((bt.h 100047).1+1)+1)+1)/\s.h 2=(1,oX 35 (M.YY.en p0))/\s.h 4=(1,Hs)/\s.h 6=(1,oB 35 [cS x1.Name,cI x1.Y2,.row 300012 1,.row 400012 1])/\s.h 100047=((((bt.h 100047).1+1)+1)+1,oW 40 3 M.aA.en ((List.take v9.toNat x1.Y5)++[(⟨p1.aA,([]:List M.Zd),0⟩:M.aA)]))/\s.h 300012=(1,.row 40 3 (F8 3 0 v9.toNat (List.map M.aA.en x1.Y5)) true)/\s.h 400012=(1,oW 282 2 M.aM.en x1.Za)/\True) ?_
  rintro gd f80
  obtain⟨gh,ef,h⟩:=bind_some h
  apply iH
  ·simp +decide only[E,reduceIte,Nat.reduceAdd,Nat.reduceMul,qB,qC,<-List.map_take,<-List.map_drop,L,SG,OQ,SB,M.aA.en,EN,ah,ak,f80]
   refine⟨by first | exact JX (uY bu).1 | exact(JX (uY bu).1).2 | exact(JX (uY bu).1).2.2,?_⟩
   try simp +decide only[E,reduceIte,Nat.reduceAdd,Nat.reduceMul,qB,qC,<-List.map_take,<-List.map_drop,L,SG,OQ,SB,M.aA.en,EN,ah,ak,f80]
   refine⟨by(have hb:=kN ef);simp[M.aA.en,qE,aP,<-List.map_take,<-List.map_drop,-List.map_take,-List.map_drop]at hb ⊢ <;> omega,?_⟩
   try simp +decide only[E,reduceIte,Nat.reduceAdd,Nat.reduceMul,qB,qC,<-List.map_take,<-List.map_drop,L,SG,OQ,SB,M.aA.en,EN,ah,ak,f80]
   exact Is.mk _
  refine ab (an (sq ?_))
  refine cu (λs=>s.t 2=vP 2 1 0/\s.t 4=vP 4 1 0/\s.t 6=vP 6 1 0/\s.h 2=(1,oX 35 (M.YY.en p0))/\s.h 4=(1,Hs)/\s.h 6=(1,oB 35 [cS x1.Name,cI x1.Y2,.row 100047 (((((bt.h 100047).1+1)+1)+1)+1),.row 400012 1])/\s.h 100047=(((((bt.h 100047).1+1)+1)+1)+1,oW 40 3 M.aA.en (((List.take v9.toNat x1.Y5)++[(⟨p1.aA,([]:List M.Zd),0⟩:M.aA)])++(List.drop v9.toNat x1.Y5)))/\s.h 400012=(1,oW 282 2 M.aM.en x1.Za)/\True) ?_
  rintro dx f94
  obtain⟨bw,aq,h⟩:=bind_some h
  refine nT (λs=>s.h 6=dx.h 6/\s.h 100047=dx.h 100047/\s.t 2=vP 2 1 0/\s.t 4=vP 4 1 0/\s.t 6=vP 6 1 0/\s.t 126=vB bw/\s.h 2=(1,oX 35 (M.YY.en p0))/\s.h 4=(1,Hs)/\s.h 400012=(1,oW 282 2 M.aM.en x1.Za)/\True) ?_ ?_
  ·replace h:=aq;clear aq;obtain⟨cx,bx,h⟩:=bind_some h;rcases jR (!cx)with ar | ar;(replace h:=bX ar h;refine rn1 (Mj.1 _ _ bx) ?_;cases h;refine fA ⟨?_,?_,?_,?_,?_,?_,?_,?_,?_,trivial⟩<;>(try simp +decide only[F,reduceIte,Nat.reduceAdd,qB,qC,EN, *,-h]));replace h:=bW ar h;obtain⟨eg,cy,h⟩:=bind_some h;refine rn2 (Mj.1 _ _ bx) (Mj.1 _ _ cy) ?_;cases h;refine fA ⟨?_,?_,?_,?_,?_,?_,?_,?_,?_,trivial⟩<;>(try simp +decide only[F,reduceIte,Nat.reduceAdd,qB,qC,EN, *,-h])
  clear aq
  rintro eh ⟨f111,f112,f105⟩
  replace f111:=f111.trans f94.2.2.2.2.2.1
  replace f112:=f112.trans f94.2.2.2.2.2.2.1
  rcases AU bw with av | av
  ·replace h:=bW av h;refine cf (sk (an (sq (rn ?_))));refine an (rt ?_);cases h;simp[Ret,TB,EN, *]
  replace h:=bX av h
  refine ct (sq ?_)
  obtain⟨et,cz,h⟩:=bind_some h
  refine rn1 (RH.1 _ _ cz) ?_
  refine an (rt ?_)
  cases h
  simp[Ret,TB,EN, *]
 replace h:=bW ah h
 refine cf ?_
 obtain⟨bz,aw,h⟩:=bind_some h
 refine nT (λs=>s.t 2=vP 2 1 0/\s.t 3=vP 3 1 0/\s.t 4=vP 4 1 0/\s.t 6=vP 6 1 0/\s.t 7=vI x3/\s.t 8=vI x5/\s.t 66=vB bz/\s.h 2=(1,oX 35 (M.YY.en p0))/\s.h 3=(1,oX 380 (M.iN.en p1))/\s.h 4=(1,Hs)/\s.h 6=(1,oB 35 [cS x1.Name,cI x1.Y2,.row 300012 1,.row 400012 1])/\s.h 300012=(1,oW 40 3 M.aA.en x1.Y5)/\s.h 400012=(1,oW 282 2 M.aM.en x1.Za)/\True) ?_ ?_
 ·replace h:=aw;clear aw;rcases jR (p1.Zi==2)with ax | ax;(replace h:=bX ax h;refine rn ?_;cases h;refine fA ⟨?_,?_,?_,?_,?_,?_,?_,?_,?_,?_,?_,?_,?_,trivial⟩<;>(try simp +decide only[F,reduceIte,Nat.reduceAdd,qB,qC,EN, *,-h]));replace h:=bW ax h;refine rn ?_;cases h;refine fA ⟨?_,?_,?_,?_,?_,?_,?_,?_,?_,?_,?_,?_,?_,trivial⟩<;>(try simp +decide only[F,reduceIte,Nat.reduceAdd,qB,qC,EN, *,-h])
 clear aw
 rintro al f125
 rcases jR bz with aa | aa
 ·replace h:=bX aa h;refine ct ?_;obtain⟨ao,da,h⟩:=bind_some h;refine rn1 (YM _ _ _ da) ?_;refine ab (an (sq ?_));obtain⟨ca,ay,h⟩:=bind_some h;refine nT (λs=>s.t 2=vP 2 1 0/\s.t 4=vP 4 1 0/\s.t 6=vP 6 1 0/\s.t 126=vB ca/\s.h 2=(1,oX 35 (M.YY.en p0))/\s.h 4=(1,Hs)/\s.h 6=(1,oB 35 [cS ao.Name,cI ao.Y2,.row 300077 ((al.h 300077).1+1),.row 400077 ((al.h 400077).1+1)])/\s.h 300077=((al.h 300077).1+1,oW 40 3 M.aA.en ao.Y5)/\s.h 400077=((al.h 400077).1+1,oW 282 2 M.aM.en ao.Za)/\True) ?_ ?_;(replace h:=ay;clear ay;obtain⟨db,cc,h⟩:=bind_some h;rcases jR (!db)with az | az;(replace h:=bX az h;refine rn1 (Mj.1 _ _ cc) ?_;cases h;refine fA ⟨?_,?_,?_,?_,?_,?_,?_,?_,?_,trivial⟩<;>(try simp +decide only[F,reduceIte,Nat.reduceAdd,qB,qC,EN, *,-h]));replace h:=bW az h;obtain⟨eu,df,h⟩:=bind_some h;refine rn2 (Mj.1 _ _ cc) (Mj.1 _ _ df) ?_;cases h;refine fA ⟨?_,?_,?_,?_,?_,?_,?_,?_,?_,trivial⟩<;>(try simp +decide only[F,reduceIte,Nat.reduceAdd,qB,qC,EN, *,-h]));clear ay;rintro ez f145;rcases AU ca with ba | ba;(replace h:=bW ba h;refine cf (sk (an (sq (rn ?_))));refine an (rt ?_);cases h;simp[Ret,TB,EN, *]);replace h:=bX ba h;refine ct (sq ?_);obtain⟨fa,dg,h⟩:=bind_some h;refine rn1 (RH.1 _ _ dg) ?_;refine an (rt ?_);cases h;simp[Ret,TB,EN, *]
 replace h:=bW aa h
 refine cf ?_
 obtain⟨cd,bd,h⟩:=bind_some h
 refine nT (λs=>s.t 2=vP 2 1 0/\s.t 3=vP 3 1 0/\s.t 4=vP 4 1 0/\s.t 6=vP 6 1 0/\s.t 8=vI x5/\s.t 78=vB cd/\s.h 2=(1,oX 35 (M.YY.en p0))/\s.h 3=(1,oX 380 (M.iN.en p1))/\s.h 4=(1,Hs)/\s.h 6=(1,oB 35 [cS x1.Name,cI x1.Y2,.row 300012 1,.row 400012 1])/\s.h 300012=(1,oW 40 3 M.aA.en x1.Y5)/\s.h 400012=(1,oW 282 2 M.aM.en x1.Za)/\True) ?_ ?_
 ·replace h:=bd;clear bd;rcases AU (p1.Zi==3)with bf | bf;(replace h:=bW bf h;refine rn ?_;cases h;refine fA ⟨?_,?_,?_,?_,?_,?_,?_,?_,?_,?_,?_,?_,trivial⟩<;>(try simp +decide only[F,reduceIte,Nat.reduceAdd,qB,qC,EN, *,-h]));replace h:=bX bf h;rcases jR (decide (x3>=0))with bg | bg;(replace h:=bX bg h;refine rn ?_;cases h;refine fA ⟨?_,?_,?_,?_,?_,?_,?_,?_,?_,?_,?_,?_,trivial⟩<;>(try simp +decide only[F,reduceIte,Nat.reduceAdd,qB,qC,EN, *,-h]));replace h:=bW bg h;refine rn ?_;cases h;refine fA ⟨?_,?_,?_,?_,?_,?_,?_,?_,?_,?_,?_,?_,trivial⟩<;>(try simp +decide only[F,reduceIte,Nat.reduceAdd,qB,qC,EN, *,-h])
 clear bd
 rintro fc f165
 rcases jR cd with ae | ae
 ·replace h:=bX ae h;refine ct ?_;obtain⟨fe,dh,h⟩:=bind_some h;refine rn1 dh ?_;refine ab (an (sq ?_));refine cu (λs=>s.t 2=vP 2 1 0/\s.t 4=vP 4 1 0/\s.t 6=vP 6 1 0/\s.h 2=(1,oX 35 (M.YY.en p0))/\s.h 4=(1,Hs)/\s.h 6=(1,oB 35 [cS x1.Name,cI x1.Y2,.row 300012 1,.row 400012 2])/\s.h 300012=(1,oW 40 3 M.aA.en x1.Y5)/\s.h 400012=(2,oW 282 2 M.aM.en (x1.Za++[(⟨p1.aA,p1.Field⟩:M.aM)]))/\True) ?_;rintro di f183;obtain⟨cg,bh,h⟩:=bind_some h;refine nT (λs=>s.h 400012=di.h 400012/\s.t 2=vP 2 1 0/\s.t 4=vP 4 1 0/\s.t 6=vP 6 1 0/\s.t 126=vB cg/\s.h 2=(1,oX 35 (M.YY.en p0))/\s.h 4=(1,Hs)/\s.h 6=(1,oB 35 [cS x1.Name,cI x1.Y2,.row 300012 1,.row 400012 2])/\s.h 300012=(1,oW 40 3 M.aA.en x1.Y5)/\True) ?_ ?_;(replace h:=bh;clear bh;obtain⟨dj,cj,h⟩:=bind_some h;rcases jR (!dj)with bj | bj;(replace h:=bX bj h;refine rn1 (Mj.1 _ _ cj) ?_;cases h;refine fA ⟨?_,?_,?_,?_,?_,?_,?_,?_,?_,trivial⟩<;>(try simp +decide only[F,reduceIte,Nat.reduceAdd,qB,qC,EN, *,-h]));replace h:=bW bj h;obtain⟨ff,dk,h⟩:=bind_some h;refine rn2 (Mj.1 _ _ cj) (Mj.1 _ _ dk) ?_;cases h;refine fA ⟨?_,?_,?_,?_,?_,?_,?_,?_,?_,trivial⟩<;>(try simp +decide only[F,reduceIte,Nat.reduceAdd,qB,qC,EN, *,-h]));clear bh;rintro fg ⟨f202,f194⟩;replace f202:=f202.trans f183.2.2.2.2.2.2.2.1;rcases AU cg with bl | bl;(replace h:=bW bl h;refine cf (sk (an (sq (rn ?_))));refine an (rt ?_);cases h;simp[Ret,TB,EN, *]);replace h:=bX bl h;refine ct (sq ?_);obtain⟨fh,dm,h⟩:=bind_some h;refine rn1 (RH.1 _ _ dm) ?_;refine an (rt ?_);cases h;simp[Ret,TB,EN, *]
 replace h:=bW ae h
 refine cf ?_
 obtain⟨ck,bm,h⟩:=bind_some h
 refine nT (λs=>s.t 2=vP 2 1 0/\s.t 4=vP 4 1 0/\s.t 6=vP 6 1 0/\s.t 8=vI x5/\s.t 100=vB ck/\s.h 2=(1,oX 35 (M.YY.en p0))/\s.h 4=(1,Hs)/\s.h 6=(1,oB 35 [cS x1.Name,cI x1.Y2,.row 300012 1,.row 400012 1])/\s.h 300012=(1,oW 40 3 M.aA.en x1.Y5)/\s.h 400012=(1,oW 282 2 M.aM.en x1.Za)/\True) ?_ ?_
 ·replace h:=bm;clear bm;rcases jR (p1.Zi==4)with bn | bn;(replace h:=bX bn h;refine rn ?_;cases h;refine fA ⟨?_,?_,?_,?_,?_,?_,?_,?_,?_,?_,trivial⟩<;>(try simp +decide only[F,reduceIte,Nat.reduceAdd,qB,qC,EN, *,-h]));replace h:=bW bn h;refine rn ?_;cases h;refine fA ⟨?_,?_,?_,?_,?_,?_,?_,?_,?_,?_,trivial⟩<;>(try simp +decide only[F,reduceIte,Nat.reduceAdd,qB,qC,EN, *,-h])
 clear bm
 rintro fj f214
 rcases AU ck with af | af
 ·replace h:=bW af h;refine cf (sq (rn ?_));refine an (rt ?_);cases h;simp[Ret,TB,EN, *]
 replace h:=bX af h
 refine ct ?_
 obtain⟨fk,ai,h⟩:=bind_some h
 obtain⟨fm,aj,h⟩:=bind_some h
 obtain⟨fo,cl,h⟩:=bind_some h
 apply AM mixed
 ·simp +decide only[E,reduceIte,Nat.reduceAdd,Nat.reduceMul,qB,qC,<-List.map_take,<-List.map_drop,Nat.sub_zero,L,Tu,OQ,Od,M.aM.en,EN,ah,aa,ae,f214,af]
  refine⟨by first | exact uY ai | exact(uY ai).2 | exact(uY ai).2.2,?_⟩
  try simp +decide only[E,reduceIte,Nat.reduceAdd,Nat.reduceMul,qB,qC,<-List.map_take,<-List.map_drop,Nat.sub_zero,L,Tu,OQ,Od,M.aM.en,EN,ah,aa,ae,f214,af]
  refine⟨by first | exact Hi aj | exact(Hi aj).2 | exact(Hi aj).2.2,?_⟩
  try simp +decide only[E,reduceIte,Nat.reduceAdd,Nat.reduceMul,qB,qC,<-List.map_take,<-List.map_drop,Nat.sub_zero,L,Tu,OQ,Od,M.aM.en,EN,ah,aa,ae,f214,af]
  refine⟨by first | exact Ka (f:=M.aM.en) (sz:=2) (λ_=>rfl) qf ai aj cl | (have hb:=Ka (f:=M.aM.en) (sz:=2) (λ_=>rfl) qf ai aj cl;simpa using hb),?_⟩
  try simp +decide only[E,reduceIte,Nat.reduceAdd,Nat.reduceMul,qB,qC,<-List.map_take,<-List.map_drop,Nat.sub_zero,L,Tu,OQ,Od,M.aM.en,EN,ah,aa,ae,f214,af]
  exact⟨.mk qg,Is.mk _⟩
 refine ab (an (sq ?_))
 refine cu (λs=>s.t 2=vP 2 1 0/\s.t 4=vP 4 1 0/\s.t 6=vP 6 1 0/\s.h 2=(1,oX 35 (M.YY.en p0))/\s.h 4=(1,Hs)/\s.h 6=(1,oB 35 [cS x1.Name,cI x1.Y2,.row 300012 1,.row 400012 2])/\s.h 300012=(1,oW 40 3 M.aA.en x1.Y5)/\s.h 400012=(2,oW 282 2 M.aM.en ((List.take x5.toNat x1.Za)++(List.drop (IntKind.i64.wrap (x5+1)).toNat x1.Za)))/\True) ?_
 rintro dn f233
 obtain⟨cn,bo,h⟩:=bind_some h
 refine nT (λs=>s.h 400012=dn.h 400012/\s.t 2=vP 2 1 0/\s.t 4=vP 4 1 0/\s.t 6=vP 6 1 0/\s.t 126=vB cn/\s.h 2=(1,oX 35 (M.YY.en p0))/\s.h 4=(1,Hs)/\s.h 6=(1,oB 35 [cS x1.Name,cI x1.Y2,.row 300012 1,.row 400012 2])/\s.h 300012=(1,oW 40 3 M.aA.en x1.Y5)/\True) ?_ ?_
 ·replace h:=bo;clear bo;obtain⟨dq,cp,h⟩:=bind_some h;rcases jR (!dq)with bq | bq;(replace h:=bX bq h;refine rn1 (Mj.1 _ _ cp) ?_;cases h;refine fA ⟨?_,?_,?_,?_,?_,?_,?_,?_,?_,trivial⟩<;>(try simp +decide only[F,reduceIte,Nat.reduceAdd,qB,qC,EN, *,-h]));replace h:=bW bq h;obtain⟨fq,dr,h⟩:=bind_some h;refine rn2 (Mj.1 _ _ cp) (Mj.1 _ _ dr) ?_;cases h;refine fA ⟨?_,?_,?_,?_,?_,?_,?_,?_,?_,trivial⟩<;>(try simp +decide only[F,reduceIte,Nat.reduceAdd,qB,qC,EN, *,-h])
 clear bo
 rintro ft ⟨f252,f244⟩
 replace f252:=f252.trans f233.2.2.2.2.2.2.2.1
 rcases AU cn with br | br
 ·replace h:=bW br h;refine cf (sk (an (sq (rn ?_))));refine an (rt ?_);cases h;simp[Ret,TB,EN, *]
 replace h:=bX br h
 refine ct (sq ?_)
 obtain⟨fw,du,h⟩:=bind_some h
 refine rn1 (RH.1 _ _ du) ?_
 refine an (rt ?_)
 cases h
 simp[Ret,TB,EN, *]⟩
instance:bR 287 (∀p0 p1 r (h:zJ p0 p1=some r),Sc 287 [(false,[.ptr [.sl (List.map enB p0.b),.int .i64 p0.i,.int .i64 p0.h]]),aI p1] [(false,[.edit (.lend 182 [.int .i64 r.1,.int .i64 r.2.1])]),rW 257 7 M.Op.en r.2.2]):=⟨λp0 p1 r h=>by
 unfold zJ at h
 simp only[EN]
 refine sgB 22 [.tmp 4] Tryz.func287 λbase wd B0 u0 hw0=> ?_
 refine gK (J:=λs=>s.t 0=vP 7059000 1 0/\s.t 1=vI p1/\s.h 7059000=(1,oB 182 [.old B0 (.sl (List.map enB p0.b)) (some u0),cI p0.i,cI p0.h])/\True) ?_ ?_
 ·and_intros<;>(try simp only[LN,List.map_cons,List.map_nil])<;>rfl
 rintro s1 f2
 have i1:=inv λm s=>∃v6:Int,∃r7:List M.Op,∃aa:Int,∃ae:Int,∃u7:Nat,(s.t 0=vP 7059000 1 0/\s.t 5=vR 100007 u7/\s.t 6=vI v6/\s.h 100007=(u7,oW 257 7 M.Op.en r7)/\s.h 7059000=(1,oB 182 [.old B0 (.sl (List.map enB p0.b)) (some u0),cI aa,cI ae]))/\pA p0 m v6 r7 aa ae=some r
 have e1:=@pA.eq_2
 exact sgX⟩
instance:bR 293 (∀p0 p1 r (h:cA p0 p1=some r),Sc 293 [aX (M.Zk.en p0),aX (M.aV.en p1)] [(true,M.Zk.rs r.1),rI r.2]):=⟨λp0 p1 r h=>by unfold cA at h;exact sgo 70 [.cell 4 137,.tmp 5] Tryz.func293⟩
instance:bR 255 (∀p0 r (h:tM p0=some r),Sc 255 [(false,[.ptr [.sl (List.map enB p0.b),.int .i64 p0.i,.int .i64 p0.h]])] [(false,[.edit (.lend 182 [.int .i64 r.1,.int .i64 r.2.1])]),(true,M.Zk.rs r.2.2)]):=⟨λp0 r h=>by
 unfold tM at h
 simp only[EN]
 refine sgB 36 [.cell 2 137] Tryz.func255 λbase wd B0 u0 hw0=> ?_
 refine gK (J:=λs=>s.t 0=vP 7059000 1 0/\s.h 7059000=(1,oB 182 [.old B0 (.sl (List.map enB p0.b)) (some u0),cI p0.i,cI p0.h])/\True) ?_ ?_
 ·and_intros<;>(try simp only[LN,List.map_cons,List.map_nil])<;>rfl
 rintro s1 f2
 have i1:=CO [.b 3 1 7050000 284 4,.b 3 3 7050001 207 2,.b 3 4 7050002 211 7] λm s=>∃v4:Int,∃ao:ByteArray,∃aq:Int,∃aa:Int,∃ae:Int,∃af:List M.Zd,∃ah:List M.aT,∃ai:List M.aV,∃aj:Nat,∃ak:Nat,∃al:Nat,(s.t 0=vP 7059000 1 0/\s.t 2=vP 2 ((s1.h 2).1+1) 0/\s.t 3=vP 3 ((s1.h 3).1+1) 0/\s.t 4=vI v4/\s.h 2=((s1.h 2).1+1,RO)/\s.h 3=((s1.h 3).1+1,oB 137 [cS ao,.row 7050000 aj,cI aq,.row 7050001 ak,.row 7050002 al])/\s.h 7050000=(aj,oW 284 4 M.Zd.en af)/\s.h 7050001=(ak,oW 207 2 M.aT.en ah)/\s.h 7050002=(al,oW 211 7 M.aV.en ai)/\s.h 7059000=(1,oB 182 [.old B0 (.sl (List.map enB p0.b)) (some u0),cI aa,cI ae]))/\iX p0 m v4 ao aq aa ae af ah ai=some r
 have e1:=@iX.eq_2
 exact sgX⟩
instance:bR 292 (∀p0 p1 p2 p3 r (h:uS p0 p1 p2 p3=some r),Sc 292 [aX (M.Ze.en p0),aX (M.Zk.en p1),aI p2,aI p3] [(true,M.Ze.rs r.1),(true,M.Zk.rs r.2.1),rI r.2.2]):=⟨λp0 p1 p2 p3 r h=>by unfold uS at h;exact sgo 113 [.cell 8 45,.cell 9 137,.tmp 10] Tryz.func292⟩
instance:bR 295 (∀p0 p1 r (h:rG p0 p1=some r),Sc 295 [aX (M.aD.en p0),aX (M.Zk.en p1)] [(true,M.aD.rs r.1),rI r.2]):=⟨λp0 p1 r h=>by unfold rG at h;exact sgo 64 [.cell 4 47,.tmp 5] Tryz.func295⟩
instance:bR 299 (∀p0 p1 r (h:uI p0 p1=some r),Sc 299 [aX (M.aA.en p0),aX (M.aC.en p1)] [(true,M.aA.rs r.1),(true,M.Key.rs r.2.1),rB r.2.2]):=⟨λp0 p1 r h=>by unfold uI at h;exact sgo 34 [.cell 4 40,.cell 5 209,.tmp 6] Tryz.func299⟩
instance:bR 219 (∀p0 r (h:zC p0=some r),Sc 219 [(false,[.ptr [.sl (List.map enB p0.b),.int .i64 p0.i,.int .i64 p0.h]])] [(false,[.edit (.lend 182 [.int .i64 r.1,.int .i64 r.2.1])]),(true,M.aA.rs r.2.2)]):=⟨λp0 r h=>by
 unfold zC at h
 simp only[EN]
 refine sgB 50 [.cell 2 40] Tryz.func219 λbase wd B0 u0 hw0=> ?_
 refine gK (J:=λs=>s.t 0=vP 7059000 1 0/\s.h 7059000=(1,oB 182 [.old B0 (.sl (List.map enB p0.b)) (some u0),cI p0.i,cI p0.h])/\True) ?_ ?_
 ·and_intros<;>(try simp only[LN,List.map_cons,List.map_nil])<;>rfl
 rintro s1 f2
 have i1:=λ(ai:(Int×Int×Int)) (s16:St)=>CO [.b 3 1 7050000 284 4] λm s=>∃af:ByteArray,∃ah:Int,∃aa:List M.Zd,∃ae:Nat,(s.h 7059000=s16.h 7059000/\s.t 0=vP 7059000 1 0/\s.t 2=vP 2 ((s1.h 2).1+1) 0/\s.t 3=vP 3 ((s1.h 3).1+1) 0/\s.h 2=((s1.h 2).1+1,oB 40 [cS (⟨#[]⟩:ByteArray),.nil,cI 0])/\s.h 3=((s1.h 3).1+1,oB 40 [cS af,.row 7050000 ae,cI ah])/\s.h 7050000=(ae,oW 284 4 M.Zd.en aa))/\sW ai m af ah aa=some r
 have e1:=@sW.eq_2
 exact sgX⟩
instance:bR 220 (∀p0 r (h:xF p0=some r),Sc 220 [(false,[.ptr [.sl (List.map enB p0.b),.int .i64 p0.i,.int .i64 p0.h]])] [(false,[.edit (.lend 182 [.int .i64 r.1,.int .i64 r.2.1])]),(true,M.aF.rs r.2.2)]):=⟨λp0 r h=>by
 unfold xF at h
 simp only[EN]
 refine sgB 58 [.cell 2 43] Tryz.func220 λbase wd B0 u0 hw0=> ?_
 refine gK (J:=λs=>s.t 0=vP 7059000 1 0/\s.h 7059000=(1,oB 182 [.old B0 (.sl (List.map enB p0.b)) (some u0),cI p0.i,cI p0.h])/\True) ?_ ?_
 ·and_intros<;>(try simp only[LN,List.map_cons,List.map_nil])<;>rfl
 rintro s1 f2
 have i1:=CO [.b 3 2 7050000 211 7] λm s=>∃ai:Int,∃aj:Int,∃aa:Int,∃ae:Int,∃af:List M.aV,∃ah:Nat,(s.t 0=vP 7059000 1 0/\s.t 2=vP 2 ((s1.h 2).1+1) 0/\s.t 3=vP 3 ((s1.h 3).1+1) 0/\s.h 2=((s1.h 2).1+1,oB 43 [cI 0,cI 0,.nil])/\s.h 3=((s1.h 3).1+1,oB 43 [cI ai,cI aj,.row 7050000 ah])/\s.h 7050000=(ah,oW 211 7 M.aV.en af)/\s.h 7059000=(1,oB 182 [.old B0 (.sl (List.map enB p0.b)) (some u0),cI aa,cI ae]))/\pR p0 m ai aj aa ae af=some r
 have e1:=@pR.eq_2
 exact sgX⟩
instance:bR 144 (∀p0 r (h:wI p0=some r),Sc 144 [(false,[.ptr [.sl (List.map enB p0.b),.int .i64 p0.i,.int .i64 p0.h]])] [(false,[.edit (.lend 182 [.int .i64 r.1,.int .i64 r.2.1])]),(true,M.fS.rs r.2.2)]):=⟨λp0 r h=>by
 unfold wI at h
 simp only[EN]
 refine sgB 46 [.cell 2 96] Tryz.func144 λbase wd B0 u0 hw0 => ?_
 refine gK (J:=λs=>s.t 0=vP 7059000 1 0/\s.h 7059000=(1,oB 182 [.old B0 (.sl (List.map enB p0.b)) (some u0),cI p0.i,cI p0.h])/\True) ?_ ?_
 ·and_intros<;>(try simp only[LN,List.map_cons,List.map_nil])<;>rfl
 rintro s1 f2
 refine sq (rn ?_)
 refine an (sq ?_)
 obtain⟨x4,h5,h⟩:=bind_some h
 refine rn1 (S2.1 _ _ h5) ?_
 refine an (sq ?_)
 refine cu (λs=>s.t 0=vP 7059000 1 0/\s.t 2=vP 2 ((s1.h 2).1+1) 0/\s.t 3=vS x4.2.2/\s.h 2=((s1.h 2).1+1,Rn)/\s.h 7059000=(1,oB 182 [.old B0 (.sl (List.map enB p0.b)) (some u0),cI x4.1,cI x4.2.1])/\True) ?_
 rintro s6 f7
 refine rn ?_
 refine an ?_
 obtain⟨bm,bn,h⟩:=bind_some h
 refine nT (λs=>s.t 0=vP 7059000 1 0/\s.t 2=vP 2 ((s1.h 2).1+1) 0/\s.t 3=vS x4.2.2/\s.t 4=vS bm.1/\s.h 2=((s1.h 2).1+1,Rn)/\s.h 7059000=(1,oB 182 [.old B0 (.sl (List.map enB p0.b)) (some u0),cI bm.2.1,cI bm.2.2])/\True) ?_ ?_
 ·replace h:=bn;clear bn;refine sq ?_;obtain⟨bj,bw,h⟩:=bind_some h;refine rn1 (c75.1 _ _ _ bw) ?_;refine an ?_;refine cu (λs=>s.t 0=vP 7059000 1 0/\s.t 2=vP 2 ((s1.h 2).1+1) 0/\s.t 3=vS x4.2.2/\s.t 4=vS x4.2.2/\s.t 12=vB bj.2.2/\s.h 2=((s1.h 2).1+1,Rn)/\s.h 7059000=(1,oB 182 [.old B0 (.sl (List.map enB p0.b)) (some u0),cI bj.1,cI bj.2.1])/\True) ?_;rintro cn f24;rcases AU bj.2.2 with bo | bo;(replace h:=bW bo h;refine cf (sk ?_);cases h;refine fA ⟨?_,?_,?_,?_,?_,?_,trivial⟩<;>(try simp +decide only[F,reduceIte,Nat.reduceAdd,qB,qC,EN, *,-h]));replace h:=bX bo h;refine ct ?_;obtain⟨cp,bx,h⟩:=bind_some h;refine rn1 (S2.1 _ _ bx) ?_;cases h;refine fA ⟨?_,?_,?_,?_,?_,?_,trivial⟩<;>(try simp +decide only[F,reduceIte,Nat.reduceAdd,qB,qC,EN, *,-h])
 clear bn
 rintro ai f15
 refine sq ?_
 obtain⟨cq,bz,h⟩:=bind_some h
 obtain⟨cr,ca,h⟩:=bind_some h
 obtain⟨bu,cc,h⟩:=bind_some h
 obtain⟨af,cd,h⟩:=bind_some h
 refine rn4 (c65.1 _ _ _ bz) (c65.1 _ _ _ ca) (c77 _ _ cc) (c76 _ _ _ _ _ _ cd) ?_
 refine an (sq (sq ?_))
 refine cu (λs=>s.t 0=vP 7059000 1 0/\s.t 2=vP 2 ((s1.h 2).1+1) 0/\s.t 5=vP 5 ((ai.h 5).1+1) 0/\s.h 2=((s1.h 2).1+1,Rn)/\s.h 5=((ai.h 5).1+1,oB 96 [cI af.1.Id,cS af.1.Zh,cS af.1.Zw,cI af.1.Y2,.row 500026 ((ai.h 500026).1+1),.row 600026 ((ai.h 600026).1+1),cI af.1.Zc.Pc,.row 800026 ((ai.h 800026).1+1),cI af.1.Zc.ZG,cB af.1.Zc.ZL,cB af.1.Zc.ZM])/\s.h 500026=((ai.h 500026).1+1,oW 98 2 M.bC.en af.1.bC)/\s.h 600026=((ai.h 600026).1+1,oW 216 4 M.Instr.en af.1.Zc.Zz)/\s.h 800026=((ai.h 800026).1+1,oW 3 1 enI af.1.Zc.ZK)/\s.h 7059000=(1,oB 182 [.old B0 (.sl (List.map enB p0.b)) (some u0),cI bu.1,cI bu.2.1])/\True) ?_
 rintro cg f43
 obtain⟨bg,cj,h⟩:=bind_some h
 refine rn1 (c65.1 _ _ _ cj) ?_
 refine an (bk ?_)
 refine cu (λs=>s.h 5=cg.h 5/\s.t 0=vP 7059000 1 0/\s.t 2=vP 2 ((s1.h 2).1+1) 0/\s.t 5=vP 5 ((ai.h 5).1+1) 0/\s.t 7=vI bg.2.2/\s.h 2=((s1.h 2).1+1,Rn)/\s.h 500026=((ai.h 500026).1+1,oW 98 2 M.bC.en af.1.bC)/\s.h 600026=((ai.h 600026).1+1,oW 216 4 M.Instr.en af.1.Zc.Zz)/\s.h 800026=((ai.h 800026).1+1,oW 3 1 enI af.1.Zc.ZK)/\s.h 7059000=(1,oB 182 [.old B0 (.sl (List.map enB p0.b)) (some u0),cI bg.1,cI bg.2.1])/\True) ?_
 rintro bq ⟨f60,f55⟩
 replace f60:=f60.trans f43.2.2.2.2.1
 refine FA (Gho.trans (Gho.trans (ghB 5 4 7050000 500026) (ghB 5 5 7050001 600026)) (ghB 5 7 7050002 800026)) ?_
 refine CE (λm s=>∃v7:Int,∃aw:Int,∃ax:ByteArray,∃ay:ByteArray,∃az:Int,∃ba:Int,∃bd:Int,∃bf:Bool,∃av:Bool,∃aa:Int,∃ae:Int,∃aj:List M.bC,∃ak:List M.Instr,∃al:List Int,∃ao:Nat,∃aq:Nat,∃ar:Nat,s.t 0=vP 7059000 1 0/\s.t 2=vP 2 ((s1.h 2).1+1) 0/\s.t 5=vP 5 ((ai.h 5).1+1) 0/\s.t 7=vI v7/\s.h 2=((s1.h 2).1+1,Rn)/\s.h 5=((ai.h 5).1+1,oB 96 [cI aw,cS ax,cS ay,cI az,.row 7050000 ao,.row 7050001 aq,cI ba,.row 7050002 ar,cI bd,cB bf,cB av])/\s.h 7050000=(ao,oW 98 2 M.bC.en aj)/\s.h 7050001=(aq,oW 216 4 M.Instr.en ak)/\s.h 7050002=(ar,oW 3 1 enI al)/\s.h 7059000=(1,oB 182 [.old B0 (.sl (List.map enB p0.b)) (some u0),cI aa,cI ae])/\lP p0 m v7 aw ax ay az ba bd bf av aa ae aj ak al=some r) fuel ?_ ?_
 ·refine⟨bg.2.2,af.1.Id,af.1.Zh,af.1.Zw,af.1.Y2,af.1.Zc.Pc,af.1.Zc.ZG,af.1.Zc.ZL,af.1.Zc.ZM,bg.1,bg.2.1,af.1.bC,af.1.Zc.Zz,af.1.Zc.ZK,(bq.h 7050000).1+1,(bq.h 7050001).1+1,(bq.h 7050002).1+1,?_,?_,?_,?_,?_,?_,?_,?_,?_,?_,h⟩;all_goals simp +decide only[F,reduceIte,Nat.reduceAdd,qB,qC,EN, *,-h]
 rintro mL1 bh ⟨v7,aw,ax,ay,az,ba,bd,bf,av,aa,ae,aj,ak,al,ao,aq,ar,f66,f67,f68,f69,f70,f71,f72,f73,f74,f75,h⟩
 rcases mL1 with _ | mL1
 ·exact absurd h (by simp[lP])
 simp only[lP]at h
 refine sq (sq (rn ?_))
 refine an ?_
 rcases AU (decide (v7>0))with br | br
 ·replace h:=bW br h;refine cf (xt (Bl (Bb (EJ (an (sq (rn ?_)))))));refine an (rt ?_);cases h;simp[HO,Ret,TB,EN, *]
 replace h:=bX br h
 refine ct (sk (an (sq (bk ?_))))
 obtain⟨bl,ck,h⟩:=bind_some h
 obtain⟨ah,cl,h⟩:=bind_some h
 refine rd2 mixed (Uu.1 _ _ ck) (Yw _ _ _ _ cl) ?_
 refine ab (an ?_)
 refine cu (λs=>s.t 0=vP 7059000 1 0/\s.t 2=vP 2 ((s1.h 2).1+1) 0/\s.t 5=vP 5 ((ai.h 5).1+1) 0/\s.t 7=vI v7/\s.h 2=((s1.h 2).1+1,Rn)/\s.h 5=((ai.h 5).1+1,oB 96 [cI ah.1.Id,cS ah.1.Zh,cS ah.1.Zw,cI ah.1.Y2,.row 500042 ((bh.h 500042).1+1),.row 600042 ((bh.h 600042).1+1),cI ah.1.Zc.Pc,.row 800042 ((bh.h 800042).1+1),cI ah.1.Zc.ZG,cB ah.1.Zc.ZL,cB ah.1.Zc.ZM])/\s.h 500042=((bh.h 500042).1+1,oW 98 2 M.bC.en ah.1.bC)/\s.h 600042=((bh.h 600042).1+1,oW 216 4 M.Instr.en ah.1.Zc.Zz)/\s.h 800042=((bh.h 800042).1+1,oW 3 1 enI ah.1.Zc.ZK)/\s.h 7059000=(1,oB 182 [.old B0 (.sl (List.map enB p0.b)) (some u0),cI bl.1,cI bl.2.1])/\True) ?_
 rintro bt f82
 refine rn ?_
 refine fA ⟨_,Gho.trans (Gho.trans (ghB 5 4 7050000 500042) (ghB 5 5 7050001 600042)) (ghB 5 7 7050002 800042),mL1,qc,IntKind.i64.wrap (v7-1),ah.1.Id,ah.1.Zh,ah.1.Zw,ah.1.Y2,ah.1.Zc.Pc,ah.1.Zc.ZG,ah.1.Zc.ZL,ah.1.Zc.ZM,bl.1,bl.2.1,ah.1.bC,ah.1.Zc.Zz,ah.1.Zc.ZK,(bt.h 7050000).1+1,(bt.h 7050001).1+1,(bt.h 7050002).1+1,?_,?_,?_,?_,?_,?_,?_,?_,?_,?_,h⟩
 all_goals simp +decide only[F,reduceIte,Nat.reduceAdd,qB,qC,EN, *,-h]⟩
instance:bR 64 (∀p0 r (h:vA p0=some r),Sc 64 [(false,[.ptr [.sl (List.map enB p0.b),.int .i64 p0.i,.int .i64 p0.h]])] [(false,[.edit (.lend 182 [.int .i64 r.1,.int .i64 r.2.1])]),rW 96 11 M.fS.en r.2.2]):=⟨λp0 r h=>by
 unfold vA at h
 simp only[EN]
 refine sgB 32 [.tmp 2] Tryz.func64 λbase wd B0 u0 hw0=> ?_
 refine gK (J:=λs=>s.t 0=vP 7059000 1 0/\s.h 7059000=(1,oB 182 [.old B0 (.sl (List.map enB p0.b)) (some u0),cI p0.i,cI p0.h])/\True) ?_ ?_
 ·and_intros<;>(try simp only[LN,List.map_cons,List.map_nil])<;>rfl
 rintro s1 f2
 have i1:=inv λm s=>∃v4:Int,∃r6:List M.fS,∃aa:Int,∃ae:Int,∃u6:Nat,(s.t 0=vP 7059000 1 0/\s.t 3=vR 100006 u6/\s.t 4=vI v4/\s.h 100006=(u6,oW 96 11 M.fS.en r6)/\s.h 7059000=(1,oB 182 [.old B0 (.sl (List.map enB p0.b)) (some u0),cI aa,cI ae]))/\kO p0 m v4 r6 aa ae=some r
 have e1:=@kO.eq_2
 exact sgX⟩
end Go.Proofs.YtipmihbgjolaaaaGreat.gen
