/-
  Helper text. No conditions.
-/
import Derived.Test.YtndidbigdalbnaaGreatNotesWspec5
set_option linter.all false
namespace Go.Proofs.YtndidbigdalbnaaGreat.gen
open Go Go.Sh Tryz
set_option maxRecDepth 20000
set_option maxHeartbeats 4000000
instance:bU 202 (∀p0 p1 r (h:DC p0 p1=some r),Sc 202 [aL enB p0,aI p1] [(true,M.fA.rs r.1),rI r.2.1,rB r.2.2]):=⟨λp0 p1 r h=>by unfold DC at h;exact sgo 103 [.cell 4 101,.tmp 5,.tmp 6] func202⟩
instance:bU 146 (∀p0 r (h:yR p0=some r),Sc 146 [aL enB p0] [rW 101 7 M.fA.en r.1,rB r.2]):=⟨λp0 r h=>by
 have i1:=λ(x1:(Int×Int×Bool))=>inv λm s=>∃v5:Int,∃v8:Int,∃aa:List M.fA,∃ae:Nat,(s.t 0=vL enB p0/\s.t 4=vI x1.1/\s.t 5=vI v5/\s.t 7=vR 100025 ae/\s.t 8=vI v8/\s.h 100025=(ae,oW 101 7 M.fA.en aa))/\nJ p0 x1 m v5 v8 aa=some r
 have e1:=@nJ.eq_2
 unfold yR at h
 exact sgo 53 [.tmp 2,.tmp 3] func146⟩
instance:bU 261 (∀p0 p1 p2 r (h:BV p0 p1 p2=some r),Sc 261 [aX (M.aD.en p0),aX (M.bD.en p1),aX (M.aF.en p2)] [(true,M.aD.rs r.1),rB r.2]):=⟨λp0 p1 p2 r h=>by unfold BV at h;exact sgo 20 [.cell 6 66,.tmp 7] func261⟩
instance:bU 263 (∀p0 p1 p2 r (h:EU p0 p1 p2=some r),Sc 263 [aX (M.aD.en p0),aX (M.bD.en p1),aS p2] [(true,M.aD.rs r.1),rI r.2.1,rB r.2.2]):=⟨λp0 p1 p2 r h=>by unfold EU at h;exact sgo 57 [.cell 6 66,.tmp 7,.tmp 8] func263⟩
instance:bU 206 (∀p0 p1 r (h:C3 p0 p1=some r),Sc 206 [aX (M.aD.en p0),aX (M.fA.en p1)] [(true,M.aD.rs r.1),rI r.2.1,rB r.2.2]):=⟨λp0 p1 r h=>by unfold C3 at h;exact sgo 97 [.cell 4 66,.tmp 5,.tmp 6] func206⟩
instance:bU 336 (∀p0 p1 r (h:mZ p0 p1=some r),Sc 336 [aX (M.aD.en p0),aX (M.cH.en p1)] [(true,M.aD.rs r.1),rB r.2]):=⟨λp0 p1 r h=>by unfold mZ at h;exact sgo 43 [.cell 4 66,.tmp 5] func336⟩
instance:bU 355 (∀p0 p1 r (h:A0 p0 p1=some r),Sc 355 [aX (M.aD.en p0),aL M.cH.en p1] [(true,M.aD.rs r)]):=⟨λp0 p1 r h=>by
 have i1:=He [.b 5 1 7050000 153 4] λm s=>∃v6:Int,∃af:ByteArray,∃ah:Int,∃aa:List M.aKy,∃ae:Nat,(s.t 1=vL M.cH.en p1/\s.t 4=vP 4 1 0/\s.t 5=vP 5 1 0/\s.t 6=vI v6/\s.h 4=(1,oB 66 [cS (⟨#[]⟩:ByteArray),.nil,cI 0])/\s.h 5=(1,oB 66 [cS af,.row 7050000 ae,cI ah])/\s.h 7050000=(ae,oW 153 4 M.aKy.en aa))/\lZ p1 m v6 af ah aa=some r
 have e1:=@lZ.eq_2
 unfold A0 at h
 exact sgo 29 [.cell 4 66] func355⟩
theorem aKI(p0 r)(h:Fv p0=some r):Sc 338 [(false,[.ptr [.sl (List.map enB p0.b),.int .i64 p0.i,.int .i64 p0.h]])] [(false,[.edit (.lend 138 [.int .i64 r.1,.int .i64 r.2.1])]),(true,M.aN.rs r.2.2)]:=by
 unfold Fv at h
 simp only[EN]
 refine sgB 42 [.cell 2 63] func338 λbase wd j C hw0=> ?_
 refine bY (J:=λs=>s.t 0=vP 7059000 1 0/\s.h 7059000=(1,oB 138 [.old j (.sl (List.map enB p0.b)) (some C),cI p0.i,cI p0.h])/\True) ?_ ?_
 ·and_intros<;>(try simp only[LN,jJ,jK])<;>rfl
 rintro s1 f2
 have i1:=He [.b 3 0 7050000 262 2] λm s=>∃v4:Int,∃af:Int,∃ah:Int,∃ak:List M.aKv,∃al:Nat,(s.t 0=vP 7059000 1 0/\s.t 2=vP 2 ((s1.h 2).1+1) 0/\s.t 3=vP 3 ((s1.h 3).1+1) 0/\s.t 4=vI v4/\s.h 2=((s1.h 2).1+1,oB 63 [.nil])/\s.h 3=((s1.h 3).1+1,oB 63 [.row 7050000 al])/\s.h 7050000=(al,oW 262 2 M.aKv.en ak)/\s.h 7059000=(1,oB 138 [.old j (.sl (List.map enB p0.b)) (some C),cI af,cI ah]))/\yX p0 m v4 af ah ak=some r
 have e1:=@yX.eq_2
 have i2:=He [.b 3 0 7050100 262 2] λm s=>∃ao:Int,∃I:Int,∃U:Int,∃ai:List M.aKv,∃aj:Nat,(s.t 0=vP 7059000 1 0/\s.t 2=vP 2 ((s1.h 2).1+1) 0/\s.t 3=vP 3 ((s1.h 3).1+1) 0/\s.t 5=vI ao/\s.h 2=((s1.h 2).1+1,oB 63 [.nil])/\s.h 3=((s1.h 3).1+1,oB 63 [.row 7050100 aj])/\s.h 7050100=(aj,oW 262 2 M.aKv.en ai)/\s.h 7059000=(1,oB 138 [.old j (.sl (List.map enB p0.b)) (some C),cI I,cI U]))/\uZ p0 m ao I U ai=some r
 have e2:=@uZ.eq_2
 exact sgX
instance:bU 299 (∀p0 r (h:Fz p0=some r),Sc 299 [(false,[.ptr [.sl (List.map enB p0.b),.int .i64 p0.i,.int .i64 p0.h]])] [(false,[.edit (.lend 138 [.int .i64 r.1,.int .i64 r.2.1])]),(true,M.aN.rs r.2.2)]):=⟨λp0 r h=>by
 unfold Fz at h
 simp only[EN]
 refine sgB 56 [.cell 2 63] func299 λbase wd B0 u0 hw0 => ?_
 refine bY (J:=λs=>s.t 0 = .v false [.bp 7059000 1 0]/\s.h 7059000=(1,.box 138 [.old B0 (.sl (List.map enB p0.b)) (some u0),.dat (.int .i64 p0.i),.dat (.int .i64 p0.h)])/\True) ?_ ?_
 ·and_intros<;>(try simp only[LN,jJ,jK])<;>rfl
 rintro s1 f2
 refine sq ?_
 refine xn ?_
 refine an (sq ?_)
 obtain⟨x4,h5,h⟩:=aA h
 refine xn1 (aKI _ _ h5) ?_
 refine an (sq (sq ?_))
 obtain⟨V1,eV1⟩:=nmH (((s1.h 3).1+1,.box 63 [.row 100006 ((s1.h 100006).1+1)]))
 obtain⟨V2,eV2⟩:=nmT (.v false [.bp 2 ((s1.h 2).1+1) 0])
 obtain⟨V3,eV3⟩:=nmT (.v false [.bp 3 ((s1.h 3).1+1) 0])
 obtain⟨V4,eV4⟩:=nmH (((s1.h 2).1+1,.box 63 [.nil]))
 obtain⟨V5,eV5⟩:=nmT (.v false [.bp 7059000 1 0])
 refine bY (J:=λs=>s.t 0=V5/\s.t 2=V2/\s.t 3=V3/\s.h 2=V4/\s.h 3=V1/\s.h 100006=((s1.h 100006).1+1,.row 262 2 (List.map M.aKv.en x4.2.2.aKi) true)/\s.h 7059000=(1,.box 138 [.old B0 (.sl (List.map enB p0.b)) (some u0),.dat (.int .i64 x4.1),.dat (.int .i64 x4.2.1)])/\True) zM ?_
 rintro s6 f7
 obtain⟨af,ar,h⟩:=aA h
 refine xn1 (c48.1 _ _ _ ar) ?_
 refine an (bk (sq ?_))
 refine bY (J:=λs=>s.t 0=V5/\s.t 2=V2/\s.t 3=V3/\s.t 8 = .v false [.dat (.int .i64 af.2.2)]/\s.h 2=V4/\s.h 3=V1/\s.h 100006=((s1.h 100006).1+1,.row 262 2 (List.map M.aKv.en x4.2.2.aKi) true)/\s.h 7059000=(1,.box 138 [.old B0 (.sl (List.map enB p0.b)) (some u0),.dat (.int .i64 af.1),.dat (.int .i64 af.2.1)])/\True) zM ?_
 rintro s16 f17
 refine xn ?_
 refine an ?_
 rcases gK (af.2.2==0)with ai | ai
 ·replace h:=bQ ai h
  refine yL zM ?_
  obtain⟨bg,av,h⟩:=aA h
  obtain⟨bh,aw,h⟩:=aA h
  apply Em mixed
  ·simp +decide only[LN,E,reduceIte,Nat.reduceAdd,Nat.reduceMul,qB,qC,L,ti3,aEp,ZR,Sv,La,M.aKv.en,enI,EN, *,-h]
   have hc:=c17.1 _ _ _ av
   simp only[jL,jJ,jK,M.aKv.en,enI]at hc
   refine⟨_,hc,?_⟩
   try simp +decide only[LN,E,reduceIte,Nat.reduceAdd,Nat.reduceMul,qB,qC,L,ti3,aEp,ZR,Sv,La,M.aKv.en,enI,EN, *,-h]
   refine⟨by(have hb:=fJ aw);simp[M.aKv.en,enI,qE,aP]at hb ⊢ <;> omega,?_⟩
   try simp +decide only[LN,E,reduceIte,Nat.reduceAdd,Nat.reduceMul,qB,qC,L,ti3,aEp,ZR,Sv,La,M.aKv.en,enI,EN, *,-h]
   exact⟨.mk wL,Is.mk _⟩
  refine ab (an (sq ?_))
  refine xn ?_
  refine an (rt ?_)
  cases h
  simp[Ma,Ret,TB,EN, *]
 replace h:=bP ai h
 refine Ay zM ?_
 refine sq ?_
 refine xn ?_
 refine an ?_
 rcases CP (af.2.2==1)with aj | aj
 ·replace h:=bP aj h;refine Ay zM ?_;refine sq ?_;refine xn ?_;refine an ?_;rcases CP (af.2.2==2)with ak | ak;(replace h:=bP ak h;refine Ay zM ?_;refine sk (ab (an (sq ?_)));refine xn ?_;refine an (rt ?_);cases h;simp[Ma,Ret,TB,EN, *]);replace h:=bQ ak h;refine yL zM ?_;refine sq ?_;refine xn ?_;refine an (bk ?_);refine Cj (Gho.aBM (b:=3) (c:=0) (K:=7050000) (j:=100006) zM rfl zM we) ?_;refine GF (λm s=>∃v4:Int,∃ae:List M.aKv,∃aa:Nat,s.t 0=V5/\s.t 2=V2/\s.t 3=V3/\s.t 4 = .v false [.dat (.int .i64 v4)]/\s.h 2=V4/\s.h 3=((s1.h 3).1+1,.box 63 [.row 7050000 aa])/\s.h 7050000=(aa,.row 262 2 (List.map M.aKv.en ae) true)/\s.h 7059000=(1,.box 138 [.old B0 (.sl (List.map enB p0.b)) (some u0),.dat (.int .i64 af.1),.dat (.int .i64 af.2.1)])/\uS af m v4 ae=some r) aJ ?_ ?_;(exact⟨1,x4.2.2.aKi,(s16.h 7050000).1+1,zM⟩);rintro mL1 bj ⟨v4,ae,aa,f56,f57,f58,f59,f60,f61,f62,f63,h⟩;rcases mL1 with _ | mL1;(exact absurd h (by simp[uS]));simp only[uS]at h;refine sq (sq ?_);refine xn ?_;refine an ?_;rcases CP (decide (v4<=4))with al | al;(replace h:=bP al h;refine Ay zM ?_;refine xt (CO (CL (Gs (ab (an (sq ?_))))));refine xn ?_;refine an (rt ?_);cases h;simp[Ma,Ret,TB,EN, *]);replace h:=bQ al h;refine yL zM ?_;refine sk (an (sq (bk ?_)));obtain⟨ax,ay,h⟩:=aA h;refine xn1 (aEg.1 _ _ _ ay) ?_;refine ab (an ?_);refine xn ?_;exact fB ⟨_,Gho.aBM (b:=3) (c:=0) (K:=7050000) (j:=100052) jg rfl jg we,mL1,wg,IntKind.i64.wrap (v4+1),ax.1.aKi,aa+1,zM⟩
 replace h:=bQ aj h
 refine yL zM ?_
 refine sq ?_
 refine xn ?_
 refine an ?_
 rcases CP (decide ((List.length x4.2.2.aKi:Int)>0))with ao | ao
 ·replace h:=bP ao h;refine Ay zM ?_;refine sk (ab (an (sq ?_)));refine xn ?_;refine an (rt ?_);cases h;simp[Ma,Ret,TB,EN, *]
 replace h:=bQ ao h
 refine yL zM ?_
 obtain⟨ah,az,h⟩:=aA h
 obtain⟨bl,aq,bm⟩:=pK az
 refine UO [0,2,3] [2,3,7059000] (i:=100006) (ver:=(s1.h 100006).1+1) (e:=262) (sz:=2) (xs:=List.map M.aKv.en x4.2.2.aKi) (j:=(0:Int).toNat) (x:=M.aKv.en ah) (off:=1) (K:=7057000) (e':=264) (sz':=7) (ys:=List.map M.aK2.en ah.aKs) zM ?_ rfl ?_ hw0.2.1 (.inr we) hw0.2.2 we we we ?_ ?_ λu => ?_
 ·rw[List.getElem?_map,aq];rfl
 ·rw[<-(eH La).sl];rfl
 ·simp +decide only[LC,hw0.1,LN,F,reduceIte,Nat.reduceAdd,qB,qC,EN,M.aKv.en, *,-h]
 ·simp +decide only[LC,hw0.1,LN,F,reduceIte,Nat.reduceAdd,qB,qC,EN,M.aKv.en, *,-h]
 have bn:(List.set (List.map M.aKv.en x4.2.2.aKi) (0:Int).toNat [.int .i64 ah.aKb,.val u])[(0:Int).toNat]? = some [.int .i64 ah.aKb,.val u]:=Zq (b:=M.aKv.en ah) (by rw[List.getElem?_map,aq];rfl)
 refine bY (J:=λs=>s.t 0=V5/\s.t 2=V2/\s.t 3=V3/\s.h 2=V4/\s.h 3=V1/\s.h 100006=((s1.h 100006).1+1,.row 262 2 (List.set (List.map M.aKv.en x4.2.2.aKi) (0:Int).toNat [.int .i64 ah.aKb,.val u]) true)/\s.h 7057000=((s16.h 7057000).1+1,.row 264 7 (List.map M.aK2.en ah.aKs) true)/\s.h 7058000=((s16.h 7058000).1+1,.pin 7057000 ((s16.h 7057000).1+1) u)/\s.h 7059000=(1,.box 138 [.old B0 (.sl (List.map enB p0.b)) (some u0),.dat (.int .i64 af.1),.dat (.int .i64 af.2.1)])/\True) zM ?_
 rintro bo f39
 obtain⟨bq,ba,h⟩:=aA h
 obtain⟨br,bd,h⟩:=aA h
 obtain⟨bt,bf,h⟩:=aA h
 apply Em mixed
 ·simp +decide only[LN,E,reduceIte,Nat.reduceAdd,Nat.reduceMul,qB,qC,L,ti9,ZR,Sv,YN,Uz,La,TW,M.aKv.en,M.aK2.en,enS,EN, *,-h]
  have hc:=aEk.1 _ _ _ ba
  simp only[jL,jJ,jK,M.aKv.en,M.aK2.en,enS]at hc
  refine⟨_,hc,?_⟩
  try simp +decide only[LN,E,reduceIte,Nat.reduceAdd,Nat.reduceMul,qB,qC,L,ti9,ZR,Sv,YN,Uz,La,TW,M.aKv.en,M.aK2.en,enS,EN, *,-h]
  refine⟨_,aFs.1 _ _ bd,?_⟩
  try simp +decide only[LN,E,reduceIte,Nat.reduceAdd,Nat.reduceMul,qB,qC,L,ti9,ZR,Sv,YN,Uz,La,TW,M.aKv.en,M.aK2.en,enS,EN, *,-h]
  refine⟨by(have hb:=fJ bf);simp[M.aKv.en,M.aK2.en,enS,qE,aP]at hb ⊢ <;> omega,?_⟩
  try simp +decide only[LN,E,reduceIte,Nat.reduceAdd,Nat.reduceMul,qB,qC,L,ti9,ZR,Sv,YN,Uz,La,TW,M.aKv.en,M.aK2.en,enS,EN, *,-h]
  exact⟨.mk wL,Is.mk _⟩
 refine ab (an (sq ?_))
 refine xn ?_
 refine an (rt ?_)
 cases h
 simp[Ma,Ret,TB,EN, *]⟩
instance:bU 302 (∀p0 p1 r (h:xA p0 p1=some r),Sc 302 [(false,[.ptr [.sl (List.map enB p0.b),.int .i64 p0.i,.int .i64 p0.h]]),aS p1] [(false,[.edit (.lend 138 [.int .i64 r.1,.int .i64 r.2.1])]),(true,M.aD.rs r.2.2)]):=⟨λp0 p1 r h=>by
 unfold xA at h
 simp only[EN]
 refine sgB 37 [.cell 4 66] func302 λbase wd B0 u0 hw0=> ?_
 refine bY (J:=λs=>s.t 0=vP 7059000 1 0/\s.t 1=vS p1/\s.h 7059000=(1,oB 138 [.old B0 (.sl (List.map enB p0.b)) (some u0),cI p0.i,cI p0.h])/\True) ?_ ?_
 ·and_intros<;>(try simp only[LN,jJ,jK])<;>rfl
 rintro s1 f2
 have i1:=He [.b 5 1 7050000 153 4] λm s=>∃v6:Int,∃ai:ByteArray,∃aj:Int,∃aa:Int,∃ae:Int,∃af:List M.aKy,∃ah:Nat,(s.t 0=vP 7059000 1 0/\s.t 4=vP 4 ((s1.h 4).1+1) 0/\s.t 5=vP 5 ((s1.h 5).1+1) 0/\s.t 6=vI v6/\s.h 4=((s1.h 4).1+1,oB 66 [cS (⟨#[]⟩:ByteArray),.nil,cI 0])/\s.h 5=((s1.h 5).1+1,oB 66 [cS ai,.row 7050000 ah,cI aj])/\s.h 7050000=(ah,oW 153 4 M.aKy.en af)/\s.h 7059000=(1,oB 138 [.old B0 (.sl (List.map enB p0.b)) (some u0),cI aa,cI ae]))/\xG p0 m v6 ai aj aa ae af=some r
 have e1:=@xG.eq_2
 exact sgX⟩
instance:bU 370 (∀p0 r (h:HM p0=some r),Sc 370 [(false,[.ptr [.sl (List.map enB p0.b),.int .i64 p0.i,.int .i64 p0.h]])] [(false,[.edit (.lend 138 [.int .i64 r.1,.int .i64 r.2.1])]),(true,M.fA.rs r.2.2)]):=⟨λp0 r h=>by
 unfold HM at h
 simp only[EN]
 refine sgB 37 [.cell 2 101] func370 λbase wd B0 u0 hw0=> ?_
 refine bY (J:=λs=>s.t 0=vP 7059000 1 0/\s.h 7059000=(1,oB 138 [.old B0 (.sl (List.map enB p0.b)) (some u0),cI p0.i,cI p0.h])/\True) ?_ ?_
 ·and_intros<;>(try simp only[LN,jJ,jK])<;>rfl
 rintro s1 f2
 exact sgX⟩
instance:bU 359 (∀p0 p1 r (h:E3 p0 p1=some r),Sc 359 [(false,[.ptr [.sl (List.map enB p0.b),.int .i64 p0.i,.int .i64 p0.h]]),aI p1] [(false,[.edit (.lend 138 [.int .i64 r.1,.int .i64 r.2.1])]),rW 101 7 M.fA.en r.2.2]):=⟨λp0 p1 r h=>by
 unfold E3 at h
 simp only[EN]
 refine sgB 22 [.tmp 4] func359 λbase wd B0 u0 hw0=> ?_
 refine bY (J:=λs=>s.t 0=vP 7059000 1 0/\s.t 1=vI p1/\s.h 7059000=(1,oB 138 [.old B0 (.sl (List.map enB p0.b)) (some u0),cI p0.i,cI p0.h])/\True) ?_ ?_
 ·and_intros<;>(try simp only[LN,jJ,jK])<;>rfl
 rintro s1 f2
 have i1:=inv λm s=>∃v6:Int,∃r7:List M.fA,∃aa:Int,∃ae:Int,∃u7:Nat,(s.t 0=vP 7059000 1 0/\s.t 5=vR 100007 u7/\s.t 6=vI v6/\s.h 100007=(u7,oW 101 7 M.fA.en r7)/\s.h 7059000=(1,oB 138 [.old B0 (.sl (List.map enB p0.b)) (some u0),cI aa,cI ae]))/\yF p0 m v6 r7 aa ae=some r
 have e1:=@yF.eq_2
 exact sgX⟩
instance:bU 303 (∀p0 p1 r (h:dP p0 p1=some r),Sc 303 [aX (M.aKt.en p0),aX (M.cH.en p1)] [(true,M.aKt.rs r.1),rI r.2]):=⟨λp0 p1 r h=>by unfold dP at h;exact sgo 70 [.cell 4 125,.tmp 5] func303⟩
instance:bU 360 (∀p0 p1 r (h:AQ p0 p1=some r),Sc 360 [aX (M.aKt.en p0),aI p1] [(true,M.aH.rs r.1),rB r.2]):=⟨λp0 p1 r h=>by unfold AQ at h;exact sgo 37 [.cell 4 73,.tmp 5] func360⟩
instance:bU 307 (∀p0 p1 r (h:Cb p0 p1=some r),Sc 307 [aX (M.aD.en p0),aX (M.aF.en p1)] [(true,M.aD.rs r.1),(true,M.bD.rs r.2.1),rB r.2.2]):=⟨λp0 p1 r h=>by unfold Cb at h;exact sgo 34 [.cell 4 66,.cell 5 98,.tmp 6] func307⟩
theorem c11(p0 r)(h:BJ p0=some r):Sc 11 [aL enB p0] [rW 5 1 enB r]:=by unfold BJ at h;exact sgo 15 [.tmp 2] func11
