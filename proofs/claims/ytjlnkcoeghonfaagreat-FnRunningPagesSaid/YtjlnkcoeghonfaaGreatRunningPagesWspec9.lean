/-
  Helper text. No conditions.
-/
import Derived.Test.YtjlnkcoeghonfaaGreatRunningPagesWspec8
set_option linter.all false
namespace Go.Proofs.YtjlnkcoeghonfaaGreat.gen
open Go Go.Sh Tryz
set_option maxRecDepth 20000
set_option maxHeartbeats 4000000
instance:bK 105 (∀p0 r (h:gV p0=some r),Sc 105 [aX (M.aC.en p0)] [(true,M.aC.rs r)]):=⟨λp0 r h=>by
 have i1:=G8 [.b 3 0 7050000 84 24] λm s=>∃v4:Int,∃aa:List M.Bucket,∃ae:Nat,(s.t 1=vP 1 1 0/\s.t 2=vP 2 1 0/\s.t 3=vP 3 1 0/\s.t 4=vI v4/\s.h 1=(1,oX 39 (M.aC.en p0))/\s.h 2=(1,oB 39 [.nil])/\s.h 3=(1,oB 39 [.row 7050000 ae])/\s.h 7050000=(ae,oW 84 24 M.Bucket.en aa))/\sR p0 m v4 aa=some r
 have e1:=@sR.eq_2
 unfold gV at h
 exact sgo 25 [.cell 2 39] func105⟩
instance Vq:bK 321 (∀p0 r (h:cR p0=some r),Sc 321 [aX (M.aLS.en p0)] [rB r]):=⟨λp0 r h=>by
 have i1:=inv λm s=>∃v3:Int,(s.t 1=vP 1 1 0/\s.t 3=vI v3/\s.h 1=(1,oX 70 (M.aLS.en p0)))/\gC p0 m v3=some r
 have e1:=@gC.eq_2
 have i2:=inv λm s=>∃v4:Int,(s.t 1=vP 1 1 0/\s.t 4=vI v4/\s.h 1=(1,oX 70 (M.aLS.en p0)))/\gD p0 m v4=some r
 have e2:=@gD.eq_2
 have i3:=λ(v4:Int) (ae:M.aU) (af:Int->Option Bool)=>inv λm s=>∃aa:Int,(s.t 1=vP 1 1 0/\s.t 4=vI v4/\s.t 9=vI aa/\s.h 1=(1,oX 70 (M.aLS.en p0)))/\iZ p0 v4 ae af m aa=some r
 have e3:=@iZ.eq_2
 unfold cR at h
 exact sgo 124 [.tmp 2] func321⟩
instance:bK 444 (∀p0 r (h:EK p0=some r),Sc 444 [aX (M.bP.en p0)] [rI r]):=⟨λp0 r h=>by unfold EK at h;exact sgo 10 [.tmp 2] func444⟩
instance:bK 227 (∀p0 p1 p2 r (h:Cp p0 p1 p2=some r),Sc 227 [aX (M.aLa.en p0),aS p1,aI p2] [(true,M.aLb.rs r)]):=⟨λp0 p1 p2 r h=>by unfold Cp at h;exact sgo 32 [.cell 6 107] func227⟩
instance:bK 344 (∀p0 r (h:Ab p0=some r),Sc 344 [aL enB p0] [rW 219 7 M.gN.en r.1,rB r.2]):=⟨λp0 r h=>by
 have i1:=λ(x1:(Int×Int×Bool))=>inv λm s=>∃v5:Int,∃v8:Int,∃aa:List M.gN,∃ae:Nat,(s.t 0=vL enB p0/\s.t 4=vI x1.1/\s.t 5=vI v5/\s.t 7=vR 100025 ae/\s.t 8=vI v8/\s.h 100025=(ae,oW 219 7 M.gN.en aa))/\nW p0 x1 m v5 v8 aa=some r
 have e1:=@nW.eq_2
 unfold Ab at h
 exact sgo 53 [.tmp 2,.tmp 3] func344⟩
instance:bK 459 (∀p0 p1 r (h:DN p0 p1=some r),Sc 459 [aX (M.aE.en p0),aX (M.gN.en p1)] [(true,M.aE.rs r.1),rI r.2.1,rB r.2.2]):=⟨λp0 p1 r h=>by unfold DN at h;exact sgo 97 [.cell 4 75,.tmp 5,.tmp 6] func459⟩
instance:bK 356 (∀p0 p1 r (h:BJ p0 p1=some r),Sc 356 [aX (M.aE.en p0),aL M.bR.en p1] [(true,M.aE.rs r)]):=⟨λp0 p1 r h=>by
 have i1:=G8 [.b 5 1 7050000 320 4] λm s=>∃v6:Int,∃af:ByteArray,∃ah:Int,∃aa:List M.aLo,∃ae:Nat,(s.t 1=vL M.bR.en p1/\s.t 4=vP 4 1 0/\s.t 5=vP 5 1 0/\s.t 6=vI v6/\s.h 4=(1,oB 75 [cS (⟨#[]⟩:ByteArray),.nil,cI 0])/\s.h 5=(1,oB 75 [cS af,.row 7050000 ae,cI ah])/\s.h 7050000=(ae,oW 320 4 M.aLo.en aa))/\mM p1 m v6 af ah aa=some r
 have e1:=@mM.eq_2
 unfold BJ at h
 exact sgo 29 [.cell 4 75] func356⟩
instance:bK 512 (∀p0 r (h:Gc p0=some r),Sc 512 [(false,[.ptr [.sl (List.map enB p0.b),.int .i64 p0.i,.int .i64 p0.h]])] [(false,[.edit (.lend 256 [.int .i64 r.1,.int .i64 r.2.1])]),(true,M.aJ.rs r.2.2)]):=⟨λp0 r h=>by
 unfold Gc at h
 simp only[EN]
 refine sgB 56 [.cell 2 66] func512 λbase wd B0 u0 hw0 => ?_
 refine cY (J:=λs=>s.t 0 = .v false [.bp 7059000 1 0]/\s.h 7059000=(1,.box 256 [.old B0 (.sl (List.map enB p0.b)) (some u0),.dat (.int .i64 p0.i),.dat (.int .i64 p0.h)])/\True) ?_ ?_
 ·and_intros<;>(try simp only[LN,jI,jJ])<;>rfl
 rintro s1 f2
 refine sq ?_
 refine xn ?_
 refine an (sq ?_)
 obtain⟨x4,h5,h⟩:=aA h
 refine xn1 (aKN _ _ h5) ?_
 refine an (sq (sq ?_))
 obtain⟨V1,eV1⟩:=nmH (((s1.h 3).1+1,.box 66 [.row 100006 ((s1.h 100006).1+1)]))
 obtain⟨V2,eV2⟩:=nmT (.v false [.bp 2 ((s1.h 2).1+1) 0])
 obtain⟨V3,eV3⟩:=nmT (.v false [.bp 3 ((s1.h 3).1+1) 0])
 obtain⟨V4,eV4⟩:=nmH (((s1.h 2).1+1,.box 66 [.nil]))
 obtain⟨V5,eV5⟩:=nmT (.v false [.bp 7059000 1 0])
 refine cY (J:=λs=>s.t 0=V5/\s.t 2=V2/\s.t 3=V3/\s.h 2=V4/\s.h 3=V1/\s.h 100006=((s1.h 100006).1+1,.row 277 2 (List.map M.aLi.en x4.2.2.aLW) true)/\s.h 7059000=(1,.box 256 [.old B0 (.sl (List.map enB p0.b)) (some u0),.dat (.int .i64 x4.1),.dat (.int .i64 x4.2.1)])/\True) zM ?_
 rintro s6 f7
 obtain⟨af,ar,h⟩:=aA h
 refine xn1 (c77.1 _ _ _ ar) ?_
 refine an (bk (sq ?_))
 refine cY (J:=λs=>s.t 0=V5/\s.t 2=V2/\s.t 3=V3/\s.t 8 = .v false [.dat (.int .i64 af.2.2)]/\s.h 2=V4/\s.h 3=V1/\s.h 100006=((s1.h 100006).1+1,.row 277 2 (List.map M.aLi.en x4.2.2.aLW) true)/\s.h 7059000=(1,.box 256 [.old B0 (.sl (List.map enB p0.b)) (some u0),.dat (.int .i64 af.1),.dat (.int .i64 af.2.1)])/\True) zM ?_
 rintro s16 f17
 refine xn ?_
 refine an ?_
 rcases dX (af.2.2==0)with ai | ai
 ·replace h:=bN ai h
  refine BA zM ?_
  obtain⟨bg,av,h⟩:=aA h
  obtain⟨bh,aw,h⟩:=aA h
  apply D8 mixed
  ·simp +decide only[LN,E,reduceIte,Nat.reduceAdd,Nat.reduceMul,qB,qC,L,ti3,ZF,SN,aEf,Ld,M.aLi.en,enI,EN, *,-h]
   have hc:=aDL.1 _ _ _ av
   simp only[jK,jI,jJ,M.aLi.en,enI]at hc
   refine⟨_,hc,?_⟩
   try simp +decide only[LN,E,reduceIte,Nat.reduceAdd,Nat.reduceMul,qB,qC,L,ti3,ZF,SN,aEf,Ld,M.aLi.en,enI,EN, *,-h]
   refine⟨by(have hb:=fP aw);simp[M.aLi.en,enI,qE,aP]at hb ⊢ <;> omega,?_⟩
   try simp +decide only[LN,E,reduceIte,Nat.reduceAdd,Nat.reduceMul,qB,qC,L,ti3,ZF,SN,aEf,Ld,M.aLi.en,enI,EN, *,-h]
   exact⟨.mk wM,Is.mk _⟩
  refine ab (an (sq ?_))
  refine xn ?_
  refine an (rt ?_)
  cases h
  simp[Mi,Ret,TB,EN, *]
 replace h:=bM ai h
 refine Co zM ?_
 refine sq ?_
 refine xn ?_
 refine an ?_
 rcases Dz (af.2.2==1)with aj | aj
 ·replace h:=bM aj h;refine Co zM ?_;refine sq ?_;refine xn ?_;refine an ?_;rcases Dz (af.2.2==2)with ak | ak;(replace h:=bM ak h;refine Co zM ?_;refine sk (ab (an (sq ?_)));refine xn ?_;refine an (rt ?_);cases h;simp[Mi,Ret,TB,EN, *]);replace h:=bN ak h;refine BA zM ?_;refine sq ?_;refine xn ?_;refine an (bk ?_);refine Ey (Gho.aA5 (b:=3) (c:=0) (K:=7050000) (j:=100006) zM rfl zM wh) ?_;refine Hg (λm s=>∃v4:Int,∃ae:List M.aLi,∃aa:Nat,s.t 0=V5/\s.t 2=V2/\s.t 3=V3/\s.t 4 = .v false [.dat (.int .i64 v4)]/\s.h 2=V4/\s.h 3=((s1.h 3).1+1,.box 66 [.row 7050000 aa])/\s.h 7050000=(aa,.row 277 2 (List.map M.aLi.en ae) true)/\s.h 7059000=(1,.box 256 [.old B0 (.sl (List.map enB p0.b)) (some u0),.dat (.int .i64 af.1),.dat (.int .i64 af.2.1)])/\xD af m v4 ae=some r) aH ?_ ?_;(exact⟨1,x4.2.2.aLW,(s16.h 7050000).1+1,zM⟩);rintro mL1 bj ⟨v4,ae,aa,f56,f57,f58,f59,f60,f61,f62,f63,h⟩;rcases mL1 with _ | mL1;(exact absurd h (by simp[xD]));simp only[xD]at h;refine sq (sq ?_);refine xn ?_;refine an ?_;rcases Dz (decide (v4<=4))with al | al;(replace h:=bM al h;refine Co zM ?_;refine xt (Da (CW (GI (ab (an (sq ?_))))));refine xn ?_;refine an (rt ?_);cases h;simp[Mi,Ret,TB,EN, *]);replace h:=bN al h;refine BA zM ?_;refine sk (an (sq (bk ?_)));obtain⟨ax,ay,h⟩:=aA h;refine xn1 (aEa.1 _ _ _ ay) ?_;refine ab (an ?_);refine xn ?_;exact cZ ⟨_,Gho.aA5 (b:=3) (c:=0) (K:=7050000) (j:=100052) jf rfl jf wh,mL1,wi,IntKind.i64.wrap (v4+1),ax.1.aLW,aa+1,zM⟩
 replace h:=bN aj h
 refine BA zM ?_
 refine sq ?_
 refine xn ?_
 refine an ?_
 rcases Dz (decide ((List.length x4.2.2.aLW:Int)>0))with ao | ao
 ·replace h:=bM ao h;refine Co zM ?_;refine sk (ab (an (sq ?_)));refine xn ?_;refine an (rt ?_);cases h;simp[Mi,Ret,TB,EN, *]
 replace h:=bN ao h
 refine BA zM ?_
 obtain⟨ah,az,h⟩:=aA h
 obtain⟨bl,aq,bm⟩:=nJ az
 refine UJ [0,2,3] [2,3,7059000] (i:=100006) (ver:=(s1.h 100006).1+1) (e:=277) (sz:=2) (xs:=List.map M.aLi.en x4.2.2.aLW) (j:=(0:Int).toNat) (x:=M.aLi.en ah) (off:=1) (K:=7057000) (e':=279) (sz':=7) (ys:=List.map M.aLr.en ah.aLg) zM ?_ rfl ?_ hw0.2.1 (.inr wh) hw0.2.2 wh wh wh ?_ ?_ λu => ?_
 ·rw[List.getElem?_map,aq];rfl
 ·rw[<-(eP Ld).sl];rfl
 ·simp +decide only[LC,hw0.1,LN,F,reduceIte,Nat.reduceAdd,qB,qC,EN,M.aLi.en, *,-h]
 ·simp +decide only[LC,hw0.1,LN,F,reduceIte,Nat.reduceAdd,qB,qC,EN,M.aLi.en, *,-h]
 have bn:(List.set (List.map M.aLi.en x4.2.2.aLW) (0:Int).toNat [.int .i64 ah.aLT,.val u])[(0:Int).toNat]? = some [.int .i64 ah.aLT,.val u]:=Zf (b:=M.aLi.en ah) (by rw[List.getElem?_map,aq];rfl)
 refine cY (J:=λs=>s.t 0=V5/\s.t 2=V2/\s.t 3=V3/\s.h 2=V4/\s.h 3=V1/\s.h 100006=((s1.h 100006).1+1,.row 277 2 (List.set (List.map M.aLi.en x4.2.2.aLW) (0:Int).toNat [.int .i64 ah.aLT,.val u]) true)/\s.h 7057000=((s16.h 7057000).1+1,.row 279 7 (List.map M.aLr.en ah.aLg) true)/\s.h 7058000=((s16.h 7058000).1+1,.pin 7057000 ((s16.h 7057000).1+1) u)/\s.h 7059000=(1,.box 256 [.old B0 (.sl (List.map enB p0.b)) (some u0),.dat (.int .i64 af.1),.dat (.int .i64 af.2.1)])/\True) zM ?_
 rintro bo f39
 obtain⟨bq,ba,h⟩:=aA h
 obtain⟨br,bd,h⟩:=aA h
 obtain⟨bt,bf,h⟩:=aA h
 apply D8 mixed
 ·simp +decide only[LN,E,reduceIte,Nat.reduceAdd,Nat.reduceMul,qB,qC,L,ti9,ZF,SN,XF,Up,Ld,TY,M.aLi.en,M.aLr.en,enS,EN, *,-h]
  have hc:=aEX.1 _ _ _ ba
  simp only[jK,jI,jJ,M.aLi.en,M.aLr.en,enS]at hc
  refine⟨_,hc,?_⟩
  try simp +decide only[LN,E,reduceIte,Nat.reduceAdd,Nat.reduceMul,qB,qC,L,ti9,ZF,SN,XF,Up,Ld,TY,M.aLi.en,M.aLr.en,enS,EN, *,-h]
  refine⟨_,aFI.1 _ _ bd,?_⟩
  try simp +decide only[LN,E,reduceIte,Nat.reduceAdd,Nat.reduceMul,qB,qC,L,ti9,ZF,SN,XF,Up,Ld,TY,M.aLi.en,M.aLr.en,enS,EN, *,-h]
  refine⟨by(have hb:=fP bf);simp[M.aLi.en,M.aLr.en,enS,qE,aP]at hb ⊢ <;> omega,?_⟩
  try simp +decide only[LN,E,reduceIte,Nat.reduceAdd,Nat.reduceMul,qB,qC,L,ti9,ZF,SN,XF,Up,Ld,TY,M.aLi.en,M.aLr.en,enS,EN, *,-h]
  exact⟨.mk wM,Is.mk _⟩
 refine ab (an (sq ?_))
 refine xn ?_
 refine an (rt ?_)
 cases h
 simp[Mi,Ret,TB,EN, *]⟩
instance:bK 600 (∀p0 p1 r (h:FN p0 p1=some r),Sc 600 [(false,[.ptr [.sl (List.map enB p0.b),.int .i64 p0.i,.int .i64 p0.h]]),aI p1] [(false,[.edit (.lend 256 [.int .i64 r.1,.int .i64 r.2.1])]),rW 219 7 M.gN.en r.2.2]):=⟨λp0 p1 r h=>by
 unfold FN at h
 simp only[EN]
 refine sgB 22 [.tmp 4] func600 λbase wd B0 u0 hw0=> ?_
 refine cY (J:=λs=>s.t 0=vP 7059000 1 0/\s.t 1=vI p1/\s.h 7059000=(1,oB 256 [.old B0 (.sl (List.map enB p0.b)) (some u0),cI p0.i,cI p0.h])/\True) ?_ ?_
 ·and_intros<;>(try simp only[LN,jI,jJ])<;>rfl
 rintro s1 f2
 have i1:=inv λm s=>∃v6:Int,∃r7:List M.gN,∃aa:Int,∃ae:Int,∃u7:Nat,(s.t 0=vP 7059000 1 0/\s.t 5=vR 100007 u7/\s.t 6=vI v6/\s.h 100007=(u7,oW 219 7 M.gN.en r7)/\s.h 7059000=(1,oB 256 [.old B0 (.sl (List.map enB p0.b)) (some u0),cI aa,cI ae]))/\zS p0 m v6 r7 aa ae=some r
 have e1:=@zS.eq_2
 exact sgX⟩
instance:bK 517 (∀p0 p1 r (h:dR p0 p1=some r),Sc 517 [aX (M.aLj.en p0),aX (M.bR.en p1)] [(true,M.aLj.rs r.1),rI r.2]):=⟨λp0 p1 r h=>by unfold dR at h;exact sgo 70 [.cell 4 156,.tmp 5] func517⟩
instance:bK 521 (∀p0 p1 r (h:CM p0 p1=some r),Sc 521 [aX (M.aE.en p0),aX (M.aF.en p1)] [(true,M.aE.rs r.1),(true,M.bD.rs r.2.1),rB r.2.2]):=⟨λp0 p1 r h=>by unfold CM at h;exact sgo 34 [.cell 4 75,.cell 5 216,.tmp 6] func521⟩
instance:bK 573 (∀p0 r (h:En p0=some r),Sc 573 [(false,[.ptr [.sl (List.map enB p0.b),.int .i64 p0.i,.int .i64 p0.h]])] [(false,[.edit (.lend 256 [.int .i64 r.1,.int .i64 r.2.1])]),(true,M.aN.rs r.2.2)]):=⟨λp0 r h=>by
 unfold En at h
 simp only[EN]
 refine sgB 58 [.cell 2 78] func573 λbase wd B0 u0 hw0=> ?_
 refine cY (J:=λs=>s.t 0=vP 7059000 1 0/\s.h 7059000=(1,oB 256 [.old B0 (.sl (List.map enB p0.b)) (some u0),cI p0.i,cI p0.h])/\True) ?_ ?_
 ·and_intros<;>(try simp only[LN,jI,jJ])<;>rfl
 rintro s1 f2
 have i1:=G8 [.b 3 2 7050000 269 7] λm s=>∃ai:Int,∃aj:Int,∃aa:Int,∃ae:Int,∃af:List M.bR,∃ah:Nat,(s.t 0=vP 7059000 1 0/\s.t 2=vP 2 ((s1.h 2).1+1) 0/\s.t 3=vP 3 ((s1.h 3).1+1) 0/\s.h 2=((s1.h 2).1+1,oB 78 [cI 0,cI 0,.nil])/\s.h 3=((s1.h 3).1+1,oB 78 [cI ai,cI aj,.row 7050000 ah])/\s.h 7050000=(ah,oW 269 7 M.bR.en af)/\s.h 7059000=(1,oB 256 [.old B0 (.sl (List.map enB p0.b)) (some u0),cI aa,cI ae]))/\AB p0 m ai aj aa ae af=some r
 have e1:=@AB.eq_2
 exact sgX⟩
instance:bK 429 (∀p0 r (h:DU p0=some r),Sc 429 [(false,[.ptr [.sl (List.map enB p0.b),.int .i64 p0.i,.int .i64 p0.h]])] [(false,[.edit (.lend 256 [.int .i64 r.1,.int .i64 r.2.1])]),(true,M.bO.rs r.2.2)]):=⟨λp0 r h=>by
 unfold DU at h
 simp only[EN]
 refine sgB 46 [.cell 2 91] func429 λbase wd B0 u0 hw0 => ?_
 refine cY (J:=λs=>s.t 0=vP 7059000 1 0/\s.h 7059000=(1,oB 256 [.old B0 (.sl (List.map enB p0.b)) (some u0),cI p0.i,cI p0.h])/\True) ?_ ?_
 ·and_intros<;>(try simp only[LN,jI,jJ])<;>rfl
 rintro s1 f2
 refine sq (rn ?_)
 refine an (sq ?_)
 obtain⟨x4,h5,h⟩:=aA h
 refine rn1 (aDI.1 _ _ h5) ?_
 refine an (sq ?_)
 obtain⟨V4,eV4⟩:=nmH (((s1.h 2).1+1,aFA))
 obtain⟨V6,eV6⟩:=nmT (vP 2 ((s1.h 2).1+1) 0)
 obtain⟨V7,eV7⟩:=nmT (vP 7059000 1 0)
 refine cu (λs=>s.t 0=V7/\s.t 2=V6/\s.t 3=vS x4.2.2/\s.h 2=V4/\s.h 7059000=(1,oB 256 [.old B0 (.sl (List.map enB p0.b)) (some u0),cI x4.1,cI x4.2.1])/\True) ?_
 rintro s6 f7
 refine rn ?_
 refine an ?_
 obtain⟨bm,bn,h⟩:=aA h
 refine tV (λs=>s.t 0=V7/\s.t 2=V6/\s.t 3=vS x4.2.2/\s.t 4=vS bm.1/\s.h 2=V4/\s.h 7059000=(1,oB 256 [.old B0 (.sl (List.map enB p0.b)) (some u0),cI bm.2.1,cI bm.2.2])/\True) ?_ ?_
 ·replace h:=bn;clear bn;refine sq ?_;obtain⟨bj,bw,h⟩:=aA h;refine rn1 (c76.1 _ _ _ bw) ?_;refine an ?_;refine cu (λs=>s.t 0=V7/\s.t 2=V6/\s.t 3=vS x4.2.2/\s.t 4=vS x4.2.2/\s.t 12=vB bj.2.2/\s.h 2=V4/\s.h 7059000=(1,oB 256 [.old B0 (.sl (List.map enB p0.b)) (some u0),cI bj.1,cI bj.2.1])/\True) ?_;rintro cn f24;rcases Dz bj.2.2 with bo | bo;(replace h:=bM bo h;refine cf (sk ?_);cases h;exact cZ zM);replace h:=bN bo h;refine ct ?_;obtain⟨cp,bx,h⟩:=aA h;refine rn1 (aDI.1 _ _ bx) ?_;cases h;exact cZ zM
 clear bn
 rintro av f15
 refine sq ?_
 obtain⟨cq,bz,h⟩:=aA h
 obtain⟨cr,ca,h⟩:=aA h
 obtain⟨bu,cc,h⟩:=aA h
 obtain⟨af,cd,h⟩:=aA h
 refine rn4 (c77.1 _ _ _ bz) (c77.1 _ _ _ ca) (aE8.1 _ _ cc) (aFN.1 _ _ _ _ _ _ cd) ?_
 refine an (sq (sq ?_))
 obtain⟨V1,eV1⟩:=nmH (((av.h 600026).1+1,oW 197 4 M.aZ.en af.1.aLX.aLz))
 obtain⟨V2,eV2⟩:=nmH (((av.h 500026).1+1,oW 204 2 M.aW.en af.1.aW))
 obtain⟨V3,eV3⟩:=nmH (((av.h 800026).1+1,oW 3 1 enI af.1.aLX.aMC))
 obtain⟨V5,eV5⟩:=nmT (vP 5 ((av.h 5).1+1) 0)
 refine cu (λs=>s.t 0=V7/\s.t 2=V6/\s.t 5=V5/\s.h 2=V4/\s.h 5=((av.h 5).1+1,oB 91 [cI af.1.Id,cS af.1.aLa,cS af.1.Top,cI af.1.aLT,.row 500026 ((av.h 500026).1+1),.row 600026 ((av.h 600026).1+1),cI af.1.aLX.Pc,.row 800026 ((av.h 800026).1+1),cI af.1.aLX.aME,cB af.1.aLX.aMJ,cB af.1.aLX.aMI])/\s.h 500026=V2/\s.h 600026=V1/\s.h 800026=V3/\s.h 7059000=(1,oB 256 [.old B0 (.sl (List.map enB p0.b)) (some u0),cI bu.1,cI bu.2.1])/\True) ?_
 rintro cg f43
 obtain⟨bg,cj,h⟩:=aA h
 refine rn1 (c77.1 _ _ _ cj) ?_
 refine an (bk ?_)
 refine cu (λs=>s.h 5=cg.h 5/\s.t 0=V7/\s.t 2=V6/\s.t 5=V5/\s.t 7=vI bg.2.2/\s.h 2=V4/\s.h 500026=V2/\s.h 600026=V1/\s.h 800026=V3/\s.h 7059000=(1,oB 256 [.old B0 (.sl (List.map enB p0.b)) (some u0),cI bg.1,cI bg.2.1])/\True) ?_
 rintro bq ⟨f60,f55⟩
 replace f60:=f60.trans f43.2.2.2.2.1
 refine Ey (Gho.trans (Gho.trans (ghB 5 4 7050000 500026) (ghB 5 5 7050001 600026)) (ghB 5 7 7050002 800026)) ?_
 refine Hg (λm s=>∃v7:Int,∃aw:Int,∃ax:ByteArray,∃ay:ByteArray,∃az:Int,∃ba:Int,∃bd:Int,∃bf:Bool,∃ar:Bool,∃aa:Int,∃ae:Int,∃ai:List M.aW,∃aj:List M.aZ,∃ak:List Int,∃al:Nat,∃ao:Nat,∃aq:Nat,s.t 0=V7/\s.t 2=V6/\s.t 5=V5/\s.t 7=vI v7/\s.h 2=V4/\s.h 5=((av.h 5).1+1,oB 91 [cI aw,cS ax,cS ay,cI az,.row 7050000 al,.row 7050001 ao,cI ba,.row 7050002 aq,cI bd,cB bf,cB ar])/\s.h 7050000=(al,oW 204 2 M.aW.en ai)/\s.h 7050001=(ao,oW 197 4 M.aZ.en aj)/\s.h 7050002=(aq,oW 3 1 enI ak)/\s.h 7059000=(1,oB 256 [.old B0 (.sl (List.map enB p0.b)) (some u0),cI aa,cI ae])/\tN p0 m v7 aw ax ay az ba bd bf ar aa ae ai aj ak=some r) aH ?_ ?_
 ·exact⟨bg.2.2,af.1.Id,af.1.aLa,af.1.Top,af.1.aLT,af.1.aLX.Pc,af.1.aLX.aME,af.1.aLX.aMJ,af.1.aLX.aMI,bg.1,bg.2.1,af.1.aW,af.1.aLX.aLz,af.1.aLX.aMC,(bq.h 7050000).1+1,(bq.h 7050001).1+1,(bq.h 7050002).1+1,zM⟩
 rintro mL1 bh ⟨v7,aw,ax,ay,az,ba,bd,bf,ar,aa,ae,ai,aj,ak,al,ao,aq,f66,f67,f68,f69,f70,f71,f72,f73,f74,f75,h⟩
 rcases mL1 with _ | mL1
 ·exact absurd h (by simp[tN])
 simp only[tN]at h
 refine sq (sq (rn ?_))
 refine an ?_
 rcases Dz (decide (v7>0))with br | br
 ·replace h:=bM br h;refine cf (xt (Da (CW (GI (an (sq (rn ?_)))))));refine an (rt ?_);cases h;simp[Mi,Ret,TB,EN, *]
 replace h:=bN br h
 refine ct (sk (an (sq (bk ?_))))
 obtain⟨bl,ck,h⟩:=aA h
 obtain⟨ah,cl,h⟩:=aA h
 refine rd2 mixed (aFw.1 _ _ ck) (c33.1 _ _ _ _ cl) ?_
 refine ab (an ?_)
 refine cu (λs=>s.t 0=V7/\s.t 2=V6/\s.t 5=V5/\s.t 7=vI v7/\s.h 2=V4/\s.h 5=((av.h 5).1+1,oB 91 [cI ah.1.Id,cS ah.1.aLa,cS ah.1.Top,cI ah.1.aLT,.row 500042 ((bh.h 500042).1+1),.row 600042 ((bh.h 600042).1+1),cI ah.1.aLX.Pc,.row 800042 ((bh.h 800042).1+1),cI ah.1.aLX.aME,cB ah.1.aLX.aMJ,cB ah.1.aLX.aMI])/\s.h 500042=((bh.h 500042).1+1,oW 204 2 M.aW.en ah.1.aW)/\s.h 600042=((bh.h 600042).1+1,oW 197 4 M.aZ.en ah.1.aLX.aLz)/\s.h 800042=((bh.h 800042).1+1,oW 3 1 enI ah.1.aLX.aMC)/\s.h 7059000=(1,oB 256 [.old B0 (.sl (List.map enB p0.b)) (some u0),cI bl.1,cI bl.2.1])/\True) ?_
 rintro bt f82
 refine rn ?_
 exact cZ ⟨_,Gho.trans (Gho.trans (ghB 5 4 7050000 500042) (ghB 5 5 7050001 600042)) (ghB 5 7 7050002 800042),mL1,wi,IntKind.i64.wrap (v7-1),ah.1.Id,ah.1.aLa,ah.1.Top,ah.1.aLT,ah.1.aLX.Pc,ah.1.aLX.aME,ah.1.aLX.aMJ,ah.1.aLX.aMI,bl.1,bl.2.1,ah.1.aW,ah.1.aLX.aLz,ah.1.aLX.aMC,(bt.h 7050000).1+1,(bt.h 7050001).1+1,(bt.h 7050002).1+1,zM⟩⟩
instance:bK 433 (∀p0 r (h:CQ p0=some r),Sc 433 [(false,[.ptr [.sl (List.map enB p0.b),.int .i64 p0.i,.int .i64 p0.h]])] [(false,[.edit (.lend 256 [.int .i64 r.1,.int .i64 r.2.1])]),(true,M.bR.rs r.2.2)]):=⟨λp0 r h=>by
 unfold CQ at h
 simp only[EN]
 refine sgB 46 [.cell 2 269] func433 λbase wd B0 u0 hw0=> ?_
 refine cY (J:=λs=>s.t 0=vP 7059000 1 0/\s.h 7059000=(1,oB 256 [.old B0 (.sl (List.map enB p0.b)) (some u0),cI p0.i,cI p0.h])/\True) ?_ ?_
 ·and_intros<;>(try simp only[LN,jI,jJ])<;>rfl
 rintro s1 f2
 exact sgX⟩
