/-
  Helper text. No conditions.
-/
import Derived.Test.YtjlnkcoeghonfaaGreatRunningPagesWspec3
import Derived.Test.YtjlnkcoeghonfaaGreatRunningPagesWspec4
set_option linter.all false
namespace Go.Proofs.YtjlnkcoeghonfaaGreat.gen
open Go Go.Sh Tryz
set_option maxRecDepth 20000
set_option maxHeartbeats 4000000
instance:bK 109 (∀p0 r (h:iY p0=some r),Sc 109 [aX (M.aLj.en p0)] [(true,M.aLj.rs r)]):=⟨λp0 r h=>by unfold iY at h;exact sgo 15 [.cell 2 156] func109⟩
instance aBV:bK 320 (∀p0 r (h:dA p0=some r),Sc 320 [aX (M.aJ.en p0)] [rB r]):=⟨λp0 r h=>by
 have i1:=inv λm s=>∃v3:Int,(s.t 1=vP 1 1 0/\s.t 3=vI v3/\s.h 1=(1,oX 66 (M.aJ.en p0)))/\fX p0 m v3=some r
 have e1:=@fX.eq_2
 unfold dA at h
 exact sgo 53 [.tmp 2] func320⟩
instance:bK 424 (∀p0 r (h:CA p0=some r),Sc 424 [(false,[.ptr [.sl (List.map enB p0.b),.int .i64 p0.i,.int .i64 p0.h]])] [(false,[.edit (.lend 256 [.int .i64 r.1,.int .i64 r.2.1])]),rS r.2.2]):=⟨λp0 r h=>by
 unfold CA at h
 simp only[EN]
 refine sgB 6 [.tmp 2] func424 λbase wd B0 u0 hw0=> ?_
 refine cY (J:=λs=>s.t 0=vP 7059000 1 0/\s.h 7059000=(1,oB 256 [.old B0 (.sl (List.map enB p0.b)) (some u0),cI p0.i,cI p0.h])/\True) ?_ ?_
 ·and_intros<;>(try simp only[LN,jI,jJ])<;>rfl
 rintro s1 f2
 exact sgX⟩
instance c33:bK 33 (∀p0 p1 p2 r (h:kZ p0 p1 p2=some r),Sc 33 [aX (M.bO.en p0),aS p1,aX (M.aLb.en p2)] [(true,M.bO.rs r.1),rB r.2]):=⟨λp0 p1 p2 r h=>by unfold kZ at h;exact sgo 43 [.cell 6 91,.tmp 7] func33⟩
instance aEa:bK 511 (∀p0 p1 r (h:sD p0 p1=some r),Sc 511 [aX (M.aJ.en p0),aI p1] [(true,M.aJ.rs r.1),rB r.2]):=⟨λp0 p1 r h=>by
 have i1:=λ(x1:M.aJ)=>inv λm s=>∃v7:Int,(s.t 1=vI p1/\s.t 2=vP 2 1 0/\s.t 4=vP 4 1 0/\s.t 6=vP 6 1 0/\s.t 7=vI v7/\s.h 2=(1,oX 66 (M.aJ.en p0))/\s.h 4=(1,oB 66 [.nil])/\s.h 6=(1,oB 66 [.row 100010 1])/\s.h 100010=(1,oW 277 2 M.aLi.en x1.aLW))/\oF p0 p1 x1 m v7=some r
 have e1:=@oF.eq_2
 unfold sD at h
 exact sgo 57 [.cell 4 66,.tmp 5] func511⟩
instance:bK 597 (∀p0 p1 p2 p3 p4 r (h:rM p0 p1 p2 p3 p4=some r),Sc 597 [aX (M.aJ.en p0),aI p1,aS p2,aS p3,aX (M.aLb.en p4)] [(true,M.aJ.rs r.1),rB r.2]):=⟨λp0 p1 p2 p3 p4 r h=>by
 unfold rM at h
 simp only[EN]
 refine sgO 73 [.cell 10 66,.tmp 11] func597 λbase wd => ?_
 refine sq ?_
 refine xn ?_
 refine an (sq ?_)
 obtain⟨x1,h2,h⟩:=aA h
 refine xn1 (aCG.1 _ _ h2) ?_
 refine an (sq ?_)
 obtain⟨x3,h4,h⟩:=aA h
 refine xn1 (aE3.1 _ _ _ h4) ?_
 refine an (sq (sq ?_))
 refine xn ?_
 refine an ?_
 rcases dX (decide (x3<0))with b5 | b5
 ·replace h:=bN b5 h;refine BA zM ?_;refine sq ?_;refine xn ?_;refine an (rt ?_);cases h;simp[Ret,EN,SN,M.aLi.en,b5]
 replace h:=bM b5 h
 refine Co zM ?_
 refine sk (an (sq ?_))
 obtain⟨x6,h7,h⟩:=aA h
 refine xn1 (aFg.1 _ _ h7) ?_
 refine an (sq (sq ?_))
 obtain⟨x8,h9,h⟩:=aA h
 obtain⟨bm,aa,bn⟩:=nJ h9
 obtain⟨ae,aq,h⟩:=aA h
 refine xn1 (aFT.1 _ _ _ _ aq) ?_
 refine an (sq ?_)
 refine xn ?_
 refine an ?_
 obtain⟨V1,eV1⟩:=nmH ((1,.box 279 [.dat (.str p2),.dat (.str p3),.dat (.int .i64 x6.aMM),.dat (.int .i64 x6.aMD),.dat (.int .i64 x6.aLT),.row 400027 1,.dat (.bool x6.aMP)]))
 obtain⟨V2,eV2⟩:=nmH ((1,.box 66 [.old base (.sl (List.map M.aLi.en p0.aLW)) none]))
 obtain⟨V3,eV3⟩:=nmH ((1,.row 279 7 (List.map M.aLr.en x8.aLg) true))
 obtain⟨V4,eV4⟩:=nmH ((1,.row 5 1 (List.map enB x6.aMN) true))
 obtain⟨V5,eV5⟩:=nmH ((1,.box 66 [.row 100017 1]))
 obtain⟨V6,eV6⟩:=nmT (.v false [.bp 10 1 0])
 obtain⟨V7,eV7⟩:=nmT (.v false [.bp 12 1 0])
 obtain⟨V8,eV8⟩:=nmT (.v false [.bp 5 1 0])
 obtain⟨V9,eV9⟩:=nmH ((1,.box 66 [.nil]))
 rcases Dz (decide (ae>=0))with af | af
 ·replace h:=bM af h
  refine Co zM ?_
  refine UJ [5,10,12,13,14] [5,10,12,14,400027] (i:=100017) (ver:=1) (e:=277) (sz:=2) (xs:=List.map M.aLi.en x1.aLW) (j:=x3.toNat) (x:=M.aLi.en x8) (off:=1) (K:=7057000) (e':=279) (sz':=7) (ys:=List.map M.aLr.en x8.aLg) zM ?_ rfl ?_ rfl (.inl rfl) (λ_ h=>h.elim) wh wh wh ?_ ?_ λu => ?_
  ·rw[List.getElem?_map,aa];rfl
  ·rw[<-(eP Ld).sl];rfl
  ·simp +decide only[LC,LN,F,reduceIte,Nat.reduceAdd,qB,qC,EN,M.aLi.en,enB, *,-h]
  ·simp +decide only[LC,LN,F,reduceIte,Nat.reduceAdd,qB,qC,EN,M.aLi.en,enB, *,-h]
  have bo:(List.set (List.map M.aLi.en x1.aLW) x3.toNat [.int .i64 x8.aLT,.val u])[x3.toNat]? = some [.int .i64 x8.aLT,.val u]:=Zf (b:=M.aLi.en x8) (by rw[List.getElem?_map,aa];rfl)
  refine cY (J:=λs=>s.t 5=V8/\s.t 10=V6/\s.t 12=V7/\s.t 13 = .v false [.dat (.int .i64 x3)]/\s.t 14 = .v false [.bp 14 1 0]/\s.h 5=V2/\s.h 10=V9/\s.h 12=V5/\s.h 14=V1/\s.h 100017=(1,.row 277 2 (List.set (List.map M.aLi.en x1.aLW) x3.toNat [.int .i64 x8.aLT,.val u]) true)/\s.h 400027=V4/\s.h 7057000=V3/\s.h 7058000=(1,.pin 7057000 1 u)/\True) zM ?_
  rintro bq f57
  obtain⟨br,ar,h⟩:=aA h
  apply D8 mixed
  ·simp +decide only[LN,E,reduceIte,Nat.reduceAdd,Nat.reduceMul,qB,qC,L,ZF,SN,Up,Ld,TY,M.aLi.en,M.aLr.en,EN, *,-h]
   refine⟨by(have hb:=fP ar);simp[M.aLi.en,M.aLr.en,qE,aP]at hb ⊢ <;> omega,?_⟩
   try simp +decide only[LN,E,reduceIte,Nat.reduceAdd,Nat.reduceMul,qB,qC,L,ZF,SN,Up,Ld,TY,M.aLi.en,M.aLr.en,EN, *,-h]
   exact⟨.mk wM,Is.mk _⟩
  refine an (sq (sq ?_))
  refine cY (J:=λs=>s.t 5=V8/\s.t 10=V6/\s.t 12=V7/\s.h 5=V2/\s.h 10=V9/\s.h 12=V5/\s.h 100017=(1,.row 277 2 (List.map M.aLi.en (List.set x1.aLW x3.toNat (⟨x8.aLT,x8.aLg++[(⟨p2,p3,x6⟩:M.aLr)]⟩:M.aLi))) true)/\True) zM ?_
  rintro bt f73
  obtain⟨av,al,h⟩:=aA h
  rcases dX (!av)with ah | ah
  ·replace h:=bN ah h;refine xn1 (aBV.1 _ _ al) ?_;refine an ?_;refine BA zM ?_;refine sq ?_;obtain⟨bu,aw,h⟩:=aA h;refine xn1 (aCG.1 _ _ aw) ?_;refine an (rt ?_);cases h;simp[Ret,EN,SN,M.aLi.en, *]
  replace h:=bM ah h
  obtain⟨ax,ay,h⟩:=aA h
  refine xn2 (aBV.1 _ _ al) (aBV.1 _ _ ay) ?_
  refine an ?_
  rcases Dz (!ax)with ai | ai
  ·replace h:=bM ai h;refine Co zM ?_;refine sk (an (sq ?_));refine xn ?_;refine an (rt ?_);cases h;simp[Ret,EN,SN,M.aLi.en, *]
  replace h:=bN ai h
  refine BA zM ?_
  refine sq ?_
  obtain⟨bw,az,h⟩:=aA h
  refine xn1 (aCG.1 _ _ az) ?_
  refine an (rt ?_)
  cases h
  simp[Ret,EN,SN,M.aLi.en, *]
 replace h:=bN af h
 refine BA zM ?_
 refine UJ [5,10,12,13,14,15] [5,10,12,14,400027] (i:=100017) (ver:=1) (e:=277) (sz:=2) (xs:=List.map M.aLi.en x1.aLW) (j:=x3.toNat) (x:=M.aLi.en x8) (off:=1) (K:=7057000) (e':=279) (sz':=7) (ys:=List.map M.aLr.en x8.aLg) zM ?_ rfl ?_ rfl (.inl rfl) (λ_ h=>h.elim) wh wh wh ?_ ?_ λu => ?_
 ·rw[List.getElem?_map,aa];rfl
 ·rw[<-(eP Ld).sl];rfl
 ·simp +decide only[LC,LN,F,reduceIte,Nat.reduceAdd,qB,qC,EN,M.aLi.en,enB, *,-h]
 ·simp +decide only[LC,LN,F,reduceIte,Nat.reduceAdd,qB,qC,EN,M.aLi.en,enB, *,-h]
 have ba:(List.set (List.map M.aLi.en x1.aLW) x3.toNat [.int .i64 x8.aLT,.val u])[x3.toNat]? = some [.int .i64 x8.aLT,.val u]:=Zf (b:=M.aLi.en x8) (by rw[List.getElem?_map,aa];rfl)
 refine cY (J:=λs=>s.t 5=V8/\s.t 10=V6/\s.t 12=V7/\s.t 13 = .v false [.dat (.int .i64 x3)]/\s.t 14 = .v false [.bp 14 1 0]/\s.t 15 = .v false [.dat (.int .i64 ae)]/\s.h 5=V2/\s.h 10=V9/\s.h 12=V5/\s.h 14=V1/\s.h 100017=(1,.row 277 2 (List.set (List.map M.aLi.en x1.aLW) x3.toNat [.int .i64 x8.aLT,.val u]) true)/\s.h 400027=V4/\s.h 7057000=V3/\s.h 7058000=(1,.pin 7057000 1 u)/\True) zM ?_
 rintro s16 f18
 obtain⟨bx,bd,h⟩:=aA h
 obtain⟨bz,ca,cc⟩:=nJ bd
 refine xd mixed ?_
 refine an ?_
 refine Ey (Gho.close (i:=100017) (ver:=1) (e:=277) (sz:=2) (xs:=List.set (List.map M.aLi.en x1.aLW) x3.toNat [.int .i64 x8.aLT,.val u]) (j:=x3.toNat) (x:=[.int .i64 x8.aLT,.val u]) (off:=1) (K:=7057000) (vK:=1) (e':=279) (sz':=7) (ys:=List.map M.aLr.en (List.set x8.aLg ae.toNat (⟨p2,p3,x6⟩:M.aLr))) (u:=u) zM ba rfl zM zM (by rw[<-(eP Ld).sl];rfl) rfl wh) ?_
 refine sq (sq ?_)
 refine cY (J:=λs=>s.t 5=V8/\s.t 10=V6/\s.t 12=V7/\s.h 5=V2/\s.h 10=V9/\s.h 12=V5/\s.h 100017=(1,.row 277 2 (List.map M.aLi.en (List.set x1.aLW x3.toNat (⟨x8.aLT,List.set x8.aLg ae.toNat (⟨p2,p3,x6⟩:M.aLr)⟩:M.aLi))) true)/\True) zM ?_
 rintro cd f38
 obtain⟨bf,ao,h⟩:=aA h
 rcases dX (!bf)with aj | aj
 ·replace h:=bN aj h;refine xn1 (aBV.1 _ _ ao) ?_;refine an ?_;refine BA zM ?_;refine sq ?_;obtain⟨cg,bg,h⟩:=aA h;refine xn1 (aCG.1 _ _ bg) ?_;refine an (rt ?_);cases h;simp[Ret,EN,SN,M.aLi.en, *]
 replace h:=bM aj h
 obtain⟨bh,bj,h⟩:=aA h
 refine xn2 (aBV.1 _ _ ao) (aBV.1 _ _ bj) ?_
 refine an ?_
 rcases Dz (!bh)with ak | ak
 ·replace h:=bM ak h;refine Co zM ?_;refine sk (an (sq ?_));refine xn ?_;refine an (rt ?_);cases h;simp[Ret,EN,SN,M.aLi.en, *]
 replace h:=bN ak h
 refine BA zM ?_
 refine sq ?_
 obtain⟨cj,bl,h⟩:=aA h
 refine xn1 (aCG.1 _ _ bl) ?_
 refine an (rt ?_)
 cases h
 simp[Ret,EN,SN,M.aLi.en, *]⟩
