/-
  Helper text. No conditions.
-/
import Derived.Test.YtjlnkcoeghonfaaGreatRunningPagesWimpl7
set_option linter.all false
namespace Go.Proofs.YtjlnkcoeghonfaaGreat.gen
open Go Go.Sh Tryz
set_option maxRecDepth 20000
set_option maxHeartbeats 4000000
instance:bK 253 (∀p0 r (h:eZ p0=some r),Sc 253 [aX (M.Bucket.en p0)] [(true,M.Bucket.rs r)]):=⟨λp0 r h=>by unfold eZ at h;exact sgo 16 [.cell 2 84] func253⟩
instance:bK 471 (∀p0 p1 r (h:mQ p0 p1=some r),Sc 471 [aX (M.aE.en p0),aS p1] [(true,M.bD.rs r.1),(true,M.bD.rs r.2.1),rB r.2.2]):=⟨λp0 p1 r h=>by
 have i1:=λ(x1:(List M.aLo))=>inv λm s=>∃v8:Int,(s.t 1=vS p1/\s.t 4=vP 4 1 0/\s.t 5=vP 5 1 0/\s.t 7=vR 100015 1/\s.t 8=vI v8/\s.h 4=(1,oB 216 [cI 0,cI 0,cS (⟨#[]⟩:ByteArray)])/\s.h 5=(1,oB 216 [cI 0,cI 0,cS (⟨#[]⟩:ByteArray)])/\s.h 100015=(1,oW 320 4 M.aLo.en x1))/\hH p1 x1 m v8=some r
 have e1:=@hH.eq_2
 unfold mQ at h
 exact sgo 59 [.cell 4 216,.cell 5 216,.tmp 6] func471⟩
instance:bK 285 (∀p0 r (h:Az p0=some r),Sc 285 [aX (M.aG.en p0)] [rB r]):=⟨λp0 r h=>by unfold Az at h;exact sgo 23 [.tmp 2] func285⟩
instance:bK 474 (∀p0 r (h:Am p0=some r),Sc 474 [aX (M.aE.en p0)] [rI r]):=⟨λp0 r h=>by
 have i1:=inv λm s=>∃v3:Int,∃v9:Int,(s.t 3=vI v3/\s.t 7=vL M.aLo.en p0.aLV/\s.t 8=vI (List.length p0.aLV:Int)/\s.t 9=vI v9)/\nM p0 m v3 v9=some r
 have e1:=@nM.eq_2
 unfold Am at h
 exact sgo 26 [.tmp 2] func474⟩
instance:bK 148 (∀p0 r (h:C1 p0=some r),Sc 148 [aX (M.aLj.en p0)] [rB r]):=⟨λp0 r h=>by
 have i1:=inv λm s=>∃v10:Int,(s.t 1=vP 1 1 0/\s.t 8=vL M.aQ.en p0.aQ/\s.t 9=vI (List.length p0.aQ:Int)/\s.t 10=vI v10/\s.h 1=(1,oX 156 (M.aLj.en p0)))/\kN p0 m v10=some r
 have e1:=@kN.eq_2
 have i2:=inv λm s=>∃aa:Int,(s.t 1=vP 1 1 0/\s.t 43=vL M.bR.en p0.aLv/\s.t 44=vI (List.length p0.aLv:Int)/\s.t 45=vI aa/\s.h 1=(1,oX 156 (M.aLj.en p0)))/\mP p0 m aa=some r
 have e2:=@mP.eq_2
 unfold C1 at h
 exact sgo 68 [.tmp 2] func148⟩
instance:bK 381 (∀p0 p1 p2 r (h:EJ p0 p1 p2=some r),Sc 381 [aX (M.aLa.en p0),aS p1,aI p2] [rW 5 1 enB r]):=⟨λp0 p1 p2 r h=>by
 have i1:=λ(x5:Int)=>inv λm s=>∃v9:Int,∃aa:List Int,∃ae:Nat,(s.t 7=vI x5/\s.t 8=vR 100019 ae/\s.t 9=vI v9/\s.h 100019=(ae,oW 5 1 enB aa))/\gK x5 m v9 aa=some r
 have e1:=@gK.eq_2
 unfold EJ at h
 exact sgo 33 [.tmp 6] func381⟩
theorem aKf(p0 r)(h:sY p0=some r):Sc 386 [aL enB p0] [(true,M.aF.rs r.1),rB r.2]:=by
 have i1:=λ(x1:(Int×Int×Bool))=>G8 [.b 7 0 7050000 322 2] λm s=>∃I:Int,∃J:Int,∃j:List M.aR,∃C:Nat,(s.t 0=vL enB p0/\s.t 2=vP 2 1 0/\s.t 4=vI x1.1/\s.t 5=vI I/\s.t 7=vP 7 1 0/\s.t 8=vI J/\s.h 2=(1,oB 207 [.nil])/\s.h 7=(1,oB 207 [.row 7050000 C])/\s.h 7050000=(C,oW 322 2 M.aR.en j))/\kH p0 x1 m I J j=some r
 have e1:=@kH.eq_2
 unfold sY at h
 exact sgo 72 [.cell 2 207,.tmp 3] func386
theorem aKR(p0 r)(h:Er p0=some r):Sc 398 [aL M.gN.en p0] [rB r]:=by
 have i1:=inv λm s=>∃j:Int,(s.t 0=vL M.gN.en p0/\s.t 5=vL M.gN.en p0/\s.t 6=vI (List.length p0:Int)/\s.t 7=vI j)/\At p0 m j=some r
 have e1:=@At.eq_2
 unfold Er at h
 exact sgo 18 [.tmp 2] func398
instance aDy:bK 408 (∀p0 p1 p2 r (h:lQ p0 p1 p2=some r),Sc 408 [aX (M.aE.en p0),aX (M.bD.en p1),aX (M.aF.en p2)] [(true,M.aE.rs r.1),rB r.2]):=⟨λp0 p1 p2 r h=>by
 have i1:=λ(aa:M.aE)=>inv λm s=>∃v10:Int,(s.t 3=vP 3 1 0/\s.t 4=vP 4 1 0/\s.t 5=vP 5 1 0/\s.t 6=vP 6 1 0/\s.t 8=vP 8 1 0/\s.t 10=vI v10/\s.h 3=(1,oX 75 (M.aE.en p0))/\s.h 4=(1,oX 216 (M.bD.en p1))/\s.h 5=(1,oX 207 (M.aF.en p2))/\s.h 6=(1,oB 75 [cS (⟨#[]⟩:ByteArray),.nil,cI 0])/\s.h 8=(1,oB 75 [cS aa.Name,.row 200022 1,cI aa.aLx])/\s.h 200022=(1,oW 320 4 M.aLo.en aa.aLV))/\sX p0 p1 p2 aa m v10=some r
 have e1:=@sX.eq_2
 unfold lQ at h
 exact sgo 87 [.cell 6 75,.tmp 7] func408⟩
theorem aHD(p0 p1 r)(h:vA p0 p1=some r):Sc 555 [aX (M.aE.en p0),aX (M.gE.en p1)] [(true,M.aE.ra r.1),rI r.2]:=by
 unfold vA at h
 simp only[EN]
 refine sgn 26 [.cell 4 75,.tmp 5] func555 λbase wd => ?_
 refine sq ?_
 refine xn ?_
 refine an (sq ?_)
 obtain⟨x1,h2,h⟩:=aA h
 refine xn1 (aFl.1 _ _ h2) ?_
 refine an (sq (sq ?_))
 obtain⟨x3,h4,h⟩:=aA h
 refine xn1 (aFq.1 _ _ h4) ?_
 refine an ?_
 rcases dX (!x3)with b5 | b5
 ·replace h:=bN b5 h;refine BA zM ?_;refine sq ?_;refine xn ?_;refine an (frb 4 1 200008 ?_);refine rt ?_;cases h;simp[Ret,LN,LI,EN,WW,M.aLo.en,b5]
 replace h:=bM b5 h
 refine Co zM ?_
 refine sk (an (sq ?_))
 apply Sd (n:=3) (f:=588) (d:=16) (N':=42) (vars:=[.tmp 4]) rfl rfl rfl rfl wh func588 rfl rfl rfl wM wh
 ·simp +decide only[LN,LI,E,reduceIte,Nat.reduceAdd,Nat.reduceMul,qB,qC,L,ZN,WW,EN,b5];exact Is.mk _
 intro fv
 refine Ey (Gho.shallow (i:=200008) (ver:=1) (e:=320) (sz:=4) (xs:=List.map M.aLo.en x1.aLV) zM) ?_
 obtain⟨V1,eV1⟩:=nmH ((1,oB 75 [cS x1.Name,.row 200008 1,cI x1.aLx]))
 obtain⟨V2,eV2⟩:=nmH ((1,oB 75 [cS (⟨#[]⟩:ByteArray),.nil,cI 0]))
 obtain⟨V3,eV3⟩:=nmT (.v false [.clo 589 [(3,1,0)]])
 obtain⟨V4,eV4⟩:=nmH ((1,oX 550 (M.gE.en p1)))
 obtain⟨V5,eV5⟩:=nmH ((1,oX 75 (M.aE.en p0)))
 refine cY (J:=λs=>s.t 0=vR 200008 1/\s.t 1=V3/\s.fr 2=vP 2 1 0/\s.fr 4=vP 4 1 0/\s.fr 6=vP 6 1 0/\s.h 2=V5/\s.h 3=V4/\s.h 4=V2/\s.h 6=V1/\s.h 200008=(1,.row 320 4 (List.map M.aLo.en x1.aLV) false)/\True) zM ?_
 rintro s6 f7
 refine sq ?_
 refine xn ?_
 refine an (sq ?_)
 obtain⟨af,ak,h⟩:=aA h
 refine xn1 (aJa x1.aLV (λz0=>mG z0 p1) 589 [.ptr [.bool p1.aMO,.bool p1.aMH,.int .i64 p1.Low.aLn,.int .i64 p1.Low.N,.str p1.Low.aLu,.int .i64 p1.aMK.aLn,.int .i64 p1.aMK.N,.str p1.aMK.aLu]] (λz0 r hr=>aGw z0 p1 r hr) af ak) ?_
 refine an (sq (sq ?_))
 refine xn ?_
 refine an ?_
 rcases dX (af==(-1))with ae | ae
 ·replace h:=bN ae h;refine BA zM ?_;refine sq ?_;refine xn ?_;refine an (rt ?_);apply VM.mk (l:=[(false,[.row 200008 1])]) (by simp[LN,LI,EN,b5,f7,ae,eV1,eV2,eV3,eV4,eV5]);(simp +decide only[MC,LN,LI,E,reduceIte,Nat.reduceAdd,Nat.reduceMul,qB,qC,L,ZN,WW,EN, *,-h];exact Is.mk _);refine an (sq ?_);refine xd mixed ?_;refine an (frb 4 1 200008 ?_);refine rt ?_;cases h;simp[Ret,LN,LI,EN,WW,M.aLo.en, *]
 replace h:=bM ae h
 refine Co zM ?_
 refine sk (an (sq (sq ?_)))
 refine xn ?_
 refine an (bk ?_)
 refine Hn (λm s=>∃C:Int,∃v6:Int,∃U:List M.aLo,s.t 0=vR 200008 1/\s.t 1=V3/\s.t 5=vI C/\s.t 6=vI v6/\s.fr 2=vP 2 1 0/\s.fr 4=vP 4 1 0/\s.fr 6=vP 6 1 0/\s.h 2=V5/\s.h 3=V4/\s.h 4=V2/\s.h 6=V1/\s.h 200008=(1,.row 320 4 (List.map M.aLo.en U) false)/\fE p0 p1 x1 m C v6 U=some r) aH ?_ ?_
 ·exact⟨af,IntKind.i64.wrap (af+1),x1.aLV,zM⟩
 rintro mL1 av ⟨C,v6,U,f21,f22,f23,f24,f25,f26,f27,f28,f29,f30,f31,f32,h⟩
 rcases mL1 with _ | mL1
 ·exact absurd h (by simp[fE])
 simp only[fE]at h
 refine sq (sq ?_)
 refine xn ?_
 refine an ?_
 rcases dX (decide (v6<(List.length U:Int)))with ah | ah
 ·replace h:=bN ah h;refine BA zM ?_;refine sk (an (sq (bk (sq ?_))));obtain⟨aj,al,h⟩:=aA h;obtain⟨aw,ax,ay⟩:=nJ al;refine xn ?_;refine an (sq ?_);obtain⟨ao,aq,h⟩:=aA h;refine xn1 (aGw _ _ _ aq) ?_;refine an ?_;rcases Dz (!ao)with ai | ai;(replace h:=bM ai h;refine Co zM ?_;refine sk (ab (an ?_));refine xn ?_;exact cZ ⟨mL1,wi,C,IntKind.i64.wrap (v6+1),U,zM⟩);replace h:=bN ai h;refine BA zM ?_;refine sq ?_;obtain⟨az,ar,h⟩:=aA h;obtain⟨ba,bd,bf⟩:=nJ ar;refine xn ?_;refine an ?_;refine cY (J:=λs=>s.t 0=vR 200008 1/\s.t 1=V3/\s.t 5=vI C/\s.t 6=vI v6/\s.fr 2=vP 2 1 0/\s.fr 4=vP 4 1 0/\s.fr 6=vP 6 1 0/\s.h 2=V5/\s.h 3=V4/\s.h 4=V2/\s.h 6=V1/\s.h 200008=(1,.row 320 4 (List.map M.aLo.en (List.set U C.toNat aj)) false)/\True) zM ?_;rintro bg f48;refine xn ?_;refine ab (an ?_);refine xn ?_;exact cZ ⟨mL1,wi,IntKind.i64.wrap (C+1),IntKind.i64.wrap (v6+1),List.set U C.toNat aj,zM⟩
 replace h:=bM ah h
 refine Co zM ?_
 refine xt (Da (CW (GI (an (sq ?_)))))
 obtain⟨bh,I,h⟩:=aA h
 apply Bk
 ·simp +decide only[LN,LI,E,reduceIte,Nat.reduceAdd,Nat.reduceMul,qB,qC,<-List.map_take,<-List.map_drop,L,ZN,Wn,M.aLo.en,EN, *,-h]
  refine⟨by first | exact GW I | exact(GW I).2 | exact(GW I).2.2,?_⟩
  try simp +decide only[LN,LI,E,reduceIte,Nat.reduceAdd,Nat.reduceMul,qB,qC,<-List.map_take,<-List.map_drop,L,ZN,Wn,M.aLo.en,EN, *,-h]
  refine⟨by first | exact Rc I | exact(Rc I).2 | exact(Rc I).2.2 | (have hb:=Rc I;simpa using hb),?_⟩
  try simp +decide only[LN,LI,E,reduceIte,Nat.reduceAdd,Nat.reduceMul,qB,qC,<-List.map_take,<-List.map_drop,L,ZN,Wn,M.aLo.en,EN, *,-h]
  exact Is.mk _
 refine an (sq ?_)
 apply Bk
 ·simp +decide only[LN,LI,E,reduceIte,Nat.reduceAdd,Nat.reduceMul,qB,qC,<-List.map_take,<-List.map_drop,L,ZN,Wn,M.aLo.en,EN, *,-h]
  refine⟨by first | exact Tv (f:=M.aLo.en) I | exact(Tv (f:=M.aLo.en) I).2 | exact(Tv (f:=M.aLo.en) I).2.2 | (have hb:=Tv (f:=M.aLo.en) I;simpa using hb),?_⟩
  try simp +decide only[LN,LI,E,reduceIte,Nat.reduceAdd,Nat.reduceMul,qB,qC,<-List.map_take,<-List.map_drop,L,ZN,Wn,M.aLo.en,EN, *,-h]
  exact Is.mk _
 refine an (rt ?_)
 apply VM.mk (l:=[(false,[.part 200008 1 0 C.toNat])]) (by simp[LN,LI,EN,b5,ae,f21,f22,f23,f24,f25,f26,f27,f28,f29,f30,f31,f32,ah,eV1,eV2,eV3,eV4,eV5])
 ·simp +decide only[MC,LN,LI,E,reduceIte,Nat.reduceAdd,Nat.reduceMul,qB,qC,L,ZN,WW,EN, *,-h];exact Is.mk _
 refine an (sq ?_)
 refine Ey (Gho.Zm (b:=6) (vb:=1) (t:=75) (cells:=[.dat (.str x1.Name),.part 200008 1 0 C.toNat,.dat (.int .i64 x1.aLx)]) (c:=1) (j:=200008) (vj:=1) (K:=200008) (n:=C.toNat) (e:=320) (sz:=4) (dp:=false) (xs:=List.map M.aLo.en (List.take C.toNat U)++List.replicate (List.length U-C.toNat) [.opq,.opq,.opq,.opq]) (List.map M.aLo.en (List.take C.toNat U)) zM rfl zM wh ((Tv (f:=M.aLo.en) I).2) (aAV I)) ?_
 refine cY (J:=λs=>s.t 2=vP 2 1 0/\s.t 4=vP 4 1 0/\s.t 6=vP 6 1 0/\s.h 2=V5/\s.h 4=V2/\s.h 6=(1,oB 75 [cS x1.Name,.row 200008 2,cI x1.aLx])/\s.h 200008=(2,.row 320 4 (List.map M.aLo.en (List.take C.toNat U)) false)/\True) zM ?_
 rintro bj f63
 refine xd mixed ?_
 refine an (frb 4 1 200008 ?_)
 refine rt ?_
 cases h
 simp[Ret,LN,LI,EN,WW,M.aLo.en, *]
instance:bK 282 (∀p0 p1 p2 p3 r (h:zT p0 p1 p2 p3=some r),Sc 282 [aX (M.aN.en p0),aX (M.bD.en p1),aS p2,aI p3] [(true,M.aN.rs r.1),rB r.2]):=⟨λp0 p1 p2 p3 r h=>by unfold zT at h;exact sgo 41 [.cell 8 78,.tmp 9] func282⟩
instance:bK 310 (∀p0 p1 r (h:uD p0 p1=some r),Sc 310 [aX (M.aJ.en p0),aX (M.aJ.en p1)] [rB r]):=⟨λp0 p1 r h=>by
 unfold uD at h
 simp only[EN]
 refine sgn 10 [.tmp 4] func310 λbase wd=> ?_
 refine sq (rn ?_)
 refine an (sq ?_)
 obtain⟨x1,h2,h⟩:=aA h
 refine rn1 (aK8 p0.aLW p1.aLW (λz0 z1=>vW z0 z1) 435 [] (λz0 z1 r hr=>aK4 z0 z1 r hr) x1 h2) ?_
 exact an (rt zR)⟩
instance:bK 311 (∀p0 p1 r (h:Bz p0 p1=some r),Sc 311 [aX (M.bP.en p0),aX (M.bP.en p1)] [rB r]):=⟨λp0 p1 r h=>by unfold Bz at h;exact sgo 24 [.tmp 4] func311⟩
