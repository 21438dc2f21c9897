/-
  Helper text. No conditions.
-/
import Derived.Test.YtndidbigdalbnaaGreatNotesWimpl4
import Derived.Test.YtndidbigdalbnaaGreatNotesWlib
set_option linter.all false
namespace Go.Proofs.YtndidbigdalbnaaGreat.gen
open Go Go.Sh Tryz
set_option maxRecDepth 20000
set_option maxHeartbeats 4000000
instance:bU 68 (∀p0 r (h:AM p0=some r),Sc 68 [aX (M.bJ.en p0)] [(true,M.bJ.rs r)]):=⟨λp0 r h=>by unfold AM at h;exact sgo 12 [.cell 2 58] func68⟩
instance:bU 72 (∀p0 r (h:eR p0=some r),Sc 72 [aX (M.aKe.en p0)] [(true,M.aKe.rs r)]):=⟨λp0 r h=>by unfold eR at h;exact sgo 16 [.cell 2 75] func72⟩
theorem c59(p0 r)(h:EM p0=some r):Sc 59 [aL enB p0] [rW 22 1 (enL enB) r.1,rI r.2]:=by
 have i1:=inv λm s=>∃I:Int,∃j:List (List Int),∃C:Nat,(s.t 0=vL enB p0/\s.t 4=vR 100012 C/\s.t 5=vI I/\s.h 100012=(C,oW 22 1 (enL enB) j))/\xF p0 m I j=some r
 have e1:=@xF.eq_2
 unfold EM at h
 exact sgo 48 [.tmp 2,.tmp 3] func59
instance aFJ:bU 136 (∀p0 r (h:gY p0=some r),Sc 136 [aX (M.aF.en p0)] [rW 5 1 enB r]):=⟨λp0 r h=>by
 have i1:=He [.t 3 7050000 5 1] λm s=>∃af:Int,∃aa:List Int,∃ae:Nat,(s.t 3=vR 7050000 ae/\s.t 15=vL M.aR.en p0.aKj/\s.t 16=vI (List.length p0.aKj:Int)/\s.t 17=vI af/\s.h 7050000=(ae,oW 5 1 enB aa))/\dN p0 m af aa=some r
 have e1:=@dN.eq_2
 unfold gY at h
 exact sgo 31 [.tmp 2] func136⟩
theorem aJ4(p0 r)(h:sB p0=some r):Sc 118 [aL enB p0] [(true,M.aF.rs r.1),rB r.2]:=by
 have i1:=λ(x1:(Int×Int×Bool))=>He [.b 7 0 7050000 157 2] λm s=>∃I:Int,∃J:Int,∃j:List M.aR,∃C:Nat,(s.t 0=vL enB p0/\s.t 2=vP 2 1 0/\s.t 4=vI x1.1/\s.t 5=vI I/\s.t 7=vP 7 1 0/\s.t 8=vI J/\s.h 2=(1,oB 90 [.nil])/\s.h 7=(1,oB 90 [.row 7050000 C])/\s.h 7050000=(C,oW 157 2 M.aR.en j))/\iW p0 x1 m I J j=some r
 have e1:=@iW.eq_2
 unfold sB at h
 exact sgo 72 [.cell 2 90,.tmp 3] func118
instance aEm:bU 188 (∀p0 r (h:Ek p0=some r),Sc 188 [aX (M.fA.en p0)] [rB r]):=⟨λp0 r h=>by unfold Ek at h;exact sgo 39 [.tmp 2] func188⟩
theorem aKJ(p0 r)(h:DH p0=some r):Sc 133 [aL M.fA.en p0] [rB r]:=by
 have i1:=inv λm s=>∃j:Int,(s.t 0=vL M.fA.en p0/\s.t 5=vL M.fA.en p0/\s.t 6=vI (List.length p0:Int)/\s.t 7=vI j)/\zJ p0 m j=some r
 have e1:=@zJ.eq_2
 unfold DH at h
 exact sgo 18 [.tmp 2] func133
instance aFa:bU 185 (∀p0 r (h:cC p0=some r),Sc 185 [aX (M.aD.en p0)] [rB r]):=⟨λp0 r h=>by
 have i1:=inv λm s=>∃v8:Int,(s.t 1=vP 1 1 0/\s.t 6=vL M.aKy.en p0.aKg/\s.t 7=vI (List.length p0.aKg:Int)/\s.t 8=vI v8/\s.h 1=(1,oX 66 (M.aD.en p0)))/\lO p0 m v8=some r
 have e1:=@lO.eq_2
 unfold cC at h
 exact sgo 55 [.tmp 2] func185⟩
instance:bU 242 (∀p0 p1 r (h:CZ p0 p1=some r),Sc 242 [aX (M.aD.en p0),aS p1] [rW 153 4 M.aKy.en r]):=⟨λp0 p1 r h=>by
 have i1:=inv λm s=>∃ah:Int,∃ae:List M.aKy,∃af:Nat,(s.t 1=vS p1/\s.t 5=vR 100011 af/\s.t 13=vL M.aKy.en p0.aKg/\s.t 14=vI (List.length p0.aKg:Int)/\s.t 15=vI ah/\s.h 100011=(af,oW 153 4 M.aKy.en ae))/\nT p0 p1 m ah ae=some r
 have e1:=@nT.eq_2
 have i2:=λ(ah:Int) (ae:List M.aKy) (ai:M.aKy) (aj:Int->Option (List M.aKy)) (s7:St) (af:Nat)=>inv λm s=>∃aa:Int,(s.t 1=vS p1/\s.t 5=vR 100011 af/\s.t 7=vP 7 ((s7.h 7).1+1) 0/\s.t 10=vI aa/\s.t 13=vL M.aKy.en p0.aKg/\s.t 14=vI (List.length p0.aKg:Int)/\s.t 15=vI ah/\s.h 7=((s7.h 7).1+1,oX 153 (M.aKy.en ai))/\s.h 100011=(af,oW 153 4 M.aKy.en ae))/\sI p1 ae ai aj m aa=some r
 have e2:=@sI.eq_2
 unfold CZ at h
 exact sgo 52 [.tmp 4] func242⟩
instance:bU 187 (∀p0 p1 r (h:mB p0 p1=some r),Sc 187 [aX (M.aD.en p0),aS p1] [(true,M.bD.rs r.1),(true,M.bD.rs r.2.1),rB r.2.2]):=⟨λp0 p1 r h=>by
 have i1:=λ(x1:(List M.aKy))=>inv λm s=>∃v8:Int,(s.t 1=vS p1/\s.t 4=vP 4 1 0/\s.t 5=vP 5 1 0/\s.t 7=vR 100015 1/\s.t 8=vI v8/\s.h 4=(1,oB 98 [cI 0,cI 0,cS (⟨#[]⟩:ByteArray)])/\s.h 5=(1,oB 98 [cI 0,cI 0,cS (⟨#[]⟩:ByteArray)])/\s.h 100015=(1,oW 153 4 M.aKy.en x1))/\gR p1 x1 m v8=some r
 have e1:=@gR.eq_2
 unfold mB at h
 exact sgo 59 [.cell 4 98,.cell 5 98,.tmp 6] func187⟩
instance aEZ:bU 243 (∀p0 p1 p2 r (h:lD p0 p1 p2=some r),Sc 243 [aX (M.aD.en p0),aX (M.bD.en p1),aX (M.aF.en p2)] [(true,M.aD.rs r.1),rB r.2]):=⟨λp0 p1 p2 r h=>by
 have i1:=λ(aa:M.aD)=>inv λm s=>∃v10:Int,(s.t 3=vP 3 1 0/\s.t 4=vP 4 1 0/\s.t 5=vP 5 1 0/\s.t 6=vP 6 1 0/\s.t 8=vP 8 1 0/\s.t 10=vI v10/\s.h 3=(1,oX 66 (M.aD.en p0))/\s.h 4=(1,oX 98 (M.bD.en p1))/\s.h 5=(1,oX 90 (M.aF.en p2))/\s.h 6=(1,oB 66 [cS (⟨#[]⟩:ByteArray),.nil,cI 0])/\s.h 8=(1,oB 66 [cS aa.Name,.row 200022 1,cI aa.aK7])/\s.h 200022=(1,oW 153 4 M.aKy.en aa.aKg))/\sA p0 p1 p2 aa m v10=some r
 have e1:=@sA.eq_2
 unfold lD at h
 exact sgo 87 [.cell 6 66,.tmp 7] func243⟩
theorem aGt(p0 c0 r)(h:lS p0 c0=some r):Sc 314 [aX (M.aKy.en p0),(false,[.ptr [.bool c0.aLY,.bool c0.aLS,.int .i64 c0.Low.aKx,.int .i64 c0.Low.N,.str c0.Low.aK5,.int .i64 c0.aLW.aKx,.int .i64 c0.aLW.N,.str c0.aLW.aK5]])] [rB r]:=by unfold lS at h;exact sgo 8 [.tmp 3] func314
theorem aJR(p0 p1 r)(h:tT p0 p1=some r):Sc 245 [aX (M.aD.en p0),aX (M.fY.en p1)] [(true,M.aD.ra r.1),rI r.2]:=by
 unfold tT at h
 simp only[EN]
 refine sgn 26 [.cell 4 66,.tmp 5] func245 λbase wd => ?_
 refine sq ?_
 refine xn ?_
 refine an (sq ?_)
 obtain⟨x1,h2,h⟩:=aA h
 refine xn1 (aE3.1 _ _ h2) ?_
 refine an (sq (sq ?_))
 obtain⟨x3,h4,h⟩:=aA h
 refine xn1 (aFa.1 _ _ h4) ?_
 refine an ?_
 rcases gK (!x3)with b5 | b5
 ·replace h:=bQ b5 h;refine yL zM ?_;refine sq ?_;refine xn ?_;refine an (frb 4 1 200008 ?_);refine rt ?_;cases h;simp[Ret,LN,LI,EN,WH,M.aKy.en,b5]
 replace h:=bP b5 h
 refine Ay zM ?_
 refine sk (an (sq ?_))
 apply N9 (n:=3) (f:=313) (d:=16) (N':=42) (vars:=[.tmp 4]) rfl rfl rfl rfl we func313 rfl rfl rfl wL we
 ·simp +decide only[LN,LI,E,reduceIte,Nat.reduceAdd,Nat.reduceMul,qB,qC,L,aAI,WH,EN,b5];exact Is.mk _
 intro fv
 refine Cj (Gho.shallow (i:=200008) (ver:=1) (e:=153) (sz:=4) (xs:=List.map M.aKy.en x1.aKg) zM) ?_
 obtain⟨V1,eV1⟩:=nmH ((1,oB 66 [cS x1.Name,.row 200008 1,cI x1.aK7]))
 obtain⟨V2,eV2⟩:=nmH ((1,oB 66 [cS (⟨#[]⟩:ByteArray),.nil,cI 0]))
 obtain⟨V3,eV3⟩:=nmT (.v false [.clo 314 [(3,1,0)]])
 obtain⟨V4,eV4⟩:=nmH ((1,oX 303 (M.fY.en p1)))
 obtain⟨V5,eV5⟩:=nmH ((1,oX 66 (M.aD.en p0)))
 refine bY (J:=λs=>s.t 0=vR 200008 1/\s.t 1=V3/\s.fr 2=vP 2 1 0/\s.fr 4=vP 4 1 0/\s.fr 6=vP 6 1 0/\s.h 2=V5/\s.h 3=V4/\s.h 4=V2/\s.h 6=V1/\s.h 200008=(1,.row 153 4 (List.map M.aKy.en x1.aKg) false)/\True) zM ?_
 rintro s6 f7
 refine sq ?_
 refine xn ?_
 refine an (sq ?_)
 obtain⟨af,ak,h⟩:=aA h
 refine xn1 (aII x1.aKg (λz0=>lS z0 p1) 314 [.ptr [.bool p1.aLY,.bool p1.aLS,.int .i64 p1.Low.aKx,.int .i64 p1.Low.N,.str p1.Low.aK5,.int .i64 p1.aLW.aKx,.int .i64 p1.aLW.N,.str p1.aLW.aK5]] (λz0 r hr=>aGt z0 p1 r hr) af ak) ?_
 refine an (sq (sq ?_))
 refine xn ?_
 refine an ?_
 rcases gK (af==(-1))with ae | ae
 ·replace h:=bQ ae h;refine yL zM ?_;refine sq ?_;refine xn ?_;refine an (rt ?_);apply Tp.mk (l:=[(false,[.row 200008 1])]) (by simp[LN,LI,EN,b5,f7,ae,eV1,eV2,eV3,eV4,eV5]);(simp +decide only[JT,LN,LI,E,reduceIte,Nat.reduceAdd,Nat.reduceMul,qB,qC,L,aAI,WH,EN, *,-h];exact Is.mk _);refine an (sq ?_);refine xd mixed ?_;refine an (frb 4 1 200008 ?_);refine rt ?_;cases h;simp[Ret,LN,LI,EN,WH,M.aKy.en, *]
 replace h:=bP ae h
 refine Ay zM ?_
 refine sk (an (sq (sq ?_)))
 refine xn ?_
 refine an (bk ?_)
 refine HG (λm s=>∃C:Int,∃v6:Int,∃U:List M.aKy,s.t 0=vR 200008 1/\s.t 1=V3/\s.t 5=vI C/\s.t 6=vI v6/\s.fr 2=vP 2 1 0/\s.fr 4=vP 4 1 0/\s.fr 6=vP 6 1 0/\s.h 2=V5/\s.h 3=V4/\s.h 4=V2/\s.h 6=V1/\s.h 200008=(1,.row 153 4 (List.map M.aKy.en U) false)/\eY p0 p1 x1 m C v6 U=some r) aJ ?_ ?_
 ·exact⟨af,IntKind.i64.wrap (af+1),x1.aKg,zM⟩
 rintro mL1 av ⟨C,v6,U,f21,f22,f23,f24,f25,f26,f27,f28,f29,f30,f31,f32,h⟩
 rcases mL1 with _ | mL1
 ·exact absurd h (by simp[eY])
 simp only[eY]at h
 refine sq (sq ?_)
 refine xn ?_
 refine an ?_
 rcases gK (decide (v6<(List.length U:Int)))with ah | ah
 ·replace h:=bQ ah h;refine yL zM ?_;refine sk (an (sq (bk (sq ?_))));obtain⟨aj,al,h⟩:=aA h;obtain⟨aw,ax,ay⟩:=pK al;refine xn ?_;refine an (sq ?_);obtain⟨ao,aq,h⟩:=aA h;refine xn1 (aGt _ _ _ aq) ?_;refine an ?_;rcases CP (!ao)with ai | ai;(replace h:=bP ai h;refine Ay zM ?_;refine sk (ab (an ?_));refine xn ?_;exact fB ⟨mL1,wg,C,IntKind.i64.wrap (v6+1),U,zM⟩);replace h:=bQ ai h;refine yL zM ?_;refine sq ?_;obtain⟨az,ar,h⟩:=aA h;obtain⟨ba,bd,bf⟩:=pK ar;refine xn ?_;refine an ?_;refine bY (J:=λs=>s.t 0=vR 200008 1/\s.t 1=V3/\s.t 5=vI C/\s.t 6=vI v6/\s.fr 2=vP 2 1 0/\s.fr 4=vP 4 1 0/\s.fr 6=vP 6 1 0/\s.h 2=V5/\s.h 3=V4/\s.h 4=V2/\s.h 6=V1/\s.h 200008=(1,.row 153 4 (List.map M.aKy.en (List.set U C.toNat aj)) false)/\True) zM ?_;rintro bg f48;refine xn ?_;refine ab (an ?_);refine xn ?_;exact fB ⟨mL1,wg,IntKind.i64.wrap (C+1),IntKind.i64.wrap (v6+1),List.set U C.toNat aj,zM⟩
 replace h:=bP ah h
 refine Ay zM ?_
 refine xt (CO (CL (Gs (an (sq ?_)))))
 obtain⟨bh,I,h⟩:=aA h
 apply AA
 ·simp +decide only[LN,LI,E,reduceIte,Nat.reduceAdd,Nat.reduceMul,qB,qC,<-List.map_take,<-List.map_drop,L,aAI,WM,M.aKy.en,EN, *,-h]
  refine⟨by first | exact Gn I | exact(Gn I).2 | exact(Gn I).2.2,?_⟩
  try simp +decide only[LN,LI,E,reduceIte,Nat.reduceAdd,Nat.reduceMul,qB,qC,<-List.map_take,<-List.map_drop,L,aAI,WM,M.aKy.en,EN, *,-h]
  refine⟨by first | exact Rc I | exact(Rc I).2 | exact(Rc I).2.2 | (have hb:=Rc I;simpa using hb),?_⟩
  try simp +decide only[LN,LI,E,reduceIte,Nat.reduceAdd,Nat.reduceMul,qB,qC,<-List.map_take,<-List.map_drop,L,aAI,WM,M.aKy.en,EN, *,-h]
  exact Is.mk _
 refine an (sq ?_)
 apply AA
 ·simp +decide only[LN,LI,E,reduceIte,Nat.reduceAdd,Nat.reduceMul,qB,qC,<-List.map_take,<-List.map_drop,L,aAI,WM,M.aKy.en,EN, *,-h]
  refine⟨by first | exact Tw (f:=M.aKy.en) I | exact(Tw (f:=M.aKy.en) I).2 | exact(Tw (f:=M.aKy.en) I).2.2 | (have hb:=Tw (f:=M.aKy.en) I;simpa using hb),?_⟩
  try simp +decide only[LN,LI,E,reduceIte,Nat.reduceAdd,Nat.reduceMul,qB,qC,<-List.map_take,<-List.map_drop,L,aAI,WM,M.aKy.en,EN, *,-h]
  exact Is.mk _
 refine an (rt ?_)
 apply Tp.mk (l:=[(false,[.part 200008 1 0 C.toNat])]) (by simp[LN,LI,EN,b5,ae,f21,f22,f23,f24,f25,f26,f27,f28,f29,f30,f31,f32,ah,eV1,eV2,eV3,eV4,eV5])
 ·simp +decide only[JT,LN,LI,E,reduceIte,Nat.reduceAdd,Nat.reduceMul,qB,qC,L,aAI,WH,EN, *,-h];exact Is.mk _
 refine an (sq ?_)
 refine Cj (Gho.Zz (b:=6) (vb:=1) (t:=66) (cells:=[.dat (.str x1.Name),.part 200008 1 0 C.toNat,.dat (.int .i64 x1.aK7)]) (c:=1) (j:=200008) (vj:=1) (K:=200008) (n:=C.toNat) (e:=153) (sz:=4) (dp:=false) (xs:=List.map M.aKy.en (List.take C.toNat U)++List.replicate (List.length U-C.toNat) [.opq,.opq,.opq,.opq]) (List.map M.aKy.en (List.take C.toNat U)) zM rfl zM we ((Tw (f:=M.aKy.en) I).2) (aAj I)) ?_
 refine bY (J:=λs=>s.t 2=vP 2 1 0/\s.t 4=vP 4 1 0/\s.t 6=vP 6 1 0/\s.h 2=V5/\s.h 4=V2/\s.h 6=(1,oB 66 [cS x1.Name,.row 200008 2,cI x1.aK7])/\s.h 200008=(2,.row 153 4 (List.map M.aKy.en (List.take C.toNat U)) false)/\True) zM ?_
 rintro bj f63
 refine xd mixed ?_
 refine an (frb 4 1 200008 ?_)
 refine rt ?_
 cases h
 simp[Ret,LN,LI,EN,WH,M.aKy.en, *]
instance c22:bU 22 (∀p0 p1 p2 r (h:oT p0 p1 p2=some r),Sc 22 [aX (M.aF.en p0),aS p1,aI p2] [(true,M.aF.rs r.1),rB r.2]):=⟨λp0 p1 p2 r h=>by
 have i1:=λ(x1:M.aF)=>inv λm s=>∃v10:Int,(s.t 1=vS p1/\s.t 2=vI p2/\s.t 3=vP 3 1 0/\s.t 6=vP 6 1 0/\s.t 8=vP 8 1 0/\s.t 10=vI v10/\s.h 3=(1,oX 90 (M.aF.en p0))/\s.h 6=(1,oB 90 [.nil])/\s.h 8=(1,oB 90 [.row 100012 1])/\s.h 100012=(1,oW 157 2 M.aR.en x1.aKj))/\pE p0 p1 p2 x1 m v10=some r
 have e1:=@pE.eq_2
 unfold oT at h
 exact sgo 61 [.cell 6 90,.tmp 7] func22⟩
instance:bU 70 (∀p0 p1 p2 r (h:BG p0 p1 p2=some r),Sc 70 [aL enB p0,aI p1,aL enB p2] [rW 5 1 enB r.1,rB r.2]):=⟨λp0 p1 p2 r h=>by unfold BG at h;exact sgo 26 [.tmp 6,.tmp 7] func70⟩
instance:bU 250 (∀p0 r (h:yA p0=some r),Sc 250 [aX (M.aO.en p0)] [rB r]):=⟨λp0 r h=>by
 have i1:=inv λm s=>∃aa:Int,(s.t 1=vP 1 1 0/\s.t 3=vI (List.length p0.aKw:Int)/\s.t 10=vL M.cH.en p0.aKw/\s.t 11=vI (List.length p0.aKw:Int)/\s.t 12=vI aa/\s.h 1=(1,oX 69 (M.aO.en p0)))/\pA p0 m aa=some r
 have e1:=@pA.eq_2
 unfold yA at h
 exact sgo 51 [.tmp 2] func250⟩
instance:bU 195 (∀p0 r (h:zN p0=some r),Sc 195 [aX (M.aH.en p0)] [rB r]):=⟨λp0 r h=>by unfold zN at h;exact sgo 23 [.tmp 2] func195⟩
instance:bU 253 (∀p0 r (h:BC p0=some r),Sc 253 [aX (M.aD.en p0)] [rI r]):=⟨λp0 r h=>by
 have i1:=inv λm s=>∃v3:Int,∃v9:Int,(s.t 3=vI v3/\s.t 7=vL M.aKy.en p0.aKg/\s.t 8=vI (List.length p0.aKg:Int)/\s.t 9=vI v9)/\nA p0 m v3 v9=some r
 have e1:=@nA.eq_2
 unfold BC at h
 exact sgo 26 [.tmp 2] func253⟩
theorem aJk(p0 p1 r)(h:uK p0 p1=some r):Sc 215 [aX (M.aKv.en p0),aX (M.aKv.en p1)] [rB r]:=by
 unfold uK at h
 simp only[EN]
 refine sgn 17 [.tmp 4] func215 λbase wd=> ?_
 refine sq (rn ?_)
 refine an (sq ?_)
 rcases CP (p0.aKb==p1.aKb)with b1|b1
 ·replace h:=bP b1 h;refine rn ?_;exact an (rt zR)
 replace h:=bQ b1 h
 obtain⟨x2,h3,h⟩:=aA h
 refine rn1 (aJy p0.aKs p1.aKs (λj C=>tW j C) 273 [] (λj C r I=>aJc j C r I) x2 h3) ?_
 exact an (rt zR)
instance:bU 161 (∀p0 p1 r (h:sY p0 p1=some r),Sc 161 [aX (M.aN.en p0),aX (M.aN.en p1)] [rB r]):=⟨λp0 p1 r h=>by
 unfold sY at h
 simp only[EN]
 refine sgn 10 [.tmp 4] func161 λbase wd=> ?_
 refine sq (rn ?_)
 refine an (sq ?_)
 obtain⟨x1,h2,h⟩:=aA h
 refine rn1 (aKN p0.aKi p1.aKi (λz0 z1=>uK z0 z1) 215 [] (λz0 z1 r hr=>aJk z0 z1 r hr) x1 h2) ?_
 exact an (rt zR)⟩
instance:bU 216 (∀p0 p1 r (h:tH p0 p1=some r),Sc 216 [aX (M.aKc.en p0),aX (M.aKc.en p1)] [rB r]):=⟨λp0 p1 r h=>by
 unfold tH at h
 simp only[EN]
 refine sgn 31 [.tmp 4] func216 λbase wd=> ?_
 refine sq (rn ?_)
 refine an (sq ?_)
 rcases CP (p0.Name.toList==p1.Name.toList)with b1|b1
 ·replace h:=bP b1 h;refine rn ?_;exact an (rt zR)
 replace h:=bQ b1 h
 rcases CP (p0.aKb==p1.aKb)with b2|b2
 ·replace h:=bP b2 h;refine rn ?_;exact an (rt zR)
 replace h:=bQ b2 h
 obtain⟨x3,h4,h⟩:=aA h
 rcases CP x3 with b5|b5
 ·replace h:=bP b5 h;refine rn1 (aG1 p0.aKm p1.aKm (λz0 z1=>iY z0 z1) 99 [] (λz0 z1 r hr=>c99.1 z0 z1 r hr) x3 h4) ?_;exact an (rt zR)
 replace h:=bQ b5 h
 obtain⟨x6,h7,h⟩:=aA h
 refine rn2 (aG1 p0.aKm p1.aKm (λz0 z1=>iY z0 z1) 99 [] (λz0 z1 r hr=>c99.1 z0 z1 r hr) x3 h4) (aJ8 _ _ _ h7) ?_
 exact an (rt zR)⟩
instance:bU 162 (∀p0 p1 r (h:AO p0 p1=some r),Sc 162 [aX (M.bJ.en p0),aX (M.bJ.en p1)] [rB r]):=⟨λp0 p1 r h=>by unfold AO at h;exact sgo 24 [.tmp 4] func162⟩
instance:bU 163 (∀p0 p1 r (h:vG p0 p1=some r),Sc 163 [aX (M.aH.en p0),aX (M.aH.en p1)] [rB r]):=⟨λp0 p1 r h=>by unfold vG at h;exact sgo 24 [.tmp 4] func163⟩
theorem c42(p0 p1 r)(h:sO p0 p1=some r):Sc 42 [aX (M.aKt.en p0),aX (M.aKt.en p1)] [rB r]:=by unfold sO at h;exact sgo 24 [.tmp 4] func42
