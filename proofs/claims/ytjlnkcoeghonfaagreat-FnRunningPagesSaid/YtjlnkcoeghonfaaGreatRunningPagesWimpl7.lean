/-
  Helper text. No conditions.
-/
import Derived.Test.YtjlnkcoeghonfaaGreatRunningPagesWimpl5
import Derived.Test.YtjlnkcoeghonfaaGreatRunningPagesWimpl6
import Derived.Test.YtjlnkcoeghonfaaGreatRunningPagesWlib
set_option linter.all false
namespace Go.Proofs.YtjlnkcoeghonfaaGreat.gen
open Go Go.Sh Tryz
set_option maxRecDepth 20000
set_option maxHeartbeats 4000000
instance:bK 276 (∀p0 r (h:Bx p0=some r),Sc 276 [aX (M.bP.en p0)] [(true,M.bP.rs r)]):=⟨λp0 r h=>by unfold Bx at h;exact sgo 12 [.cell 2 72] func276⟩
instance aFq:bK 263 (∀p0 r (h:cC p0=some r),Sc 263 [aX (M.aE.en p0)] [rB r]):=⟨λp0 r h=>by
 have i1:=inv λm s=>∃v8:Int,(s.t 1=vP 1 1 0/\s.t 6=vL M.aLo.en p0.aLV/\s.t 7=vI (List.length p0.aLV:Int)/\s.t 8=vI v8/\s.h 1=(1,oX 75 (M.aE.en p0)))/\mB p0 m v8=some r
 have e1:=@mB.eq_2
 unfold cC at h
 exact sgo 55 [.tmp 2] func263⟩
instance:bK 549 (∀p0 p1 r (h:DH p0 p1=some r),Sc 549 [aX (M.aE.en p0),aS p1] [rW 320 4 M.aLo.en r]):=⟨λp0 p1 r h=>by
 have i1:=inv λm s=>∃ah:Int,∃ae:List M.aLo,∃af:Nat,(s.t 1=vS p1/\s.t 5=vR 100011 af/\s.t 13=vL M.aLo.en p0.aLV/\s.t 14=vI (List.length p0.aLV:Int)/\s.t 15=vI ah/\s.h 100011=(af,oW 320 4 M.aLo.en ae))/\oK p0 p1 m ah ae=some r
 have e1:=@oK.eq_2
 have i2:=λ(ah:Int) (ae:List M.aLo) (ai:M.aLo) (aj:Int->Option (List M.aLo)) (s7:St) (af:Nat)=>inv λm s=>∃aa:Int,(s.t 1=vS p1/\s.t 5=vR 100011 af/\s.t 7=vP 7 ((s7.h 7).1+1) 0/\s.t 10=vI aa/\s.t 13=vL M.aLo.en p0.aLV/\s.t 14=vI (List.length p0.aLV:Int)/\s.t 15=vI ah/\s.h 7=((s7.h 7).1+1,oX 320 (M.aLo.en ai))/\s.h 100011=(af,oW 320 4 M.aLo.en ae))/\tL p1 ae ai aj m aa=some r
 have e2:=@tL.eq_2
 unfold DH at h
 exact sgo 52 [.tmp 4] func549⟩
instance:bK 407 (∀p0 r (h:zH p0=some r),Sc 407 [aX (M.aN.en p0)] [rB r]):=⟨λp0 r h=>by
 have i1:=inv λm s=>∃aa:Int,(s.t 1=vP 1 1 0/\s.t 3=vI (List.length p0.aLl:Int)/\s.t 10=vL M.bR.en p0.aLl/\s.t 11=vI (List.length p0.aLl:Int)/\s.t 12=vI aa/\s.h 1=(1,oX 78 (M.aN.en p0)))/\pP p0 m aa=some r
 have e1:=@pP.eq_2
 unfold zH at h
 exact sgo 51 [.tmp 2] func407⟩
instance aE0:bK 401 (∀p0 r (h:iD p0=some r),Sc 401 [aX (M.aF.en p0)] [rW 5 1 enB r]):=⟨λp0 r h=>by
 have i1:=G8 [.t 3 7050000 5 1] λm s=>∃af:Int,∃aa:List Int,∃ae:Nat,(s.t 3=vR 7050000 ae/\s.t 15=vL M.aR.en p0.aLY/\s.t 16=vI (List.length p0.aLY:Int)/\s.t 17=vI af/\s.h 7050000=(ae,oW 5 1 enB aa))/\dQ p0 m af aa=some r
 have e1:=@dQ.eq_2
 unfold iD at h
 exact sgo 31 [.tmp 2] func401⟩
instance:bK 49 (∀p0 r (h:dO p0=some r),Sc 49 [aX (M.aLX.en p0)] [(true,M.aLX.rs r.1),(true,M.Ask.rs r.2)]):=⟨λp0 r h=>by
 have i1:=λ(x1:M.aLX)=>inv λm s=>∃aa:Int,∃ae:Int,∃r7:List Int,(s.t 2=vP 2 1 0/\s.t 3=vP 3 1 0/\s.t 4=vP 4 1 0/\s.h 2=(1,aFn)/\s.h 3=(1,aC4)/\s.h 4=(1,oB 89 [.row 100007 1,cI aa,.row 300007 1,cI ae,cB x1.aMJ,cB x1.aMI])/\s.h 100007=(1,oW 197 4 M.aZ.en x1.aLz)/\s.h 300007=(1,oW 3 1 enI r7))/\dW x1 m aa ae r7=some r
 have e1:=@dW.eq_2
 unfold dO at h
 exact sgo 177 [.cell 2 89,.cell 3 102] func49⟩
instance:bK 379 (∀p0 p1 r (h:xV p0 p1=some r),Sc 379 [aX (M.aLa.en p0),aI p1] [rB r]):=⟨λp0 p1 r h=>by unfold xV at h;exact sgo 24 [.tmp 4] func379⟩
instance:bK 484 (∀p0 p1 r (h:mD p0 p1=some r),Sc 484 [aI p0,aS p1] [rI r]):=⟨λp0 p1 r h=>by unfold mD at h;exact sgo 14 [.tmp 4] func484⟩
instance:bK 51 (∀p0 p1 p2 r (h:C5 p0 p1 p2=some r),Sc 51 [aX (M.bO.en p0),aS p1,aX (M.aLb.en p2)] [(true,M.bO.rs r.1),rB r.2]):=⟨λp0 p1 p2 r h=>by unfold C5 at h;exact sgo 43 [.cell 6 91,.tmp 7] func51⟩
theorem aLI(p0 r)(h:Fw p0=some r):Sc 267 [aL enB p0] [rW 58 1 (enL enB) r.1,rI r.2]:=by
 have i1:=inv λm s=>∃I:Int,∃j:List (List Int),∃C:Nat,(s.t 0=vL enB p0/\s.t 4=vR 100012 C/\s.t 5=vI I/\s.h 100012=(C,oW 58 1 (enL enB) j))/\yK p0 m I j=some r
 have e1:=@yK.eq_2
 unfold Fw at h
 exact sgo 48 [.tmp 2,.tmp 3] func267
instance aEW:bK 488 (∀p0 r (h:E1 p0=some r),Sc 488 [aX (M.gN.en p0)] [rB r]):=⟨λp0 r h=>by unfold E1 at h;exact sgo 39 [.tmp 2] func488⟩
theorem aGw(p0 c0 r)(h:mG p0 c0=some r):Sc 589 [aX (M.aLo.en p0),(false,[.ptr [.bool c0.aMO,.bool c0.aMH,.int .i64 c0.Low.aLn,.int .i64 c0.Low.N,.str c0.Low.aLu,.int .i64 c0.aMK.aLn,.int .i64 c0.aMK.N,.str c0.aMK.aLu]])] [rB r]:=by unfold mG at h;exact sgo 8 [.tmp 3] func589
instance aEZ:bK 159 (∀p0 p1 p2 r (h:pK p0 p1 p2=some r),Sc 159 [aX (M.aF.en p0),aS p1,aI p2] [(true,M.aF.rs r.1),rB r.2]):=⟨λp0 p1 p2 r h=>by
 have i1:=λ(x1:M.aF)=>inv λm s=>∃v10:Int,(s.t 1=vS p1/\s.t 2=vI p2/\s.t 3=vP 3 1 0/\s.t 6=vP 6 1 0/\s.t 8=vP 8 1 0/\s.t 10=vI v10/\s.h 3=(1,oX 207 (M.aF.en p0))/\s.h 6=(1,oB 207 [.nil])/\s.h 8=(1,oB 207 [.row 100012 1])/\s.h 100012=(1,oW 322 2 M.aR.en x1.aLY))/\pV p0 p1 p2 x1 m v10=some r
 have e1:=@pV.eq_2
 unfold pK at h
 exact sgo 61 [.cell 6 207,.tmp 7] func159⟩
instance:bK 278 (∀p0 p1 p2 r (h:Ck p0 p1 p2=some r),Sc 278 [aL enB p0,aI p1,aL enB p2] [rW 5 1 enB r.1,rB r.2]):=⟨λp0 p1 p2 r h=>by unfold Ck at h;exact sgo 26 [.tmp 6,.tmp 7] func278⟩
theorem aK4(p0 p1 r)(h:vW p0 p1=some r):Sc 435 [aX (M.aLi.en p0),aX (M.aLi.en p1)] [rB r]:=by
 unfold vW at h
 simp only[EN]
 refine sgn 17 [.tmp 4] func435 λbase wd=> ?_
 refine sq (rn ?_)
 refine an (sq ?_)
 rcases Dz (p0.aLT==p1.aLT)with b1|b1
 ·replace h:=bM b1 h;refine rn ?_;exact an (rt zR)
 replace h:=bN b1 h
 obtain⟨x2,h3,h⟩:=aA h
 refine rn1 (aKp p0.aLg p1.aLg (λj C=>vF j C) 523 [] (λj C r I=>aKZ j C r I) x2 h3) ?_
 exact an (rt zR)
instance:bK 436 (∀p0 p1 r (h:uO p0 p1=some r),Sc 436 [aX (M.aLS.en p0),aX (M.aLS.en p1)] [rB r]):=⟨λp0 p1 r h=>by
 unfold uO at h
 simp only[EN]
 refine sgn 31 [.tmp 4] func436 λbase wd=> ?_
 refine sq (rn ?_)
 refine an (sq ?_)
 rcases Dz (p0.Name.toList==p1.Name.toList)with b1|b1
 ·replace h:=bM b1 h;refine rn ?_;exact an (rt zR)
 replace h:=bN b1 h
 rcases Dz (p0.aLT==p1.aLT)with b2|b2
 ·replace h:=bM b2 h;refine rn ?_;exact an (rt zR)
 replace h:=bN b2 h
 obtain⟨x3,h4,h⟩:=aA h
 rcases Dz x3 with b5|b5
 ·replace h:=bM b5 h;refine rn1 (aHG p0.aLc p1.aLc (λz0 z1=>kJ z0 z1) 201 [] (λz0 z1 r hr=>aEO.1 z0 z1 r hr) x3 h4) ?_;exact an (rt zR)
 replace h:=bN b5 h
 obtain⟨x6,h7,h⟩:=aA h
 refine rn2 (aHG p0.aLc p1.aLc (λz0 z1=>kJ z0 z1) 201 [] (λz0 z1 r hr=>aEO.1 z0 z1 r hr) x3 h4) (aKr _ _ _ h7) ?_
 exact an (rt zR)⟩
instance:bK 312 (∀p0 p1 r (h:xN p0 p1=some r),Sc 312 [aX (M.aG.en p0),aX (M.aG.en p1)] [rB r]):=⟨λp0 p1 r h=>by unfold xN at h;exact sgo 24 [.tmp 4] func312⟩
theorem c86(p0 p1 r)(h:tQ p0 p1=some r):Sc 86 [aX (M.aLj.en p0),aX (M.aLj.en p1)] [rB r]:=by unfold tQ at h;exact sgo 24 [.tmp 4] func86
