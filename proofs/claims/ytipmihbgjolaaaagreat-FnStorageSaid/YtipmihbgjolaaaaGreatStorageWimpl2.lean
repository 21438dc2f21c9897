/-
  Helper text. No conditions.
-/
import Derived.Test.YtipmihbgjolaaaaGreatStorageTi
import Derived.Test.YtipmihbgjolaaaaGreatStorageWimpl0
import Derived.Test.YtipmihbgjolaaaaGreatStorageWimpl1
set_option linter.unusedVariables false
set_option linter.unusedSimpArgs false
namespace Go.Proofs.YtipmihbgjolaaaaGreat.gen
open Go Go.Sh
set_option maxRecDepth 20000
set_option maxHeartbeats 4000000
instance:bR 189 (∀p0 p1 p2 r (h:tZ p0 p1 p2=some r),Sc 189 [aX (M.Y6.en p0),aS p1,aS p2] [rI r]):=⟨λp0 p1 p2 r h=>by
 unfold tZ at h
 simp only[EN]
 refine sgn 11 [.tmp 6] Tryz.func189 λbase wd => ?_
 refine sq (rn ?_)
 refine an (sq ?_)
 obtain⟨x1,h2,h⟩:=bind_some h
 refine rn1 (YO p0.Y8 (λz0=>tK z0 p1 p2) 272 [.ptr [.str p1],.ptr [.str p2]] (λz0 r hr=>Yz z0 p1 p2 r hr) x1 h2) ?_
 refine an (rt ?_)
 cases h
 simp[Ret,TB,EN, *]⟩
instance:bR 305 (∀p0 r (h:nZ p0=some r),Sc 305 [aX (M.Y7.en p0)] [rB r]):=⟨λp0 r h=>by unfold nZ at h;exact sgo 22 [.tmp 2] Tryz.func305⟩
instance:bR 306 (∀p0 p1 r (h:tH p0 p1=some r),Sc 306 [aX (M.YY.en p0),aS p1] [rI r]):=⟨λp0 p1 r h=>by
 unfold tH at h
 simp only[EN]
 refine sgn 9 [.tmp 4] Tryz.func306 λbase wd => ?_
 refine sq (rn ?_)
 refine an (sq ?_)
 obtain⟨x1,h2,h⟩:=bind_some h
 refine rn1 (Yo p0.Y5 (λz0=>pW z0 p1) 362 [.ptr [.str p1]] (λz0 r hr=>Yj z0 p1 r hr) x1 h2) ?_
 refine an (rt ?_)
 cases h
 simp[Ret,TB,EN, *]⟩
instance:bR 394 (∀p0 p1 r (h:yW p0 p1=some r),Sc 394 [aX (M.aC.en p0),aS p1] [rI r]):=⟨λp0 p1 r h=>by
 unfold yW at h
 simp only[EN]
 refine sgn 9 [.tmp 4] Tryz.func394 λbase wd => ?_
 refine sq (rn ?_)
 refine an (sq ?_)
 obtain⟨x1,h2,h⟩:=bind_some h
 refine rn1 (Ye p0.Y4 (λz0=>tE z0 p1) 407 [.ptr [.str p1]] (λz0 r hr=>YE z0 p1 r hr) x1 h2) ?_
 refine an (rt ?_)
 cases h
 simp[Ret,TB,EN, *]⟩
instance:bR 365 (∀p0 p1 r (h:kE p0 p1=some r),Sc 365 [aX (M.aC.en p0),aS p1] [rI r.1,rB r.2]):=⟨λp0 p1 r h=>by unfold kE at h;exact sgo 18 [.tmp 4,.tmp 5] Tryz.func365⟩
instance:bR 323 (∀p0 p1 r (h:gN p0 p1=some r),Sc 323 [aL enB p0,aI p1] [rW 5 1 enB r]):=⟨λp0 p1 r h=>by
 have i1:=inv λm s=>∃v1:Int,∃r7:List Int,∃u7:Nat,(s.t 1=vI v1/\s.t 5=vR 100007 u7/\s.h 100007=(u7,oW 5 1 enB r7))/\eR m v1 r7=some r
 have e1:=@eR.eq_2
 unfold gN at h
 exact sgo 28 [.tmp 4] Tryz.func323⟩
instance:bR 324 (∀p0 p1 r (h:rC p0 p1=some r),Sc 324 [aL enB p0,aL enB p1] [rW 5 1 enB r]):=⟨λp0 p1 r h=>by unfold rC at h;exact sgo 11 [.tmp 4] Tryz.func324⟩
instance:bR 109 (∀p0 p1 r (h:nX p0 p1=some r),Sc 109 [aL enB p0,aL enB p1] [rB r]):=⟨λp0 p1 r h=>by unfold nX at h;exact sgo 8 [.tmp 4] Tryz.func109⟩
instance:bR 371 (∀p0 p1 r (h:mH p0 p1=some r),Sc 371 [aX (M.Y7.en p0),aX (M.Y7.en p1)] [rB r]):=⟨λp0 p1 r h=>by unfold mH at h;exact sgo 38 [.tmp 4] Tryz.func371⟩
instance:bR 322 (∀p0 p1 r (h:nO p0 p1=some r),Sc 322 [aX (M.aF.en p0),aX (M.aF.en p1)] [rB r]):=⟨λp0 p1 r h=>by unfold nO at h;exact sgo 24 [.tmp 4] Tryz.func322⟩
instance:bR 242 (∀p0 p1 r (h:sS p0 p1=some r),Sc 242 [aX (M.Ze.en p0),aX (M.Ze.en p1)] [rB r]):=⟨λp0 p1 r h=>by unfold sS at h;exact sgo 24 [.tmp 4] Tryz.func242⟩
theorem c67(I:List M.fS)(J:M.fS->Option Bool)(j:FuncId)(C:List D)(hp1 : ∀U r,J U=some r->kM Tryz.prog j ((true,M.fS.en U)::  C.map λc=>(false,[c])) [(false,[.ro (.bool r)])])(r:Bool)(h:dC I J=some r):Sc 67 [(false,[.sl (List.map M.fS.en I)]),(false,[.fn j C])] [rB r]:=by
 unfold dC at h
 simp only[EN]
 refine sgn 9 [.tmp 4] Tryz.func67 λbase wd => ?_
 refine sq (rn ?_)
 refine an (sq ?_)
 obtain⟨x1,h2,h⟩:=bind_some h
 refine rn1 (c79 I J j C hp1 x1 h2) ?_
 refine an (rt ?_)
 cases h
 simp[Ret,TB,EN, *]
instance c17:bR 17 (∀p0 p1 p2 r (h:mR p0 p1 p2=some r),Sc 17 [aX (M.aK.en p0),aL M.fS.en p1,aI p2] [rB r]):=⟨λp0 p1 p2 r h=>by
 unfold mR at h
 simp only[EN]
 refine sgn 34 [.tmp 6] Tryz.func17 λbase wd => ?_
 refine sq (rn ?_)
 refine an (sq (rn ?_))
 refine an (sq (sq (rn ?_)))
 refine an ?_
 rcases AU (decide (p2>=(-1000000000000)))with b1 | b1
 ·replace h:=bW b1 h;refine cf (sk (an (sq (sq ?_))));rcases jR (decide (p0.Zo>=p2))with b7 | b7;(replace h:=bX b7 h;refine rn ?_;refine an (ct (sq (rn ?_)));refine an (rt ?_);cases h;simp[Ret,TB,EN, *]);replace h:=bW b7 h;rcases jR p0.Zl with b8 | b8;(replace h:=bX b8 h;refine rn ?_;refine an (ct (sq (rn ?_)));refine an (rt ?_);cases h;simp[Ret,TB,EN, *]);replace h:=bW b8 h;refine rn ?_;refine an ?_;rcases jR (decide ((List.length p0.aD.Ze.aF.Y9:Int)>0))with b9 | b9;(replace h:=bX b9 h;refine ct (sq (rn ?_));refine an (rt ?_);cases h;simp[Ret,TB,EN, *]);replace h:=bW b9 h;refine cf (sk (an (sq ?_)));obtain⟨aa,ae,h⟩:=bind_some h;refine rn1 (c67 p1 (λz0=>fF z0 p0) 68 [.ptr [.str p0.Zh,.str p0.Zw,.str p0.YZ.Zh,.int .i64 p0.YZ.Zm,.int .i64 p0.YZ.Zs,.int .i64 p0.YZ.Zv,.sl (List.map M.Y6.en p0.Y1.Y1),.str p0.bG.Zf.Name,.int .i64 p0.bG.Zf.Y2,.sl (List.map M.aA.en p0.bG.Zf.Y5),.sl (List.map M.aM.en p0.bG.Zf.Za),.sl (List.map enB p0.bG.ZD),.int .i64 p0.bG.Zu,.str p0.aD.Zf.Name,.sl (List.map M.Zd.en p0.aD.Zf.Y3),.int .i64 p0.aD.Zf.Zn,.int .i64 p0.aD.Zx,.int .i64 p0.aD.Ze.aF.Zg,.int .i64 p0.aD.Ze.aF.Zr,.sl (List.map M.aV.en p0.aD.Ze.aF.Y9),.int .i64 p0.aD.Ze.Zt,.int .i64 p0.aD.Ze.Zj,.int .i64 p0.Zo,.bool p0.Zl]] (λz0 r hr=>c68 z0 p0 r hr) aa ae) ?_;refine an (rt ?_);cases h;simp[Ret,TB,EN, *]
 replace h:=bX b1 h
 refine ct (rn ?_)
 refine an (sq (sq ?_))
 rcases jR (decide (p0.Zo>=(IntKind.i64.wrap (p2-30))))with b2 | b2
 ·replace h:=bX b2 h;refine rn ?_;refine an (ct (sq (rn ?_)));refine an (rt ?_);cases h;simp[Ret,TB,EN, *]
 replace h:=bW b2 h
 rcases jR p0.Zl with b3 | b3
 ·replace h:=bX b3 h;refine rn ?_;refine an (ct (sq (rn ?_)));refine an (rt ?_);cases h;simp[Ret,TB,EN, *]
 replace h:=bW b3 h
 refine rn ?_
 refine an ?_
 rcases jR (decide ((List.length p0.aD.Ze.aF.Y9:Int)>0))with b4 | b4
 ·replace h:=bX b4 h;refine ct (sq (rn ?_));refine an (rt ?_);cases h;simp[Ret,TB,EN, *]
 replace h:=bW b4 h
 refine cf (sk (an (sq ?_)))
 obtain⟨x5,h6,h⟩:=bind_some h
 refine rn1 (c67 p1 (λz0=>fF z0 p0) 68 [.ptr [.str p0.Zh,.str p0.Zw,.str p0.YZ.Zh,.int .i64 p0.YZ.Zm,.int .i64 p0.YZ.Zs,.int .i64 p0.YZ.Zv,.sl (List.map M.Y6.en p0.Y1.Y1),.str p0.bG.Zf.Name,.int .i64 p0.bG.Zf.Y2,.sl (List.map M.aA.en p0.bG.Zf.Y5),.sl (List.map M.aM.en p0.bG.Zf.Za),.sl (List.map enB p0.bG.ZD),.int .i64 p0.bG.Zu,.str p0.aD.Zf.Name,.sl (List.map M.Zd.en p0.aD.Zf.Y3),.int .i64 p0.aD.Zf.Zn,.int .i64 p0.aD.Zx,.int .i64 p0.aD.Ze.aF.Zg,.int .i64 p0.aD.Ze.aF.Zr,.sl (List.map M.aV.en p0.aD.Ze.aF.Y9),.int .i64 p0.aD.Ze.Zt,.int .i64 p0.aD.Ze.Zj,.int .i64 p0.Zo,.bool p0.Zl]] (λz0 r hr=>c68 z0 p0 r hr) x5 h6) ?_
 refine an (rt ?_)
 cases h
 simp[Ret,TB,EN, *]⟩
end Go.Proofs.YtipmihbgjolaaaaGreat.gen
