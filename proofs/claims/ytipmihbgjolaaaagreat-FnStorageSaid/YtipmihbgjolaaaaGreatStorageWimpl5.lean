/-
  Helper text. No conditions.
-/
import Derived.Test.YtipmihbgjolaaaaGreatStorageTi
import Derived.Test.YtipmihbgjolaaaaGreatStorageWimpl0
import Derived.Test.YtipmihbgjolaaaaGreatStorageWimpl1
import Derived.Test.YtipmihbgjolaaaaGreatStorageWimpl2
import Derived.Test.YtipmihbgjolaaaaGreatStorageWimpl3
import Derived.Test.YtipmihbgjolaaaaGreatStorageWimpl4
import Derived.Test.YtipmihbgjolaaaaGreatStorageWlib
set_option linter.unusedVariables false
set_option linter.unusedSimpArgs false
namespace Go.Proofs.YtipmihbgjolaaaaGreat.gen
open Go Go.Sh
set_option maxRecDepth 20000
set_option maxHeartbeats 4000000
instance:bR 48 (∀p0 r (h:fB p0=some r),Sc 48 [aX (M.aK.en p0)] [(true,M.aK.rs r)]):=⟨λp0 r h=>by unfold fB at h;exact sgo 16 [.cell 2 49] Tryz.func48⟩
instance:bR 47 (∀p0 r (h:bY p0=some r),Sc 47 [aX (M.aH.en p0)] [(true,M.aH.rs r)]):=⟨λp0 r h=>by
 have i1:=CO [.b 3 0 7050000 49 24] λm s=>∃v10:Int,∃aa:List M.aK,∃ae:Nat,(s.t 2=vP 2 1 0/\s.t 3=vP 3 1 0/\s.t 8=vL M.aK.en p0.Y0/\s.t 9=vI (List.length p0.Y0:Int)/\s.t 10=vI v10/\s.h 2=(1,oB 26 [.nil])/\s.h 3=(1,oB 26 [.row 7050000 ae])/\s.h 7050000=(ae,oW 49 24 M.aK.en aa))/\fT p0 m v10 aa=some r
 have e1:=@fT.eq_2
 unfold bY at h
 exact sgo 23 [.cell 2 26] Tryz.func47⟩
instance:bR 308 (∀p0 p1 r (h:gW p0 p1=some r),Sc 308 [aX (M.aA.en p0),aS p1] [(true,M.Key.rs r.1),(true,M.Key.rs r.2.1),rB r.2.2]):=⟨λp0 p1 r h=>by
 have i1:=λ(x1:(List M.Zd))=>inv λm s=>∃v8:Int,(s.t 1=vS p1/\s.t 4=vP 4 1 0/\s.t 5=vP 5 1 0/\s.t 7=vR 100015 1/\s.t 8=vI v8/\s.h 4=(1,oB 209 [cI 0,cI 0,cS (⟨#[]⟩:ByteArray)])/\s.h 5=(1,oB 209 [cI 0,cI 0,cS (⟨#[]⟩:ByteArray)])/\s.h 100015=(1,oW 284 4 M.Zd.en x1))/\eI p1 x1 m v8=some r
 have e1:=@eI.eq_2
 unfold gW at h
 exact sgo 59 [.cell 4 209,.cell 5 209,.tmp 6] Tryz.func308⟩
instance:bR 228 (∀p0 r (h:rU p0=some r),Sc 228 [aX (M.YY.en p0)] [rB r]):=⟨λp0 r h=>by
 have i1:=inv λm s=>∃aa:Int,(s.t 1=vP 1 1 0/\s.t 34=vL M.aA.en p0.Y5/\s.t 35=vI (List.length p0.Y5:Int)/\s.t 36=vI aa/\s.h 1=(1,oX 35 (M.YY.en p0)))/\dU p0 m aa=some r
 have e1:=@dU.eq_2
 have i2:=inv λm s=>∃ae:Int,(s.t 1=vP 1 1 0/\s.t 62=vL M.aM.en p0.Za/\s.t 63=vI (List.length p0.Za:Int)/\s.t 64=vI ae/\s.h 1=(1,oX 35 (M.YY.en p0)))/\dY p0 m ae=some r
 have e2:=@dY.eq_2
 unfold rU at h
 exact sgo 103 [.tmp 2] Tryz.func228⟩
instance:bR 229 (∀p0 r (h:tQ p0=some r),Sc 229 [aX (M.aD.en p0)] [rB r]):=⟨λp0 r h=>by unfold tQ at h;exact sgo 23 [.tmp 2] Tryz.func229⟩
instance:bR 148 (∀p0 r (h:pK p0=some r),Sc 148 [aX (M.aA.en p0)] [rI r]):=⟨λp0 r h=>by
 have i1:=inv λm s=>∃v3:Int,∃v9:Int,(s.t 3=vI v3/\s.t 7=vL M.Zd.en p0.Y3/\s.t 8=vI (List.length p0.Y3:Int)/\s.t 9=vI v9)/\iK p0 m v3 v9=some r
 have e1:=@iK.eq_2
 unfold pK at h
 exact sgo 26 [.tmp 2] Tryz.func148⟩
instance:bR 246 (∀p0 r (h:oN p0=some r),Sc 246 [aX (M.YY.en p0)] [rI r]):=⟨λp0 r h=>by
 have i1:=inv λm s=>∃v3:Int,∃v9:Int,(s.t 3=vI v3/\s.t 7=vL M.aA.en p0.Y5/\s.t 8=vI (List.length p0.Y5:Int)/\s.t 9=vI v9)/\fH p0 m v3 v9=some r
 have e1:=@fH.eq_2
 unfold oN at h
 exact sgo 19 [.tmp 2] Tryz.func246⟩
instance:bR 147 (∀p0 r (h:xK p0=some r),Sc 147 [aX (M.bG.en p0)] [rI r]):=⟨λp0 r h=>by unfold xK at h;exact sgo 10 [.tmp 2] Tryz.func147⟩
instance:bR 66 (∀p0 r (h:tY p0=some r),Sc 66 [aX (M.aK.en p0)] [rI r]):=⟨λp0 r h=>by unfold tY at h;exact sgo 23 [.tmp 2] Tryz.func66⟩
instance:bR 132 (∀p0 r (h:uT p0=some r),Sc 132 [aX (M.aK.en p0)] [rB r]):=⟨λp0 r h=>by unfold uT at h;exact sgo 50 [.tmp 2] Tryz.func132⟩
instance:bR 51 (∀p0 r (h:cD p0=some r),Sc 51 [aX (M.aH.en p0)] [rB r]):=⟨λp0 r h=>by
 have i1:=inv λm s=>∃v8:Int,(s.t 1=vP 1 1 0/\s.t 6=vL M.aK.en p0.Y0/\s.t 7=vI (List.length p0.Y0:Int)/\s.t 8=vI v8/\s.h 1=(1,oX 26 (M.aH.en p0)))/\eS p0 m v8=some r
 have e1:=@eS.eq_2
 unfold cD at h
 exact sgo 36 [.tmp 2] Tryz.func51⟩
theorem c9(p0 p1 r)(h:pI p0 p1=some r):Sc 9 [aX (M.aH.en p0),aX (M.aK.en p1)] [(true,M.aH.rs r.1),rB r.2]:=by
 have i1:=λ(C:M.aH)=>inv λm s=>∃j:Int,(s.t 2=vP 2 1 0/\s.t 3=vP 3 1 0/\s.t 4=vP 4 1 0/\s.t 6=vP 6 1 0/\s.t 8=vI j/\s.h 2=(1,oX 26 (M.aH.en p0))/\s.h 3=(1,oX 49 (M.aK.en p1))/\s.h 4=(1,oB 26 [.nil])/\s.h 6=(1,oB 26 [.row 100010 1])/\s.h 100010=(1,oW 49 24 M.aK.en C.Y0))/\iT p0 p1 C m j=some r
 have e1:=@iT.eq_2
 unfold pI at h
 exact sgo 60 [.cell 4 26,.tmp 5] Tryz.func9
instance:bR 137 (∀p0 p1 r (h:mB p0 p1=some r),Sc 137 [aX (M.aE.en p0),aX (M.aE.en p1)] [rB r]):=⟨λp0 p1 r h=>by
 unfold mB at h
 simp only[EN]
 refine sgn 10 [.tmp 4] Tryz.func137 λbase wd => ?_
 refine sq (rn ?_)
 refine an (sq ?_)
 obtain⟨x1,h2,h⟩:=bind_some h
 refine rn1 (YB p0.Y1 p1.Y1 (λz0 z1=>mW z0 z1) 240 [] (λz0 z1 r hr=>Yh z0 z1 r hr) x1 h2) ?_
 refine an (rt ?_)
 cases h
 simp[Ret,TB,EN, *]⟩
instance:bR 138 (∀p0 p1 r (h:sD p0 p1=some r),Sc 138 [aX (M.bG.en p0),aX (M.bG.en p1)] [rB r]):=⟨λp0 p1 r h=>by unfold sD at h;exact sgo 24 [.tmp 4] Tryz.func138⟩
theorem c58(p0 p1 r)(h:lL p0 p1=some r):Sc 58 [aX (M.aK.en p0),aX (M.aK.en p1)] [rB r]:=by unfold lL at h;exact sgo 59 [.tmp 4] Tryz.func58
theorem c11(p0 p1 r)(h:nL p0 p1=some r):Sc 11 [aX (M.aH.en p0),aX (M.aH.en p1)] [rB r]:=by
 unfold nL at h
 simp only[EN]
 refine sgn 10 [.tmp 4] Tryz.func11 λbase wd => ?_
 refine sq (rn ?_)
 refine an (sq ?_)
 obtain⟨U,I,h⟩:=bind_some h
 refine rn1 (c57 p0.Y0 p1.Y0 (λj C=>lL j C) 58 [] (λj C r J=>c58 j C r J) U I) ?_
 refine an (rt ?_)
 cases h
 simp[Ret,TB,EN, *]
theorem c15(p0 p1 p2 r)(h:rT p0 p1 p2=some r):Sc 15 [aX (M.aH.en p0),aL M.fS.en p1,aI p2] [(true,M.aH.rs r.1),rW 9 1 enS r.2]:=by
 have i1:=CO [.b 8 0 7050000 49 24] λm s=>∃I:Int,∃J:List ByteArray,∃j:List M.aK,∃U:Nat,∃C:Nat,(s.t 1=vL M.fS.en p1/\s.t 2=vI p2/\s.t 6=vP 6 1 0/\s.t 8=vP 8 1 0/\s.t 9=vR 100013 U/\s.t 15=vL M.aK.en p0.Y0/\s.t 16=vI (List.length p0.Y0:Int)/\s.t 17=vI I/\s.h 6=(1,oB 26 [.nil])/\s.h 8=(1,oB 26 [.row 7050000 C])/\s.h 100013=(U,oW 9 1 enS J)/\s.h 7050000=(C,oW 49 24 M.aK.en j))/\gV p0 p1 p2 m I J j=some r
 have e1:=@gV.eq_2
 unfold rT at h
 exact sgo 44 [.cell 6 26,.tmp 7] Tryz.func15
theorem c16(p0 r)(h:jB p0=some r):Sc 16 [aX (M.aH.en p0)] [rI r]:=by
 have i1:=inv λm s=>∃j:Int,∃C:Int,(s.t 3=vI j/\s.t 7=vL M.aK.en p0.Y0/\s.t 8=vI (List.length p0.Y0:Int)/\s.t 9=vI C)/\gQ p0 m j C=some r
 have e1:=@gQ.eq_2
 unfold jB at h
 exact sgo 19 [.tmp 2] Tryz.func16
end Go.Proofs.YtipmihbgjolaaaaGreat.gen
