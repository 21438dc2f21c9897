/-
  Helper text. No conditions.
-/
import Derived.Test.YtndidbigdalbnaaGreatNotesWimpl0
import Derived.Test.YtndidbigdalbnaaGreatNotesWimpl1
set_option linter.all false
namespace Go.Proofs.YtndidbigdalbnaaGreat.gen
open Go Go.Sh Tryz
set_option maxRecDepth 20000
set_option maxHeartbeats 4000000
instance:bU 197 (∀p0 r (h:nK p0=some r),Sc 197 [aX (M.aKo.en p0)] [(true,M.aKo.rs r)]):=⟨λp0 r h=>by unfold nK at h;exact sgo 8 [.cell 2 244] func197⟩
instance:bU 139 (∀p0 r (h:yB p0=some r),Sc 139 [aX (M.aN.en p0)] [(true,M.aN.rs r)]):=⟨λp0 r h=>by
 have i1:=He [.b 3 0 7050100 262 2] λm s=>∃aj:Int,∃ah:List M.aKv,∃aa:Nat,(s.t 2=vP 2 1 0/\s.t 3=vP 3 1 0/\s.t 11=vL M.aKv.en p0.aKi/\s.t 12=vI (List.length p0.aKi:Int)/\s.t 13=vI aj/\s.h 2=(1,oB 63 [.nil])/\s.h 3=(1,oB 63 [.row 7050100 aa])/\s.h 7050100=(aa,oW 262 2 M.aKv.en ah))/\fO p0 m aj ah=some r
 have e1:=@fO.eq_2
 have i2:=λ(aj:Int) (ah:List M.aKv) (ak:M.aKv) (al:Int->List M.aK2->Option M.aN) (s1:St) (aa:Nat)=>He [.b 6 1 7050000 264 7] λm s=>∃ai:Int,∃ae:List M.aK2,∃af:Nat,(s.t 2=vP 2 1 0/\s.t 3=vP 3 1 0/\s.t 6=vP 6 ((s1.h 6).1+1) 0/\s.t 11=vL M.aKv.en p0.aKi/\s.t 12=vI (List.length p0.aKi:Int)/\s.t 13=vI aj/\s.t 21=vL M.aK2.en ak.aKs/\s.t 22=vI (List.length ak.aKs:Int)/\s.t 23=vI ai/\s.h 2=(1,oB 63 [.nil])/\s.h 3=(1,oB 63 [.row 7050100 aa])/\s.h 6=((s1.h 6).1+1,oB 262 [cI ak.aKb,.row 7050000 af])/\s.h 7050000=(af,oW 264 7 M.aK2.en ae)/\s.h 7050100=(aa,oW 262 2 M.aKv.en ah))/\iS ak al m ai ae=some r
 have e2:=@iS.eq_2
 unfold yB at h
 exact sgo 46 [.cell 2 63] func139⟩
instance:bU 110 (∀p0 r (h:kY p0=some r),Sc 110 [aX (M.bK.en p0)] [(true,M.bK.rs r)]):=⟨λp0 r h=>by unfold kY at h;exact sgo 13 [.cell 2 44] func110⟩
instance:bU 52 (∀p0 r (h:Bv p0=some r),Sc 52 [aL M.bK.en p0] [rW 44 11 M.bK.en r]):=⟨λp0 r h=>by
 have i1:=inv λm s=>∃v9:Int,∃r6:List M.bK,∃u6:Nat,(s.t 3=vR 100006 u6/\s.t 7=vL M.bK.en p0/\s.t 8=vI (List.length p0:Int)/\s.t 9=vI v9/\s.h 100006=(u6,oW 44 11 M.bK.en r6))/\nM p0 m v9 r6=some r
 have e1:=@nM.eq_2
 unfold Bv at h
 exact sgo 20 [.tmp 2] func52⟩
instance:bU 239 (∀p0 p1 r (h:Hz p0 p1=some r),Sc 239 [aI p0,aI p1] [rI r]):=⟨λp0 p1 r h=>by unfold Hz at h;exact sgo 18 [.tmp 4] func239⟩
instance:bU 182 (∀p0 r (h:EB p0=some r),Sc 182 [aL enI p0] [rI r]):=⟨λp0 r h=>by
 have i1:=inv λm s=>∃v3:Int,∃v8:Int,(s.t 3=vI v3/\s.t 6=vL enI p0/\s.t 7=vI (List.length p0:Int)/\s.t 8=vI v8)/\Av p0 m v3 v8=some r
 have e1:=@Av.eq_2
 unfold EB at h
 exact sgo 21 [.tmp 2] func182⟩
instance:bU 192 (∀p0 r (h:kG p0=some r),Sc 192 [aX (M.bD.en p0)] [rB r]):=⟨λp0 r h=>by unfold kG at h;exact sgo 39 [.tmp 2] func192⟩
instance aFW:bU 135 (∀p0 r (h:lB p0=some r),Sc 135 [aX (M.bD.en p0)] [rW 5 1 enB r]):=⟨λp0 r h=>by
 have i1:=inv λm s=>∃v4:Int,∃aa:List Int,∃ae:Nat,(s.t 1=vP 1 1 0/\s.t 3=vR 100012 ae/\s.t 4=vI v4/\s.h 1=(1,oX 98 (M.bD.en p0))/\s.h 100012=(ae,oW 5 1 enB aa))/\cQ p0 m v4 aa=some r
 have e1:=@cQ.eq_2
 unfold lB at h
 exact sgo 34 [.tmp 2] func135⟩
instance aFB:bU 119 (∀p0 p1 r (h:iH p0 p1=some r),Sc 119 [aL enB p0,aL enB p1] [rB r]):=⟨λp0 p1 r h=>by unfold iH at h;exact sgo 8 [.tmp 4] func119⟩
instance:bU 310 (∀p0 p1 r (h:Cw p0 p1=some r),Sc 310 [aS p0,aS p1] [rI r]):=⟨λp0 p1 r h=>by unfold Cw at h;exact sgo 8 [.tmp 4] func310⟩
instance:bU 240 (∀p0 p1 r (h:eT p0 p1=some r),Sc 240 [aX (M.bD.en p0),aX (M.bD.en p1)] [rI r]):=⟨λp0 p1 r h=>by unfold eT at h;exact sgo 36 [.tmp 4] func240⟩
instance c62:bU 62 (∀p0 p1 r (h:rC p0 p1=some r),Sc 62 [aX (M.aKc.en p0),aS p1] [rI r]):=⟨λp0 p1 r h=>by
 unfold rC at h
 simp only[EN]
 refine sgn 9 [.tmp 4] func62 λbase wd=> ?_
 refine sq (rn ?_)
 refine an (sq ?_)
 obtain⟨x1,h2,h⟩:=aA h
 refine rn1 (aJ2 p0.aKm (λz0=>Aa z0 p1) 123 [.ptr [.str p1]] (λz0 r hr=>aJ1 z0 p1 r hr) x1 h2) ?_
 exact an (rt zR)⟩
instance:bU 186 (∀p0 p1 r (h:lR p0 p1=some r),Sc 186 [aL M.aV.en p0,aX (M.aV.en p1)] [rB r]):=⟨λp0 p1 r h=>by unfold lR at h;exact sgo 9 [.tmp 4] func186⟩
instance:bU 65 (∀p0 p1 r (h:B1 p0 p1=some r),Sc 65 [aX (M.aF.en p0),aS p1] [rI r]):=⟨λp0 p1 r h=>by
 unfold B1 at h
 simp only[EN]
 refine sgn 9 [.tmp 4] func65 λbase wd=> ?_
 refine sq (rn ?_)
 refine an (sq ?_)
 obtain⟨x1,h2,h⟩:=aA h
 refine rn1 (aJi p0.aKj (λz0=>yO z0 p1) 127 [.ptr [.str p1]] (λz0 r hr=>aKK z0 p1 r hr) x1 h2) ?_
 exact an (rt zR)⟩
instance c44:bU 44 (∀p0 p1 r (h:iA p0 p1=some r),Sc 44 [aX (M.aF.en p0),aS p1] [rI r.1,rB r.2]):=⟨λp0 p1 r h=>by unfold iA at h;exact sgo 18 [.tmp 4,.tmp 5] func44⟩
instance c63:bU 63 (∀p0 p1 r (h:mH p0 p1=some r),Sc 63 [aX (M.aD.en p0),aX (M.bD.en p1)] [rI r]):=⟨λp0 p1 r h=>by
 unfold mH at h
 simp only[EN]
 refine sgn 9 [.tmp 4] func63 λbase wd=> ?_
 refine sq (rn ?_)
 refine an (sq ?_)
 obtain⟨x1,h2,h⟩:=aA h
 refine rn1 (aII p0.aKg (λz0=>Ba z0 p1) 125 [.ptr [.int .i64 p1.aKx,.int .i64 p1.N,.str p1.aK5]] (λz0 r hr=>aKB z0 p1 r hr) x1 h2) ?_
 exact an (rt zR)⟩
instance:bU 21 (∀p0 p1 r (h:CC p0 p1=some r),Sc 21 [aX (M.aKc.en p0),aI p1] [(true,M.aF.ra r.1),rB r.2.1,rB r.2.2]):=⟨λp0 p1 r h=>by unfold CC at h;exact sgo 35 [.cell 4 90,.tmp 5,.tmp 6] func21⟩
instance:bU 249 (∀p0 r (h:xC p0=some r),Sc 249 [aX (M.aKo.en p0)] [rB r]):=⟨λp0 r h=>by unfold xC at h;exact sgo 22 [.tmp 2] func249⟩
instance:bU 251 (∀p0 r (h:CB p0=some r),Sc 251 [aX (M.aN.en p0)] [rI r]):=⟨λp0 r h=>by
 have i1:=inv λm s=>∃v3:Int,∃v11:Int,(s.t 3=vI v3/\s.t 9=vL M.aKv.en p0.aKi/\s.t 10=vI (List.length p0.aKi:Int)/\s.t 11=vI v11)/\fZ p0 m v3 v11=some r
 have e1:=@fZ.eq_2
 have i2:=λ(v11:Int) (x7:M.aKv) (af:Int->Int->Option Int)=>inv λm s=>∃ae:Int,∃aa:Int,(s.t 3=vI ae/\s.t 9=vL M.aKv.en p0.aKi/\s.t 10=vI (List.length p0.aKi:Int)/\s.t 11=vI v11/\s.t 16=vL M.aK2.en x7.aKs/\s.t 17=vI (List.length x7.aKs:Int)/\s.t 18=vI aa)/\lT x7 af m ae aa=some r
 have e2:=@lT.eq_2
 unfold CB at h
 exact sgo 34 [.tmp 2] func251⟩
instance:bU 329 (∀p0 p1 r (h:tL p0 p1=some r),Sc 329 [aX (M.aKo.en p0),aX (M.aKo.en p1)] [rB r]):=⟨λp0 p1 r h=>by unfold tL at h;exact sgo 38 [.tmp 4] func329⟩
instance:bU 97 (∀p0 p1 r (h:vF p0 p1=some r),Sc 97 [aX (M.aKh.en p0),aX (M.aKh.en p1)] [rB r]):=⟨λp0 p1 r h=>by unfold vF at h;exact sgo 45 [.tmp 4] func97⟩
theorem c36(p0 p1 r)(h:iB p0 p1=some r):Sc 36 [aX (M.bK.en p0),aX (M.bK.en p1)] [rB r]:=by unfold iB at h;exact sgo 45 [.tmp 4] func36
