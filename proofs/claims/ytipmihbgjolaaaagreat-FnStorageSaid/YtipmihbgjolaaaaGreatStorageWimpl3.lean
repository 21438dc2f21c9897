/-
  Helper text. No conditions.
-/
import Derived.Test.YtipmihbgjolaaaaGreatStorageTi
import Derived.Test.YtipmihbgjolaaaaGreatStorageWimpl0
import Derived.Test.YtipmihbgjolaaaaGreatStorageWimpl1
set_option linter.unusedVariables false
set_option linter.unusedSimpArgs false
namespace Go.Proofs.YtipmihbgjolaaaaGreat.gen
open Go Go.Sh
set_option maxRecDepth 20000
set_option maxHeartbeats 4000000
instance:bR 190 (∀p0 r (h:oS p0=some r),Sc 190 [aX (M.Y7.en p0)] [(true,M.Y7.rs r)]):=⟨λp0 r h=>by unfold oS at h;exact sgo 8 [.cell 2 105] Tryz.func190⟩
instance:bR 127 (∀p0 r (h:oQ p0=some r),Sc 127 [aX (M.aE.en p0)] [(true,M.aE.rs r)]):=⟨λp0 r h=>by
 have i1:=CO [.b 3 0 7050100 193 2] λm s=>∃aj:Int,∃ah:List M.Y6,∃aa:Nat,(s.t 2=vP 2 1 0/\s.t 3=vP 3 1 0/\s.t 11=vL M.Y6.en p0.Y1/\s.t 12=vI (List.length p0.Y1:Int)/\s.t 13=vI aj/\s.h 2=(1,oB 31 [.nil])/\s.h 3=(1,oB 31 [.row 7050100 aa])/\s.h 7050100=(aa,oW 193 2 M.Y6.en ah))/\dN p0 m aj ah=some r
 have e1:=@dN.eq_2
 have i2:=λ(aj:Int) (ah:List M.Y6) (ak:M.Y6) (al:Int->List M.Zb->Option M.aE) (s1:St) (aa:Nat)=>CO [.b 6 1 7050000 195 7] λm s=>∃ai:Int,∃ae:List M.Zb,∃af:Nat,(s.t 2=vP 2 1 0/\s.t 3=vP 3 1 0/\s.t 6=vP 6 ((s1.h 6).1+1) 0/\s.t 11=vL M.Y6.en p0.Y1/\s.t 12=vI (List.length p0.Y1:Int)/\s.t 13=vI aj/\s.t 21=vL M.Zb.en ak.Y8/\s.t 22=vI (List.length ak.Y8:Int)/\s.t 23=vI ai/\s.h 2=(1,oB 31 [.nil])/\s.h 3=(1,oB 31 [.row 7050100 aa])/\s.h 6=((s1.h 6).1+1,oB 193 [cI ak.Y2,.row 7050000 af])/\s.h 7050000=(af,oW 195 7 M.Zb.en ae)/\s.h 7050100=(aa,oW 193 2 M.Y6.en ah))/\fG ak al m ai ae=some r
 have e2:=@fG.eq_2
 unfold oQ at h
 exact sgo 46 [.cell 2 31] Tryz.func127⟩
instance:bR 302 (∀p0 r (h:sP p0=some r),Sc 302 [aX (M.Zd.en p0)] [(true,M.Zd.rs r)]):=⟨λp0 r h=>by unfold sP at h;exact sgo 9 [.cell 2 284] Tryz.func302⟩
instance:bR 223 (∀p0 r (h:pQ p0=some r),Sc 223 [aX (M.aA.en p0)] [(true,M.aA.rs r)]):=⟨λp0 r h=>by
 have i1:=CO [.b 3 1 7050000 284 4] λm s=>∃af:Int,∃aa:List M.Zd,∃ae:Nat,(s.t 2=vP 2 1 0/\s.t 3=vP 3 1 0/\s.t 12=vL M.Zd.en p0.Y3/\s.t 13=vI (List.length p0.Y3:Int)/\s.t 14=vI af/\s.h 2=(1,oB 40 [cS (⟨#[]⟩:ByteArray),.nil,cI 0])/\s.h 3=(1,oB 40 [cS p0.Name,.row 7050000 ae,cI p0.Zn])/\s.h 7050000=(ae,oW 284 4 M.Zd.en aa))/\iQ p0 m af aa=some r
 have e1:=@iQ.eq_2
 unfold pQ at h
 exact sgo 27 [.cell 2 40] Tryz.func223⟩
instance:bR 224 (∀p0 r (h:uV p0=some r),Sc 224 [aX (M.Ze.en p0)] [(true,M.Ze.rs r)]):=⟨λp0 r h=>by unfold uV at h;exact sgo 8 [.cell 2 45] Tryz.func224⟩
instance c12:bR 12 (∀p0 p1 p2 r (h:nY p0 p1 p2=some r),Sc 12 [aX (M.aH.en p0),aS p1,aS p2] [rI r]):=⟨λp0 p1 p2 r h=>by
 unfold nY at h
 simp only[EN]
 refine sgn 11 [.tmp 6] Tryz.func12 λbase wd => ?_
 refine sq (rn ?_)
 refine an (sq ?_)
 obtain⟨x1,h2,h⟩:=bind_some h
 refine rn1 (c59 p0.Y0 (λz0=>oL z0 p1 p2) 60 [.ptr [.str p1],.ptr [.str p2]] (λz0 r hr=>c60 z0 p1 p2 r hr) x1 h2) ?_
 refine an (rt ?_)
 cases h
 simp[Ret,TB,EN, *]⟩
instance:bR 249 (∀p0 p1 p2 r (h:xI p0 p1 p2=some r),Sc 249 [aS p0,aI p1,aB p2] [rB r]):=⟨λp0 p1 p2 r h=>by
 have i1:=inv λm s=>∃v7:Int,(s.t 0=vS p0/\s.t 1=vI p1/\s.t 2=vB p2/\s.t 7=vI v7)/\gB p0 p1 p2 m v7=some r
 have e1:=@gB.eq_2
 unfold xI at h
 exact sgo 38 [.tmp 6] Tryz.func249⟩
instance Uj:bR 150 (∀p0 r (h:eA p0=some r),Sc 150 [aS p0] [rB r]):=⟨λp0 r h=>by unfold eA at h;exact sgo 5 [.tmp 2] Tryz.func150⟩
instance:bR 250 (∀p0 r (h:pV p0=some r),Sc 250 [aX (M.Key.en p0)] [rB r]):=⟨λp0 r h=>by unfold pV at h;exact sgo 39 [.tmp 2] Tryz.func250⟩
instance:bR 327 (∀p0 p1 r (h:vE p0 p1=some r),Sc 327 [aS p0,aS p1] [rI r]):=⟨λp0 p1 r h=>by unfold vE at h;exact sgo 8 [.tmp 4] Tryz.func327⟩
instance:bR 252 (∀p0 p1 r (h:mN p0 p1=some r),Sc 252 [aX (M.Key.en p0),aX (M.Key.en p1)] [rI r]):=⟨λp0 p1 r h=>by unfold mN at h;exact sgo 36 [.tmp 4] Tryz.func252⟩
instance:bR 307 (∀p0 p1 r (h:gL p0 p1=some r),Sc 307 [aL M.aM.en p0,aX (M.aM.en p1)] [rB r]):=⟨λp0 p1 r h=>by unfold gL at h;exact sgo 9 [.tmp 4] Tryz.func307⟩
instance:bR 146 (∀p0 r (h:sM p0=some r),Sc 146 [aX (M.aE.en p0)] [rI r]):=⟨λp0 r h=>by
 have i1:=inv λm s=>∃v3:Int,∃v11:Int,(s.t 3=vI v3/\s.t 9=vL M.Y6.en p0.Y1/\s.t 10=vI (List.length p0.Y1:Int)/\s.t 11=vI v11)/\dX p0 m v3 v11=some r
 have e1:=@dX.eq_2
 have i2:=λ(v11:Int) (x7:M.Y6) (af:Int->Int->Option Int)=>inv λm s=>∃ae:Int,∃aa:Int,(s.t 3=vI ae/\s.t 9=vL M.Y6.en p0.Y1/\s.t 10=vI (List.length p0.Y1:Int)/\s.t 11=vI v11/\s.t 16=vL M.Zb.en x7.Y8/\s.t 17=vI (List.length x7.Y8:Int)/\s.t 18=vI aa)/\gO x7 af m ae aa=some r
 have e2:=@gO.eq_2
 unfold sM at h
 exact sgo 34 [.tmp 2] Tryz.func146⟩
instance:bR 247 (∀p0 r (h:tP p0=some r),Sc 247 [aX (M.Key.en p0)] [rW 5 1 enB r]):=⟨λp0 r h=>by
 have i1:=inv λm s=>∃v4:Int,∃aa:List Int,∃ae:Nat,(s.t 1=vP 1 1 0/\s.t 3=vR 100012 ae/\s.t 4=vI v4/\s.h 1=(1,oX 209 (M.Key.en p0))/\s.h 100012=(ae,oW 5 1 enB aa))/\eP p0 m v4 aa=some r
 have e1:=@eP.eq_2
 unfold tP at h
 exact sgo 34 [.tmp 2] Tryz.func247⟩
instance:bR 331 (∀p0 p1 r (h:oM p0 p1=some r),Sc 331 [aX (M.aC.en p0),aX (M.aC.en p1)] [rB r]):=⟨λp0 p1 r h=>by unfold oM at h;exact sgo 10 [.tmp 4] Tryz.func331⟩
theorem YT(p0 p1 r)(h:oE p0 p1=some r):Sc 263 [aX (M.Zd.en p0),aX (M.Zd.en p1)] [rB r]:=by unfold oE at h;exact sgo 17 [.tmp 4] Tryz.func263
end Go.Proofs.YtipmihbgjolaaaaGreat.gen
