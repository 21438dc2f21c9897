/-
  Helper text. No conditions.
-/
import Derived.Test.YtipmihbgjolaaaaGreatLoadedFilesTi
import Derived.Test.YtipmihbgjolaaaaGreatLoadedFilesWimpl0
import Derived.Test.YtipmihbgjolaaaaGreatLoadedFilesWimpl1
import Derived.Test.YtipmihbgjolaaaaGreatLoadedFilesWimpl2
import Derived.Test.YtipmihbgjolaaaaGreatLoadedFilesWimpl3
import Derived.Test.YtipmihbgjolaaaaGreatLoadedFilesWimpl4
import Derived.Test.YtipmihbgjolaaaaGreatLoadedFilesWimpl5
import Derived.Test.YtipmihbgjolaaaaGreatLoadedFilesWimpl6
import Derived.Test.YtipmihbgjolaaaaGreatLoadedFilesWimpl7
set_option linter.unusedVariables false
set_option linter.unusedSimpArgs false
namespace Go.Proofs.YtipmihbgjolaaaaGreat.gen
open Go Go.Sh
set_option maxRecDepth 20000
set_option maxHeartbeats 4000000
theorem c47 (p0 r) (h:uL p0=some r):Sc 47 [aX (M.aA.en p0)] [(true,M.aA.rs r)]:=by
 have i1:=DV [.b 3 0 7050000 49 24] λm s=>∃v10:Int,∃aa:List M.aJ,∃ae:Nat,(s.t 2=vP 2 1 0/\s.t 3=vP 3 1 0/\s.t 8=vL M.aJ.en p0.aE8/\s.t 9=vI (List.length p0.aE8:Int)/\s.t 10=vI v10/\s.h 2=(1,oB 26 [.nil])/\s.h 3=(1,oB 26 [.row 7050000 ae])/\s.h 7050000=(ae,oW 49 24 M.aJ.en aa))/\gY p0 m v10 aa=some r
 have e1:=@gY.eq_2
 unfold uL at h
 exact sgo 23 [.cell 2 26] Tryz.func47
instance:bH 47 (type_of% @c47):=⟨@c47⟩
theorem c99 (p0 r) (h:uE p0=some r):Sc 99 [aX (M.World.en p0)] [(true,M.World.rs r)]:=by
 have i1:=λ(x1:M.aA) (x3:(List M.bC)) (x5:M.aR) (x7:M.aFB)=>DV [.b 3 8 7050000 85 4] λm s=>∃ai:Int,∃aa:List M.aFD,∃ae:Nat,(s.t 1=vP 1 1 0/\s.t 2=vP 2 1 0/\s.t 3=vP 3 1 0/\s.t 27=vL M.aFD.en p0.aFR/\s.t 28=vI (List.length p0.aFR:Int)/\s.t 29=vI ai/\s.h 1=(1,oX 75 (M.World.en p0))/\s.h 2=(1,Qy)/\s.h 3=(1,oB 75 [cI p0.Now,cB p0.aFW,cI p0.aFC,.row 100011 1,.row 100015 1,cI p0.aFJ,.row 100019 1,.row 100023 1,.row 7050000 ae,cL M.aFG.en p0.aFN])/\s.h 100011=(1,oW 49 24 M.aJ.en x1.aE8)/\s.h 100015=(1,oW 96 11 M.bC.en x3)/\s.h 100019=(1,oW 154 4 M.mZ.en x5.aFM)/\s.h 100023=(1,oW 157 3 M.tB.en x7.aFa)/\s.h 7050000=(ae,oW 85 4 M.aFD.en aa))/\iE p0 x1 x3 x5 x7 m ai aa=some r
 have e1:=@iE.eq_2
 have i2:=λ(x1:M.aA) (x3:(List M.bC)) (x5:M.aR) (x7:M.aFB) (aa:List M.aFD) (ae:Nat)=>DV [.b 3 9 7050100 137 5] λm s=>∃aj:Int,∃af:List M.aFG,∃ah:Nat,(s.t 2=vP 2 1 0/\s.t 3=vP 3 1 0/\s.t 43=vL M.aFG.en p0.aFN/\s.t 44=vI (List.length p0.aFN:Int)/\s.t 45=vI aj/\s.h 2=(1,Qy)/\s.h 3=(1,oB 75 [cI p0.Now,cB p0.aFW,cI p0.aFC,.row 100011 1,.row 100015 1,cI p0.aFJ,.row 100019 1,.row 100023 1,.row 7050000 ae,.row 7050100 ah])/\s.h 100011=(1,oW 49 24 M.aJ.en x1.aE8)/\s.h 100015=(1,oW 96 11 M.bC.en x3)/\s.h 100019=(1,oW 154 4 M.mZ.en x5.aFM)/\s.h 100023=(1,oW 157 3 M.tB.en x7.aFa)/\s.h 7050000=(ae,oW 85 4 M.aFD.en aa)/\s.h 7050100=(ah,oW 137 5 M.aFG.en af))/\fS p0 x1 x3 x5 x7 aa m aj af=some r
 have e2:=@fS.eq_2
 unfold uE at h
 exact sgo 58 [.cell 2 75] Tryz.func99
instance:bH 99 (type_of% @c99):=⟨@c99⟩
theorem aDz (p0 r) (h:wC p0=some r):Sc 228 [aX (M.aE5.en p0)] [rB r]:=by
 have i1:=inv λm s=>∃aa:Int,(s.t 1=vP 1 1 0/\s.t 34=vL M.aC.en p0.aFH/\s.t 35=vI (List.length p0.aFH:Int)/\s.t 36=vI aa/\s.h 1=(1,oX 35 (M.aE5.en p0)))/\eO p0 m aa=some r
 have e1:=@eO.eq_2
 have i2:=inv λm s=>∃ae:Int,(s.t 1=vP 1 1 0/\s.t 62=vL M.aN.en p0.aFQ/\s.t 63=vI (List.length p0.aFQ:Int)/\s.t 64=vI ae/\s.h 1=(1,oX 35 (M.aE5.en p0)))/\eS p0 m ae=some r
 have e2:=@eS.eq_2
 unfold wC at h
 exact sgo 103 [.tmp 2] Tryz.func228
instance:bH 228 (type_of% @aDz):=⟨@aDz⟩
theorem aBo (p0 r) (h:sU p0=some r):Sc 246 [aX (M.aE5.en p0)] [rI r]:=by
 have i1:=inv λm s=>∃v3:Int,∃v9:Int,(s.t 3=vI v3/\s.t 7=vL M.aC.en p0.aFH/\s.t 8=vI (List.length p0.aFH:Int)/\s.t 9=vI v9)/\gM p0 m v3 v9=some r
 have e1:=@gM.eq_2
 unfold sU at h
 exact sgo 19 [.tmp 2] Tryz.func246
instance:bH 246 (type_of% @aBo):=⟨@aBo⟩
theorem aCr (p0 r) (h:Ba p0=some r):Sc 147 [aX (M.bV.en p0)] [rI r]:=by unfold Ba at h;exact sgo 10 [.tmp 2] Tryz.func147
instance:bH 147 (type_of% @aCr):=⟨@aCr⟩
theorem c66 (p0 r) (h:Au p0=some r):Sc 66 [aX (M.aJ.en p0)] [rI r]:=by unfold Au at h;exact sgo 23 [.tmp 2] Tryz.func66
instance:bH 66 (type_of% @c66):=⟨@c66⟩
theorem aAZ (p0 r) (h:zN p0=some r):Sc 132 [aX (M.aJ.en p0)] [rB r]:=by unfold zN at h;exact sgo 50 [.tmp 2] Tryz.func132
instance:bH 132 (type_of% @aAZ):=⟨@aAZ⟩
theorem c51 (p0 r) (h:xX p0=some r):Sc 51 [aX (M.aA.en p0)] [rB r]:=by
 have i1:=inv λm s=>∃v8:Int,(s.t 1=vP 1 1 0/\s.t 6=vL M.aJ.en p0.aE8/\s.t 7=vI (List.length p0.aE8:Int)/\s.t 8=vI v8/\s.h 1=(1,oX 26 (M.aA.en p0)))/\fW p0 m v8=some r
 have e1:=@fW.eq_2
 unfold xX at h
 exact sgo 36 [.tmp 2] Tryz.func51
instance:bH 51 (type_of% @c51):=⟨@c51⟩
theorem c20 (p0 r) (h:vM p0=some r):Sc 20 [aX (M.World.en p0)] [rB r]:=by
 have i1:=inv λm s=>∃ae:Int,(s.t 1=vP 1 1 0/\s.t 54=vL M.bC.en p0.aFF/\s.t 55=vI (List.length p0.aFF:Int)/\s.t 56=vI ae/\s.h 1=(1,oX 75 (M.World.en p0)))/\eW p0 m ae=some r
 have e1:=@eW.eq_2
 have i2:=inv λm s=>∃aa:Int,(s.t 1=vP 1 1 0/\s.t 99=vL M.aFD.en p0.aFR/\s.t 100=vI (List.length p0.aFR:Int)/\s.t 101=vI aa/\s.h 1=(1,oX 75 (M.World.en p0)))/\iR p0 m aa=some r
 have e2:=@iR.eq_2
 unfold vM at h
 exact sgo 126 [.tmp 2] Tryz.func20
instance:bH 20 (type_of% @c20):=⟨@c20⟩
theorem aDZ (p0 p1 p2 r) (h:xW p0 p1 p2=some r):Sc 267 [aX (M.aFD.en p0),aS p1,aI p2] [(true,M.aE9.rs r)]:=by unfold xW at h;exact sgo 32 [.cell 6 105] Tryz.func267
instance:bH 267 (type_of% @aDZ):=⟨@aDZ⟩
theorem aAX (p0 p1 p2 p3 p4 r) (h:uW p0 p1 p2 p3 p4=some r):Sc 175 [aX (M.aE.en p0),aX (M.aFD.en p1),aI p2,aS p3,aB p4] [(true,M.aE9.rs r)]:=by unfold uW at h;exact sgo 32 [.cell 10 105] Tryz.func175
instance:bH 175 (type_of% @aAX):=⟨@aAX⟩
theorem aCc (p0 p1 p2 r) (h:zU p0 p1 p2=some r):Sc 100 [aX (M.World.en p0),aX (M.bC.en p1),aS p2] [(true,M.aE9.rs r)]:=by unfold zU at h;exact sgo 39 [.cell 6 105] Tryz.func100
instance:bH 100 (type_of% @aCc):=⟨@aCc⟩
theorem c31 (p0 p1 p2 r) (h:tD p0 p1 p2=some r):Sc 31 [aX (M.World.en p0),aI p1,aS p2] [(true,M.World.rs r.1),rI r.2]:=by unfold tD at h;exact sgo 50 [.cell 6 75,.tmp 7] Tryz.func31
theorem c58 (p0 p1 r) (h:nV p0 p1=some r):Sc 58 [aX (M.aJ.en p0),aX (M.aJ.en p1)] [rB r]:=by unfold nV at h;exact sgo 59 [.tmp 4] Tryz.func58
theorem c11 (p0 p1 r) (h:rJ p0 p1=some r):Sc 11 [aX (M.aA.en p0),aX (M.aA.en p1)] [rB r]:=by
 unfold rJ at h
 simp only [EN]
 refine sgn 10 [.tmp 4] Tryz.func11 λbase wd => ?_
 refine sq (rn ?_)
 refine an (sq ?_)
 obtain ⟨x1,h2,h⟩:=bind_some h
 refine rn1 (c57 p0.aE8 p1.aE8 (λz0 z1=>nV z0 z1) 58 [] (λz0 z1 r hr=>c58 z0 z1 r hr) x1 h2) ?_
 refine an (rt ?_)
 cases h
 simp [Ret,TB,EN, *]
theorem c27 (p0 p1 r) (h:pJ p0 p1=some r):Sc 27 [aX (M.World.en p0),aX (M.World.en p1)] [rB r]:=by
 unfold pJ at h
 simp only [EN]
 refine sgn 77 [.tmp 4] Tryz.func27 λbase wd => ?_
 refine sq (rn ?_)
 refine an (sq ?_)
 rcases Cf (p0.Now==p1.Now) with b1 | b1
 ·replace h:=cM b1 h;refine rgo ?_;refine ec 20 ?_;refine ec 20 ?_;refine ec 20 ?_;refine ez ?_;refine an (rt ?_);cases h;simp [Ret,TB,EN, *]
 replace h:=cN b1 h
 rcases Cf (p0.aFW==p1.aFW) with b2 | b2
 ·replace h:=cM b2 h;refine rgo ?_;refine ec 20 ?_;refine ec 20 ?_;refine ec 20 ?_;refine ez ?_;refine an (rt ?_);cases h;simp [Ret,TB,EN, *]
 replace h:=cN b2 h
 rcases Cf (p0.aFC==p1.aFC) with b3 | b3
 ·replace h:=cM b3 h;refine rgo ?_;refine ec 20 ?_;refine ec 20 ?_;refine ec 20 ?_;refine ez ?_;refine an (rt ?_);cases h;simp [Ret,TB,EN, *]
 replace h:=cN b3 h
 obtain ⟨x4,h5,h⟩:=bind_some h
 rcases Cf x4 with b6 | b6
 ·replace h:=cM b6 h;refine rgo ?_;refine ec 20 ?_;refine ec1 20 (c11 _ _ _ h5) ?_;refine ec 20 ?_;refine ez ?_;refine an (rt ?_);cases h;simp [Ret,TB,EN, *]
 replace h:=cN b6 h
 obtain ⟨x7,h8,h⟩:=bind_some h
 rcases Cf x7 with b9 | b9
 ·replace h:=cM b9 h;refine rgo ?_;refine ec 20 ?_;refine ec2 20 (c11 _ _ _ h5) (c89 p0.aFF p1.aFF (λz0 z1=>gC z0 z1) 90 [] (λz0 z1 r hr=>c90 z0 z1 r hr) x7 h8) ?_;refine ec 20 ?_;refine ez ?_;refine an (rt ?_);cases h;simp [Ret,TB,EN, *]
 replace h:=cN b9 h
 rcases Cf (p0.aFJ==p1.aFJ) with ae | ae
 ·replace h:=cM ae h;refine rgo ?_;refine ec 20 ?_;refine ec2 20 (c11 _ _ _ h5) (c89 p0.aFF p1.aFF (λz0 z1=>gC z0 z1) 90 [] (λz0 z1 r hr=>c90 z0 z1 r hr) x7 h8) ?_;refine ec 20 ?_;refine ez ?_;refine an (rt ?_);cases h;simp [Ret,TB,EN, *]
 replace h:=cN ae h
 obtain ⟨ao,aa,h⟩:=bind_some h
 rcases Cf ao with af | af
 ·replace h:=cM af h;refine rgo ?_;refine ec 20 ?_;refine ec2 20 (c11 _ _ _ h5) (c89 p0.aFF p1.aFF (λz0 z1=>gC z0 z1) 90 [] (λz0 z1 r hr=>c90 z0 z1 r hr) x7 h8) ?_;refine ec1 20 (c91 _ _ _ aa) ?_;refine ez ?_;refine an (rt ?_);cases h;simp [Ret,TB,EN, *]
 replace h:=cN af h
 obtain ⟨aq,ah,h⟩:=bind_some h
 rcases Cf aq with ai | ai
 ·replace h:=cM ai h;refine rgo ?_;refine ec 20 ?_;refine ec2 20 (c11 _ _ _ h5) (c89 p0.aFF p1.aFF (λz0 z1=>gC z0 z1) 90 [] (λz0 z1 r hr=>c90 z0 z1 r hr) x7 h8) ?_;refine ec2 20 (c91 _ _ _ aa) (c92 _ _ _ ah) ?_;refine ez ?_;refine an (rt ?_);cases h;simp [Ret,TB,EN, *]
 replace h:=cN ai h
 obtain ⟨aj,al,h⟩:=bind_some h
 rcases Cf aj with ak | ak
 ·replace h:=cM ak h;refine rgo ?_;refine ec 20 ?_;refine ec2 20 (c11 _ _ _ h5) (c89 p0.aFF p1.aFF (λz0 z1=>gC z0 z1) 90 [] (λz0 z1 r hr=>c90 z0 z1 r hr) x7 h8) ?_;refine ec2 20 (c91 _ _ _ aa) (c92 _ _ _ ah) ?_;refine ez1 (c93 p0.aFR p1.aFR (λz0 z1=>nQ z0 z1) 94 [] (λz0 z1 r hr=>c94 z0 z1 r hr) aj al) ?_;refine an (rt ?_);cases h;simp [Ret,TB,EN, *]
 replace h:=cN ak h
 obtain ⟨ar,av,h⟩:=bind_some h
 refine rgo ?_
 refine ec 20 ?_
 refine ec2 20 (c11 _ _ _ h5) (c89 p0.aFF p1.aFF (λz0 z1=>gC z0 z1) 90 [] (λz0 z1 r hr=>c90 z0 z1 r hr) x7 h8) ?_
 refine ec2 20 (c91 _ _ _ aa) (c92 _ _ _ ah) ?_
 refine ez2 (c93 p0.aFR p1.aFR (λz0 z1=>nQ z0 z1) 94 [] (λz0 z1 r hr=>c94 z0 z1 r hr) aj al) (c95 p0.aFN p1.aFN (λz0 z1=>oE z0 z1) 96 [] (λz0 z1 r hr=>c96 z0 z1 r hr) ar av) ?_
 refine an (rt ?_)
 cases h
 simp [Ret,TB,EN, *]
theorem c33 (p0 p1 p2 r) (h:yV p0 p1 p2=some r):Sc 33 [aX (M.World.en p0),aI p1,aI p2] [(true,M.World.rs r.1),rI r.2]:=by unfold yV at h;exact sgo 37 [.cell 6 75,.tmp 7] Tryz.func33
end Go.Proofs.YtipmihbgjolaaaaGreat.gen
