/-
  Helper text. No conditions.
-/
import Derived.Test.YtipmihbgjolaaaaGreatWorldsTi
import Derived.Test.YtipmihbgjolaaaaGreatWorldsWimpl0
import Derived.Test.YtipmihbgjolaaaaGreatWorldsWimpl1
import Derived.Test.YtipmihbgjolaaaaGreatWorldsWimpl2
import Derived.Test.YtipmihbgjolaaaaGreatWorldsWimpl3
import Derived.Test.YtipmihbgjolaaaaGreatWorldsWimpl4
set_option linter.unusedVariables false
set_option linter.unusedSimpArgs false
namespace Go.Proofs.YtipmihbgjolaaaaGreat.gen
open Go Go.Sh
set_option maxRecDepth 20000
set_option maxHeartbeats 4000000
theorem Yx (p0 p1 r) (h:iB p0 p1=some r):Sc 308 [aX (M.aA.en p0),aS p1] [(true,M.Key.rs r.1),(true,M.Key.rs r.2.1),rB r.2.2]:=by
 have i1:=λ(x1:(List M.aAQ))=>inv λm s=>∃v8:Int,(s.t 1=vS p1/\s.t 4=vP 4 1 0/\s.t 5=vP 5 1 0/\s.t 7=vR 100015 1/\s.t 8=vI v8/\s.h 4=(1,oB 209 [cI 0,cI 0,cS (⟨#[]⟩:ByteArray)])/\s.h 5=(1,oB 209 [cI 0,cI 0,cS (⟨#[]⟩:ByteArray)])/\s.h 100015=(1,oW 284 4 M.aAQ.en x1))/\eQ p1 x1 m v8=some r
 have e1:=@eQ.eq_2
 unfold iB at h
 exact sgo 59 [.cell 4 209,.cell 5 209,.tmp 6] Tryz.func308
instance:cA 308 (type_of% @Yx):=⟨@Yx⟩
theorem Y9 (p0 r) (h:sO p0=some r):Sc 228 [aX (M.aAA.en p0)] [rB r]:=by
 have i1:=inv λm s=>∃aa:Int,(s.t 1=vP 1 1 0/\s.t 34=vL M.aA.en p0.aAH/\s.t 35=vI (List.length p0.aAH:Int)/\s.t 36=vI aa/\s.h 1=(1,oX 35 (M.aAA.en p0)))/\dZ p0 m aa=some r
 have e1:=@dZ.eq_2
 have i2:=inv λm s=>∃ae:Int,(s.t 1=vP 1 1 0/\s.t 62=vL M.aN.en p0.aAS/\s.t 63=vI (List.length p0.aAS:Int)/\s.t 64=vI ae/\s.h 1=(1,oX 35 (M.aAA.en p0)))/\eD p0 m ae=some r
 have e2:=@eD.eq_2
 unfold sO at h
 exact sgo 103 [.tmp 2] Tryz.func228
instance:cA 228 (type_of% @Y9):=⟨@Y9⟩
theorem Y8 (p0 r) (h:uH p0=some r):Sc 229 [aX (M.aG.en p0)] [rB r]:=by unfold uH at h;exact sgo 23 [.tmp 2] Tryz.func229
instance:cA 229 (type_of% @Y8):=⟨@Y8⟩
theorem Wj (p0 r) (h:pU p0=some r):Sc 148 [aX (M.aA.en p0)] [rI r]:=by
 have i1:=inv λm s=>∃v3:Int,∃v9:Int,(s.t 3=vI v3/\s.t 7=vL M.aAQ.en p0.aAD/\s.t 8=vI (List.length p0.aAD:Int)/\s.t 9=vI v9)/\iU p0 m v3 v9=some r
 have e1:=@iU.eq_2
 unfold pU at h
 exact sgo 26 [.tmp 2] Tryz.func148
instance:cA 148 (type_of% @Wj):=⟨@Wj⟩
theorem Xk (p0 r) (h:pB p0=some r):Sc 246 [aX (M.aAA.en p0)] [rI r]:=by
 have i1:=inv λm s=>∃v3:Int,∃v9:Int,(s.t 3=vI v3/\s.t 7=vL M.aA.en p0.aAH/\s.t 8=vI (List.length p0.aAH:Int)/\s.t 9=vI v9)/\fS p0 m v3 v9=some r
 have e1:=@fS.eq_2
 unfold pB at h
 exact sgo 19 [.tmp 2] Tryz.func246
instance:cA 246 (type_of% @Xk):=⟨@Xk⟩
theorem Yf (p0 r) (h:yG p0=some r):Sc 147 [aX (M.cR.en p0)] [rI r]:=by unfold yG at h;exact sgo 10 [.tmp 2] Tryz.func147
instance:cA 147 (type_of% @Yf):=⟨@Yf⟩
theorem c66 (p0 r) (h:wW p0=some r):Sc 66 [aX (M.aO.en p0)] [rI r]:=by unfold wW at h;exact sgo 23 [.tmp 2] Tryz.func66
instance:cA 66 (type_of% @c66):=⟨@c66⟩
theorem Wl (p0 r) (h:vU p0=some r):Sc 132 [aX (M.aO.en p0)] [rB r]:=by unfold vU at h;exact sgo 50 [.tmp 2] Tryz.func132
instance:cA 132 (type_of% @Wl):=⟨@Wl⟩
theorem c51 (p0 r) (h:uD p0=some r):Sc 51 [aX (M.aJ.en p0)] [rB r]:=by
 have i1:=inv λm s=>∃v8:Int,(s.t 1=vP 1 1 0/\s.t 6=vL M.aO.en p0.aAG/\s.t 7=vI (List.length p0.aAG:Int)/\s.t 8=vI v8/\s.h 1=(1,oX 26 (M.aJ.en p0)))/\fD p0 m v8=some r
 have e1:=@fD.eq_2
 unfold uD at h
 exact sgo 36 [.tmp 2] Tryz.func51
instance:cA 51 (type_of% @c51):=⟨@c51⟩
theorem c74 (p0 r) (h:vV p0=some r):Sc 74 [aX (M.aAI.en p0)] [rB r]:=by
 have i1:=inv λm s=>∃v10:Int,(s.t 1=vP 1 1 0/\s.t 8=vL M.aK.en p0.aK/\s.t 9=vI (List.length p0.aK:Int)/\s.t 10=vI v10/\s.h 1=(1,oX 137 (M.aAI.en p0)))/\fY p0 m v10=some r
 have e1:=@fY.eq_2
 have i2:=inv λm s=>∃aa:Int,(s.t 1=vP 1 1 0/\s.t 43=vL M.bA.en p0.aAZ/\s.t 44=vI (List.length p0.aAZ:Int)/\s.t 45=vI aa/\s.h 1=(1,oX 137 (M.aAI.en p0)))/\iA p0 m aa=some r
 have e2:=@iA.eq_2
 unfold vV at h
 exact sgo 68 [.tmp 2] Tryz.func74
instance:cA 74 (type_of% @c74):=⟨@c74⟩
theorem c20 (p0 r) (h:oI p0=some r):Sc 20 [aX (M.World.en p0)] [rB r]:=by
 have i1:=inv λm s=>∃ae:Int,(s.t 1=vP 1 1 0/\s.t 54=vL M.bV.en p0.aAX/\s.t 55=vI (List.length p0.aAX:Int)/\s.t 56=vI ae/\s.h 1=(1,oX 75 (M.World.en p0)))/\eG p0 m ae=some r
 have e1:=@eG.eq_2
 have i2:=inv λm s=>∃aa:Int,(s.t 1=vP 1 1 0/\s.t 99=vL M.aAO.en p0.aAe/\s.t 100=vI (List.length p0.aAe:Int)/\s.t 101=vI aa/\s.h 1=(1,oX 75 (M.World.en p0)))/\gR p0 m aa=some r
 have e2:=@gR.eq_2
 unfold oI at h
 exact sgo 126 [.tmp 2] Tryz.func20
theorem Yj (p0 p1 r) (h:mL p0 p1=some r):Sc 137 [aX (M.aF.en p0),aX (M.aF.en p1)] [rB r]:=by
 unfold mL at h
 simp only [EN]
 refine sgn 10 [.tmp 4] Tryz.func137 λbase wd => ?_
 refine sq (rn ?_)
 refine an (sq ?_)
 obtain ⟨x1,h2,h⟩:=bind_some h
 refine rn1 (ZM p0.aAE p1.aAE (λz0 z1=>nH z0 z1) 240 [] (λz0 z1 r hr=>Zr z0 z1 r hr) x1 h2) ?_
 refine an (rt ?_)
 cases h
 simp [Ret,TB,EN, *]
instance:cA 137 (type_of% @Yj):=⟨@Yj⟩
theorem Xr (p0 p1 r) (h:sY p0 p1=some r):Sc 138 [aX (M.cR.en p0),aX (M.cR.en p1)] [rB r]:=by unfold sY at h;exact sgo 24 [.tmp 4] Tryz.func138
instance:cA 138 (type_of% @Xr):=⟨@Xr⟩
theorem c58 (p0 p1 r) (h:lS p0 p1=some r):Sc 58 [aX (M.aO.en p0),aX (M.aO.en p1)] [rB r]:=by unfold lS at h;exact sgo 59 [.tmp 4] Tryz.func58
theorem c11 (p0 p1 r) (h:nZ p0 p1=some r):Sc 11 [aX (M.aJ.en p0),aX (M.aJ.en p1)] [rB r]:=by
 unfold nZ at h
 simp only [EN]
 refine sgn 10 [.tmp 4] Tryz.func11 λbase wd => ?_
 refine sq (rn ?_)
 refine an (sq ?_)
 obtain ⟨x1,h2,h⟩:=bind_some h
 refine rn1 (c57 p0.aAG p1.aAG (λz0 z1=>lS z0 z1) 58 [] (λz0 z1 r hr=>c58 z0 z1 r hr) x1 h2) ?_
 refine an (rt ?_)
 cases h
 simp [Ret,TB,EN, *]
theorem c27 (p0 p1 r) (h:nD p0 p1=some r):Sc 27 [aX (M.World.en p0),aX (M.World.en p1)] [rB r]:=by
 unfold nD at h
 simp only [EN]
 refine sgn 77 [.tmp 4] Tryz.func27 λbase wd => ?_
 refine sq (rn ?_)
 refine an (sq ?_)
 rcases zD (p0.Now==p1.Now) with b1 | b1
 ·replace h:=cE b1 h;refine rgo ?_;refine ec 20 ?_;refine ec 20 ?_;refine ec 20 ?_;refine ez ?_;refine an (rt ?_);cases h;simp [Ret,TB,EN, *]
 replace h:=cF b1 h
 rcases zD (p0.aAi==p1.aAi) with b2 | b2
 ·replace h:=cE b2 h;refine rgo ?_;refine ec 20 ?_;refine ec 20 ?_;refine ec 20 ?_;refine ez ?_;refine an (rt ?_);cases h;simp [Ret,TB,EN, *]
 replace h:=cF b2 h
 rcases zD (p0.aAK==p1.aAK) with b3 | b3
 ·replace h:=cE b3 h;refine rgo ?_;refine ec 20 ?_;refine ec 20 ?_;refine ec 20 ?_;refine ez ?_;refine an (rt ?_);cases h;simp [Ret,TB,EN, *]
 replace h:=cF b3 h
 obtain ⟨x4,h5,h⟩:=bind_some h
 rcases zD x4 with b6 | b6
 ·replace h:=cE b6 h;refine rgo ?_;refine ec 20 ?_;refine ec1 20 (c11 _ _ _ h5) ?_;refine ec 20 ?_;refine ez ?_;refine an (rt ?_);cases h;simp [Ret,TB,EN, *]
 replace h:=cF b6 h
 obtain ⟨x7,h8,h⟩:=bind_some h
 rcases zD x7 with b9 | b9
 ·replace h:=cE b9 h;refine rgo ?_;refine ec 20 ?_;refine ec2 20 (c11 _ _ _ h5) (c89 p0.aAX p1.aAX (λz0 z1=>fH z0 z1) 90 [] (λz0 z1 r hr=>c90 z0 z1 r hr) x7 h8) ?_;refine ec 20 ?_;refine ez ?_;refine an (rt ?_);cases h;simp [Ret,TB,EN, *]
 replace h:=cF b9 h
 rcases zD (p0.aAg==p1.aAg) with ae | ae
 ·replace h:=cE ae h;refine rgo ?_;refine ec 20 ?_;refine ec2 20 (c11 _ _ _ h5) (c89 p0.aAX p1.aAX (λz0 z1=>fH z0 z1) 90 [] (λz0 z1 r hr=>c90 z0 z1 r hr) x7 h8) ?_;refine ec 20 ?_;refine ez ?_;refine an (rt ?_);cases h;simp [Ret,TB,EN, *]
 replace h:=cF ae h
 obtain ⟨ao,aa,h⟩:=bind_some h
 rcases zD ao with af | af
 ·replace h:=cE af h;refine rgo ?_;refine ec 20 ?_;refine ec2 20 (c11 _ _ _ h5) (c89 p0.aAX p1.aAX (λz0 z1=>fH z0 z1) 90 [] (λz0 z1 r hr=>c90 z0 z1 r hr) x7 h8) ?_;refine ec1 20 (c91 _ _ _ aa) ?_;refine ez ?_;refine an (rt ?_);cases h;simp [Ret,TB,EN, *]
 replace h:=cF af h
 obtain ⟨aq,ah,h⟩:=bind_some h
 rcases zD aq with ai | ai
 ·replace h:=cE ai h;refine rgo ?_;refine ec 20 ?_;refine ec2 20 (c11 _ _ _ h5) (c89 p0.aAX p1.aAX (λz0 z1=>fH z0 z1) 90 [] (λz0 z1 r hr=>c90 z0 z1 r hr) x7 h8) ?_;refine ec2 20 (c91 _ _ _ aa) (c92 _ _ _ ah) ?_;refine ez ?_;refine an (rt ?_);cases h;simp [Ret,TB,EN, *]
 replace h:=cF ai h
 obtain ⟨aj,al,h⟩:=bind_some h
 rcases zD aj with ak | ak
 ·replace h:=cE ak h;refine rgo ?_;refine ec 20 ?_;refine ec2 20 (c11 _ _ _ h5) (c89 p0.aAX p1.aAX (λz0 z1=>fH z0 z1) 90 [] (λz0 z1 r hr=>c90 z0 z1 r hr) x7 h8) ?_;refine ec2 20 (c91 _ _ _ aa) (c92 _ _ _ ah) ?_;refine ez1 (c93 p0.aAe p1.aAe (λz0 z1=>lP z0 z1) 94 [] (λz0 z1 r hr=>c94 z0 z1 r hr) aj al) ?_;refine an (rt ?_);cases h;simp [Ret,TB,EN, *]
 replace h:=cF ak h
 obtain ⟨ar,av,h⟩:=bind_some h
 refine rgo ?_
 refine ec 20 ?_
 refine ec2 20 (c11 _ _ _ h5) (c89 p0.aAX p1.aAX (λz0 z1=>fH z0 z1) 90 [] (λz0 z1 r hr=>c90 z0 z1 r hr) x7 h8) ?_
 refine ec2 20 (c91 _ _ _ aa) (c92 _ _ _ ah) ?_
 refine ez2 (c93 p0.aAe p1.aAe (λz0 z1=>lP z0 z1) 94 [] (λz0 z1 r hr=>c94 z0 z1 r hr) aj al) (c95 p0.aAY p1.aAY (λz0 z1=>mB z0 z1) 96 [] (λz0 z1 r hr=>c96 z0 z1 r hr) ar av) ?_
 refine an (rt ?_)
 cases h
 simp [Ret,TB,EN, *]
end Go.Proofs.YtipmihbgjolaaaaGreat.gen
