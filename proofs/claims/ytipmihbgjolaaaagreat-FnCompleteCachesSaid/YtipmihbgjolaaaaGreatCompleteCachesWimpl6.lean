/-
  Helper text. No conditions.
-/
import Derived.Test.YtipmihbgjolaaaaGreatCompleteCachesTi
import Derived.Test.YtipmihbgjolaaaaGreatCompleteCachesWimpl0
import Derived.Test.YtipmihbgjolaaaaGreatCompleteCachesWimpl1
import Derived.Test.YtipmihbgjolaaaaGreatCompleteCachesWimpl2
import Derived.Test.YtipmihbgjolaaaaGreatCompleteCachesWimpl3
import Derived.Test.YtipmihbgjolaaaaGreatCompleteCachesWimpl4
import Derived.Test.YtipmihbgjolaaaaGreatCompleteCachesWimpl5
set_option linter.unusedVariables false
set_option linter.unusedSimpArgs false
namespace Go.Proofs.YtipmihbgjolaaaaGreat.gen
open Go Go.Sh
set_option maxRecDepth 20000
set_option maxHeartbeats 4000000
theorem c36 (p0 p1 p2 r) (h:sK p0 p1 p2=some r):Sc 36 [aX (M.aC.en p0),aX (M.aGl.en p1),aI p2] [rB r]:=by
 have i1:=inv λm s=>∃aa:Int,(s.t 2=vI p2/\s.t 3=vP 3 1 0/\s.t 4=vP 4 1 0/\s.t 12=vL enS p1.aG8/\s.t 13=vI (List.length p1.aG8:Int)/\s.t 14=vI aa/\s.h 3=(1,oX 31 (M.aC.en p0))/\s.h 4=(1,oX 85 (M.aGl.en p1)))/\dY p0 p1 p2 m aa=some r
 have e1:=@dY.eq_2
 unfold sK at h
 exact sgo 55 [.tmp 6] Tryz.func36
theorem c47 (p0 r) (h:vM p0=some r):Sc 47 [aX (M.aA.en p0)] [(true,M.aA.rs r)]:=by
 have i1:=D5 [.b 3 0 7050000 49 24] λm s=>∃v10:Int,∃aa:List M.aG,∃ae:Nat,(s.t 2=vP 2 1 0/\s.t 3=vP 3 1 0/\s.t 8=vL M.aG.en p0.aGj/\s.t 9=vI (List.length p0.aGj:Int)/\s.t 10=vI v10/\s.h 2=(1,oB 26 [.nil])/\s.h 3=(1,oB 26 [.row 7050000 ae])/\s.h 7050000=(ae,oW 49 24 M.aG.en aa))/\iE p0 m v10 aa=some r
 have e1:=@iE.eq_2
 unfold vM at h
 exact sgo 23 [.cell 2 26] Tryz.func47
instance:bF 47 (type_of% @c47):=⟨@c47⟩
theorem c99 (p0 r) (h:yP p0=some r):Sc 99 [aX (M.World.en p0)] [(true,M.World.rs r)]:=by
 have i1:=λ(x1:M.aA) (x3:(List M.bJ)) (x5:M.aR) (x7:M.aGt)=>D5 [.b 3 8 7050000 85 4] λm s=>∃ai:Int,∃aa:List M.aGl,∃ae:Nat,(s.t 1=vP 1 1 0/\s.t 2=vP 2 1 0/\s.t 3=vP 3 1 0/\s.t 27=vL M.aGl.en p0.aG2/\s.t 28=vI (List.length p0.aG2:Int)/\s.t 29=vI ai/\s.h 1=(1,oX 75 (M.World.en p0))/\s.h 2=(1,Qh)/\s.h 3=(1,oB 75 [cI p0.Now,cB p0.aHA,cI p0.aGp,.row 100011 1,.row 100015 1,cI p0.aGv,.row 100019 1,.row 100023 1,.row 7050000 ae,cL M.aGr.en p0.aGz])/\s.h 100011=(1,oW 49 24 M.aG.en x1.aGj)/\s.h 100015=(1,oW 96 11 M.bJ.en x3)/\s.h 100019=(1,oW 154 4 M.nW.en x5.aGy)/\s.h 100023=(1,oW 157 3 M.Bk.en x7.aHN)/\s.h 7050000=(ae,oW 85 4 M.aGl.en aa))/\iO p0 x1 x3 x5 x7 m ai aa=some r
 have e1:=@iO.eq_2
 have i2:=λ(x1:M.aA) (x3:(List M.bJ)) (x5:M.aR) (x7:M.aGt) (aa:List M.aGl) (ae:Nat)=>D5 [.b 3 9 7050100 137 5] λm s=>∃aj:Int,∃af:List M.aGr,∃ah:Nat,(s.t 2=vP 2 1 0/\s.t 3=vP 3 1 0/\s.t 43=vL M.aGr.en p0.aGz/\s.t 44=vI (List.length p0.aGz:Int)/\s.t 45=vI aj/\s.h 2=(1,Qh)/\s.h 3=(1,oB 75 [cI p0.Now,cB p0.aHA,cI p0.aGp,.row 100011 1,.row 100015 1,cI p0.aGv,.row 100019 1,.row 100023 1,.row 7050000 ae,.row 7050100 ah])/\s.h 100011=(1,oW 49 24 M.aG.en x1.aGj)/\s.h 100015=(1,oW 96 11 M.bJ.en x3)/\s.h 100019=(1,oW 154 4 M.nW.en x5.aGy)/\s.h 100023=(1,oW 157 3 M.Bk.en x7.aHN)/\s.h 7050000=(ae,oW 85 4 M.aGl.en aa)/\s.h 7050100=(ah,oW 137 5 M.aGr.en af))/\gA p0 x1 x3 x5 x7 aa m aj af=some r
 have e2:=@gA.eq_2
 unfold yP at h
 exact sgo 58 [.cell 2 75] Tryz.func99
instance:bF 99 (type_of% @c99):=⟨@c99⟩
theorem aFb (p0 r) (h:wW p0=some r):Sc 228 [aX (M.aGh.en p0)] [rB r]:=by
 have i1:=inv λm s=>∃aa:Int,(s.t 1=vP 1 1 0/\s.t 34=vL M.aD.en p0.aGq/\s.t 35=vI (List.length p0.aGq:Int)/\s.t 36=vI aa/\s.h 1=(1,oX 35 (M.aGh.en p0)))/\eU p0 m aa=some r
 have e1:=@eU.eq_2
 have i2:=inv λm s=>∃ae:Int,(s.t 1=vP 1 1 0/\s.t 62=vL M.aO.en p0.aG3/\s.t 63=vI (List.length p0.aG3:Int)/\s.t 64=vI ae/\s.h 1=(1,oX 35 (M.aGh.en p0)))/\eY p0 m ae=some r
 have e2:=@eY.eq_2
 unfold wW at h
 exact sgo 103 [.tmp 2] Tryz.func228
instance:bF 228 (type_of% @aFb):=⟨@aFb⟩
theorem aDF (p0 r) (h:tU p0=some r):Sc 246 [aX (M.aGh.en p0)] [rI r]:=by
 have i1:=inv λm s=>∃v3:Int,∃v9:Int,(s.t 3=vI v3/\s.t 7=vL M.aD.en p0.aGq/\s.t 8=vI (List.length p0.aGq:Int)/\s.t 9=vI v9)/\gV p0 m v3 v9=some r
 have e1:=@gV.eq_2
 unfold tU at h
 exact sgo 19 [.tmp 2] Tryz.func246
instance:bF 246 (type_of% @aDF):=⟨@aDF⟩
theorem aEP (p0 r) (h:BF p0=some r):Sc 147 [aX (M.bW.en p0)] [rI r]:=by unfold BF at h;exact sgo 10 [.tmp 2] Tryz.func147
instance:bF 147 (type_of% @aEP):=⟨@aEP⟩
theorem c66 (p0 r) (h:AU p0=some r):Sc 66 [aX (M.aG.en p0)] [rI r]:=by unfold AU at h;exact sgo 23 [.tmp 2] Tryz.func66
instance:bF 66 (type_of% @c66):=⟨@c66⟩
theorem aBy (p0 r) (h:Ah p0=some r):Sc 132 [aX (M.aG.en p0)] [rB r]:=by unfold Ah at h;exact sgo 50 [.tmp 2] Tryz.func132
instance:bF 132 (type_of% @aBy):=⟨@aBy⟩
theorem c51 (p0 r) (h:yQ p0=some r):Sc 51 [aX (M.aA.en p0)] [rB r]:=by
 have i1:=inv λm s=>∃v8:Int,(s.t 1=vP 1 1 0/\s.t 6=vL M.aG.en p0.aGj/\s.t 7=vI (List.length p0.aGj:Int)/\s.t 8=vI v8/\s.h 1=(1,oX 26 (M.aA.en p0)))/\gE p0 m v8=some r
 have e1:=@gE.eq_2
 unfold yQ at h
 exact sgo 36 [.tmp 2] Tryz.func51
instance:bF 51 (type_of% @c51):=⟨@c51⟩
theorem c20 (p0 r) (h:yZ p0=some r):Sc 20 [aX (M.World.en p0)] [rB r]:=by
 have i1:=inv λm s=>∃ae:Int,(s.t 1=vP 1 1 0/\s.t 54=vL M.bJ.en p0.aGx/\s.t 55=vI (List.length p0.aGx:Int)/\s.t 56=vI ae/\s.h 1=(1,oX 75 (M.World.en p0)))/\fB p0 m ae=some r
 have e1:=@fB.eq_2
 have i2:=inv λm s=>∃aa:Int,(s.t 1=vP 1 1 0/\s.t 99=vL M.aGl.en p0.aG2/\s.t 100=vI (List.length p0.aG2:Int)/\s.t 101=vI aa/\s.h 1=(1,oX 75 (M.World.en p0)))/\iY p0 m aa=some r
 have e2:=@iY.eq_2
 unfold yZ at h
 exact sgo 126 [.tmp 2] Tryz.func20
instance:bF 20 (type_of% @c20):=⟨@c20⟩
theorem c42 (p0 p1 r) (h:nA p0 p1=some r):Sc 42 [aX (M.World.en p0),aS p1] [(true,M.World.rs r.1),rB r.2]:=by unfold nA at h;exact sgo 40 [.cell 4 75,.tmp 5] Tryz.func42
theorem c58 (p0 p1 r) (h:oO p0 p1=some r):Sc 58 [aX (M.aG.en p0),aX (M.aG.en p1)] [rB r]:=by unfold oO at h;exact sgo 59 [.tmp 4] Tryz.func58
theorem c11 (p0 p1 r) (h:sJ p0 p1=some r):Sc 11 [aX (M.aA.en p0),aX (M.aA.en p1)] [rB r]:=by
 unfold sJ at h
 simp only [EN]
 refine sgn 10 [.tmp 4] Tryz.func11 λbase wd => ?_
 refine sq (rn ?_)
 refine an (sq ?_)
 obtain ⟨x1,h2,h⟩:=bind_some h
 refine rn1 (c57 p0.aGj p1.aGj (λz0 z1=>oO z0 z1) 58 [] (λz0 z1 r hr=>c58 z0 z1 r hr) x1 h2) ?_
 refine an (rt ?_)
 cases h
 simp [Ret,TB,EN, *]
theorem c27 (p0 p1 r) (h:rF p0 p1=some r):Sc 27 [aX (M.World.en p0),aX (M.World.en p1)] [rB r]:=by
 unfold rF at h
 simp only [EN]
 refine sgn 77 [.tmp 4] Tryz.func27 λbase wd => ?_
 refine sq (rn ?_)
 refine an (sq ?_)
 rcases CH (p0.Now==p1.Now) with b1 | b1
 ·replace h:=cR b1 h;refine rgo ?_;refine ec 20 ?_;refine ec 20 ?_;refine ec 20 ?_;refine ez ?_;refine an (rt ?_);cases h;simp [Ret,TB,EN, *]
 replace h:=cT b1 h
 rcases CH (p0.aHA==p1.aHA) with b2 | b2
 ·replace h:=cR b2 h;refine rgo ?_;refine ec 20 ?_;refine ec 20 ?_;refine ec 20 ?_;refine ez ?_;refine an (rt ?_);cases h;simp [Ret,TB,EN, *]
 replace h:=cT b2 h
 rcases CH (p0.aGp==p1.aGp) with b3 | b3
 ·replace h:=cR b3 h;refine rgo ?_;refine ec 20 ?_;refine ec 20 ?_;refine ec 20 ?_;refine ez ?_;refine an (rt ?_);cases h;simp [Ret,TB,EN, *]
 replace h:=cT b3 h
 obtain ⟨x4,h5,h⟩:=bind_some h
 rcases CH x4 with b6 | b6
 ·replace h:=cR b6 h;refine rgo ?_;refine ec 20 ?_;refine ec1 20 (c11 _ _ _ h5) ?_;refine ec 20 ?_;refine ez ?_;refine an (rt ?_);cases h;simp [Ret,TB,EN, *]
 replace h:=cT b6 h
 obtain ⟨x7,h8,h⟩:=bind_some h
 rcases CH x7 with b9 | b9
 ·replace h:=cR b9 h;refine rgo ?_;refine ec 20 ?_;refine ec2 20 (c11 _ _ _ h5) (c89 p0.aGx p1.aGx (λz0 z1=>gJ z0 z1) 90 [] (λz0 z1 r hr=>c90 z0 z1 r hr) x7 h8) ?_;refine ec 20 ?_;refine ez ?_;refine an (rt ?_);cases h;simp [Ret,TB,EN, *]
 replace h:=cT b9 h
 rcases CH (p0.aGv==p1.aGv) with ae | ae
 ·replace h:=cR ae h;refine rgo ?_;refine ec 20 ?_;refine ec2 20 (c11 _ _ _ h5) (c89 p0.aGx p1.aGx (λz0 z1=>gJ z0 z1) 90 [] (λz0 z1 r hr=>c90 z0 z1 r hr) x7 h8) ?_;refine ec 20 ?_;refine ez ?_;refine an (rt ?_);cases h;simp [Ret,TB,EN, *]
 replace h:=cT ae h
 obtain ⟨ao,aa,h⟩:=bind_some h
 rcases CH ao with af | af
 ·replace h:=cR af h;refine rgo ?_;refine ec 20 ?_;refine ec2 20 (c11 _ _ _ h5) (c89 p0.aGx p1.aGx (λz0 z1=>gJ z0 z1) 90 [] (λz0 z1 r hr=>c90 z0 z1 r hr) x7 h8) ?_;refine ec1 20 (c91 _ _ _ aa) ?_;refine ez ?_;refine an (rt ?_);cases h;simp [Ret,TB,EN, *]
 replace h:=cT af h
 obtain ⟨aq,ah,h⟩:=bind_some h
 rcases CH aq with ai | ai
 ·replace h:=cR ai h;refine rgo ?_;refine ec 20 ?_;refine ec2 20 (c11 _ _ _ h5) (c89 p0.aGx p1.aGx (λz0 z1=>gJ z0 z1) 90 [] (λz0 z1 r hr=>c90 z0 z1 r hr) x7 h8) ?_;refine ec2 20 (c91 _ _ _ aa) (c92 _ _ _ ah) ?_;refine ez ?_;refine an (rt ?_);cases h;simp [Ret,TB,EN, *]
 replace h:=cT ai h
 obtain ⟨aj,al,h⟩:=bind_some h
 rcases CH aj with ak | ak
 ·replace h:=cR ak h;refine rgo ?_;refine ec 20 ?_;refine ec2 20 (c11 _ _ _ h5) (c89 p0.aGx p1.aGx (λz0 z1=>gJ z0 z1) 90 [] (λz0 z1 r hr=>c90 z0 z1 r hr) x7 h8) ?_;refine ec2 20 (c91 _ _ _ aa) (c92 _ _ _ ah) ?_;refine ez1 (c93 p0.aG2 p1.aG2 (λz0 z1=>oJ z0 z1) 94 [] (λz0 z1 r hr=>c94 z0 z1 r hr) aj al) ?_;refine an (rt ?_);cases h;simp [Ret,TB,EN, *]
 replace h:=cT ak h
 obtain ⟨ar,av,h⟩:=bind_some h
 refine rgo ?_
 refine ec 20 ?_
 refine ec2 20 (c11 _ _ _ h5) (c89 p0.aGx p1.aGx (λz0 z1=>gJ z0 z1) 90 [] (λz0 z1 r hr=>c90 z0 z1 r hr) x7 h8) ?_
 refine ec2 20 (c91 _ _ _ aa) (c92 _ _ _ ah) ?_
 refine ez2 (c93 p0.aG2 p1.aG2 (λz0 z1=>oJ z0 z1) 94 [] (λz0 z1 r hr=>c94 z0 z1 r hr) aj al) (c95 p0.aGz p1.aGz (λz0 z1=>pA z0 z1) 96 [] (λz0 z1 r hr=>c96 z0 z1 r hr) ar av) ?_
 refine an (rt ?_)
 cases h
 simp [Ret,TB,EN, *]
end Go.Proofs.YtipmihbgjolaaaaGreat.gen
