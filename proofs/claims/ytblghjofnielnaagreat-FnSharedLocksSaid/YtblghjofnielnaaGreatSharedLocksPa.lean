/-
  Helper text. No conditions.
-/
import Derived.Test.YtblghjofnielnaaGreatSharedLocksPz
namespace Go.Proofs.YtblghjofnielnaaGreat.gen
open Go Go.Sh
set_option linter.unusedVariables false
set_option linter.unusedSimpArgs false
set_option maxRecDepth 100000
theorem aBt {l:List Int} {i:Int} (hl:l.length≤1048576) (hb : ∀b∈l,0≤b∧b≤255) (h0:0≤i) (h3:i≤3) : ∃a,kF l i=some a∧(Int.tmod a 2=0∨Int.tmod a 2=1):=by
 have key : ∀a:Int,0≤a→(Int.tmod a 2=0∨Int.tmod a 2=1):=fun a h=>by
  rw [Int.tmod_eq_emod_of_nonneg h];omega
 unfold kF
 by_cases h:i<(l.length:Int)
 ·rw [if_pos (by simpa using h)]
  have hi:i.toNat<l.length:=by omega
  have hm:=hb _ (List.getElem_mem hi)
  have e:idx l i=some l[i.toNat]:=by
   unfold idx
   rw [if_pos h0,List.getElem?_eq_getElem hi]
  rw [e,Option.bind_some,uL (by omega) (by omega)]
  exact ⟨_,rfl,key _ hm.1⟩
 ·rw [if_neg (by simpa using h),uL (n:=i*31) (by omega) (by omega),uL (n:=(l.length:Int)*7) (by omega) (by omega),uL (by omega) (by omega)]
  refine ⟨_,rfl,key _ ?_⟩
  rw [Int.tmod_eq_emod_of_nonneg (by omega)];omega
theorem aCs (p0:List Int) (hb : ∀b∈p0,0≤b∧b≤255):dO p0=some true:=by
 unfold dO sR
 rw [Option.bind_some]
 by_cases hl:(p0.length:Int)>1048576
 ·rw [if_pos (by simpa using hl)]
 rw [if_neg (by simpa using hl)]
 have hl':p0.length≤1048576:=by omega
 obtain ⟨a0,e0,c0⟩:=aBt hl' hb (i:=0) (by omega) (by omega)
 obtain ⟨a1,e1,c1⟩:=aBt hl' hb (i:=1) (by omega) (by omega)
 obtain ⟨a2,e2,c2⟩:=aBt hl' hb (i:=2) (by omega) (by omega)
 obtain ⟨a3,e3,c3⟩:=aBt hl' hb (i:=3) (by omega) (by omega)
 rw [e0,e1,e2,e3]
 clear e0 e1 e2 e3 hl hl' hb
 rcases c0 with c0 | c0<;>rcases c1 with c1 | c1<;>rcases c2 with c2 | c2<;>rcases c3 with c3 | c3<;>simp only [Option.bind_some,c0,c1,c2,c3]<;>decide +kernel
end Go.Proofs.YtblghjofnielnaaGreat.gen
