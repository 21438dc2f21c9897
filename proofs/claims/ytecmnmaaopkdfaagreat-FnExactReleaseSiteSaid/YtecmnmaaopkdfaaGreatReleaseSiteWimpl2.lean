/-
  Helper text. No conditions.
-/
import Derived.Test.YtecmnmaaopkdfaaGreatReleaseSiteTi
import Derived.Test.YtecmnmaaopkdfaaGreatReleaseSiteWimpl0
import Derived.Test.YtecmnmaaopkdfaaGreatReleaseSiteWimpl1
namespace Go.Proofs.YtecmnmaaopkdfaaGreat.gen
open Go Go.Sh
set_option linter.unusedVariables false
set_option linter.unusedSimpArgs false
set_option maxRecDepth 20000
set_option maxHeartbeats 4000000
theorem aSK (p0 r) (h : rD p0 = some r) : Sc 109 [aX (M.Site.en p0)] [rB r] := by
 have i1 := inv fun m s => ∃ v8 : Int, (s.t 1 = vP 1 1 0 ∧ s.t 6 = vL enS p0.Files ∧ s.t 7 = vI (List.length p0.Files : Int) ∧ s.t 8 = vI v8 ∧ s.h 1 = (1, oX 75 (M.Site.en p0))) ∧ gV p0 m v8 = some r
 have e1 := @gV.eq_2
 unfold rD at h
 exact sgo 45 [.tmp 2] Tryz.func109
instance : bD 109 (type_of% @aSK) := ⟨@aSK⟩
theorem aPH (p0 r) (h : uG p0 = some r) : Sc 110 [aX (M.Server.en p0)] [rB r] := by
 have i1 := inv fun m s => ∃ v10 : Int, (s.t 1 = vP 1 1 0 ∧ s.t 8 = vL M.aG.en p0.aG ∧ s.t 9 = vI (List.length p0.aG : Int) ∧ s.t 10 = vI v10 ∧ s.h 1 = (1, oX 145 (M.Server.en p0))) ∧ fO p0 m v10 = some r
 have e1 := @fO.eq_2
 have i2 := inv fun m s => ∃ v45 : Int, (s.t 1 = vP 1 1 0 ∧ s.t 43 = vL M.aW.en p0.Changes ∧ s.t 44 = vI (List.length p0.Changes : Int) ∧ s.t 45 = vI v45 ∧ s.h 1 = (1, oX 145 (M.Server.en p0))) ∧ gR p0 m v45 = some r
 have e2 := @gR.eq_2
 unfold uG at h
 exact sgo 68 [.tmp 2] Tryz.func110
instance : bD 110 (type_of% @aPH) := ⟨@aPH⟩
theorem c38 (p0 r) (h : wW p0 = some r) : Sc 38 [aX (M.World.en p0)] [rB r] := by
 have i1 := inv fun m s => ∃ v56 : Int, (s.t 1 = vP 1 1 0 ∧ s.t 54 = vL M.bJ.en p0.Pages ∧ s.t 55 = vI (List.length p0.Pages : Int) ∧ s.t 56 = vI v56 ∧ s.h 1 = (1, oX 50 (M.World.en p0))) ∧ eK p0 m v56 = some r
 have e1 := @eK.eq_2
 have i2 := inv fun m s => ∃ v101 : Int, (s.t 1 = vP 1 1 0 ∧ s.t 99 = vL M.Site.en p0.Sites ∧ s.t 100 = vI (List.length p0.Sites : Int) ∧ s.t 101 = vI v101 ∧ s.h 1 = (1, oX 50 (M.World.en p0))) ∧ gD p0 m v101 = some r
 have e2 := @gD.eq_2
 unfold wW at h
 exact sgo 126 [.tmp 2] Tryz.func38
instance : bD 38 (type_of% @c38) := ⟨@c38⟩
theorem c39 (p0 r) (h : yF p0 = some r) : Sc 39 [aX (M.Site.en p0)] [(true, M.Site.rs r.1), rB r.2] := by
 unfold yF at h
 exact sgo 22 [.cell 2 75, .tmp 3] Tryz.func39
instance : bD 39 (type_of% @c39) := ⟨@c39⟩
theorem c10 (p0 p1 r) (h : kC p0 p1 = some r) : Sc 10 [aX (M.World.en p0), aS p1] [(true, M.World.rs r.1), rB r.2] := by
 unfold kC at h
 exact sgo 40 [.cell 4 50, .tmp 5] Tryz.func10
instance : bD 10 (type_of% @c10) := ⟨@c10⟩
end Go.Proofs.YtecmnmaaopkdfaaGreat.gen
