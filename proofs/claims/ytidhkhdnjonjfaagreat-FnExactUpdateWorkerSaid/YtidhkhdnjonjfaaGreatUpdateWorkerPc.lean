/-
  Helper text. No conditions.
-/
import Derived.Test.YtidhkhdnjonjfaaGreatUpdateWorkerPb
set_option linter.unusedVariables false
set_option linter.unusedSimpArgs false
namespace Go.Proofs.YtidhkhdnjonjfaaGreat.gen
open Go Go.Sh
theorem aGF {p:M.Bucket→Option Bool} {f:M.Bucket→Bool} {xs:List M.Bucket} (hx:xs.length≤maxLen) (hp : ∀x∈xs,p x=some (f x)):iJ xs p=some (yK f xs):=by
 have hm:=le_max hx
 unfold iJ
 rw [findAll (L:=bV xs p) (f:=f) (A:=fun i=>some (i:Int)) (E:=some (-1)) hx (fun n k hk=>by
  simp only [bV]
  rw [if_pos (aY hk),aM hk,qA,hp _ (qG hk),qA,bC (by omega)]) (fun n=>by
  simp only [bV]
  rw [if_neg (by rw [aO];simp)]),uE]
theorem aHN {p:M.Cache→Option Bool} {f:M.Cache→Bool} {xs:List M.Cache} (hx:xs.length≤maxLen) (hp : ∀x∈xs,p x=some (f x)):jG xs p=some (yK f xs):=by
 have hm:=le_max hx
 unfold jG
 rw [findAll (L:=cJ xs p) (f:=f) (A:=fun i=>some (i:Int)) (E:=some (-1)) hx (fun n k hk=>by
  simp only [cJ]
  rw [if_pos (aY hk),aM hk,qA,hp _ (qG hk),qA,bC (by omega)]) (fun n=>by
  simp only [cJ]
  rw [if_neg (by rw [aO];simp)]),uE]
theorem aDO {p:M.Cached→Option Bool} {f:M.Cached→Bool} {xs:List M.Cached} (hx:xs.length≤maxLen) (hp : ∀x∈xs,p x=some (f x)):iK xs p=some (yK f xs):=by
 have hm:=le_max hx
 unfold iK
 rw [findAll (L:=bW xs p) (f:=f) (A:=fun i=>some (i:Int)) (E:=some (-1)) hx (fun n k hk=>by
  simp only [bW]
  rw [if_pos (aY hk),aM hk,qA,hp _ (qG hk),qA,bC (by omega)]) (fun n=>by
  simp only [bW]
  rw [if_neg (by rw [aO];simp)]),uE]
theorem aHM {p:M.aJ→Option Bool} {f:M.aJ→Bool} {xs:List M.aJ} (hx:xs.length≤maxLen) (hp : ∀x∈xs,p x=some (f x)):jI xs p=some (yK f xs):=by
 have hm:=le_max hx
 unfold jI
 rw [findAll (L:=cK xs p) (f:=f) (A:=fun i=>some (i:Int)) (E:=some (-1)) hx (fun n k hk=>by
  simp only [cK]
  rw [if_pos (aY hk),aM hk,qA,hp _ (qG hk),qA,bC (by omega)]) (fun n=>by
  simp only [cK]
  rw [if_neg (by rw [aO];simp)]),uE]
theorem aHG {p:M.Field→Option Bool} {f:M.Field→Bool} {xs:List M.Field} (hx:xs.length≤maxLen) (hp : ∀x∈xs,p x=some (f x)):jM xs p=some (yK f xs):=by
 have hm:=le_max hx
 unfold jM
 rw [findAll (L:=cG xs p) (f:=f) (A:=fun i=>some (i:Int)) (E:=some (-1)) hx (fun n k hk=>by
  simp only [cG]
  rw [if_pos (aY hk),aM hk,qA,hp _ (qG hk),qA,bC (by omega)]) (fun n=>by
  simp only [cG]
  rw [if_neg (by rw [aO];simp)]),uE]
def nAt (a b:ByteArray) (x:M.Bucket):Bool:=(x.Site.toList==a.toList)&&(x.Top.toList==b.toList)
theorem aCR {s:M.aC} {a b:ByteArray} (hs:s.ok):jN s a b=some (yK (nAt a b) s.Buckets):=by
 have hm:=le_max hs.Buckets.1
 unfold jN
 rw [findAll (L:=fZ s a b) (f:=nAt a b) (A:=fun i=>some (i:Int)) (E:=some (-1)) hs.Buckets.1 (fun m k hk => ?_) (fun m => ?_),uE]
 ·simp only [fZ]
  rw [if_pos (aY hk),aM hk,qA,bC (by omega),aQ2]
  rfl
 ·simp only [fZ]
  rw [if_neg (by rw [aO];simp)]
theorem aCW {s:M.aC} {a b:ByteArray} (hs:s.ok):jD s a b=some (yK (nAt a b) s.Buckets):=by
 unfold jD
 rw [aGF (f:=nAt a b) hs.Buckets.1 (fun x _=>by simp only [nZ,bN];rfl),qA]
end Go.Proofs.YtidhkhdnjonjfaaGreat.gen
