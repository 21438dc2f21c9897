/-
  Helper text. No conditions.
-/
import Derived.Test.YtidhkhdnjonjfaaGreatReadNotePb
set_option linter.unusedVariables false
set_option linter.unusedSimpArgs false
namespace Go.Proofs.YtidhkhdnjonjfaaGreat.gen
open Go Go.Sh
theorem aBf {p:M.Bucket→Option Bool} {f:M.Bucket→Bool} {xs:List M.Bucket} (hx:xs.length≤maxLen) (hp : ∀x∈xs,p x=some (f x)):eL xs p=some (nO f xs):=by
 have hm:=le_max hx
 unfold eL
 rw [findAll (L:=bN xs p) (f:=f) (A:=fun i=>some (i:Int)) (E:=some (-1)) hx (fun n k hk=>by
  simp only [bN]
  rw [if_pos (bD hk),aF hk,qA,hp _ (qG hk),qA,bR (by omega)]) (fun n=>by
  simp only [bN]
  rw [if_neg (by rw [aJ];simp)]),xV]
theorem aCC {p:M.aC→Option Bool} {f:M.aC→Bool} {xs:List M.aC} (hx:xs.length≤maxLen) (hp : ∀x∈xs,p x=some (f x)):fB xs p=some (nO f xs):=by
 have hm:=le_max hx
 unfold fB
 rw [findAll (L:=bP xs p) (f:=f) (A:=fun i=>some (i:Int)) (E:=some (-1)) hx (fun n k hk=>by
  simp only [bP]
  rw [if_pos (bD hk),aF hk,qA,hp _ (qG hk),qA,bR (by omega)]) (fun n=>by
  simp only [bP]
  rw [if_neg (by rw [aJ];simp)]),xV]
theorem aAS {p:M.Item→Option Bool} {f:M.Item→Bool} {xs:List M.Item} (hx:xs.length≤maxLen) (hp : ∀x∈xs,p x=some (f x)):eC xs p=some (nO f xs):=by
 have hm:=le_max hx
 unfold eC
 rw [findAll (L:=bT xs p) (f:=f) (A:=fun i=>some (i:Int)) (E:=some (-1)) hx (fun n k hk=>by
  simp only [bT]
  rw [if_pos (bD hk),aF hk,qA,hp _ (qG hk),qA,bR (by omega)]) (fun n=>by
  simp only [bT]
  rw [if_neg (by rw [aJ];simp)]),xV]
theorem zR {p:M.Field→Option Bool} {f:M.Field→Bool} {xs:List M.Field} (hx:xs.length≤maxLen) (hp : ∀x∈xs,p x=some (f x)):fD xs p=some (nO f xs):=by
 have hm:=le_max hx
 unfold fD
 rw [findAll (L:=bO xs p) (f:=f) (A:=fun i=>some (i:Int)) (E:=some (-1)) hx (fun n k hk=>by
  simp only [bO]
  rw [if_pos (bD hk),aF hk,qA,hp _ (qG hk),qA,bR (by omega)]) (fun n=>by
  simp only [bO]
  rw [if_neg (by rw [aJ];simp)]),xV]
def nAt (a b:ByteArray) (x:M.Bucket):Bool:=(x.Site.toList==a.toList)&&(x.Top.toList==b.toList)
theorem aB0 {s:M.aM} {a b:ByteArray} (hs:s.ok):mM s a b=some (nO (nAt a b) s.Buckets):=by
 have hm:=le_max hs.Buckets.1
 unfold mM
 rw [findAll (L:=dK s a b) (f:=nAt a b) (A:=fun i=>some (i:Int)) (E:=some (-1)) hs.Buckets.1 (fun m k hk => ?_) (fun m => ?_),xV]
 ·simp only [dK]
  rw [if_pos (bD hk),aF hk,qA,bR (by omega),aPm]
  rfl
 ·simp only [dK]
  rw [if_neg (by rw [aJ];simp)]
theorem aCF {s:M.aM} {a b:ByteArray} (hs:s.ok):lW s a b=some (nO (nAt a b) s.Buckets):=by
 unfold lW
 rw [aBf (f:=nAt a b) hs.Buckets.1 (fun x _=>by simp only [jO,lM];rfl),qA]
end Go.Proofs.YtidhkhdnjonjfaaGreat.gen
