/-
  Helper text. No conditions.
-/
import Derived.Test.YtnhpbpnhmapeeaaGreatActivateWorkerPb
namespace Go.Proofs.YtnhpbpnhmapeeaaGreat.gen
open Go Go.Sh
set_option linter.unusedVariables false
set_option linter.unusedSimpArgs false
theorem aEf {p:M.aA→Option Bool} {f:M.aA→Bool} {xs:List M.aA} (hx:xs.length≤maxLen) (hp : ∀x∈xs,p x=some (f x)):hY xs p=some (aBN f xs):=by
 have hm:=le_max hx
 unfold hY
 rw [findAll (L:=bQ xs p) (f:=f) (A:=fun i=>some (i:Int)) (E:=some (-1)) hx (fun n k hk=>by
  simp only [bQ]
  rw [if_pos (aZ hk),aO hk,Option.bind_some,hp _ (List.getElem_mem hk),Option.bind_some,bD (by omega)]) (fun n=>by
  simp only [bQ]
  rw [if_neg (by rw [aP];simp)]),xI]
theorem aFf {p:M.Cache→Option Bool} {f:M.Cache→Bool} {xs:List M.Cache} (hx:xs.length≤maxLen) (hp : ∀x∈xs,p x=some (f x)):iM xs p=some (aBN f xs):=by
 have hm:=le_max hx
 unfold iM
 rw [findAll (L:=bY xs p) (f:=f) (A:=fun i=>some (i:Int)) (E:=some (-1)) hx (fun n k hk=>by
  simp only [bY]
  rw [if_pos (aZ hk),aO hk,Option.bind_some,hp _ (List.getElem_mem hk),Option.bind_some,bD (by omega)]) (fun n=>by
  simp only [bY]
  rw [if_neg (by rw [aP];simp)]),xI]
theorem aEi {p:M.Cached→Option Bool} {f:M.Cached→Bool} {xs:List M.Cached} (hx:xs.length≤maxLen) (hp : ∀x∈xs,p x=some (f x)):hZ xs p=some (aBN f xs):=by
 have hm:=le_max hx
 unfold hZ
 rw [findAll (L:=bR xs p) (f:=f) (A:=fun i=>some (i:Int)) (E:=some (-1)) hx (fun n k hk=>by
  simp only [bR]
  rw [if_pos (aZ hk),aO hk,Option.bind_some,hp _ (List.getElem_mem hk),Option.bind_some,bD (by omega)]) (fun n=>by
  simp only [bR]
  rw [if_neg (by rw [aP];simp)]),xI]
theorem aFe {p:M.aH→Option Bool} {f:M.aH→Bool} {xs:List M.aH} (hx:xs.length≤maxLen) (hp : ∀x∈xs,p x=some (f x)):iO xs p=some (aBN f xs):=by
 have hm:=le_max hx
 unfold iO
 rw [findAll (L:=bZ xs p) (f:=f) (A:=fun i=>some (i:Int)) (E:=some (-1)) hx (fun n k hk=>by
  simp only [bZ]
  rw [if_pos (aZ hk),aO hk,Option.bind_some,hp _ (List.getElem_mem hk),Option.bind_some,bD (by omega)]) (fun n=>by
  simp only [bZ]
  rw [if_neg (by rw [aP];simp)]),xI]
theorem aFZ {p:M.Field→Option Bool} {f:M.Field→Bool} {xs:List M.Field} (hx:xs.length≤maxLen) (hp : ∀x∈xs,p x=some (f x)):iR xs p=some (aBN f xs):=by
 have hm:=le_max hx
 unfold iR
 rw [findAll (L:=bX xs p) (f:=f) (A:=fun i=>some (i:Int)) (E:=some (-1)) hx (fun n k hk=>by
  simp only [bX]
  rw [if_pos (aZ hk),aO hk,Option.bind_some,hp _ (List.getElem_mem hk),Option.bind_some,bD (by omega)]) (fun n=>by
  simp only [bX]
  rw [if_neg (by rw [aP];simp)]),xI]
def nAt (a b:ByteArray) (x:M.aA):Bool:=(x.Site.toList==a.toList)&&(x.Top.toList==b.toList)
theorem aBO {s:M.aC} {a b:ByteArray} (hs:s.ok):iS s a b=some (aBN (nAt a b) s.Buckets):=by
 have hm:=le_max hs.Buckets.1
 unfold iS
 rw [findAll (L:=fO s a b) (f:=nAt a b) (A:=fun i=>some (i:Int)) (E:=some (-1)) hs.Buckets.1 (fun m k hk => ?_) (fun m => ?_),xI]
 ·simp only [fO]
  rw [if_pos (aZ hk),aO hk,Option.bind_some,bD (by omega),aOr]
  rfl
 ·simp only [fO]
  rw [if_neg (by rw [aP];simp)]
theorem aBS {s:M.aC} {a b:ByteArray} (hs:s.ok):iK s a b=some (aBN (nAt a b) s.Buckets):=by
 unfold iK
 rw [aEf (f:=nAt a b) hs.Buckets.1 (fun x _=>by simp only [mS,bM];rfl),Option.bind_some]
end Go.Proofs.YtnhpbpnhmapeeaaGreat.gen
