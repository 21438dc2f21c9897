/-
  Helper text. No conditions.
-/
import Derived.Test.YtnhpbpnhmapeeaaGreatSendNotePb
namespace Go.Proofs.YtnhpbpnhmapeeaaGreat.gen
open Go Go.Sh
set_option linter.unusedVariables false
set_option linter.unusedSimpArgs false
theorem aEc {p:M.aA→Option Bool} {f:M.aA→Bool} {xs:List M.aA} (hx:xs.length≤maxLen) (hp : ∀x∈xs,p x=some (f x)):gZ xs p=some (aAM f xs):=by
 have hm:=le_max hx
 unfold gZ
 rw [findAll (L:=bS xs p) (f:=f) (A:=fun i=>some (i:Int)) (E:=some (-1)) hx (fun n k hk=>by
  simp only [bS]
  rw [if_pos (bF hk),aQ hk,Option.bind_some,hp _ (List.getElem_mem hk),Option.bind_some,bH (by omega)]) (fun n=>by
  simp only [bS]
  rw [if_neg (by rw [aT];simp)]),aAw]
theorem aEg {p:M.Cached→Option Bool} {f:M.Cached→Bool} {xs:List M.Cached} (hx:xs.length≤maxLen) (hp : ∀x∈xs,p x=some (f x)):hD xs p=some (aAM f xs):=by
 have hm:=le_max hx
 unfold hD
 rw [findAll (L:=bT xs p) (f:=f) (A:=fun i=>some (i:Int)) (E:=some (-1)) hx (fun n k hk=>by
  simp only [bT]
  rw [if_pos (bF hk),aQ hk,Option.bind_some,hp _ (List.getElem_mem hk),Option.bind_some,bH (by omega)]) (fun n=>by
  simp only [bT]
  rw [if_neg (by rw [aT];simp)]),aAw]
theorem aFQ {p:M.aE→Option Bool} {f:M.aE→Bool} {xs:List M.aE} (hx:xs.length≤maxLen) (hp : ∀x∈xs,p x=some (f x)):iC xs p=some (aAM f xs):=by
 have hm:=le_max hx
 unfold iC
 rw [findAll (L:=bX xs p) (f:=f) (A:=fun i=>some (i:Int)) (E:=some (-1)) hx (fun n k hk=>by
  simp only [bX]
  rw [if_pos (bF hk),aQ hk,Option.bind_some,hp _ (List.getElem_mem hk),Option.bind_some,bH (by omega)]) (fun n=>by
  simp only [bX]
  rw [if_neg (by rw [aT];simp)]),aAw]
theorem aF7 {p:M.Item→Option Bool} {f:M.Item→Bool} {xs:List M.Item} (hx:xs.length≤maxLen) (hp : ∀x∈xs,p x=some (f x)):iR xs p=some (aAM f xs):=by
 have hm:=le_max hx
 unfold iR
 rw [findAll (L:=cE xs p) (f:=f) (A:=fun i=>some (i:Int)) (E:=some (-1)) hx (fun n k hk=>by
  simp only [cE]
  rw [if_pos (bF hk),aQ hk,Option.bind_some,hp _ (List.getElem_mem hk),Option.bind_some,bH (by omega)]) (fun n=>by
  simp only [cE]
  rw [if_neg (by rw [aT];simp)]),aAw]
theorem aCV {p:M.Field→Option Bool} {f:M.Field→Bool} {xs:List M.Field} (hx:xs.length≤maxLen) (hp : ∀x∈xs,p x=some (f x)):iF xs p=some (aAM f xs):=by
 have hm:=le_max hx
 unfold iF
 rw [findAll (L:=bV xs p) (f:=f) (A:=fun i=>some (i:Int)) (E:=some (-1)) hx (fun n k hk=>by
  simp only [bV]
  rw [if_pos (bF hk),aQ hk,Option.bind_some,hp _ (List.getElem_mem hk),Option.bind_some,bH (by omega)]) (fun n=>by
  simp only [bV]
  rw [if_neg (by rw [aT];simp)]),aAw]
def nAt (a b:ByteArray) (x:M.aA):Bool:=(x.Site.toList==a.toList)&&(x.Top.toList==b.toList)
theorem aCN {s:M.aF} {a b:ByteArray} (hs:s.ok):mM s a b=some (aAM (nAt a b) s.Buckets):=by
 have hm:=le_max hs.Buckets.1
 unfold mM
 rw [findAll (L:=fK s a b) (f:=nAt a b) (A:=fun i=>some (i:Int)) (E:=some (-1)) hs.Buckets.1 (fun m k hk => ?_) (fun m => ?_),aAw]
 ·simp only [fK]
  rw [if_pos (bF hk),aQ hk,Option.bind_some,bH (by omega),aPT]
  rfl
 ·simp only [fK]
  rw [if_neg (by rw [aT];simp)]
theorem aCb {s:M.aF} {a b:ByteArray} (hs:s.ok):lX s a b=some (aAM (nAt a b) s.Buckets):=by
 unfold lX
 rw [aEc (f:=nAt a b) hs.Buckets.1 (fun x _=>by simp only [mR,fX];rfl),Option.bind_some]
end Go.Proofs.YtnhpbpnhmapeeaaGreat.gen
