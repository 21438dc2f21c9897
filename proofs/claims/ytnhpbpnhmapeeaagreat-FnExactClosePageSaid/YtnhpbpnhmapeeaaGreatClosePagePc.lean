/-
  Helper text. No conditions.
-/
import Derived.Test.YtnhpbpnhmapeeaaGreatClosePagePb
namespace Go.Proofs.YtnhpbpnhmapeeaaGreat.gen
open Go Go.Sh
set_option linter.unusedVariables false
set_option linter.unusedSimpArgs false
theorem aEC {p:M.aF→Option Bool} {f:M.aF→Bool} {xs:List M.aF} (hx:xs.length≤maxLen) (hp : ∀x∈xs,p x=some (f x)):hJ xs p=some (aBj f xs):=by
 have hm:=le_max hx
 unfold hJ
 rw [findAll (L:=bS xs p) (f:=f) (A:=fun i=>some (i:Int)) (E:=some (-1)) hx (fun n k hk=>by
  simp only [bS]
  rw [if_pos (aZ hk),aO hk,Option.bind_some,hp _ (List.getElem_mem hk),Option.bind_some,bB (by omega)]) (fun n=>by
  simp only [bS]
  rw [if_neg (by rw [aP];simp)]),tT]
theorem aGA {p:M.bG→Option Bool} {f:M.bG→Bool} {xs:List M.bG} (hx:xs.length≤maxLen) (hp : ∀x∈xs,p x=some (f x)):iS xs p=some (aBj f xs):=by
 have hm:=le_max hx
 unfold iS
 rw [findAll (L:=cG xs p) (f:=f) (A:=fun i=>some (i:Int)) (E:=some (-1)) hx (fun n k hk=>by
  simp only [cG]
  rw [if_pos (aZ hk),aO hk,Option.bind_some,hp _ (List.getElem_mem hk),Option.bind_some,bB (by omega)]) (fun n=>by
  simp only [cG]
  rw [if_neg (by rw [aP];simp)]),tT]
theorem aEE {p:M.Cached→Option Bool} {f:M.Cached→Bool} {xs:List M.Cached} (hx:xs.length≤maxLen) (hp : ∀x∈xs,p x=some (f x)):hM xs p=some (aBj f xs):=by
 have hm:=le_max hx
 unfold hM
 rw [findAll (L:=bT xs p) (f:=f) (A:=fun i=>some (i:Int)) (E:=some (-1)) hx (fun n k hk=>by
  simp only [bT]
  rw [if_pos (aZ hk),aO hk,Option.bind_some,hp _ (List.getElem_mem hk),Option.bind_some,bB (by omega)]) (fun n=>by
  simp only [bT]
  rw [if_neg (by rw [aP];simp)]),tT]
theorem aFF {p:M.aH→Option Bool} {f:M.aH→Bool} {xs:List M.aH} (hx:xs.length≤maxLen) (hp : ∀x∈xs,p x=some (f x)):iF xs p=some (aBj f xs):=by
 have hm:=le_max hx
 unfold iF
 rw [findAll (L:=bZ xs p) (f:=f) (A:=fun i=>some (i:Int)) (E:=some (-1)) hx (fun n k hk=>by
  simp only [bZ]
  rw [if_pos (aZ hk),aO hk,Option.bind_some,hp _ (List.getElem_mem hk),Option.bind_some,bB (by omega)]) (fun n=>by
  simp only [bZ]
  rw [if_neg (by rw [aP];simp)]),tT]
theorem aFB {p:M.Field→Option Bool} {f:M.Field→Bool} {xs:List M.Field} (hx:xs.length≤maxLen) (hp : ∀x∈xs,p x=some (f x)):iJ xs p=some (aBj f xs):=by
 have hm:=le_max hx
 unfold iJ
 rw [findAll (L:=bY xs p) (f:=f) (A:=fun i=>some (i:Int)) (E:=some (-1)) hx (fun n k hk=>by
  simp only [bY]
  rw [if_pos (aZ hk),aO hk,Option.bind_some,hp _ (List.getElem_mem hk),Option.bind_some,bB (by omega)]) (fun n=>by
  simp only [bY]
  rw [if_neg (by rw [aP];simp)]),tT]
theorem aF5 {p:M.bU→Option Bool} {f:M.bU→Bool} {xs:List M.bU} (hx:xs.length≤maxLen) (hp : ∀x∈xs,p x=some (f x)):iR xs p=some (aBj f xs):=by
 have hm:=le_max hx
 unfold iR
 rw [findAll (L:=cE xs p) (f:=f) (A:=fun i=>some (i:Int)) (E:=some (-1)) hx (fun n k hk=>by
  simp only [cE]
  rw [if_pos (aZ hk),aO hk,Option.bind_some,hp _ (List.getElem_mem hk),Option.bind_some,bB (by omega)]) (fun n=>by
  simp only [cE]
  rw [if_neg (by rw [aP];simp)]),tT]
theorem aF0 {p:M.bF→Option Bool} {f:M.bF→Bool} {xs:List M.bF} (hx:xs.length≤maxLen) (hp : ∀x∈xs,p x=some (f x)):iU xs p=some (aBj f xs):=by
 have hm:=le_max hx
 unfold iU
 rw [findAll (L:=cF xs p) (f:=f) (A:=fun i=>some (i:Int)) (E:=some (-1)) hx (fun n k hk=>by
  simp only [cF]
  rw [if_pos (aZ hk),aO hk,Option.bind_some,hp _ (List.getElem_mem hk),Option.bind_some,bB (by omega)]) (fun n=>by
  simp only [cF]
  rw [if_neg (by rw [aP];simp)]),tT]
def nAt (a b:ByteArray) (x:M.aF):Bool:=(x.Site.toList==a.toList)&&(x.Top.toList==b.toList)
theorem aEo {s:M.aM} {a b:ByteArray} (hs:s.ok):mG s a b=some (aBj (nAt a b) s.Buckets):=by
 have hm:=le_max hs.Buckets.1
 unfold mG
 rw [findAll (L:=fL s a b) (f:=nAt a b) (A:=fun i=>some (i:Int)) (E:=some (-1)) hs.Buckets.1 (fun m k hk => ?_) (fun m => ?_),tT]
 ·simp only [fL]
  rw [if_pos (aZ hk),aO hk,Option.bind_some,bB (by omega),aN5]
  rfl
 ·simp only [fL]
  rw [if_neg (by rw [aP];simp)]
theorem aFO {s:M.aM} {a b:ByteArray} (hs:s.ok):lR s a b=some (aBj (nAt a b) s.Buckets):=by
 unfold lR
 rw [aEC (f:=nAt a b) hs.Buckets.1 (fun x _=>by simp only [mK,bP];rfl),Option.bind_some]
end Go.Proofs.YtnhpbpnhmapeeaaGreat.gen
