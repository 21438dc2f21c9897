/-
  Helper text. No conditions.
-/
import Derived.Test.YtimblbmbfdopgaaGreatOpenPagePb
set_option linter.unusedVariables false
set_option linter.unusedSimpArgs false
namespace Go.Proofs.YtimblbmbfdopgaaGreat.gen
open Go Go.Sh
theorem aF7 {p:M.aC→Option Bool} {f:M.aC→Bool} {xs:List M.aC} (hx:xs.length≤maxLen) (hp : ∀x∈xs,p x=some (f x)):iA xs p=some (aAP f xs):=by
 have hm:=le_max hx
 unfold iA
 rw [findAll (L:=bU xs p) (f:=f) (A:=fun i=>some (i:Int)) (E:=some (-1)) hx (fun n k hk=>by
  simp only [bU]
  rw [if_pos (bB hk),aN hk,qA,hp _ (qG hk),qA,bF (by omega)]) (fun n=>by
  simp only [bU]
  rw [if_neg (by rw [aP];simp)]),uB]
theorem aG9 {p:M.Cache→Option Bool} {f:M.Cache→Bool} {xs:List M.Cache} (hx:xs.length≤maxLen) (hp : ∀x∈xs,p x=some (f x)):iX xs p=some (aAP f xs):=by
 have hm:=le_max hx
 unfold iX
 rw [findAll (L:=cD xs p) (f:=f) (A:=fun i=>some (i:Int)) (E:=some (-1)) hx (fun n k hk=>by
  simp only [cD]
  rw [if_pos (bB hk),aN hk,qA,hp _ (qG hk),qA,bF (by omega)]) (fun n=>by
  simp only [cD]
  rw [if_neg (by rw [aP];simp)]),uB]
theorem aDK {p:M.Cached→Option Bool} {f:M.Cached→Bool} {xs:List M.Cached} (hx:xs.length≤maxLen) (hp : ∀x∈xs,p x=some (f x)):iC xs p=some (aAP f xs):=by
 have hm:=le_max hx
 unfold iC
 rw [findAll (L:=bV xs p) (f:=f) (A:=fun i=>some (i:Int)) (E:=some (-1)) hx (fun n k hk=>by
  simp only [bV]
  rw [if_pos (bB hk),aN hk,qA,hp _ (qG hk),qA,bF (by omega)]) (fun n=>by
  simp only [bV]
  rw [if_neg (by rw [aP];simp)]),uB]
theorem aG8 {p:M.aH→Option Bool} {f:M.aH→Bool} {xs:List M.aH} (hx:xs.length≤maxLen) (hp : ∀x∈xs,p x=some (f x)):iZ xs p=some (aAP f xs):=by
 have hm:=le_max hx
 unfold iZ
 rw [findAll (L:=cE xs p) (f:=f) (A:=fun i=>some (i:Int)) (E:=some (-1)) hx (fun n k hk=>by
  simp only [cE]
  rw [if_pos (bB hk),aN hk,qA,hp _ (qG hk),qA,bF (by omega)]) (fun n=>by
  simp only [cE]
  rw [if_neg (by rw [aP];simp)]),uB]
theorem aG3 {p:M.Field→Option Bool} {f:M.Field→Bool} {xs:List M.Field} (hx:xs.length≤maxLen) (hp : ∀x∈xs,p x=some (f x)):jD xs p=some (aAP f xs):=by
 have hm:=le_max hx
 unfold jD
 rw [findAll (L:=cA xs p) (f:=f) (A:=fun i=>some (i:Int)) (E:=some (-1)) hx (fun n k hk=>by
  simp only [cA]
  rw [if_pos (bB hk),aN hk,qA,hp _ (qG hk),qA,bF (by omega)]) (fun n=>by
  simp only [cA]
  rw [if_neg (by rw [aP];simp)]),uB]
def nAt (a b:ByteArray) (x:M.aC):Bool:=(x.Site.toList==a.toList)&&(x.Top.toList==b.toList)
theorem aAA {s:M.aA} {a b:ByteArray} (hs:s.ok):gS s a b=some (aAP (nAt a b) s.Buckets):=by
 have hm:=le_max hs.Buckets.1
 unfold gS
 rw [findAll (L:=fR s a b) (f:=nAt a b) (A:=fun i=>some (i:Int)) (E:=some (-1)) hs.Buckets.1 (fun m k hk => ?_) (fun m => ?_),uB]
 ·simp only [fR]
  rw [if_pos (bB hk),aN hk,qA,bF (by omega),aQU]
  rfl
 ·simp only [fR]
  rw [if_neg (by rw [aP];simp)]
theorem aCQ {s:M.aA} {a b:ByteArray} (hs:s.ok):gN s a b=some (aAP (nAt a b) s.Buckets):=by
 unfold gN
 rw [aF7 (f:=nAt a b) hs.Buckets.1 (fun x _=>by simp only [nT,bL];rfl),qA]
end Go.Proofs.YtimblbmbfdopgaaGreat.gen
