/-
  Helper text. No conditions.
-/
import Derived.Test.YtblghjofnielnaaGreatShD
namespace Go.Sh
set_option linter.unusedVariables false
set_option linter.unusedSimpArgs false
theorem le_max {n:Nat} (h:n≤maxLen):n≤9223372036854775807:=by unfold maxLen at h;omega
theorem wf_u8 {n:Int} (h:(Lit.int .u8 n).wf=true):0≤n∧n≤255:=by
 have h1:IntKind.u8.min=0:=by decide
 have h2:IntKind.u8.max=255:=by decide
 simp only [Lit.wf,Bool.and_eq_true,decide_eq_true_eq,h1,h2] at h
 exact h
theorem vF {α:Type} {sh:List Shp} {en:α→List D} {ok:α→Prop} (h : ∀d,tM sh d → ∃x,d=en x∧ok x) : ∀ {xs:List (List D)},(∀d∈xs,tM sh d) → ∃l:List α,xs=l.map en ∧ ∀x∈l,ok x
 | [],_=>⟨[],rfl,by simp⟩
 | d::xs,hx=>by
  obtain ⟨x,rfl,h1⟩:=h d (hx d (by simp))
  obtain ⟨l,rfl,h2⟩:=vF (xs:=xs) h fun d hd=>hx d (List.mem_cons_of_mem _ hd)
  exact ⟨x::l,rfl,by simp [h1];exact h2⟩
theorem aDz (d:List D) (h:tM [.int .u8] d) : ∃x,d=enB x∧(0≤x∧x≤255):=by
 simp only [tM,Has] at h
 obtain ⟨_,_,rfl,⟨n,rfl,hn⟩,rfl⟩:=h
 exact ⟨n,rfl,wf_u8 hn⟩
def okB (l:List Int):Prop:=l.length≤maxLen ∧ ∀x∈l,0≤x∧x≤255
def xJ (n:Nat) (left:Int):Int:=if (n:Int)≤left then left-n else -1
def Sz (F:Int→Option Int) (a:Nat):Prop:=∀l,0≤l→l≤1048576→F l=some (xJ a l)
theorem zA (a b:Nat) (l:Int) (hl:0≤l):(if (a:Int)≤l then some (xJ b (l-a)) else some (-1))=some (xJ (a+b) l):=by
 unfold xJ
 by_cases h:(a:Int)≤l
 ·rw [if_pos h]
  by_cases h2:(b:Int)≤l-a
  ·rw [if_pos h2,if_pos (by omega)];congr 1;omega
  ·rw [if_neg h2,if_neg (by omega)]
 ·rw [if_neg h,if_neg (by omega)]
theorem Sz.aCw {G:Int→Option Int} {n b:Nat} (hn:n≤maxLen) (hG:Sz G b):Sz (fun l=>if (decide ((IntKind.i64.wrap (l-(n:Int)))<0))=true then some (-1) else G (IntKind.i64.wrap (l-(n:Int)))) (n+b):=by
 intro l h0 h1
 have:=le_max hn
 simp only
 rw [uL (by omega) (by omega),←zA n b l h0]
 by_cases h:(n:Int)≤l
 ·rw [if_neg (by simp;omega),if_pos h,hG _ (by omega) (by omega)]
 ·rw [if_pos (by simp;omega),if_neg h]
theorem Sz.done:Sz (fun l=>some l) 0:=by
 intro l h0 h1
 unfold xJ
 rw [if_pos (by omega)];simp
theorem Sz.str {n:Nat} (hn:n≤maxLen):Sz (fun l=>if (decide ((IntKind.i64.wrap (l-(n:Int)))<0))=true then some (-1) else some (IntKind.i64.wrap (l-(n:Int)))) n:=Sz.aCw (b:=0) hn Sz.done
theorem Sz.aCd {F G:Int→Option Int} {a b:Nat} (hF:Sz F a) (hG:Sz G b):Sz (fun l=>(F l).bind fun x=>if (decide (x<0))=true then some (-1) else G x) (a+b):=by
 intro l h0 h1
 simp only
 rw [hF l h0 h1,Option.bind_some,←zA a b l h0]
 by_cases h:(a:Int)≤l
 ·have e:xJ a l=l-a:=by unfold xJ;rw [if_pos h]
  rw [e,if_neg (by simp;omega),if_pos h,hG _ (by omega) (by omega)]
 ·have e:xJ a l = -1:=by unfold xJ;rw [if_neg h]
  rw [e,if_pos (by simp),if_neg h]
theorem Sz.call {F:Int→Option Int} {a:Nat} (hF:Sz F a):Sz (fun l=>(F l).bind fun x=>if (decide (x<0))=true then some (-1) else some x) a:=Sz.aCd (b:=0) hF Sz.done
end Go.Sh
namespace Go.Sh
set_option linter.unusedVariables false
set_option linter.unusedSimpArgs false
end Go.Sh
