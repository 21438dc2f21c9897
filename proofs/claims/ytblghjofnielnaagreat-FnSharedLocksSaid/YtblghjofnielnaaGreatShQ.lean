/-
  Helper text. No conditions.
-/
import Derived.Test.YtblghjofnielnaaGreatShP
import Derived.Lib.Walk
import Derived.Lib.Bytealg
import Derived.Laws.Externs
namespace Go.Sh
set_option linter.unusedVariables false
set_option linter.unusedSimpArgs false
end Go.Sh
namespace Go.Sh
set_option linter.unusedVariables false
set_option linter.unusedSimpArgs false
theorem aG (s:ByteArray):(gZ s).length=s.size:=by unfold gZ;rw [List.length_map,Array.length_toList];rfl
theorem wF {α:Type} (x:Int) (a b:α):(if x<0 then a else b)=if (decide (0≤x))=true then b else a:=by
 by_cases h:x<0
 ·rw [if_pos h,if_neg (by simp;omega)]
 ·rw [if_neg h,if_pos (by simp;omega)]
theorem aDE {α:Type} (x:Int) (a b:α):(if x=0 then a else b)=if (decide (x=0))=true then a else b:=by
 by_cases h:x=0
 ·rw [if_pos h,if_pos (by simpa using h)]
 ·rw [if_neg h,if_neg (by simpa using h)]
end Go.Sh
namespace Go.Sh
set_option linter.unusedVariables false
set_option linter.unusedSimpArgs false
end Go.Sh
namespace Go.Sh
set_option linter.unusedVariables false
set_option linter.unusedSimpArgs false
open Go.RowKit
theorem zY {P : Program} {f : FuncId} {fn : Func} {c : Code} {a b : ByteArray} {r : Int} (hf : P.funcs[f]? = some fn) (hb : fn.body = some c) (hn : (fn.name == "runtime.NumGoroutine") = false)
  (h : ∀w,Calls P f #[.string a,.string b] w fun e w'=>e = .returned (.int .i64 r)∧w'=w):dS P f [(false,[.str a]),(false,[.str b])] [(false,[.ro (.int .i64 r)])]:=by
 refine .inl ⟨⟨fn,c,hf,hb,hn⟩,fun w vs Fa ha => ?_⟩
 have e:vs = #[.string a,.string b]:=by
  obtain ⟨l⟩:=vs
  match l,ha with
  | [x,y],⟨_,_,_,h1,_,_,_,h2,_⟩ =>
   simp [aAM,Rep] at h1 h2
   simp [h1,h2]
 subst e
 refine (h w).mono fun e w' hh => ?_
 obtain ⟨rfl,rfl⟩:=hh
 exact ⟨_,rfl,⟨[],fun _=>False,⟨List.nodup_nil,by simp⟩,fun _ h=>h.elim,fun _=>rfl,by simp [aAF,yY,eP,Rep]⟩,Below.refl _ _⟩
end Go.Sh
namespace Go.Sh
set_option linter.unusedVariables false
set_option linter.unusedSimpArgs false
end Go.Sh
