/-
  Helper text. No conditions.
-/
import Derived.Test.YtblghjofnielnaaShD
namespace Go.Sh
set_option linter.unusedVariables false
set_option linter.unusedSimpArgs false
theorem le_max {n:Nat} (h:n≤maxLen):n≤9223372036854775807:=by unfold maxLen at h;omega
def inI (n:Int):Prop := -9223372036854775808≤n∧n≤9223372036854775807
theorem wf_u8 {n:Int} (h:(Lit.int .u8 n).wf=true):0≤n∧n≤255:=by
 have h1:IntKind.u8.min=0:=by decide
 have h2:IntKind.u8.max=255:=by decide
 simp only [Lit.wf,Bool.and_eq_true,decide_eq_true_eq,h1,h2] at h
 exact h
theorem hJ {n:Nat} (h:n<9223372036854775807):IntKind.i64.wrap ((n:Int)+1)=((n+1:Nat):Int):=by rw [hH (by omega) (by omega)];rfl
theorem dQ {α:Type} {xs:List α} {k:Nat} (h:k<xs.length):idx xs (k:Int)=some xs[k]:=by
 unfold idx
 rw [if_pos (by omega)]
 simp [h]
theorem gH {k n:Nat} (h:k<n):decide ((k:Int)<(n:Int))=true:=by simp;omega
theorem fF (n:Nat):decide ((n:Int)<(n:Int))=false:=by simp
theorem nL {α:Type} {sh:List Shp} {en:α→List D} {ok:α→Prop} (h : ∀d,kK sh d → ∃x,d=en x∧ok x) : ∀ {xs:List (List D)},(∀d∈xs,kK sh d) → ∃l:List α,xs=l.map en ∧ ∀x∈l,ok x
 | [],_=>⟨[],rfl,by simp⟩
 | d::xs,hx=>by
  obtain ⟨x,rfl,h1⟩:=h d (hx d (by simp))
  obtain ⟨l,rfl,h2⟩:=nL (xs:=xs) h fun d hd=>hx d (List.mem_cons_of_mem _ hd)
  exact ⟨x::l,rfl,by simp [h1];exact h2⟩
theorem aBE (d:List D) (h:kK [.int .u8] d) : ∃x,d=enB x∧(0≤x∧x≤255):=by
 simp only [kK,Has] at h
 obtain ⟨_,_,rfl,⟨n,rfl,hn⟩,rfl⟩:=h
 exact ⟨n,rfl,wf_u8 hn⟩
def okB (l:List Int):Prop:=l.length≤maxLen ∧ ∀x∈l,0≤x∧x≤255
def okI (l:List Int):Prop:=l.length≤maxLen ∧ ∀x∈l,inI x
def pG (n:Nat) (left:Int):Int:=if (n:Int)≤left then left-n else -1
def Sz (F:Int→Option Int) (a:Nat):Prop:=∀l,0≤l→l≤1048576→F l=some (pG a l)
theorem qN (a b:Nat) (l:Int) (hl:0≤l):(if (a:Int)≤l then some (pG b (l-a)) else some (-1))=some (pG (a+b) l):=by
 unfold pG
 by_cases h:(a:Int)≤l
 ·rw [if_pos h]
  by_cases h2:(b:Int)≤l-a
  ·rw [if_pos h2,if_pos (by omega)];congr 1;omega
  ·rw [if_neg h2,if_neg (by omega)]
 ·rw [if_neg h,if_neg (by omega)]
theorem Sz.aAv {G:Int→Option Int} {n b:Nat} (hn:n≤maxLen) (hG:Sz G b):Sz (fun l=>if (decide ((IntKind.i64.wrap (l-(n:Int)))<0))=true then some (-1) else G (IntKind.i64.wrap (l-(n:Int)))) (n+b):=by
 intro l h0 h1
 have:=le_max hn
 simp only
 rw [hH (by omega) (by omega),←qN n b l h0]
 by_cases h:(n:Int)≤l
 ·rw [if_neg (by simp;omega),if_pos h,hG _ (by omega) (by omega)]
 ·rw [if_pos (by simp;omega),if_neg h]
theorem Sz.done:Sz (fun l=>some l) 0:=by
 intro l h0 h1
 unfold pG
 rw [if_pos (by omega)];simp
theorem Sz.str {n:Nat} (hn:n≤maxLen):Sz (fun l=>if (decide ((IntKind.i64.wrap (l-(n:Int)))<0))=true then some (-1) else some (IntKind.i64.wrap (l-(n:Int)))) n:=Sz.aAv (b:=0) hn Sz.done
theorem Sz.aAK {F G:Int→Option Int} {a b:Nat} (hF:Sz F a) (hG:Sz G b):Sz (fun l=>(F l).bind fun x=>if (decide (x<0))=true then some (-1) else G x) (a+b):=by
 intro l h0 h1
 simp only
 rw [hF l h0 h1,Option.bind_some,←qN a b l h0]
 by_cases h:(a:Int)≤l
 ·have e:pG a l=l-a:=by unfold pG;rw [if_pos h]
  rw [e,if_neg (by simp;omega),if_pos h,hG _ (by omega) (by omega)]
 ·have e:pG a l = -1:=by unfold pG;rw [if_neg h]
  rw [e,if_pos (by simp),if_neg h]
theorem Sz.call {F:Int→Option Int} {a:Nat} (hF:Sz F a):Sz (fun l=>(F l).bind fun x=>if (decide (x<0))=true then some (-1) else some x) a:=Sz.aAK (b:=0) hF Sz.done
def iV {α:Type} (f:α→Nat):List α→Nat
 | []=>0
 | x::xs=>f x+iV f xs
end Go.Sh
namespace Go.Sh
set_option linter.unusedVariables false
set_option linter.unusedSimpArgs false
theorem jB (b x:Bool):(if b=true then some x else some false)=some (b&&x):=by cases b<;>rfl
theorem tU {α:Type} (b:Bool) (x y:α):(if (!b)=true then x else y)=if b=true then y else x:=by cases b<;>rfl
theorem yM {α β:Type} [BEq β] (a b:β) (x y:α):(if (a != b)=true then x else y)=if (a==b)=true then y else x:=by unfold bne;cases (a==b)<;>rfl
theorem aBj {α:Type} (a b:Bool) (x y:α):(if a=true then (if b=true then x else y) else y)=if (a&&b)=true then x else y:=by cases a<;>cases b<;>rfl
theorem uM {α R:Type} {xs:List α} {f:α→Bool} {A:Nat→Option R} {E:Option R} {L:Nat→Int→Option R}
  (h1 : ∀n (k:Nat) (hk:k<xs.length),L (n+1) (k:Int)=if f xs[k]=true then A k else L n ((k+1:Nat):Int)) (h2 : ∀n,L (n+1) (xs.length:Int)=E) :
  ∀(n k:Nat),xs.length-k<n→k≤xs.length→L n (k:Int)=match (xs.drop k).findIdx? f with | some i=>A (k+i) | none=>E
 | 0,k,hn,_=>by omega
 | n+1,k,hn,hk=>by
  rcases Nat.lt_or_ge k xs.length with h | h
  ·rw [h1 n k h,List.drop_eq_getElem_cons h,List.findIdx?_cons]
   cases hf:f xs[k] with
   | true=>simp
   | false =>
    rw [if_neg (by simp),if_neg (by simp),uM h1 h2 n (k+1) (by omega) h]
    cases (xs.drop (k+1)).findIdx? f with
    | none=>rfl
    | some i=>simp only [Option.map_some];congr 1;omega
  ·have:k=xs.length:=by omega
   subst this
   rw [h2,List.drop_length]
   simp
theorem findAll {α R:Type} {xs:List α} {f:α→Bool} {A:Nat→Option R} {E:Option R} {L:Nat→Int→Option R} (hx:xs.length≤maxLen)
  (h1 : ∀n (k:Nat) (hk:k<xs.length),L (n+1) (k:Int)=if f xs[k]=true then A k else L n ((k+1:Nat):Int)) (h2 : ∀n,L (n+1) (xs.length:Int)=E) :
  L fuel 0=match xs.findIdx? f with | some i=>A i | none=>E:=by
 have hm:=le_max hx
 have:=uM h1 h2 fuel 0 (by unfold fuel;omega) (by omega)
 simpa using this
def lZ {α:Type} (f:α→Bool) (xs:List α):Int:=match xs.findIdx? f with | some i=>(i:Int) | none => -1
theorem nY {α:Type} (f:α→Bool) (xs:List α):(match xs.findIdx? f with | some i=>some (i:Int) | none=>some (-1))=some (lZ f xs):=by
 unfold lZ
 cases xs.findIdx? f<;>rfl
end Go.Sh
