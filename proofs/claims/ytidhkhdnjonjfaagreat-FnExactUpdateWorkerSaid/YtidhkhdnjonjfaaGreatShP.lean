/-
  Helper text. No conditions.
-/
import Derived.Test.YtidhkhdnjonjfaaGreatShD
set_option linter.unusedVariables false
set_option linter.unusedSimpArgs false
namespace Go.Sh
theorem le_max {n:Nat} (h:n≤maxLen):n≤9223372036854775807:=by unfold maxLen at h;omega
def inI (n:Int):Prop := -9223372036854775808≤n∧n≤9223372036854775807
theorem wf_i64 {n:Int} (h:(Lit.int .i64 n).wf=true):inI n:=by
 have h1:IntKind.i64.min = -9223372036854775808:=by decide
 have h2:IntKind.i64.max=9223372036854775807:=by decide
 simp only [Lit.wf,qM,qL,h1,h2] at h
 exact h
theorem wf_u8 {n:Int} (h:(Lit.int .u8 n).wf=true):0≤n∧n≤255:=by
 have h1:IntKind.u8.min=0:=by decide
 have h2:IntKind.u8.max=255:=by decide
 simp only [Lit.wf,qM,qL,h1,h2] at h
 exact h
theorem bC {n:Nat} (h:n<9223372036854775807):IntKind.i64.wrap ((n:Int)+1)=((n+1:Nat):Int):=by rw [fB (by omega) (by omega)];rfl
theorem aM {α:Type} {xs:List α} {k:Nat} (h:k<xs.length):idx xs (k:Int)=some xs[k]:=by
 unfold idx
 rw [if_pos (by omega)]
 simp [h]
theorem aY {k n:Nat} (h:k<n):decide ((k:Int)<(n:Int))=true:=by simp;omega
theorem aO (n:Nat):decide ((n:Int)<(n:Int))=false:=by simp
theorem bE {α:Type} {sh:List Shp} {en:α→List D} {ok:α→Prop} (h : ∀d,oC sh d → ∃x,d=en x∧ok x) : ∀ {xs:List (List D)},(∀d∈xs,oC sh d) → ∃l:List α,xs=l.map en ∧ ∀x∈l,ok x
 | [],_=>⟨[],rfl,by simp⟩
 | d::xs,hx=>by
  obtain ⟨x,rfl,h1⟩:=h d (hx d (by simp))
  obtain ⟨l,rfl,h2⟩:=bE (xs:=xs) h fun d hd=>hx d (List.mem_cons_of_mem _ hd)
  exact ⟨x::l,rfl,by simp [h1];exact h2⟩
theorem aR8 (d:List D) (h:oC [.int .i64] d) : ∃x,d=enI x∧inI x:=by
 simp only [oC,Has] at h
 obtain ⟨_,_,rfl,⟨n,rfl,hn⟩,rfl⟩:=h
 exact ⟨n,rfl,wf_i64 hn⟩
theorem aQe (d:List D) (h:oC [.int .u8] d) : ∃x,d=enB x∧(0≤x∧x≤255):=by
 simp only [oC,Has] at h
 obtain ⟨_,_,rfl,⟨n,rfl,hn⟩,rfl⟩:=h
 exact ⟨n,rfl,wf_u8 hn⟩
theorem aRx (d:List D) (h:oC [.str] d) : ∃x,d=enS x∧x.size≤maxLen:=by
 simp only [oC,Has] at h
 obtain ⟨_,_,rfl,⟨n,rfl,hn⟩,rfl⟩:=h
 exact ⟨n,rfl,hn⟩
def okB (l:List Int):Prop:=l.length≤maxLen ∧ ∀x∈l,0≤x∧x≤255
def okI (l:List Int):Prop:=l.length≤maxLen ∧ ∀x∈l,inI x
def okS (l:List ByteArray):Prop:=l.length≤maxLen ∧ ∀x∈l,x.size≤maxLen
def aGz (n:Nat) (left:Int):Int:=if (n:Int)≤left then left-n else -1
theorem aPk {n:Nat} {l:Int} (h:(n:Int)≤l):aGz n l=l-n:=by unfold aGz;rw [if_pos h]
theorem aP3 {n:Nat} {l:Int} (h : ¬(n:Int)≤l):aGz n l = -1:=by unfold aGz;rw [if_neg h]
def Sz (F:Int→Option Int) (a:Nat):Prop:=∀l,0≤l→l≤1048576→F l=some (aGz a l)
theorem aLh (a b:Nat) (l:Int) (hl:0≤l):(if (a:Int)≤l then some (aGz b (l-a)) else some (-1))=some (aGz (a+b) l):=by
 unfold aGz
 by_cases h:(a:Int)≤l
 ·rw [if_pos h]
  by_cases h2:(b:Int)≤l-a
  ·rw [if_pos h2,if_pos (by omega)];congr 1;omega
  ·rw [if_neg h2,if_neg (by omega)]
 ·rw [if_neg h,if_neg (by omega)]
theorem Sz.aDK {G:Int→Option Int} {n b:Nat} (hn:n≤maxLen) (hG:Sz G b):Sz (fun l=>if (decide ((IntKind.i64.wrap (l-(n:Int)))<0))=true then some (-1) else G (IntKind.i64.wrap (l-(n:Int)))) (n+b):=by
 intro l h0 h1
 have:=le_max hn
 simp only
 rw [fB (by omega) (by omega),←aLh n b l h0]
 by_cases h:(n:Int)≤l
 ·rw [if_neg (by simp;omega),if_pos h,hG _ (by omega) (by omega)]
 ·rw [if_pos (by simp;omega),if_neg h]
theorem Sz.done:Sz (fun l=>some l) 0:=by
 intro l h0 h1
 unfold aGz
 rw [if_pos (by omega)];simp
theorem Sz.str {n:Nat} (hn:n≤maxLen):Sz (fun l=>if (decide ((IntKind.i64.wrap (l-(n:Int)))<0))=true then some (-1) else some (IntKind.i64.wrap (l-(n:Int)))) n:=Sz.aDK (b:=0) hn Sz.done
theorem Sz.vG {F G:Int→Option Int} {a b:Nat} (hF:Sz F a) (hG:Sz G b):Sz (fun l=>(F l).bind fun x=>if (decide (x<0))=true then some (-1) else G x) (a+b):=by
 intro l h0 h1
 simp only
 rw [hF l h0 h1,qA,←aLh a b l h0]
 by_cases h:(a:Int)≤l
 ·have e:aGz a l=l-a:=by unfold aGz;rw [if_pos h]
  rw [e,if_neg (by simp;omega),if_pos h,hG _ (by omega) (by omega)]
 ·have e:aGz a l = -1:=by unfold aGz;rw [if_neg h]
  rw [e,if_pos (by simp),if_neg h]
theorem Sz.call {F:Int→Option Int} {a:Nat} (hF:Sz F a):Sz (fun l=>(F l).bind fun x=>if (decide (x<0))=true then some (-1) else some x) a:=Sz.vG (b:=0) hF Sz.done
def aF {α:Type} (f:α→Nat):List α→Nat
 | []=>0
 | x::xs=>f x+aF f xs
theorem aQ7 {α:Type} {xs:List α} {f:α→Nat} {L:Nat→Int→Int→Option Int} {S:α→Int→Option Int} (hx:xs.length≤maxLen) (hS : ∀x∈xs,Sz (S x) (f x))
  (hL : ∀n l (v:Int),L (n+1) l v=if (decide (v<(xs.length:Int)))=true then ((idx xs v).bind fun x=>((S x l).bind fun y=>if (decide (y<0))=true then some (-1) else L n y (IntKind.i64.wrap (v+1)))) else some l) :
  ∀(n k:Nat),xs.length-k<n→k≤xs.length→Sz (fun l=>L n l (k:Int)) (aF f (xs.drop k))
 | 0,k,hn,_=>by omega
 | n+1,k,hn,hk=>by
  have hm:=le_max hx
  intro l h0 h1
  simp only
  rw [hL]
  rcases Nat.lt_or_ge k xs.length with h | h
  ·rw [if_pos (aY h),aM h,qA,bC (by omega),qV h]
   exact Sz.vG (hS _ (qG h)) (aQ7 hx hS hL n (k+1) (by omega) h) l h0 h1
  ·have:k=xs.length:=by omega
   subst this
   rw [if_neg (by rw [aO];simp),qY]
   exact Sz.done l h0 h1
theorem Sz.aGW {α:Type} {xs:List α} {f:α→Nat} {L:Nat→Int→Int→Option Int} {S:α→Int→Option Int} (hx:xs.length≤maxLen) (hS : ∀x∈xs,Sz (S x) (f x))
  (hL : ∀n l (v:Int),L (n+1) l v=if (decide (v<(xs.length:Int)))=true then ((idx xs v).bind fun x=>((S x l).bind fun y=>if (decide (y<0))=true then some (-1) else L n y (IntKind.i64.wrap (v+1)))) else some l) :
  Sz (fun l=>if (decide ((IntKind.i64.wrap (l-(List.length xs:Int)))<0))=true then some (-1) else L fuel (IntKind.i64.wrap (l-(List.length xs:Int))) 0) (xs.length+aF f xs):=by
 have hm:=le_max hx
 have:=aQ7 hx hS hL fuel 0 (by unfold fuel;omega) (by omega)
 rw [List.drop_zero] at this
 exact Sz.aDK hx this
theorem aBV {α:Type} {xs:List α} {L:Nat→Int→List α→Option (List α)} (hx:xs.length≤maxLen)
  (h1 : ∀n (k:Nat) (r:List α) (hk:k<xs.length) (hr:r.length=xs.length),L (n+1) (k:Int) r=L n ((k+1:Nat):Int) (r.set k xs[k])) (h2 : ∀n r,L (n+1) (xs.length:Int) r=some r) :
  ∀(n k:Nat) (r:List α),xs.length-k<n→k≤xs.length→r.length=xs.length→r.take k=xs.take k→L n (k:Int) r=some xs
 | 0,k,r,hn,_,_,_=>by omega
 | n+1,k,r,hn,hk,hr,ht=>by
  rcases Nat.lt_or_ge k xs.length with h | h
  ·rw [h1 n k r h hr]
   refine aBV hx h1 h2 n (k+1) _ (by omega) h (by simpa using hr) ?_
   rw [List.take_succ_eq_append_getElem (by simp [hr];omega),List.take_succ_eq_append_getElem h,List.take_set_of_le (by omega),ht]
   simp
  ·have:k=xs.length:=by omega
   subst this
   rw [h2]
   rw [List.take_length,←hr,List.take_length] at ht
   rw [ht]
theorem aBR {n0:Nat} {L:Nat→Int→Option Bool} (hx:n0≤maxLen) (h1 : ∀n (k:Nat) (hk:k<n0),L (n+1) (k:Int)=L n ((k+1:Nat):Int)) (h2 : ∀n,L (n+1) (n0:Int)=some true) :
  ∀(n k:Nat),n0-k<n→k≤n0→L n (k:Int)=some true
 | 0,k,hn,_=>by omega
 | n+1,k,hn,hk=>by
  rcases Nat.lt_or_ge k n0 with h | h
  ·rw [h1 n k h];exact aBR hx h1 h2 n (k+1) (by omega) h
  ·have:k=n0:=by omega
   subst this
   exact h2 n
theorem bO {α:Type} {f:α→Nat} : ∀ {xs:List α} {x:α},x∈xs→f x≤aF f xs
 | y::xs,x,h=>by
  rcases List.mem_cons.1 h with rfl | h
  ·simp only [aF];omega
  ·have:=bO (f:=f) h;simp only [aF];omega
theorem aCA {α:Type} {b n:Nat} {z:α} (h:n*b≤140737488355328) (h2:n≤1048576):mkL b (n:Int) z=some (List.replicate (n:Int).toNat z):=by
 unfold mkL
 rw [if_pos ⟨by omega,by simpa using h,by omega⟩]
theorem aLu {xs:List ByteArray} {L:Nat→Int→Int→Option Int} (hx:okS xs)
  (hL : ∀n l (v:Int),L (n+1) l v=if (decide (v<(xs.length:Int)))=true then ((idx xs v).bind fun x=>if (decide ((IntKind.i64.wrap (l-(x.size:Int)))<0))=true then some (-1) else L n (IntKind.i64.wrap (l-(x.size:Int))) (IntKind.i64.wrap (v+1))) else some l) :
  ∀(n k:Nat),xs.length-k<n→k≤xs.length→Sz (fun l=>L n l (k:Int)) (aF ByteArray.size (xs.drop k))
 | 0,k,hn,_=>by omega
 | n+1,k,hn,hk=>by
  have hm:=le_max hx.1
  intro l h0 h1
  simp only
  rw [hL]
  rcases Nat.lt_or_ge k xs.length with h | h
  ·rw [if_pos (aY h),aM h,qA,bC (by omega),qV h]
   exact Sz.aDK (hx.2 _ (qG h)) (aLu hx hL n (k+1) (by omega) h) l h0 h1
  ·have:k=xs.length:=by omega
   subst this
   rw [if_neg (by rw [aO];simp),qY]
   exact Sz.done l h0 h1
theorem Sz.strs {xs:List ByteArray} {L:Nat→Int→Int→Option Int} (hx:okS xs)
  (hL : ∀n l (v:Int),L (n+1) l v=if (decide (v<(xs.length:Int)))=true then ((idx xs v).bind fun x=>if (decide ((IntKind.i64.wrap (l-(x.size:Int)))<0))=true then some (-1) else L n (IntKind.i64.wrap (l-(x.size:Int))) (IntKind.i64.wrap (v+1))) else some l) :
  Sz (fun l=>if (decide ((IntKind.i64.wrap (l-(List.length xs:Int)))<0))=true then some (-1) else L fuel (IntKind.i64.wrap (l-(List.length xs:Int))) 0) (xs.length+aF ByteArray.size xs):=by
 have hm:=le_max hx.1
 have:=aLu hx hL fuel 0 (by unfold fuel;omega) (by omega)
 rw [List.drop_zero] at this
 exact Sz.aDK hx.1 this
end Go.Sh
namespace Go.Sh
theorem bN (b x:Bool):(if b=true then some x else some false)=some (b&&x):=by cases b<;>rfl
theorem aB8 {α:Type} (b:Bool) (x y:α):(if (!b)=true then x else y)=if b=true then y else x:=by cases b<;>rfl
theorem aEH {α β:Type} [BEq β] (a b:β) (x y:α):(if (a != b)=true then x else y)=if (a==b)=true then y else x:=by unfold bne;cases (a==b)<;>rfl
theorem aQ2 {α:Type} (a b:Bool) (x y:α):(if a=true then (if b=true then x else y) else y)=if (a&&b)=true then x else y:=by cases a<;>cases b<;>rfl
theorem aM2 {α R:Type} {xs:List α} {f:α→Bool} {A:Nat→Option R} {E:Option R} {L:Nat→Int→Option R}
  (h1 : ∀n (k:Nat) (hk:k<xs.length),L (n+1) (k:Int)=if f xs[k]=true then A k else L n ((k+1:Nat):Int)) (h2 : ∀n,L (n+1) (xs.length:Int)=E) :
  ∀(n k:Nat),xs.length-k<n→k≤xs.length→L n (k:Int)=match (xs.drop k).findIdx? f with | some i=>A (k+i) | none=>E
 | 0,k,hn,_=>by omega
 | n+1,k,hn,hk=>by
  rcases Nat.lt_or_ge k xs.length with h | h
  ·rw [h1 n k h,qV h,List.findIdx?_cons]
   cases hf:f xs[k] with
   | true=>simp
   | false =>
    rw [if_neg (by simp),if_neg (by simp),aM2 h1 h2 n (k+1) (by omega) h]
    cases (xs.drop (k+1)).findIdx? f with
    | none=>rfl
    | some i=>simp only [Option.map_some];congr 1;omega
  ·have:k=xs.length:=by omega
   subst this
   rw [h2,qY]
   simp
theorem findAll {α R:Type} {xs:List α} {f:α→Bool} {A:Nat→Option R} {E:Option R} {L:Nat→Int→Option R} (hx:xs.length≤maxLen)
  (h1 : ∀n (k:Nat) (hk:k<xs.length),L (n+1) (k:Int)=if f xs[k]=true then A k else L n ((k+1:Nat):Int)) (h2 : ∀n,L (n+1) (xs.length:Int)=E) :
  L fuel 0=match xs.findIdx? f with | some i=>A i | none=>E:=by
 have hm:=le_max hx
 have:=aM2 h1 h2 fuel 0 (by unfold fuel;omega) (by omega)
 simpa using this
def yK {α:Type} (f:α→Bool) (xs:List α):Int:=match xs.findIdx? f with | some i=>(i:Int) | none => -1
theorem uE {α:Type} (f:α→Bool) (xs:List α):(match xs.findIdx? f with | some i=>some (i:Int) | none=>some (-1))=some (yK f xs):=by
 unfold yK
 cases xs.findIdx? f<;>rfl
theorem aIP {α:Type} (f:α→Bool) (xs:List α):decide (yK f xs≥0)=xs.any f:=by
 unfold yK
 cases h:xs.findIdx? f with
 | none =>
  have:=List.findIdx?_eq_none_iff.1 h
  have e:xs.any f=false:=by rw [List.any_eq_false];intro x hx;simp [this x hx]
  rw [e];simp
 | some i =>
  have h2:=List.findIdx?_isSome (xs:=xs) (p:=f)
  rw [h] at h2
  rw [←h2]
  simp
theorem aQW {α R:Type} (f:α→Bool) (xs:List α) (a e:R):(match xs.findIdx? f with | some _=>a | none=>e)=if xs.any f=true then a else e:=by
 have h2:=List.findIdx?_isSome (xs:=xs) (p:=f)
 rw [←h2]
 cases xs.findIdx? f<;>simp
end Go.Sh
