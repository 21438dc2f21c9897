/-
  Helper text. No conditions.
-/
import Derived.Test.YtidhkhdnjonjfaaGreatReadNoteShD
set_option linter.unusedVariables false
set_option linter.unusedSimpArgs false
namespace Go.Sh
theorem le_max {n:Nat} (h:n≤maxLen):n≤9223372036854775807:=by unfold maxLen at h;omega
def inI (n:Int):Prop := -9223372036854775808≤n∧n≤9223372036854775807
theorem wf_i64 {n:Int} (h:(Lit.int .i64 n).wf=true):inI n:=by
 have h1:IntKind.i64.min = -9223372036854775808:=by decide
 have h2:IntKind.i64.max=9223372036854775807:=by decide
 simp only [Lit.wf,qM,qL,h1,h2] at h
 exact h
theorem wf_u8 {n:Int} (h:(Lit.int .u8 n).wf=true):0≤n∧n≤255:=by
 have h1:IntKind.u8.min=0:=by decide
 have h2:IntKind.u8.max=255:=by decide
 simp only [Lit.wf,qM,qL,h1,h2] at h
 exact h
theorem bR {n:Nat} (h:n<9223372036854775807):IntKind.i64.wrap ((n:Int)+1)=((n+1:Nat):Int):=by rw [bS (by omega) (by omega)];rfl
theorem aF {α:Type} {xs:List α} {k:Nat} (h:k<xs.length):idx xs (k:Int)=some xs[k]:=by
 unfold idx
 rw [if_pos (by omega)]
 simp [h]
theorem bD {k n:Nat} (h:k<n):decide ((k:Int)<(n:Int))=true:=by simp;omega
theorem aJ (n:Nat):decide ((n:Int)<(n:Int))=false:=by simp
theorem aQ {α:Type} {sh:List Shp} {en:α→List D} {ok:α→Prop} (h : ∀d,jP sh d → ∃x,d=en x∧ok x) : ∀ {xs:List (List D)},(∀d∈xs,jP sh d) → ∃l:List α,xs=l.map en ∧ ∀x∈l,ok x
 | [],_=>⟨[],rfl,by simp⟩
 | d::xs,hx=>by
  obtain ⟨x,rfl,h1⟩:=h d (hx d (by simp))
  obtain ⟨l,rfl,h2⟩:=aQ (xs:=xs) h fun d hd=>hx d (List.mem_cons_of_mem _ hd)
  exact ⟨x::l,rfl,by simp [h1];exact h2⟩
theorem aLE (d:List D) (h:jP [.int .i64] d) : ∃x,d=enI x∧inI x:=by
 simp only [jP,Has] at h
 obtain ⟨_,_,rfl,⟨n,rfl,hn⟩,rfl⟩:=h
 exact ⟨n,rfl,wf_i64 hn⟩
theorem aKT (d:List D) (h:jP [.int .u8] d) : ∃x,d=enB x∧(0≤x∧x≤255):=by
 simp only [jP,Has] at h
 obtain ⟨_,_,rfl,⟨n,rfl,hn⟩,rfl⟩:=h
 exact ⟨n,rfl,wf_u8 hn⟩
theorem aMG (d:List D) (h:jP [.str] d) : ∃x,d=enS x∧x.size≤maxLen:=by
 simp only [jP,Has] at h
 obtain ⟨_,_,rfl,⟨n,rfl,hn⟩,rfl⟩:=h
 exact ⟨n,rfl,hn⟩
def okB (l:List Int):Prop:=l.length≤maxLen ∧ ∀x∈l,0≤x∧x≤255
def okI (l:List Int):Prop:=l.length≤maxLen ∧ ∀x∈l,inI x
def okS (l:List ByteArray):Prop:=l.length≤maxLen ∧ ∀x∈l,x.size≤maxLen
def aB4 (n:Nat) (left:Int):Int:=if (n:Int)≤left then left-n else -1
theorem aGC {n:Nat} {l:Int} (h:(n:Int)≤l):aB4 n l=l-n:=by unfold aB4;rw [if_pos h]
theorem aHD {n:Nat} {l:Int} (h : ¬(n:Int)≤l):aB4 n l = -1:=by unfold aB4;rw [if_neg h]
def Sz (F:Int→Option Int) (a:Nat):Prop:=∀l,0≤l→l≤1048576→F l=some (aB4 a l)
theorem aFz (a b:Nat) (l:Int) (hl:0≤l):(if (a:Int)≤l then some (aB4 b (l-a)) else some (-1))=some (aB4 (a+b) l):=by
 unfold aB4
 by_cases h:(a:Int)≤l
 ·rw [if_pos h]
  by_cases h2:(b:Int)≤l-a
  ·rw [if_pos h2,if_pos (by omega)];congr 1;omega
  ·rw [if_neg h2,if_neg (by omega)]
 ·rw [if_neg h,if_neg (by omega)]
theorem Sz.zB {G:Int→Option Int} {n b:Nat} (hn:n≤maxLen) (hG:Sz G b):Sz (fun l=>if (decide ((IntKind.i64.wrap (l-(n:Int)))<0))=true then some (-1) else G (IntKind.i64.wrap (l-(n:Int)))) (n+b):=by
 intro l h0 h1
 have:=le_max hn
 simp only
 rw [bS (by omega) (by omega),←aFz n b l h0]
 by_cases h:(n:Int)≤l
 ·rw [if_neg (by simp;omega),if_pos h,hG _ (by omega) (by omega)]
 ·rw [if_pos (by simp;omega),if_neg h]
theorem Sz.done:Sz (fun l=>some l) 0:=by
 intro l h0 h1
 unfold aB4
 rw [if_pos (by omega)];simp
theorem Sz.str {n:Nat} (hn:n≤maxLen):Sz (fun l=>if (decide ((IntKind.i64.wrap (l-(n:Int)))<0))=true then some (-1) else some (IntKind.i64.wrap (l-(n:Int)))) n:=Sz.zB (b:=0) hn Sz.done
theorem Sz.nA {F G:Int→Option Int} {a b:Nat} (hF:Sz F a) (hG:Sz G b):Sz (fun l=>(F l).bind fun x=>if (decide (x<0))=true then some (-1) else G x) (a+b):=by
 intro l h0 h1
 simp only
 rw [hF l h0 h1,qA,←aFz a b l h0]
 by_cases h:(a:Int)≤l
 ·have e:aB4 a l=l-a:=by unfold aB4;rw [if_pos h]
  rw [e,if_neg (by simp;omega),if_pos h,hG _ (by omega) (by omega)]
 ·have e:aB4 a l = -1:=by unfold aB4;rw [if_neg h]
  rw [e,if_pos (by simp),if_neg h]
theorem Sz.call {F:Int→Option Int} {a:Nat} (hF:Sz F a):Sz (fun l=>(F l).bind fun x=>if (decide (x<0))=true then some (-1) else some x) a:=Sz.nA (b:=0) hF Sz.done
def eA {α:Type} (f:α→Nat):List α→Nat
 | []=>0
 | x::xs=>f x+eA f xs
theorem aKv {α:Type} {xs:List α} {f:α→Nat} {L:Nat→Int→Int→Option Int} {S:α→Int→Option Int} (hx:xs.length≤maxLen) (hS : ∀x∈xs,Sz (S x) (f x))
  (hL : ∀n l (v:Int),L (n+1) l v=if (decide (v<(xs.length:Int)))=true then ((idx xs v).bind fun x=>((S x l).bind fun y=>if (decide (y<0))=true then some (-1) else L n y (IntKind.i64.wrap (v+1)))) else some l) :
  ∀(n k:Nat),xs.length-k<n→k≤xs.length→Sz (fun l=>L n l (k:Int)) (eA f (xs.drop k))
 | 0,k,hn,_=>by omega
 | n+1,k,hn,hk=>by
  have hm:=le_max hx
  intro l h0 h1
  simp only
  rw [hL]
  rcases Nat.lt_or_ge k xs.length with h | h
  ·rw [if_pos (bD h),aF h,qA,bR (by omega),qU h]
   exact Sz.nA (hS _ (qG h)) (aKv hx hS hL n (k+1) (by omega) h) l h0 h1
  ·have:k=xs.length:=by omega
   subst this
   rw [if_neg (by rw [aJ];simp),qX]
   exact Sz.done l h0 h1
theorem Sz.aBp {α:Type} {xs:List α} {f:α→Nat} {L:Nat→Int→Int→Option Int} {S:α→Int→Option Int} (hx:xs.length≤maxLen) (hS : ∀x∈xs,Sz (S x) (f x))
  (hL : ∀n l (v:Int),L (n+1) l v=if (decide (v<(xs.length:Int)))=true then ((idx xs v).bind fun x=>((S x l).bind fun y=>if (decide (y<0))=true then some (-1) else L n y (IntKind.i64.wrap (v+1)))) else some l) :
  Sz (fun l=>if (decide ((IntKind.i64.wrap (l-(List.length xs:Int)))<0))=true then some (-1) else L fuel (IntKind.i64.wrap (l-(List.length xs:Int))) 0) (xs.length+eA f xs):=by
 have hm:=le_max hx
 have:=aKv hx hS hL fuel 0 (by unfold fuel;omega) (by omega)
 rw [List.drop_zero] at this
 exact Sz.zB hx this
theorem vF {α:Type} {xs:List α} {L:Nat→Int→List α→Option (List α)} (hx:xs.length≤maxLen)
  (h1 : ∀n (k:Nat) (r:List α) (hk:k<xs.length) (hr:r.length=xs.length),L (n+1) (k:Int) r=L n ((k+1:Nat):Int) (r.set k xs[k])) (h2 : ∀n r,L (n+1) (xs.length:Int) r=some r) :
  ∀(n k:Nat) (r:List α),xs.length-k<n→k≤xs.length→r.length=xs.length→r.take k=xs.take k→L n (k:Int) r=some xs
 | 0,k,r,hn,_,_,_=>by omega
 | n+1,k,r,hn,hk,hr,ht=>by
  rcases Nat.lt_or_ge k xs.length with h | h
  ·rw [h1 n k r h hr]
   refine vF hx h1 h2 n (k+1) _ (by omega) h (by simpa using hr) ?_
   rw [List.take_succ_eq_append_getElem (by simp [hr];omega),List.take_succ_eq_append_getElem h,List.take_set_of_le (by omega),ht]
   simp
  ·have:k=xs.length:=by omega
   subst this
   rw [h2]
   rw [List.take_length,←hr,List.take_length] at ht
   rw [ht]
theorem uZ {n0:Nat} {L:Nat→Int→Option Bool} (hx:n0≤maxLen) (h1 : ∀n (k:Nat) (hk:k<n0),L (n+1) (k:Int)=L n ((k+1:Nat):Int)) (h2 : ∀n,L (n+1) (n0:Int)=some true) :
  ∀(n k:Nat),n0-k<n→k≤n0→L n (k:Int)=some true
 | 0,k,hn,_=>by omega
 | n+1,k,hn,hk=>by
  rcases Nat.lt_or_ge k n0 with h | h
  ·rw [h1 n k h];exact uZ hx h1 h2 n (k+1) (by omega) h
  ·have:k=n0:=by omega
   subst this
   exact h2 n
theorem eP {α:Type} {f:α→Nat} : ∀ {xs:List α} {x:α},x∈xs→f x≤eA f xs
 | y::xs,x,h=>by
  rcases List.mem_cons.1 h with rfl | h
  ·simp only [eA];omega
  ·have:=eP (f:=f) h;simp only [eA];omega
theorem wG {α:Type} {b n:Nat} {z:α} (h:n*b≤140737488355328) (h2:n≤1048576):mkL b (n:Int) z=some (List.replicate (n:Int).toNat z):=by
 unfold mkL
 rw [if_pos ⟨by omega,by simpa using h,by omega⟩]
theorem aGA {xs:List ByteArray} {L:Nat→Int→Int→Option Int} (hx:okS xs)
  (hL : ∀n l (v:Int),L (n+1) l v=if (decide (v<(xs.length:Int)))=true then ((idx xs v).bind fun x=>if (decide ((IntKind.i64.wrap (l-(x.size:Int)))<0))=true then some (-1) else L n (IntKind.i64.wrap (l-(x.size:Int))) (IntKind.i64.wrap (v+1))) else some l) :
  ∀(n k:Nat),xs.length-k<n→k≤xs.length→Sz (fun l=>L n l (k:Int)) (eA ByteArray.size (xs.drop k))
 | 0,k,hn,_=>by omega
 | n+1,k,hn,hk=>by
  have hm:=le_max hx.1
  intro l h0 h1
  simp only
  rw [hL]
  rcases Nat.lt_or_ge k xs.length with h | h
  ·rw [if_pos (bD h),aF h,qA,bR (by omega),qU h]
   exact Sz.zB (hx.2 _ (qG h)) (aGA hx hL n (k+1) (by omega) h) l h0 h1
  ·have:k=xs.length:=by omega
   subst this
   rw [if_neg (by rw [aJ];simp),qX]
   exact Sz.done l h0 h1
theorem Sz.strs {xs:List ByteArray} {L:Nat→Int→Int→Option Int} (hx:okS xs)
  (hL : ∀n l (v:Int),L (n+1) l v=if (decide (v<(xs.length:Int)))=true then ((idx xs v).bind fun x=>if (decide ((IntKind.i64.wrap (l-(x.size:Int)))<0))=true then some (-1) else L n (IntKind.i64.wrap (l-(x.size:Int))) (IntKind.i64.wrap (v+1))) else some l) :
  Sz (fun l=>if (decide ((IntKind.i64.wrap (l-(List.length xs:Int)))<0))=true then some (-1) else L fuel (IntKind.i64.wrap (l-(List.length xs:Int))) 0) (xs.length+eA ByteArray.size xs):=by
 have hm:=le_max hx.1
 have:=aGA hx hL fuel 0 (by unfold fuel;omega) (by omega)
 rw [List.drop_zero] at this
 exact Sz.zB hx.1 this
end Go.Sh
namespace Go.Sh
def eqL {α:Type} (f:α→α→Bool):List α→List α→Bool
 | [],[]=>true
 | x::xs,y::ys=>f x y&&eqL f xs ys
 | _,_=>false
theorem aIW {α:Type} {f:α→α→Bool} : ∀ {xs ys:List α},eqL f xs ys=true→xs.length=ys.length
 | [],[],_=>rfl
 | x::xs,y::ys,h=>by
  simp only [eqL,qM] at h
  simp [aIW h.2]
 | [],_::_,h=>by simp [eqL] at h
 | _::_,[],h=>by simp [eqL] at h
theorem lM (b x:Bool):(if b=true then some x else some false)=some (b&&x):=by cases b<;>rfl
theorem aCp {α:Type} (b:Bool) (x y:α):(if (!b)=true then x else y)=if b=true then y else x:=by cases b<;>rfl
theorem aKW {α β:Type} [BEq β] (a b:β) (x y:α):(if (a != b)=true then x else y)=if (a==b)=true then y else x:=by unfold bne;cases (a==b)<;>rfl
theorem aPm {α:Type} (a b:Bool) (x y:α):(if a=true then (if b=true then x else y) else y)=if (a&&b)=true then x else y:=by cases a<;>cases b<;>rfl
theorem aIi {α:Type} {xs ys:List α} {f:α→α→Bool} {E:Option Bool} {L:Nat→Int→Option Bool} (hy:xs.length=ys.length)
  (h1 : ∀n (k:Nat) (hk:k<xs.length) (hk':k<ys.length),L (n+1) (k:Int)=if f xs[k] ys[k]=true then L n ((k+1:Nat):Int) else some false) (h2 : ∀n,L (n+1) (xs.length:Int)=E) :
  ∀(n k:Nat),xs.length-k<n→k≤xs.length→L n (k:Int)=if eqL f (xs.drop k) (ys.drop k)=true then E else some false
 | 0,k,hn,_=>by omega
 | n+1,k,hn,hk=>by
  rcases Nat.lt_or_ge k xs.length with h | h
  ·rw [h1 n k h (by omega),aIi hy h1 h2 n (k+1) (by omega) h,qU h,qU (by omega:k<ys.length)]
   have e:eqL f (xs[k]::xs.drop (k+1)) (ys[k]::ys.drop (k+1))=(f xs[k] ys[k]&&eqL f (xs.drop (k+1)) (ys.drop (k+1))):=rfl
   rw [e]
   exact aPm _ _ _ _
  ·have:k=xs.length:=by omega
   subst this
   rw [h2,qX,hy,qX]
   simp [eqL]
theorem aMr {α:Type} {xs ys:List α} {f:α→α→Bool} {E:Option Bool} {L:Nat→Int→Option Bool} (hx:xs.length≤maxLen)
  (h1 : ∀n (k:Nat) (hk:k<xs.length) (hk':k<ys.length),L (n+1) (k:Int)=if f xs[k] ys[k]=true then L n ((k+1:Nat):Int) else some false) (h2 : ∀n,L (n+1) (xs.length:Int)=E) :
  (if ((List.length xs:Int) != (List.length ys:Int))=true then some false else L fuel 0)=if eqL f xs ys=true then E else some false:=by
 have hm:=le_max hx
 by_cases h:xs.length=ys.length
 ·rw [if_neg (by simp [h])]
  have:=aIi h h1 h2 fuel 0 (by unfold fuel;omega) (by omega)
  simpa using this
 ·rw [if_pos (by simp;omega)]
  have:eqL f xs ys≠true:=fun e=>h (aIW e)
  rw [if_neg this]
theorem ofNat_eq {x y:Int} (h1:0≤x∧x≤255) (h2:0≤y∧y≤255):(UInt8.ofNat x.toNat==UInt8.ofNat y.toNat)=(x==y):=by
 by_cases e:x=y
 ·subst e;simp
 ·have : ¬UInt8.ofNat x.toNat=UInt8.ofNat y.toNat:=by
   intro h
   have:=congrArg UInt8.toNat h
   rw [UInt8.toNat_ofNat',UInt8.toNat_ofNat'] at this
   omega
  rw [beq_eq_false_iff_ne.2 this,beq_eq_false_iff_ne.2 e]
theorem map_eq : ∀ {a b:List Int},(∀x∈a,0≤x∧x≤255)→(∀x∈b,0≤x∧x≤255)→((a.map fun n=>UInt8.ofNat n.toNat)==(b.map fun n=>UInt8.ofNat n.toNat))=eqL (fun x y=>x==y) a b
 | [],[],_,_=>rfl
 | [],_::_,_,_=>rfl
 | _::_,[],_,_=>rfl
 | x::a,y::b,ha,hb=>by
  have:=map_eq (a:=a) (b:=b) (fun z hz=>ha z (by simp [hz])) (fun z hz=>hb z (by simp [hz]))
  have e:eqL (fun x y=>x==y) (x::a) (y::b)=((x==y)&&eqL (fun x y=>x==y) a b):=rfl
  rw [e,←this,←ofNat_eq (ha x (by simp)) (hb y (by simp))]
  rfl
theorem aGK {a b:List Int} (ha : ∀x∈a,0≤x∧x≤255) (hb : ∀x∈b,0≤x∧x≤255):((aN a).toList==(aN b).toList)=eqL (fun x y=>x==y) a b:=by
 rw [ByteArray.toList_eq,ByteArray.toList_eq]
 exact map_eq ha hb
theorem uS {a:List Int} (ha : ∀x∈a,0≤x∧x≤255):toStr a=some (aN a):=by
 unfold toStr
 rw [if_pos]
 rw [qP]
 intro x hx
 have:=ha x hx
 simp
 omega
theorem aHX {α R:Type} {xs:List α} {f:α→Bool} {A:Nat→Option R} {E:Option R} {L:Nat→Int→Option R}
  (h1 : ∀n (k:Nat) (hk:k<xs.length),L (n+1) (k:Int)=if f xs[k]=true then A k else L n ((k+1:Nat):Int)) (h2 : ∀n,L (n+1) (xs.length:Int)=E) :
  ∀(n k:Nat),xs.length-k<n→k≤xs.length→L n (k:Int)=match (xs.drop k).findIdx? f with | some i=>A (k+i) | none=>E
 | 0,k,hn,_=>by omega
 | n+1,k,hn,hk=>by
  rcases Nat.lt_or_ge k xs.length with h | h
  ·rw [h1 n k h,qU h,List.findIdx?_cons]
   cases hf:f xs[k] with
   | true=>simp
   | false =>
    rw [if_neg (by simp),if_neg (by simp),aHX h1 h2 n (k+1) (by omega) h]
    cases (xs.drop (k+1)).findIdx? f with
    | none=>rfl
    | some i=>simp only [Option.map_some];congr 1;omega
  ·have:k=xs.length:=by omega
   subst this
   rw [h2,qX]
   simp
theorem findAll {α R:Type} {xs:List α} {f:α→Bool} {A:Nat→Option R} {E:Option R} {L:Nat→Int→Option R} (hx:xs.length≤maxLen)
  (h1 : ∀n (k:Nat) (hk:k<xs.length),L (n+1) (k:Int)=if f xs[k]=true then A k else L n ((k+1:Nat):Int)) (h2 : ∀n,L (n+1) (xs.length:Int)=E) :
  L fuel 0=match xs.findIdx? f with | some i=>A i | none=>E:=by
 have hm:=le_max hx
 have:=aHX h1 h2 fuel 0 (by unfold fuel;omega) (by omega)
 simpa using this
def nO {α:Type} (f:α→Bool) (xs:List α):Int:=match xs.findIdx? f with | some i=>(i:Int) | none => -1
theorem xV {α:Type} (f:α→Bool) (xs:List α):(match xs.findIdx? f with | some i=>some (i:Int) | none=>some (-1))=some (nO f xs):=by
 unfold nO
 cases xs.findIdx? f<;>rfl
theorem aEi {α:Type} (f:α→Bool) (xs:List α):decide (nO f xs≥0)=xs.any f:=by
 unfold nO
 cases h:xs.findIdx? f with
 | none =>
  have:=List.findIdx?_eq_none_iff.1 h
  have e:xs.any f=false:=by rw [List.any_eq_false];intro x hx;simp [this x hx]
  rw [e];simp
 | some i =>
  have h2:=List.findIdx?_isSome (xs:=xs) (p:=f)
  rw [h] at h2
  rw [←h2]
  simp
end Go.Sh
