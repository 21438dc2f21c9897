/-
  Helper text. No conditions.
-/
import Derived.Below
import Derived.Laws.OwnMore
import Derived.Laws.Rows
import Derived.Orders
import Derived.WalkKit
import Derived.Laws.MakeOwn
import Derived.Laws.CopyRow
namespace Go.Sh
set_option linter.unusedVariables false
set_option linter.unusedSimpArgs false
open Go.RowKit
inductive D where
 | int (k:IntKind) (n:Int)
 | bool (b:Bool)
 | str (s:ByteArray)
 | sl (xs:List (List D))
 | ptr (cs:List D)
 | fn (f:FuncId) (cs:List D)
 | opq
 | val (u:Value)
def fP (w:World) (g off:Nat) (cells:List Value):Prop:=
 ∀j u,cells[j]? = some u→w.cell? ⟨g,off+j,none⟩=some u
mutual
def Rep (w:World):D→Value→List Nat→Prop
 | .int k n,v,F=>v = .int k n∧F=[]
 | .bool b,v,F=>v = .bool b∧F=[]
 | .str s,v,F=>v = .string s∧F=[]
 | .sl xs,v,F=>∃a n c,v = .slice a n c∧n=xs.length∧n≤c ∧
   ((n=0∧F=[]) ∨ ∃g off cells sz G,a=some ⟨g,off,none⟩∧g<w.heap.size∧F=g::G∧fP w g off cells ∧
    cells.length=n*sz∧(∀x∈xs,x.length=sz)∧aC w xs cells G)
 | .ptr cs,v,F=>∃g off cells G,v = .pointer (some ⟨g,off,none⟩)∧g<w.heap.size∧F=g::G∧fP w g off cells∧aA w cs cells G
 | .fn f cs,v,F=>∃caps,v = .func (.func f) #[] caps.toArray∧aA w cs caps F
 | .opq,v,F=>v.oneCell'=true∧F=[]
 | .val u,v,F=>(v=u∧v.oneCell'=true)∧F=[]
def aA (w:World):List D→List Value→List Nat→Prop
 | [],vs,F=>vs=[]∧F=[]
 | d::ds,vs,F=>∃v vs' F1 F2,vs=v::vs'∧F=F1++F2∧Rep w d v F1∧aA w ds vs' F2
def aC (w:World):List (List D)→List Value→List Nat→Prop
 | [],vs,F=>vs=[]∧F=[]
 | x::xs,vs,F=>∃v1 v2 F1 F2,vs=v1++v2∧F=F1++F2∧aA w x v1 F1∧aC w xs v2 F2
end
theorem fP.eU {w w':World} {g off:Nat} {cells:List Value} (h:fP w g off cells) (hb:w'.heap[g]? = w.heap[g]?):fP w' g off cells:=
 fun j u hu=>(World.cell?_of_block (w:=w) (a:=⟨g,off+j,none⟩) hb).trans (h j u hu)
theorem oM {w w':World} {g:Nat} (hg:g<w.heap.size) (hb:w'.heap[g]? = w.heap[g]?):g<w'.heap.size:=by
 rcases Nat.lt_or_ge g w'.heap.size with h | h
 ·exact h
 ·rw [Array.getElem?_eq_none h,Array.getElem?_eq_getElem hg] at hb;cases hb
mutual
theorem Rep.eU {w w':World} : ∀(d:D) (v:Value) (F:List Nat),Rep w d v F→(∀b∈F,w'.heap[b]? = w.heap[b]?)→Rep w' d v F
 | .int k n,v,F,h,_=>by simpa [Rep] using h
 | .bool b,v,F,h,_=>by simpa [Rep] using h
 | .str s,v,F,h,_=>by simpa [Rep] using h
 | .sl xs,v,F,h,hb=>by
  simp only [Rep] at h ⊢
  obtain ⟨a,n,c,h1,h2,h3,h4⟩:=h
  refine ⟨a,n,c,h1,h2,h3,?_⟩
  rcases h4 with h4 | ⟨g,off,cells,sz,G,ha,hg,rfl,hl,hc,hx,hr⟩
  ·exact .inl h4
  ·exact .inr ⟨g,off,cells,sz,G,ha,oM hg (hb g (by simp)),rfl,hl.eU (hb g (by simp)),hc,hx,aC.eU xs cells G hr fun b hm=>hb b (by simp [hm])⟩
 | .ptr cs,v,F,h,hb=>by
  simp only [Rep] at h ⊢
  obtain ⟨g,off,cells,G,h1,hg,rfl,hl,hr⟩:=h
  exact ⟨g,off,cells,G,h1,oM hg (hb g (by simp)),rfl,hl.eU (hb g (by simp)),aA.eU cs cells G hr fun b hm=>hb b (by simp [hm])⟩
 | .fn f cs,v,F,h,hb=>by
  simp only [Rep] at h ⊢
  obtain ⟨caps,h1,hr⟩:=h
  exact ⟨caps,h1,aA.eU cs caps F hr hb⟩
 | .opq,v,F,h,_=>by simpa [Rep] using h
 | .val u,v,F,h,_=>by simpa [Rep] using h
theorem aA.eU {w w':World} : ∀(ds:List D) (vs:List Value) (F:List Nat),aA w ds vs F→(∀b∈F,w'.heap[b]? = w.heap[b]?)→aA w' ds vs F
 | [],vs,F,h,_=>by simpa [aA] using h
 | d::ds,vs,F,h,hb=>by
  simp only [aA] at h ⊢
  obtain ⟨v,vs',F1,F2,h1,rfl,h3,h4⟩:=h
  exact ⟨v,vs',F1,F2,h1,rfl,Rep.eU d v F1 h3 fun b hm=>hb b (by simp [hm]),aA.eU ds vs' F2 h4 fun b hm=>hb b (by simp [hm])⟩
theorem aC.eU {w w':World} : ∀(xs:List (List D)) (vs:List Value) (F:List Nat),aC w xs vs F→(∀b∈F,w'.heap[b]? = w.heap[b]?)→aC w' xs vs F
 | [],vs,F,h,_=>by simpa [aC] using h
 | x::xs,vs,F,h,hb=>by
  simp only [aC] at h ⊢
  obtain ⟨v1,v2,F1,F2,h1,rfl,h3,h4⟩:=h
  exact ⟨v1,v2,F1,F2,h1,rfl,aA.eU x v1 F1 h3 fun b hm=>hb b (by simp [hm]),aC.eU xs v2 F2 h4 fun b hm=>hb b (by simp [hm])⟩
end
mutual
theorem Rep.lt {w:World} : ∀(d:D) (v:Value) (F:List Nat),Rep w d v F → ∀b∈F,b<w.heap.size
 | .int k n,v,F,h=>by simp only [Rep] at h;simp [h.2]
 | .bool b,v,F,h=>by simp only [Rep] at h;simp [h.2]
 | .str s,v,F,h=>by simp only [Rep] at h;simp [h.2]
 | .sl xs,v,F,h=>by
  simp only [Rep] at h
  obtain ⟨a,n,c,h1,h2,h3,h4⟩:=h
  rcases h4 with ⟨_,rfl⟩ | ⟨g,off,cells,sz,G,ha,hg,rfl,hl,hc,hx,hr⟩
  ·simp
  ·intro b hb
   rcases List.mem_cons.1 hb with rfl | hb
   ·exact hg
   ·exact aC.lt xs cells G hr b hb
 | .ptr cs,v,F,h=>by
  simp only [Rep] at h
  obtain ⟨g,off,cells,G,h1,hg,rfl,hl,hr⟩:=h
  intro b hb
  rcases List.mem_cons.1 hb with rfl | hb
  ·exact hg
  ·exact aA.lt cs cells G hr b hb
 | .fn f cs,v,F,h=>by
  simp only [Rep] at h
  obtain ⟨caps,h1,hr⟩:=h
  exact aA.lt cs caps F hr
 | .opq,v,F,h=>by simp only [Rep] at h;simp [h.2]
 | .val u,v,F,h=>by simp only [Rep] at h;simp [h.2]
theorem aA.lt {w:World} : ∀(ds:List D) (vs:List Value) (F:List Nat),aA w ds vs F → ∀b∈F,b<w.heap.size
 | [],vs,F,h=>by simp only [aA] at h;simp [h.2]
 | d::ds,vs,F,h=>by
  simp only [aA] at h
  obtain ⟨v,vs',F1,F2,h1,rfl,h3,h4⟩:=h
  intro b hb
  rcases List.mem_append.1 hb with hb | hb
  ·exact Rep.lt d v F1 h3 b hb
  ·exact aA.lt ds vs' F2 h4 b hb
theorem aC.lt {w:World} : ∀(xs:List (List D)) (vs:List Value) (F:List Nat),aC w xs vs F → ∀b∈F,b<w.heap.size
 | [],vs,F,h=>by simp only [aC] at h;simp [h.2]
 | x::xs,vs,F,h=>by
  simp only [aC] at h
  obtain ⟨v1,v2,F1,F2,h1,rfl,h3,h4⟩:=h
  intro b hb
  rcases List.mem_append.1 hb with hb | hb
  ·exact aA.lt x v1 F1 h3 b hb
  ·exact aC.lt xs v2 F2 h4 b hb
end
theorem Rep.one {w:World} {d:D} {v:Value} {F:List Nat} (h:Rep w d v F):v.oneCell'=true:=by
 cases d<;>simp only [Rep] at h
 ·rw [h.1];rfl
 ·rw [h.1];rfl
 ·rw [h.1];rfl
 ·obtain ⟨a,n,c,rfl,_⟩:=h;rfl
 ·obtain ⟨g,off,cells,G,rfl,_⟩:=h;rfl
 ·obtain ⟨caps,rfl,_⟩:=h;rfl
 ·exact h.1
 ·exact h.1.2
theorem aA.length {w:World} : ∀ {ds:List D} {vs:List Value} {F:List Nat},aA w ds vs F→vs.length=ds.length
 | [],vs,F,h=>by simp only [aA] at h;simp [h.1]
 | d::ds,vs,F,h=>by
  simp only [aA] at h
  obtain ⟨v,vs',F1,F2,rfl,rfl,h3,h4⟩:=h
  simp [aA.length h4]
theorem aA.one {w:World} : ∀ {ds:List D} {vs:List Value} {F:List Nat},aA w ds vs F → ∀u∈vs,u.oneCell'=true
 | [],vs,F,h=>by simp only [aA] at h;simp [h.1]
 | d::ds,vs,F,h=>by
  simp only [aA] at h
  obtain ⟨v,vs',F1,F2,rfl,rfl,h3,h4⟩:=h
  intro u hu
  rcases List.mem_cons.1 hu with rfl | hu
  ·exact h3.one
  ·exact aA.one h4 u hu
theorem aC.one {w:World} : ∀ {xs:List (List D)} {vs:List Value} {F:List Nat},aC w xs vs F → ∀u∈vs,u.oneCell'=true
 | [],vs,F,h=>by simp only [aC] at h;simp [h.1]
 | x::xs,vs,F,h=>by
  simp only [aC] at h
  obtain ⟨v1,v2,F1,F2,rfl,rfl,h3,h4⟩:=h
  intro u hu
  rcases List.mem_append.1 hu with hu | hu
  ·exact h3.one u hu
  ·exact aC.one h4 u hu
theorem aA.at_ {w:World} : ∀ {ds:List D} {vs:List Value} {F:List Nat},aA w ds vs F → ∀(j:Nat) (d:D),ds[j]? = some d →
  ∃v Fj,vs[j]? = some v∧Rep w d v Fj ∧ ∀b∈Fj,b∈F
 | [],vs,F,_,j,d,hj=>by simp at hj
 | d0::ds,vs,F,h,j,d,hj=>by
  simp only [aA] at h
  obtain ⟨v,vs',F1,F2,rfl,rfl,h3,h4⟩:=h
  cases j with
  | zero =>
   simp at hj
   subst hj
   exact ⟨v,F1,by simp,h3,fun b hb=>by simp [hb]⟩
  | succ j =>
   simp at hj
   obtain ⟨u,Fj,hu,hr,hF⟩:=aA.at_ h4 j d hj
   exact ⟨u,Fj,by simpa using hu,hr,fun b hb=>by simp [hF b hb]⟩
theorem aA.append {w:World} : ∀ {ds es:List D} {vs us:List Value} {F G:List Nat},aA w ds vs F→aA w es us G→aA w (ds++es) (vs++us) (F++G)
 | [],es,vs,us,F,G,h,k=>by simp only [aA] at h;simpa [h.1,h.2] using k
 | d::ds,es,vs,us,F,G,h,k=>by
  simp only [aA] at h
  obtain ⟨v,vs',F1,F2,rfl,rfl,h3,h4⟩:=h
  simp only [List.cons_append,aA]
  exact ⟨v,vs'++us,F1,F2++G,rfl,by simp,h3,aA.append h4 k⟩
theorem aC.append {w:World} : ∀ {xs ys:List (List D)} {vs us:List Value} {F G:List Nat},aC w xs vs F→aC w ys us G→aC w (xs++ys) (vs++us) (F++G)
 | [],ys,vs,us,F,G,h,k=>by simp only [aC] at h;simpa [h.1,h.2] using k
 | x::xs,ys,vs,us,F,G,h,k=>by
  simp only [aC] at h
  obtain ⟨v1,v2,F1,F2,rfl,rfl,h3,h4⟩:=h
  simp only [List.cons_append,aC]
  exact ⟨v1,v2++us,F1,F2++G,by simp,by simp,h3,aC.append h4 k⟩
theorem aC.split {w:World} : ∀ {xs ys:List (List D)} {vs:List Value} {F:List Nat},aC w (xs++ys) vs F →
  ∃v1 v2 F1 F2,vs=v1++v2∧F=F1++F2∧aC w xs v1 F1∧aC w ys v2 F2
 | [],ys,vs,F,h=>⟨[],vs,[],F,rfl,rfl,by simp [aC],h⟩
 | x::xs,ys,vs,F,h=>by
  simp only [List.cons_append,aC] at h
  obtain ⟨v1,v2,F1,F2,rfl,rfl,h3,h4⟩:=h
  obtain ⟨u1,u2,G1,G2,rfl,rfl,h5,h6⟩:=aC.split h4
  exact ⟨v1++u1,u2,F1++G1,G2,by simp,by simp,by simp only [aC];exact ⟨v1,u1,F1,G1,rfl,rfl,h3,h5⟩,h6⟩
theorem aC.length {w:World} {sz:Nat} : ∀ {xs:List (List D)} {vs:List Value} {F:List Nat},aC w xs vs F→(∀x∈xs,x.length=sz)→vs.length=xs.length*sz
 | [],vs,F,h,_=>by simp only [aC] at h;simp [h.1]
 | x::xs,vs,F,h,hx=>by
  simp only [aC] at h
  obtain ⟨v1,v2,F1,F2,rfl,rfl,h3,h4⟩:=h
  have h5:=aC.length h4 fun y hy=>hx y (by simp [hy])
  have h6:=h3.length
  have h7:=hx x (by simp)
  simp only [List.length_append,List.length_cons,h5,h6,h7,Nat.add_mul]
  omega
theorem aC.at_ {w:World} {sz:Nat} {xs:List (List D)} {vs:List Value} {F:List Nat} (h:aC w xs vs F) (hx : ∀x∈xs,x.length=sz) {i:Nat} {x:List D} (hi:xs[i]? = some x) :
  ∃v1 v2 v3 F1 F2 F3,vs=v1++(v2++v3)∧F=F1++(F2++F3)∧v1.length=i*sz∧aC w (xs.take i) v1 F1∧aA w x v2 F2∧aC w (xs.drop (i+1)) v3 F3:=by
 have hlt:i<xs.length:=(List.getElem?_eq_some_iff.1 hi).1
 have hsp:xs=xs.take i++(x::xs.drop (i+1)):=by
  have:xs[i]=x:=(List.getElem?_eq_some_iff.1 hi).2
  rw [←this,←List.drop_eq_getElem_cons hlt,List.take_append_drop]
 rw [hsp] at h
 obtain ⟨v1,v2,F1,F2,rfl,rfl,h3,h4⟩:=aC.split h
 simp only [aC] at h4
 obtain ⟨u1,u2,G1,G2,rfl,rfl,h5,h6⟩:=h4
 refine ⟨v1,u1,u2,F1,G1,G2,rfl,rfl,?_,h3,h5,h6⟩
 have:=aC.length h3 fun y hy=>hx y (List.mem_of_mem_take hy)
 rw [this,List.length_take,Nat.min_eq_left (by omega)]
abbrev Lb:=List (Option (TypeId×Nat))
abbrev TL:=TypeId→Lb
def lab:Lb→Option (TypeId×Nat)
 | []=>none
 | x::_=>x
mutual
def gI (L:TL) (w:World):D→Option (TypeId×Nat)→Value→List Nat→Prop
 | .int k n,_,v,F=>v = .int k n∧F=[]
 | .bool b,_,v,F=>v = .bool b∧F=[]
 | .str s,_,v,F=>v = .string s∧F=[]
 | .sl xs,none,v,F=>Rep w (.sl xs) v F
 | .sl xs,some t,v,F=>∃cells G,w.ownsRow 0 t.1 t.2 v xs.length cells∧(∀x∈xs,x.length=t.2)∧F=v.ownBlock.toList++G∧bQ L w xs t.1 cells G
 | .ptr cs,_,v,F=>Rep w (.ptr cs) v F
 | .fn f cs,_,v,F=>Rep w (.fn f cs) v F
 | .opq,_,v,F=>v.oneCell'=true∧F=[]
 | .val u,_,v,F=>(v=u∧v.oneCell'=true)∧F=[]
def aK (L:TL) (w:World):List D→Lb→List Value→List Nat→Prop
 | [],_,vs,F=>vs=[]∧F=[]
 | d::ds,ts,vs,F=>∃v vs' F1 F2,vs=v::vs'∧F=F1++F2∧gI L w d (lab ts) v F1∧aK L w ds ts.tail vs' F2
def bQ (L:TL) (w:World):List (List D)→TypeId→List Value→List Nat→Prop
 | [],_,vs,F=>vs=[]∧F=[]
 | x::xs,e,vs,F=>∃v1 v2 F1 F2,vs=v1++v2∧F=F1++F2∧aK L w x (L e) v1 F1∧bQ L w xs e v2 F2
end
theorem nC {w:World} {base:Nat} {e:TypeId} {sz n g cap:Nat} {cells:List Value} (h:w.ownsRow base e sz (.slice (some ⟨g,0,none⟩) n cap) n cells):fP w g 0 cells:=by
 intro j u hu
 have:=h.cells (g:=g) rfl j u hu
 rw [Addr.add_lit] at this
 exact this
theorem rM {w w':World} {base n:Nat} {e:TypeId} {sz:Nat} {v:Value} {cells:List Value} (h:w.ownsRow base e sz v n cells) (hb : ∀b∈v.ownBlock.toList,w'.heap[b]? = w.heap[b]?):w'.ownsRow base e sz v n cells:=by
 refine ⟨h.1,?_⟩
 rcases h.2 with h6 | ⟨gg,cap,cur,h6,h7,h8,h9⟩
 ·exact .inl h6
 ·exact .inr ⟨gg,cap,cur,h6,h7,(hb gg (by rw [h6];simp [Value.ownBlock])).trans h8,h9⟩
mutual
theorem gI.rep {L:TL} {w:World} : ∀(d:D) (t:Option (TypeId×Nat)) (v:Value) (F:List Nat),gI L w d t v F→Rep w d v F
 | .int k n,t,v,F,h=>by simp only [gI] at h;simp only [Rep];exact h
 | .bool b,t,v,F,h=>by simp only [gI] at h;simp only [Rep];exact h
 | .str s,t,v,F,h=>by simp only [gI] at h;simp only [Rep];exact h
 | .sl xs,none,v,F,h=>by simp only [gI] at h;exact h
 | .sl xs,some (e,sz),v,F,h=>by
  simp only [gI] at h
  obtain ⟨cells,G,h1,h2,rfl,h3⟩:=h
  have h4:=bQ.rep xs e cells G h3
  have h1':=h1
  rcases h1.2 with ⟨rfl,h6⟩ | ⟨gg,cap,cur,rfl,h7,h8,h9,h10,h11,h12⟩
  ·have hx:xs=[]:=List.eq_nil_of_length_eq_zero h6
   subst hx
   simp only [aC] at h4
   simp only [Rep]
   exact ⟨none,0,0,rfl,rfl,Nat.le_refl _,.inl ⟨rfl,by rw [h4.2];rfl⟩⟩
  ·simp only [Rep]
   exact ⟨_,_,cap,rfl,rfl,h9,.inr ⟨gg,0,cells,sz,G,rfl,(Array.getElem?_eq_some_iff.1 h8).1,rfl,nC h1',h1.1,h2,h4⟩⟩
 | .ptr cs,t,v,F,h=>by simp only [gI] at h;exact h
 | .fn f cs,t,v,F,h=>by simp only [gI] at h;exact h
 | .opq,t,v,F,h=>by simp only [gI] at h;simp only [Rep];exact h
 | .val u,t,v,F,h=>by simp only [gI] at h;simp only [Rep];exact h
theorem aK.rep {L:TL} {w:World} : ∀(ds:List D) (ts:Lb) (vs:List Value) (F:List Nat),aK L w ds ts vs F→aA w ds vs F
 | [],ts,vs,F,h=>by simp only [aK] at h;simp only [aA];exact h
 | d::ds,ts,vs,F,h=>by
  simp only [aK] at h
  obtain ⟨v,vs',F1,F2,h1,h2,h3,h4⟩:=h
  simp only [aA]
  exact ⟨v,vs',F1,F2,h1,h2,gI.rep d _ v F1 h3,aK.rep ds _ vs' F2 h4⟩
theorem bQ.rep {L:TL} {w:World} : ∀(xs:List (List D)) (e:TypeId) (vs:List Value) (F:List Nat),bQ L w xs e vs F→aC w xs vs F
 | [],e,vs,F,h=>by simp only [bQ] at h;simp only [aC];exact h
 | x::xs,e,vs,F,h=>by
  simp only [bQ] at h
  obtain ⟨v1,v2,F1,F2,h1,h2,h3,h4⟩:=h
  simp only [aC]
  exact ⟨v1,v2,F1,F2,h1,h2,aK.rep x _ v1 F1 h3,bQ.rep xs e v2 F2 h4⟩
end
mutual
theorem gI.eU {L:TL} {w w':World} : ∀(d:D) (t:Option (TypeId×Nat)) (v:Value) (F:List Nat),gI L w d t v F→(∀b∈F,w'.heap[b]? = w.heap[b]?)→gI L w' d t v F
 | .int k n,t,v,F,h,_=>by simpa [gI] using h
 | .bool b,t,v,F,h,_=>by simpa [gI] using h
 | .str s,t,v,F,h,_=>by simpa [gI] using h
 | .sl xs,none,v,F,h,hb=>by simp only [gI] at h ⊢;exact Rep.eU _ _ _ h hb
 | .sl xs,some (e,sz),v,F,h,hb=>by
  simp only [gI] at h ⊢
  obtain ⟨cells,G,h1,h2,rfl,h3⟩:=h
  exact ⟨cells,G,rM h1 fun b hm=>hb b (List.mem_append_left _ hm),h2,rfl,bQ.eU xs e cells G h3 fun b hm=>hb b (List.mem_append_right _ hm)⟩
 | .ptr cs,t,v,F,h,hb=>by simp only [gI] at h ⊢;exact Rep.eU _ _ _ h hb
 | .fn f cs,t,v,F,h,hb=>by simp only [gI] at h ⊢;exact Rep.eU _ _ _ h hb
 | .opq,t,v,F,h,_=>by simpa [gI] using h
 | .val u,t,v,F,h,_=>by simpa [gI] using h
theorem aK.eU {L:TL} {w w':World} : ∀(ds:List D) (ts:Lb) (vs:List Value) (F:List Nat),aK L w ds ts vs F→(∀b∈F,w'.heap[b]? = w.heap[b]?)→aK L w' ds ts vs F
 | [],ts,vs,F,h,hb=>by simpa [aK] using h
 | d::ds,ts,vs,F,h,hb=>by
  simp only [aK] at h ⊢
  obtain ⟨v,vs',F1,F2,h1,rfl,h3,h4⟩:=h
  exact ⟨v,vs',F1,F2,h1,rfl,gI.eU d _ v F1 h3 fun b hm=>hb b (by simp [hm]),aK.eU ds _ vs' F2 h4 fun b hm=>hb b (by simp [hm])⟩
theorem bQ.eU {L:TL} {w w':World} : ∀(xs:List (List D)) (e:TypeId) (vs:List Value) (F:List Nat),bQ L w xs e vs F→(∀b∈F,w'.heap[b]? = w.heap[b]?)→bQ L w' xs e vs F
 | [],e,vs,F,h,hb=>by simpa [bQ] using h
 | x::xs,e,vs,F,h,hb=>by
  simp only [bQ] at h ⊢
  obtain ⟨v1,v2,F1,F2,h1,rfl,h3,h4⟩:=h
  exact ⟨v1,v2,F1,F2,h1,rfl,aK.eU x _ v1 F1 h3 fun b hm=>hb b (by simp [hm]),bQ.eU xs e v2 F2 h4 fun b hm=>hb b (by simp [hm])⟩
end
theorem aK.append {L:TL} {w:World} : ∀ {ds es:List D} {ts:Lb} {vs us:List Value} {F G:List Nat},aK L w ds ts vs F→aK L w es (ts.drop ds.length) us G→aK L w (ds++es) ts (vs++us) (F++G)
 | [],es,ts,vs,us,F,G,h,k=>by simp only [aK] at h;simpa [h.1,h.2] using k
 | d::ds,es,ts,vs,us,F,G,h,k=>by
  simp only [aK] at h
  obtain ⟨v,vs',F1,F2,rfl,rfl,h3,h4⟩:=h
  simp only [List.cons_append,aK]
  refine ⟨v,vs'++us,F1,F2++G,rfl,by simp,h3,aK.append h4 ?_⟩
  rw [List.drop_tail]
  exact k
theorem aK.split {L:TL} {w:World} : ∀ {ds es:List D} {ts:Lb} {vs:List Value} {F:List Nat},aK L w (ds++es) ts vs F → ∃F1 F2,F=F1++F2∧aK L w ds ts (vs.take ds.length) F1∧aK L w es (ts.drop ds.length) (vs.drop ds.length) F2
 | [],es,ts,vs,F,h=>⟨[],F,rfl,by simp [aK],by simpa using h⟩
 | d::ds,es,ts,vs,F,h=>by
  simp only [List.cons_append,aK] at h
  obtain ⟨v,vs',F1,F2,rfl,rfl,h3,h4⟩:=h
  obtain ⟨G1,G2,rfl,k1,k2⟩:=aK.split h4
  refine ⟨F1++G1,G2,by simp,?_,by rw [List.drop_tail] at k2;simpa using k2⟩
  simp only [List.length_cons,List.take_succ_cons,aK]
  exact ⟨v,vs'.take ds.length,F1,G1,rfl,rfl,h3,k1⟩
theorem bQ.append {L:TL} {w:World} : ∀ {xs ys:List (List D)} {e:TypeId} {vs us:List Value} {F G:List Nat},bQ L w xs e vs F→bQ L w ys e us G→bQ L w (xs++ys) e (vs++us) (F++G)
 | [],ys,e,vs,us,F,G,h,k=>by simp only [bQ] at h;simpa [h.1,h.2] using k
 | x::xs,ys,e,vs,us,F,G,h,k=>by
  simp only [bQ] at h
  obtain ⟨v1,v2,F1,F2,rfl,rfl,h3,h4⟩:=h
  simp only [List.cons_append,bQ]
  exact ⟨v1,v2++us,F1,F2++G,by simp,by simp,h3,bQ.append h4 k⟩
theorem bQ.split {L:TL} {w:World} : ∀ {xs ys:List (List D)} {e:TypeId} {vs:List Value} {F:List Nat},bQ L w (xs++ys) e vs F →
  ∃v1 v2 F1 F2,vs=v1++v2∧F=F1++F2∧bQ L w xs e v1 F1∧bQ L w ys e v2 F2
 | [],ys,e,vs,F,h=>⟨[],vs,[],F,rfl,rfl,by simp [bQ],h⟩
 | x::xs,ys,e,vs,F,h=>by
  simp only [List.cons_append,bQ] at h
  obtain ⟨v1,v2,F1,F2,rfl,rfl,h3,h4⟩:=h
  obtain ⟨u1,u2,G1,G2,rfl,rfl,h5,h6⟩:=bQ.split h4
  exact ⟨v1++u1,u2,F1++G1,G2,by simp,by simp,by simp only [bQ];exact ⟨v1,u1,F1,G1,rfl,rfl,h3,h5⟩,h6⟩
def wT:TL:=fun _=>[]
theorem gI.none {L:TL} {w:World} {d:D} {v:Value} {F:List Nat} (h:Rep w d v F):gI L w d none v F:=by
 cases d<;>simp only [gI]<;>(try simp only [Rep] at h)<;>exact h
theorem aK.none {L:TL} {w:World} : ∀ {ds:List D} {vs:List Value} {F:List Nat},aA w ds vs F→aK L w ds [] vs F
 | [],vs,F,h=>by simp only [aA] at h;simp only [aK];exact h
 | d::ds,vs,F,h=>by
  simp only [aA] at h
  obtain ⟨v,vs',F1,F2,h1,h2,h3,h4⟩:=h
  simp only [aK]
  exact ⟨v,vs',F1,F2,h1,h2,gI.none h3,aK.none h4⟩
theorem bQ.sD {w:World} : ∀ {xs:List (List D)} {e:TypeId} {vs:List Value} {F:List Nat},aC w xs vs F→bQ wT w xs e vs F
 | [],e,vs,F,h=>by simp only [aC] at h;simp only [bQ];exact h
 | x::xs,e,vs,F,h=>by
  simp only [aC] at h
  obtain ⟨v1,v2,F1,F2,h1,h2,h3,h4⟩:=h
  simp only [bQ]
  exact ⟨v1,v2,F1,F2,h1,h2,aK.none h3,bQ.sD h4⟩
def dX (L:TL) (m:Bool) (w:World) (ts:Lb) (ds:List D) (vs:List Value) (F:List Nat):Prop:=if m=true then aK L w ds ts vs F else aA w ds vs F
def aR (L:TL) (m:Bool) (w:World) (e:TypeId) (xs:List (List D)) (vs:List Value) (F:List Nat):Prop:=if m=true then bQ L w xs e vs F else aC w xs vs F
theorem aR.wT {m:Bool} {w:World} {xs:List (List D)} {e:TypeId} {vs:List Value} {F:List Nat} (h:aC w xs vs F):aR wT m w e xs vs F:=by
 unfold aR
 split
 ·exact bQ.sD h
 ·exact h
section
variable {L:TL} {m n:Bool} {w w':World} {ts:Lb} {e:TypeId} {ds es:List D} {xs ys:List (List D)} {vs us:List Value} {F G:List Nat}
theorem dX.rep (h:dX L m w ts ds vs F):aA w ds vs F:=by
 unfold dX at h
 split at h
 ·exact h.rep
 ·exact h
theorem aR.rep (h:aR L m w e xs vs F):aC w xs vs F:=by
 unfold aR at h
 split at h
 ·exact h.rep
 ·exact h
theorem dX.sD (h:dX L m w ts ds vs F) (hm:n=true→m=true):dX L n w ts ds vs F:=by
 unfold dX
 split
 ·rename_i hn;unfold dX at h;rw [if_pos (hm hn)] at h;exact h
 ·exact h.rep
theorem aR.sD (h:aR L m w e xs vs F) (hm:n=true→m=true):aR L n w e xs vs F:=by
 unfold aR
 split
 ·rename_i hn;unfold aR at h;rw [if_pos (hm hn)] at h;exact h
 ·exact h.rep
theorem dX.eU (h:dX L m w ts ds vs F) (hb : ∀b∈F,w'.heap[b]? = w.heap[b]?):dX L m w' ts ds vs F:=by
 cases m with
 | true=>exact aK.eU _ _ _ _ h hb
 | false=>exact aA.eU _ _ _ h hb
theorem aR.eU (h:aR L m w e xs vs F) (hb : ∀b∈F,w'.heap[b]? = w.heap[b]?):aR L m w' e xs vs F:=by
 cases m with
 | true=>exact bQ.eU _ _ _ _ h hb
 | false=>exact aC.eU _ _ _ h hb
theorem aR.append (h:aR L m w e xs vs F) (k:aR L m w e ys us G):aR L m w e (xs++ys) (vs++us) (F++G):=by
 cases m with
 | true=>exact bQ.append h k
 | false=>exact aC.append h k
theorem aR.split (h:aR L m w e (xs++ys) vs F) : ∃v1 v2 F1 F2,vs=v1++v2∧F=F1++F2∧aR L m w e xs v1 F1∧aR L m w e ys v2 F2:=by
 cases m with
 | true=>exact bQ.split h
 | false=>exact aC.split h
theorem aR.nil:aR L m w e [] [] []:=by
 cases m with
 | true=>simp [aR,bQ]
 | false=>simp [aR,aC]
theorem aR.one {x:List D} (h:dX L m w (L e) x vs F):aR L m w e [x] vs F:=by
 cases m with
 | true=>simp only [aR,if_true,bQ];exact ⟨vs,[],F,[],by simp,by simp,h,rfl,rfl⟩
 | false=>simp only [aR,Bool.false_eq_true,if_false,aC];exact ⟨vs,[],F,[],by simp,by simp,h,rfl,rfl⟩
theorem aR.aBh {x:List D} (h:aR L m w e [x] vs F):dX L m w (L e) x vs F:=by
 cases m with
 | true =>
  simp only [aR,if_true,bQ] at h
  obtain ⟨v1,v2,F1,F2,rfl,rfl,h3,rfl,rfl⟩:=h
  simpa [dX] using h3
 | false =>
  simp only [aR,Bool.false_eq_true,if_false,aC] at h
  obtain ⟨v1,v2,F1,F2,rfl,rfl,h3,rfl,rfl⟩:=h
  simpa [dX] using h3
theorem dX.append (h:dX L m w ts ds vs F) (k:dX L m w (ts.drop ds.length) es us G):dX L m w ts (ds++es) (vs++us) (F++G):=by
 cases m with
 | true=>exact aK.append h k
 | false=>exact aA.append h k
theorem aR.at_ {sz:Nat} (h:aR L m w e xs vs F) (hx : ∀x∈xs,x.length=sz) {i:Nat} {x:List D} (hi:xs[i]? = some x) :
  ∃v1 v2 v3 F1 F2 F3,vs=v1++(v2++v3)∧F=F1++(F2++F3)∧v1.length=i*sz∧aR L m w e (xs.take i) v1 F1∧dX L m w (L e) x v2 F2∧aR L m w e (xs.drop (i+1)) v3 F3:=by
 have hlt:i<xs.length:=(List.getElem?_eq_some_iff.1 hi).1
 have hsp:xs=xs.take i++([x]++xs.drop (i+1)):=by
  have:xs[i]=x:=(List.getElem?_eq_some_iff.1 hi).2
  rw [←this,List.singleton_append,←List.drop_eq_getElem_cons hlt,List.take_append_drop]
 rw [hsp] at h
 obtain ⟨v1,v2,F1,F2,rfl,rfl,h3,h4⟩:=aR.split h
 obtain ⟨u1,u2,G1,G2,rfl,rfl,h5,h6⟩:=aR.split h4
 refine ⟨v1,u1,u2,F1,G1,G2,rfl,rfl,?_,h3,h5.aBh,h6⟩
 have:=aC.length h3.rep fun y hy=>hx y (List.mem_of_mem_take hy)
 rw [this,List.length_take,Nat.min_eq_left (by omega)]
end
end Go.Sh
namespace Go.Sh
set_option linter.unusedVariables false
set_option linter.unusedSimpArgs false
open Go.RowKit
def D.flat:D→Bool
 | .int _ _ | .bool _ | .str _ | .opq=>true
 | _=>false
inductive SC where
 | dat (d:D)
 | nil
 | row (id ver:Nat)
 | bp (id ver off:Nat)
 | rp (id ver i off:Nat)
 | clo (f:FuncId) (caps:List (Nat×Nat×Nat))
 | old (B:Nat) (d:D) (u:Option Value)
 | part (id ver lo n:Nat)
 | exa (W:World) (d:D) (x:Value)
inductive SV where
 | unk
 | undef
 | v (ag:Bool) (cs:List SC)
 | tup (vs:List (Bool×List SC))
inductive lG where
 | none
 | box (t:TypeId) (cells:List SC)
 | row (e:TypeId) (sz:Nat) (xs:List (List D)) (deep:Bool)
 | pin (i ver:Nat) (u:Value)
structure St where
 t:Nat→SV
 h:Nat→Nat×lG
 fr:Nat→SV:=fun _=>.unk
def St.kD (s:St) (t:Nat) (v:SV):St:={ s with t:=fun i=>if i=t then v else s.t i }
def St.bL (s:St) (i:Nat) (x:Nat×lG):St:={ s with h:=fun j=>if j=i then x else s.h j }
theorem St.jV (s:St) (t:Nat) (v:SV) (i:Nat):(s.kD t v).t i=if i=t then v else s.t i:=rfl
theorem St.rF (s:St) (t:Nat) (v:SV) (i:Nat):(s.kD t v).h i=s.h i:=rfl
theorem St.lR (s:St) (t:Nat) (v:Nat×lG) (i:Nat):(s.bL t v).h i=if i=t then v else s.h i:=rfl
theorem St.qP (s:St) (t:Nat) (v:Nat×lG) (i:Nat):(s.bL t v).t i=s.t i:=rfl
structure QF where
 p:Nat→Prop
 fb:Nat
 lent:Option Nat
 L:TL
instance:CoeFun QF fun _=>Nat→Prop:=⟨QF.p⟩
structure W0 where
 w:World
 Q:QF
 K:Nat→Prop
 fv:Nat→Value
def noK:Nat→Prop:=fun _=>False
def zX:Nat→Value:=fun _=>undef
def uI (P:Program):Nat→TypeId→Lb
 | 0,_=>[]
 | n+1,t=>match P.underlying t with
  | some (.struct fs)=>fs.toList.flatMap fun f=>uI P n f.type
  | some (.array k e)=>(List.replicate k (uI P n e)).flatten
  | some (.slice e)=>[some (e,P.cellsOf e)]
  | _=>[none]
def slP (P:Program):TL:=fun t=>if (uI P 8 t).all Option.isNone=true then [] else uI P 8 t
inductive Ed where
 | del (e:TypeId) (sz:Nat)
 | ins (e:TypeId) (sz bytes:Nat)
 | cU (e:TypeId) (sz:Nat) (ys:List (List D))
 | pass
 | sel (c k sz:Nat)
 | lend (t:TypeId) (es:List D)
 | newb (t:TypeId) (es:List D)
inductive RC where
 | any (d:D)
 | ro (d:D)
 | own (e:TypeId) (sz:Nat) (xs:List (List D))
 | edit (q:Ed)
def RC.isAny:RC→Bool
 | .any _=>true
 | .edit _=>true
 | _=>false
def eI (rs:List (Bool×List RC)):Bool:=rs.any fun r=>r.2.any RC.isAny
theorem nF (d:D):RC.isAny (.any d)=true:=rfl
theorem pH (d:D):RC.isAny (.ro d)=false:=rfl
theorem oP (q:Ed):RC.isAny (.edit q)=true:=rfl
theorem oN (t:TypeId) (es:List D):RC.isAny (.edit (.lend t es))=true:=rfl
theorem nQ (e:TypeId) (sz:Nat) (xs:List (List D)):RC.isAny (.own e sz xs)=false:=rfl
def aAc (w:World) (b:Nat):Prop:=∃cur e,w.heap[b]? = some (.cells cur e (0,0))
def wG (w:World) (v:Value) (x:Bool×List D) (F:List Nat):Prop:=
 match x with
 | (true,ds)=>∃cs,v = .agg cs∧aA w ds cs.toList F
 | (false,ds)=>∃d,ds=[d]∧Rep w d v F
def dU (w:World):List Value→List (Bool×List D)→List Nat→Prop
 | [],[],F=>F=[]
 | v::vs,x::xs,F=>∃F1 F2,F=F1++F2∧wG w v x F1∧dU w vs xs F2
 | _,_,_=>False
def dE (L:TL) (base:Nat) (w:World) (X:Nat→Prop):List Value→List RC→List Nat→Prop
 | [],[],F=>F=[]
 | v::vs,.any d::rs,F=>(∃G,Rep w d v G ∧ ∀b∈G,X b)∧dE L base w X vs rs F
 | v::vs,.ro d::rs,F=>Rep w d v []∧dE L base w X vs rs F
 | v::vs,.own e sz xs::rs,F=>∃cells G F',w.ownsRow base e sz v xs.length cells∧(∀x∈xs,x.length=sz)∧bQ L w xs e cells G ∧
   F=v.ownBlock.toList++(G++F')∧dE L base w X vs rs F'
 | _,_,_=>False
def tE (L:TL) (base:Nat) (w:World) (X:Nat→Prop) (v:Value) (r:Bool×List RC) (F:List Nat):Prop:=
 match r with
 | (true,rs)=>∃cs,v = .agg cs∧dE L base w X cs.toList rs F
 | (false,rs)=>dE L base w X [v] rs F
def hM (L:TL) (base:Nat) (w:World) (X:Nat→Prop):List Value→List (Bool×List RC)→List Nat→Prop
 | [],[],F=>F=[]
 | v::vs,r::rs,F=>∃F1 F2,F=F1++F2∧tE L base w X v r F1∧hM L base w X vs rs F2
 | _,_,_=>False
def fI (base:Nat) (w:World) (F:List Nat):Prop:=F.Nodup ∧ ∀b∈F,base≤b∧aAc w b
def wJ (L:TL) (base:Nat) (w:World) (X:Nat→Prop) (v:Value) (rs:List (Bool×List RC)) (F:List Nat):Prop:=
 match rs with
 | [r]=>tE L base w X v r F
 | rs=>∃vs,v = .tuple vs∧hM L base w X vs.toList rs F
def qO (L:TL) (base:Nat) (w:World) (v:Value) (rs:List (Bool×List RC)) (Q:Nat→Prop):Prop:=
 ∃F X,fI base w F∧(∀b,X b→(Q b∨base≤b)∧b<w.heap.size)∧(eI rs=true→F=[])∧wJ L base w X v rs F
def nA (P : Program) (f : FuncId) : Prop := ∃ fn c, P.funcs[f]? = some fn ∧ fn.body = some c ∧ (fn.name == "runtime.NumGoroutine") = false
def zY (base:Nat) (e:TypeId) (sz:Nat) (w:World) (v:Value) (n:Nat) (cells:List Value) (ed:Ending) (w':World):Prop:=
 ∃v',ed = .returned v'∧w'.ownsRow base e sz v' n cells∧w.grownBy w' v.ownBlock∧(v'.ownBlock=v.ownBlock ∨ ∃b,w.heap.size≤b∧v'.ownBlock=some b)
def aBb (P:Program) (f:FuncId) (args:List (Bool×List D)):Ed→Prop
 | .del e sz=>∀(base:Nat) (w:World) (v:Value) (n:Nat) (cells:List Value) (i j:Nat),base≤w.heap.size→w.ownsRow base e sz v n cells→i≤j→j≤n→(∀u∈cells,u.oneCell'=true) →
   Calls P f #[v,.int .i64 i,.int .i64 j] w (zY base e sz w v (i+(n-j)) (cells.take (i*sz)++cells.drop (j*sz)))
 | .ins e sz bytes=>∀(base:Nat) (w:World) (v v2:Value) (n m:Nat) (cells cells2:List Value) (i:Nat),base≤w.heap.size→w.ownsRow base e sz v n cells→w.ownsRow base e sz v2 m cells2 →
   (∀b,v.ownBlock=some b→v2.ownBlock≠some b)→i≤n→0<m→(n+m)*bytes≤140737488355328→(∀u∈cells,u.oneCell'=true)→(∀u∈cells2,u.oneCell'=true) →
   Calls P f #[v,.int .i64 i,v2] w (zY base e sz w v (n+m) (cells.take (i*sz)++(cells2++cells.drop (i*sz))))
 | .cU e sz ys=>∃xs g caps,args=[(false,[.sl xs]),(false,[.fn g caps])]∧(∀x∈xs,x.all D.flat=true)∧((∀y∈ys,y.length=sz) ∧ ∀y∈ys,y.all D.flat=true) ∧ ∀(base:Nat) (w:World) (v fv:Value) (cells:List Value) (F2:List Nat),base≤w.heap.size→w.ownsRow base e sz v xs.length cells →
   (∀x∈xs,x.length=sz)→aC w xs cells []→Rep w (.fn g caps) fv F2→(∀b,v.ownBlock=some b→b∉F2) →
   Calls P f #[v,fv] w fun ed w'=>∃v' cells',ed = .returned v'∧w'.ownsRow base e sz v' ys.length cells'∧aC w' ys cells' []∧w.grownBy w' v.ownBlock∧(v'.ownBlock=v.ownBlock∨v'.ownBlock=none ∨ ∃b,w.heap.size≤b∧v'.ownBlock=some b)
 | .pass=>∀(w:World) (v1 v2:Value) (F:List Nat),dU w [v1,v2] args F→Calls P f #[v1,v2] w fun e w'=>e = .returned (.tuple #[v2,.bool true])∧Below w.heap.size w w'
 | .sel c k sz=>∀(w:World) (vs:Array Value) (F:List Nat),dU w vs.toList args F→Calls P f vs w fun e w'=>Below w.heap.size w w' ∧ ∃us:Array Value,us.size=sz∧e = .returned (.tuple #[.agg us,.bool true]) ∧
   ∃cs rest b o n cap,vs.toList = .agg cs::rest∧cs.toList[c]? = some (.slice (some ⟨b,o,none⟩) n cap)∧fP w b (o+k*sz) us.toList
 | .lend _ _=>False
 | .newb t es=>∀(w:World) (vs:Array Value) (F:List Nat),dU w vs.toList args F→Calls P f vs w fun e w'=>Below w.heap.size w w' ∧ ∃b vals G,e = .returned (.pointer (some ⟨b,0,none⟩))∧w.heap.size≤b ∧
   w'.heap[b]? = some (.cells vals t (0,0))∧aA w' es vals.toList G∧b∉G ∧ ∀x∈G,(x∈F∨w.heap.size≤x)∧x<w'.heap.size
def aAn (P:Program) (f:FuncId) (args:List (Bool×List D)) (t:TypeId) (es:List D) (rs:List (Bool×List RC)):Prop:=
 eI rs=false∧es.all D.flat=true ∧ ∃d0 ds rest,args=(false,[.ptr (d0::ds)])::rest∧ds.all D.flat=true∧es.length=ds.length ∧
  ∀(w:World) (b:Nat) (vals:Array Value) (v0:Value) (vs0 vs:List Value) (Fb F:List Nat),w.heap[b]? = some (.cells vals t (0,0))→vals.toList=v0::vs0→Rep w d0 v0 Fb→aA w ds vs0 []→b∉Fb →
   dU w vs rest F→b∉F→Calls P f (.pointer (some ⟨b,0,none⟩)::vs).toArray w fun e w'=>∃v us,e = .returned v∧qO (slP P) w.heap.size w' v rs (fun x=>x<w.heap.size)∧w.grownBy w' (some b) ∧
    w'.heap[b]? = some (.cells (v0::us).toArray t (0,0))∧aA w' es us []
def qB (P:Program) (f:FuncId) (args:List (Bool×List D)) (rs:List (Bool×List RC)):Prop:=
 nA P f ∧ ∀(w:World) (vs:Array Value) (F:List Nat),dU w vs.toList args F→Calls P f vs w fun e w'=>∃v,e = .returned v∧qO (slP P) w.heap.size w' v rs (fun b=>b∈F)∧Below w.heap.size w w'
def dO (P:Program) (f:FuncId) (args:List (Bool×List D)) (rs:List (Bool×List RC)):Prop:=
 qB P f args rs∨(∃q,rs=[(false,[.edit q])]∧nA P f∧aBb P f args q) ∨ ∃t es rs',rs=(false,[.edit (.lend t es)])::rs'∧nA P f∧aAn P f args t es rs'
theorem dO.body {P:Program} {f:FuncId} {args:List (Bool×List D)} {rs:List (Bool×List RC)} (h:dO P f args rs):nA P f:=by
 rcases h with h | ⟨q,_,h,_⟩ | ⟨t,es,rs',_,h,_⟩
 ·exact h.1
 ·exact h
 ·exact h
theorem dO.old {P:Program} {f:FuncId} {args:List (Bool×List D)} {rs:List (Bool×List RC)} (h:dO P f args rs) (ha:eI rs=false):qB P f args rs:=by
 rcases h with h | ⟨q,rfl,_⟩ | ⟨t,es,rs',rfl,_⟩
 ·exact h
 ·simp [eI,RC.isAny] at ha
 ·simp [eI,RC.isAny] at ha
inductive TK where
 | struct (fs:List (Nat×Nat×Bool))
 | arr (e:TypeId) (n:Nat)
 | slice (e:TypeId)
 | int (k:IntKind)
 | bool
 | str
 | other
inductive LK where
 | int
 | bool
 | str
structure TI where
 k:TK
 size:Nat
 bytes:Nat
 zero:List SC
 cmp:List LK:=[]
 sl:Lb:=[]
def TI.agg (ti:TI):Bool:=match ti.k with | .struct _=>true | .arr _ _=>true | _=>false
abbrev sC:=TypeId→Option TI
inductive Prog where
 | done
 | fail
 | getT (t:Nat) (k:SV→Prog)
 | kD (t:Nat) (v:SV) (k:Prog)
 | getH (i:Nat) (k:Nat×lG→Prog)
 | bL (i:Nat) (x:Nat×lG) (k:Prog)
 | call (f:FuncId) (args:List (Bool×List D)) (k:List (Bool×List RC)→Prog)
 | must (p:Prop) (k:Prog)
inductive Loc where
 | t (i:Nat)
 | h (i:Nat)
 | f (i:Nat)
 deriving DecidableEq
def ex (P:Program):Prog→St→(St→Prop)→Prop
 | .done,s,K=>K s
 | .fail,_,_=>False
 | .getT t k,s,K=>ex P (k (s.t t)) s K
 | .kD t v k,s,K=>ex P k (s.kD t v) K
 | .getH i k,s,K=>ex P (k (s.h i)) s K
 | .bL i x k,s,K=>ex P k (s.bL i x) K
 | .call f args k,s,K=>∃rs,dO P f args rs∧ex P (k rs) s K
 | .must p k,s,K=>p∧ex P k s K
def cst:Value→SV
 | .int k n=>.v false [.dat (.int k n)]
 | .bool b=>.v false [.dat (.bool b)]
 | .string s=>.v false [.dat (.str s)]
 | .slice none 0 0=>.v false [.nil]
 | _=>.unk
def vOp (x:Operand) (k:SV→Prog):Prog:=
 match x with
 | .tmp t=>.getT t k
 | .const c=>k (cst c)
 | .func f=>k (.v false [.dat (.fn f [])])
 | .global _=>.fail
def zV (x:Option Operand) (k:Option SV→Prog):Prog:=
 match x with
 | some x=>vOp x fun v=>k (some v)
 | none=>k none
def put (N:Nat) (dst:Option Tmp) (v:SV):Prog:=
 match dst with
 | some d=>if d<N then .kD d v .done else .fail
 | none=>.done
def rid (d j:Nat):Nat:=100000*(j+1)+d
def eK:List SC→Lb→(List D→Bool→Prog)→Prog
 | [],_,k=>k [] true
 | .dat d::cs,ts,k=>eK cs ts.tail fun ds b=>k (d::ds) (d.flat&&b)
 | .nil::cs,ts,k=>eK cs ts.tail fun ds b=>k (.sl []::ds) b
 | .row i ver::cs,ts,k=>.getH i fun o =>
   match o.2 with
   | .row e sz xs deep=>if o.1=ver then .bL i (ver,.none) (eK cs ts.tail fun ds b=>k (.sl xs::ds) (if lab ts=none∨lab ts=some (e,sz) then deep&&b else false)) else .fail
   | _=>.fail
 | _::_,_,_=>.fail
def gD:List SC→(List D→Prog)→Prog
 | [],k=>k []
 | .dat d::cs,k=>gD cs fun ds=>k (d::ds)
 | .nil::cs,k=>gD cs fun ds=>k (.sl []::ds)
 | .old _ d _::cs,k=>gD cs fun ds=>k (d::ds)
 | .row i ver::cs,k=>.getH i fun o =>
   match o.2 with
   | .row _ _ xs _=>if o.1=ver then gD cs fun ds=>k (.sl xs::ds) else .fail
   | _=>.fail
 | _::_,_=>.fail
def iI (i ver off:Nat) (k:List D→Prog):Prog:=
 .getH i fun o =>
  match o.2 with
  | .box _ cells=>if o.1=ver then gD (cells.drop off) k else .fail
  | _=>.fail
def fY:List (Nat×Nat×Nat)→(List D→Prog)→Prog
 | [],k=>k []
 | (i,ver,off)::cs,k=>iI i ver off fun ds=>fY cs fun es=>k (.ptr ds::es)
def eF:List SC→(List D→Prog)→Prog
 | [],k=>k []
 | .dat d::cs,k=>eF cs fun ds=>k (d::ds)
 | .nil::cs,k=>eF cs fun ds=>k (.sl []::ds)
 | .row i ver::cs,k=>.getH i fun o =>
   match o.2 with
   | .row _ _ xs _=>if o.1=ver then eF cs fun ds=>k (.sl xs::ds) else .fail
   | _=>.fail
 | .bp i ver off::cs,k=>iI i ver off fun ds=>eF cs fun es=>k (.ptr ds::es)
 | .clo f caps::cs,k=>fY caps fun ds=>eF cs fun es=>k (.fn f ds::es)
 | .old _ d _::cs,k=>eF cs fun ds=>k (d::ds)
 | .part i ver lo n::cs,k=>.getH i fun o =>
   match o.2 with
   | .row _ _ xs _=>if o.1=ver then eF cs fun ds=>k (.sl ((xs.drop lo).take n)::ds) else .fail
   | _=>.fail
 | .exa _ d _::cs,k=>eF cs fun ds=>k (d::ds)
 | _::_,_=>.fail
def gN:List Operand→(List (Bool×List D)→Prog)→Prog
 | [],k=>k []
 | x::xs,k=>vOp x fun v =>
   match v with
   | .v ag cs=>eF cs fun ds=>gN xs fun as=>k ((ag,ds)::as)
   | _=>.fail
def cC (d:Nat):Nat→List RC→(List SC→Prog)→Prog
 | _,[],k=>k []
 | j,.any x::rs,k=>cC d (j+1) rs fun cs=>k (.dat x::cs)
 | j,.ro x::rs,k=>cC d (j+1) rs fun cs=>k (.dat x::cs)
 | _,.edit _::_,_=>.fail
 | j,.own e sz xs::rs,k=>.getH (rid d j) fun o=>.bL (rid d j) (o.1+1,.row e sz xs true) (cC d (j+1) rs fun cs=>k (.row (rid d j) (o.1+1)::cs))
def fM (d:Nat):Nat→List (Bool×List RC)→(List (Bool×List SC)→Prog)→Prog
 | _,[],k=>k []
 | j,(ag,r)::rs,k=>cC d j r fun cs=>fM d (j+r.length) rs fun vs=>k ((ag,cs)::vs)
def fG (N:Nat) (dst:Option Tmp) (rs:List (Bool×List RC)):Prog:=
 match dst with
 | none=>.done
 | some d =>
  match rs with
  | [(ag,r)]=>cC d 0 r fun cs=>put N (some d) (.v ag cs)
  | rs=>fM d 0 rs fun vs=>put N (some d) (.tup vs)
def iW:List SC→(List D→Prog)→Prog
 | [],k=>k []
 | .dat d::cs,k=>iW cs fun ds=>k (d::ds)
 | .nil::cs,k=>iW cs fun ds=>k (.sl []::ds)
 | .old _ d _::cs,k=>iW cs fun ds=>k (d::ds)
 | .row i ver::cs,k=>.getH i fun o =>
   match o.2 with
   | .row _ _ xs _=>if o.1=ver then .bL i (ver,.none) (iW cs fun ds=>k (.sl xs::ds)) else .fail
   | _=>.fail
 | _::_,_=>.fail
def kS:List Operand→(List (Bool×List D)→Prog)→Prog
 | [],k=>k []
 | x::xs,k=>vOp x fun v =>
   match v with
   | .v ag cs=>iW cs fun ds=>kS xs fun as=>k ((ag,ds)::as)
   | _=>.fail
def cZ (N:Nat) (dst:Option Tmp) (xs:List Operand) (avs:List (Bool×List D)) (q:Ed):Prog:=
 match q,xs with
 | .del e sz,[a,b,c]=>vOp a fun va=>vOp b fun vb=>vOp c fun vc=>match va,vb,vc with
   | .v false [.row i ver],.v false [.dat (.int .i64 x)],.v false [.dat (.int .i64 y)]=>.getH i fun o=>match o.2 with
     | .row e' sz' rs deep=>if o.1=ver∧e'=e∧sz'=sz then .must (0≤x∧x≤y∧y.toNat≤rs.length)
       (.bL i (ver+1,.row e sz (rs.take x.toNat++rs.drop y.toNat) deep) (put N dst (.v false [.row i (ver+1)]))) else .fail
     | _=>.fail
   | _,_,_=>.fail
 | .ins e sz bytes,[a,b,c]=>vOp a fun va=>vOp b fun vb=>vOp c fun vc=>match va,vb,vc with
   | .v false [.row i ver],.v false [.dat (.int .i64 x)],.v false [.row j ver2]=>.getH i fun o=>match o.2 with
     | .row e' sz' rs deep=>if o.1=ver∧e'=e∧sz'=sz then .bL i (ver,.none) (.getH j fun p=>match p.2 with
       | .row e'' sz'' ys b=>if p.1=ver2∧e''=e∧sz''=sz then .bL j (ver2,.none) (.must (0≤x∧x.toNat≤rs.length∧0<ys.length∧(rs.length+ys.length)*bytes≤140737488355328)
         (.bL i (ver+1,.row e sz (rs.take x.toNat++(ys++rs.drop x.toNat)) (deep&&b)) (put N dst (.v false [.row i (ver+1)])))) else .fail
       | _=>.fail) else .fail
     | _=>.fail
   | _,_,_=>.fail
 | .cU e sz ys,[a,b]=>vOp a fun va=>vOp b fun vb=>match va,vb with
   | .v false [.row i ver],.v false [c]=>.getH i fun o=>match o.2 with
     | .row e' sz' rs deep=>if o.1=ver∧e'=e∧sz'=sz then .bL i (ver,.none) (eF [c] fun ds=>.must (avs=[(false,[.sl rs]),(false,ds)])
       (.bL i (ver+1,.row e sz ys deep) (put N dst (.v false [.row i (ver+1)])))) else .fail
     | _=>.fail
   | _,_=>.fail
 | .pass,[_,b]=>vOp b fun vb=>match vb with
   | .v ag cs=>put N dst (.tup [(ag,cs),(false,[.dat (.bool true)])])
   | _=>.fail
 | .sel c k sz,a::_=>vOp a fun va=>match va with
   | .v true cs=>match cs[c]? with
     | some (.row i ver)=>.getH i fun o=>match o.2 with
       | .row _ sz' rs _=>if o.1=ver∧sz'=sz then (match rs[k]? with
         | some y=>put N dst (.tup [(true,y.map .dat),(false,[.dat (.bool true)])])
         | none=>.fail) else .fail
       | _=>.fail
     | _=>.fail
   | _=>.fail
 | .newb t es,xs=>match dst with
   | some d=>kS xs fun as=>.must (as=avs) (.getH d fun p=>.bL d (p.1+1,.box t (es.map .dat)) (put N (some d) (.v false [.bp d (p.1+1) 0])))
   | none=>.fail
 | _,_=>.fail
def nE:List Operand→(List (Bool×List D)→Prog)→Prog
 | [],k=>k []
 | x::xs,k=>vOp x fun v =>
   match v with
   | .v ag cs=>gD cs fun ds=>nE xs fun as=>k ((ag,ds)::as)
   | _=>.fail
def mZ (N:Nat) (dst:Option Tmp) (t:TypeId) (es:List D) (rs:List (Bool×List RC)) (xs:List Operand) (avs:List (Bool×List D)):Prog:=
 match xs with
 | []=>.fail
 | a::bs=>vOp a fun va=>match va with
   | .v false [.bp i ver 0]=>.getH i fun o=>match o.2 with
     | .box t' (c0::cells)=>if o.1=ver∧t'=t then gD [c0] fun d0=>gD cells fun ds=>.must (cells=ds.map .dat) (nE bs fun as=>.must (avs=(false,[.ptr (d0++ds)])::as)
       (.bL i (ver,.box t (c0::es.map .dat)) (fG N dst rs))) else .fail
     | _=>.fail
   | _=>.fail
def RC.ed:RC→Option Ed
 | .edit q=>some q
 | .any _=>none
 | .ro _=>none
 | .own _ _ _=>none
def qA:List (Bool×List RC)→Option Ed
 | []=>none
 | (_,[])::_=>none
 | (_,r::_)::_=>r.ed
def eN (N:Nat) (dst:Option Tmp) (xs:List Operand) (avs:List (Bool×List D)) (rs:List (Bool×List RC)):Option Ed→Prog
 | some (.lend t es)=>mZ N dst t es rs.tail xs avs
 | some (.del e sz)=>cZ N dst xs avs (.del e sz)
 | some (.ins e sz b)=>cZ N dst xs avs (.ins e sz b)
 | some (.cU e sz ys)=>cZ N dst xs avs (.cU e sz ys)
 | some .pass=>cZ N dst xs avs .pass
 | some (.sel c k sz)=>cZ N dst xs avs (.sel c k sz)
 | some (.newb t es)=>cZ N dst xs avs (.newb t es)
 | none=>kS xs fun as=>.must (as=avs) (fG N dst rs)
def kR (N:Nat) (dst:Option Tmp) (xs:List Operand) (avs:List (Bool×List D)) (rs:List (Bool×List RC)):Prog:=
 if eI rs=true then eN N dst xs avs rs (qA rs) else fG N dst rs
def fC (place:Nat→Option (Nat×Nat)):List SC→List (Nat×Operand)→(List SC→Prog)→Prog
 | cells,[],k=>k cells
 | cells,(i,x)::rest,k=>vOp x fun v =>
   match v,place i with
   | .v _ cs,some (off,sz)=>if cs.length=sz∧off+sz≤cells.length then fC place (cells.take off++(cs++cells.drop (off+sz))) rest k else .fail
   | _,_=>.fail
def rows (sz:Nat):Nat→List D→List (List D)
 | 0,_=>[]
 | n+1,ds=>ds.take sz::rows sz n (ds.drop sz)
def one (d:D):SV:=.v false [.dat d]
def bJ (op:BinOp) (k:IntKind) (a b:Int):Option D:=
 match op with
 | .add=>some (.int k (k.wrap (a+b)))
 | .sub=>some (.int k (k.wrap (a-b)))
 | .mul=>some (.int k (k.wrap (a*b)))
 | .eql=>some (.bool (a==b))
 | .neq=>some (.bool (a != b))
 | .lss=>some (.bool (decide (a<b)))
 | .leq=>some (.bool (decide (a≤b)))
 | .gtr=>some (.bool (decide (a>b)))
 | .geq=>some (.bool (decide (a≥b)))
 | .quo=>if b=0 then none else some (.int k (k.wrap (a.tdiv b)))
 | .rem=>if b=0 then none else some (.int k (a.tmod b))
 | .shl=>if b<0 then none else some (.int k (k.wrap (a*2^(min b.toNat k.bits))))
 | .shr=>if b<0 then none else some (.int k (a.fdiv (2^(min b.toNat k.bits))))
 | .and=>some (.int k (k.wrap (BitVec.ofInt k.bits a&&&BitVec.ofInt k.bits b).toNat))
 | .or=>some (.int k (k.wrap (BitVec.ofInt k.bits a|||BitVec.ofInt k.bits b).toNat))
 | .xor=>some (.int k (k.wrap (BitVec.ofInt k.bits a ^^^ BitVec.ofInt k.bits b).toNat))
 | .andNot=>some (.int k (k.wrap (BitVec.ofInt k.bits a &&& ~~~ BitVec.ofInt k.bits b).toNat))
def gC (l:List UInt8):List (List D):=l.map fun b=>[.int .u8 (b.toNat:Int)]
def byteOf:List D→UInt8
 | [.int _ n]=>UInt8.ofNat n.toNat
 | _=>0
def strOf (xs:List (List D)):ByteArray:=⟨(xs.map byteOf).toArray⟩
def gG (op:BinOp) (x y:ByteArray):Option D:=
 match op with
 | .eql=>some (.bool (x.toList==y.toList))
 | .neq=>some (.bool !(x.toList==y.toList))
 | .lss=>some (.bool (Op.bytesLess x.toList y.toList))
 | .leq=>some (.bool (Op.bytesLess x.toList y.toList||x.toList==y.toList))
 | .gtr=>some (.bool !(Op.bytesLess x.toList y.toList||x.toList==y.toList))
 | .geq=>some (.bool !(Op.bytesLess x.toList y.toList))
 | _=>none
def lenOf (v:SV) (k:Nat→Prog):Prog:=
 match v with
 | .v false [.dat (.sl xs)]=>k xs.length
 | .v false [.old _ (.sl xs) _]=>k xs.length
 | .v false [.nil]=>k 0
 | .v false [.row i ver]=>.getH i fun o=>match o.2 with
   | .row _ _ xs _=>if o.1=ver then k xs.length else .fail
   | _=>.fail
 | .v false [.part i ver _ n]=>.getH i fun o=>match o.2 with
   | .row _ _ _ _=>if o.1=ver then k n else .fail
   | _=>.fail
 | _=>.fail
def cellAt (W:World) (p:Value) (j:Nat):Value:=
 match p with
 | .pointer (some ⟨b,off,_⟩)=>(W.cell? ⟨b,off+j,none⟩).getD undef
 | _=>undef
def aA1 (v:Value) (i esz:Nat):Value:=
 match v with
 | .slice (some ⟨b,off,_⟩) _ _=>.pointer (some ⟨b,off+i*esz,none⟩)
 | _=>undef
def aBF (W:World) (p:Value):Nat→List D→List SC
 | _,[]=>[]
 | j,d::ds=>.exa W d (cellAt W p j)::aBF W p (j+1) ds
def hE:List D→Option Value
 | []=>none
 | .val u::_=>some u
 | .int _ _::_=>none
 | .bool _::_=>none
 | .str _::_=>none
 | .sl _::_=>none
 | .ptr _::_=>none
 | .fn _ _::_=>none
 | .opq::_=>none
def iZ (N:Nat) (dst:Option Tmp) (ti:TI) (p:SV):Prog:=
 match p with
 | .v false [.bp i ver off]=>.getH i fun o=>match o.2 with
   | .box _ cells=>if o.1=ver∧off+ti.size≤cells.length then put N dst (.v ti.agg ((cells.drop off).take ti.size)) else .fail
   | _=>.fail
 | .v false [.dat (.ptr ds)]=>if ti.size≤ds.length then put N dst (.v ti.agg ((ds.take ti.size).map .dat)) else .fail
 | .v false [.rp i ver j off]=>.getH i fun o=>match o.2 with
   | .row _ _ xs _=>if o.1=ver then (match xs[j]? with
     | some x=>if off+ti.size≤x.length then (match hE ((x.drop off).take ti.size) with
       | some u=>.getH 7058000 fun p=>match p.2 with
         | .pin i' ver' u'=>.must (u'=u∧ti.agg=false) (.getH i' fun q=>match q.2 with
           | .row _ _ _ _=>if q.1=ver' then put N dst (.v false [.row i' ver']) else .fail
           | _=>.fail)
         | _=>.fail
       | none=>put N dst (.v ti.agg (((x.drop off).take ti.size).map .dat))) else .fail
     | none=>.fail) else .fail
   | _=>.fail
 | .v false [.exa W (.ptr ds) p]=>if ti.size≤ds.length then put N dst (.v ti.agg ((aBF W p 0 ds).take ti.size)) else .fail
 | _=>.fail
def jY (T:sC) (ti:TI) (p v:SV):Prog:=
 match p,v with
 | .v false [.bp i ver off],.v _ cs=>.getH i fun o=>match o.2 with
   | .box t cells=>if o.1=ver∧cs.length=ti.size∧off+ti.size≤cells.length then .bL i (ver,.box t (cells.take off++(cs++cells.drop (off+ti.size)))) .done else .fail
   | _=>.fail
 | .v false [.rp i ver j off],.v _ cs=>.getH i fun o0=>match o0.2 with
   | .row e0 _ _ _=>match T e0 with
    | some te=>eK cs (te.sl.drop off) fun ds b=>.getH i fun o=>match o.2 with
     | .row e sz xs deep=>if o.1=ver∧cs.length=ti.size∧e=e0 then (match xs[j]? with
       | some x=>if off+ti.size≤x.length then .bL i (ver,.row e sz (xs.set j (x.take off++(ds++x.drop (off+ti.size)))) (deep&&b)) .done else .fail
       | none=>.fail) else .fail
     | _=>.fail
    | none=>.fail
   | _=>.fail
 | _,_=>.fail
def iH (N:Nat) (dst:Option Tmp) (off:Nat) (p:SV):Prog:=
 match p with
 | .v false [.bp i ver o]=>.getH i fun q=>match q.2 with
   | .box _ _=>if q.1=ver then put N dst (.v false [.bp i ver (o+off)]) else .fail
   | _=>.fail
 | .v false [.rp i ver j o]=>.getH i fun q=>match q.2 with
   | .row _ _ _ _=>if q.1=ver then put N dst (.v false [.rp i ver j (o+off)]) else .fail
   | _=>.fail
 | .v false [.dat (.ptr ds)]=>if off≤ds.length then put N dst (.v false [.dat (.ptr (ds.drop off))]) else .fail
 | _=>.fail
def cW (N:Nat) (dst:Option Tmp) (esz:Nat) (x ix:SV):Prog:=
 match x,ix with
 | .v false [.dat (.sl xs)],.v false [.dat (.int _ i)]=>.must (0≤i) (match xs[i.toNat]? with
   | some e=>if e.length=esz then put N dst (.v false [.dat (.ptr e)]) else .fail
   | none=>.fail)
 | .v false [.old _ (.sl xs) _],.v false [.dat (.int _ i)]=>.must (0≤i) (match xs[i.toNat]? with
   | some e=>if e.length=esz then put N dst (.v false [.dat (.ptr e)]) else .fail
   | none=>.fail)
 | .v false [.row j ver],.v false [.dat (.int _ i)]=>.getH j fun o=>match o.2 with
   | .row _ sz xs _=>if o.1=ver∧sz=esz then .must (0≤i∧i.toNat<xs.length) (put N dst (.v false [.rp j ver i.toNat 0])) else .fail
   | _=>.fail
 | .v false [.exa W (.sl xs) v],.v false [.dat (.int _ i)]=>.must (0≤i) (match xs[i.toNat]? with
   | some e=>if e.length=esz then put N dst (.v false [.exa W (.ptr e) (aA1 v i.toNat esz)]) else .fail
   | none=>.fail)
 | _,_=>.fail
def vC (sz lo n:Nat) (xs:List (List D)):List (List D):=xs.take lo++(List.replicate n (List.replicate sz .opq)++xs.drop (lo+n))
def eG (e0:TypeId) (x:SV) (k:List (List D)→Bool→Prog):Prog:=
 match x with
 | .v false [.dat (.sl ys)]=>k ys (ys.all fun y=>y.all D.flat)
 | .v false [.nil]=>k [] true
 | .v false [.row i ver]=>.getH i fun o=>match o.2 with
   | .row e _ ys deep=>if o.1=ver then .bL i (ver,.none) (k ys (if e=e0 then deep else false)) else .fail
   | _=>.fail
 | .v false [.part i ver lo n]=>.getH i fun o=>match o.2 with
   | .row e sz ys deep=>if o.1=ver then .bL i (ver,.row e sz (vC sz lo n ys) deep) (k ((ys.drop lo).take n) (if e=e0 then deep else false)) else .fail
   | _=>.fail
 | _=>.fail
def mO (N:Nat) (dst:Option Tmp) (esz i ver l:Nat) (h:Nat→Nat) (p:Nat→Prop):Prog:=
 .getH i fun q=>match q.2 with
  | .row _ sz xs _=>if q.1=ver∧sz=esz then .must (p xs.length) (put N dst (.v false [.part i ver l (h xs.length-l)])) else .fail
  | _=>.fail
def fN (N:Nat) (dst:Option Tmp) (e:TypeId) (sz bytes:Nat) (s x:SV):Prog:=
 match dst with
 | none=>.fail
 | some d =>
 match s with
 | .v false [.row i ver]=>.getH i fun o=>match o.2 with
   | .row e' sz' xs deep=>if o.1=ver∧e'=e∧sz'=sz then
     .bL i (ver,.none) (eG e x fun ys b=>.must ((∀y∈ys,y.length=sz)∧(xs.length+ys.length)*bytes≤140737488355328∧0<sz∧0<bytes) (.bL i (ver+1,.row e sz (xs++ys) (deep&&b)) (put N dst (.v false [.row i (ver+1)])))) else .fail
   | _=>.fail
 | .v false [.part i ver 0 n]=>.getH i fun p=>match p.2 with
   | .row _ _ xs0 _=>eG e x fun ys b=>.getH i fun o=>match o.2 with
     | .row e' sz' xs deep=>if o.1=ver∧e'=e∧sz'=sz then
       .must (xs.take n=xs0.take n∧(∀y∈ys,y.length=sz)∧(n+ys.length)*bytes≤140737488355328∧0<sz∧0<bytes) (.bL i (ver+1,.row e sz (xs0.take n++ys) (deep&&b)) (put N dst (.v false [.row i (ver+1)]))) else .fail
     | _=>.fail
   | _=>.fail
 | .v false [.nil]=>eG e x fun ys b=>.must ((∀y∈ys,y.length=sz)∧ys.length*bytes≤140737488355328∧0<sz∧0<bytes) (.getH (rid d 0) fun o=>.bL (rid d 0) (o.1+1,.row e sz ys b) (put N dst (.v false [.row (rid d 0) (o.1+1)])))
 | _=>.fail
def pZ (dst:Option Tmp) (e:TypeId) (sz:Nat) (v:SV):Prog:=
 match dst,v with
 | none,.v false [.part i ver lo n]=>.getH i fun p=>match p.2 with
   | .row e' sz' xs deep=>if p.1=ver∧e'=e∧sz'=sz then .must ((if deep=true then xs.all (fun y=>y.all D.flat) else true)=true∧lo+n=xs.length)
     (.bL i (ver,.row e sz (xs.take lo++List.replicate n (List.replicate sz .opq)) deep) .done) else .fail
   | _=>.fail
 | _,_=>.fail
def mJ (N:Nat) (dst:Option Tmp) (e:TypeId) (s x:SV):Prog:=
 match s,x with
 | .v false [.row i ver],.v false [.dat (.str b)]=>.getH i fun o=>match o.2 with
   | .row e' 1 xs deep=>if o.1=ver∧e'=e then
     .must (xs.length+b.size≤140737488355328) (.bL i (ver+1,.row e 1 (xs++gC b.data.toList) deep) (put N dst (.v false [.row i (ver+1)]))) else .fail
   | _=>.fail
 | _,_=>.fail
def lY:List Operand→(List (Nat×Nat×Nat)→Prog)→Prog
 | [],k=>k []
 | x::xs,k=>vOp x fun v=>match v with
   | .v false [.bp i ver off]=>lY xs fun cs=>k ((i,ver,off)::cs)
   | _=>.fail
def dY:List LK→List SC→List SC→Option Bool
 | [],[],[]=>some true
 | .int::ls,.dat (.int k a)::xs,.dat (.int k' b)::ys=>if k=k' then (dY ls xs ys).map ((a==b) && ·) else none
 | .bool::ls,.dat (.bool a)::xs,.dat (.bool b)::ys=>(dY ls xs ys).map ((a==b) && ·)
 | .str::ls,.dat (.str a)::xs,.dat (.str b)::ys=>(dY ls xs ys).map ((a.toList==b.toList) && ·)
 | _,_,_=>none
def eR (T:sC) (N:Nat) (o:Oper):Prog:=
 match o.op with
 | .move x | .assign x=>vOp x fun v=>put N o.dst v
 | .pick c a b=>vOp c fun v=>match v with
   | .v false [.dat (.bool t)]=>if t=true then vOp a fun v=>put N o.dst v else vOp b fun v=>put N o.dst v
   | _=>.fail
 | .alloc t=>match o.dst,T t with
   | some d,some ti=>.getH d fun p=>.bL d (p.1+1,.box t ti.zero) (put N (some d) (.v false [.bp d (p.1+1) 0]))
   | _,_=>.fail
 | .box t x=>match o.dst with
   | some d=>vOp x fun v=>match v with
     | .v _ cs=>.getH d fun p=>.bL d (p.1+1,.box t cs) (put N (some d) (.v false [.bp d (p.1+1) 0]))
     | _=>.fail
   | none=>.fail
 | .build t parts=>match T t with
   | some { k:=.struct fs,zero:=z,.. }=>fC (fun i=>(fs[i]?).map fun f=>(f.1,f.2.1)) z parts.toList fun cs=>put N o.dst (.v true cs)
   | some { k:=.arr e _,zero:=z,.. }=>match T e,parts.toList with
     | some _,[]=>put N o.dst (.v true z)
     | _,_=>.fail
   | _=>.fail
 | .buildSlice t len parts=>match o.dst,T t with
   | some d,some { k:=.slice e,.. }=>match T e with
     | some ti=>if len*ti.size≤16777216∧0<ti.size∧(ti.sl=[]∨ti.sl.length=ti.size) then
       fC (fun i=>some (i*ti.size,ti.size)) ((List.replicate len ti.zero).flatten) parts.toList fun cs=>eK cs ((List.replicate len ti.sl).flatten) fun ds b =>
        .getH (rid d 0) fun p=>.bL (rid d 0) (p.1+1,.row e ti.size (rows ti.size len ds) b) (put N (some d) (.v false [.row (rid d 0) (p.1+1)])) else .fail
     | none=>.fail
   | _,_=>.fail
 | .makeSlice t l c=>match o.dst,T t with
   | some d,some { k:=.slice e,.. }=>match T e with
     | some ti=>vOp l fun vl=>vOp c fun vc=>match vl,vc with
       | .v false [.dat (.int _ n)],.v false [.dat (.int _ m)]=>.must (n=m∧0≤n∧n.toNat*ti.bytes≤140737488355328∧n≤9223372036854775807∧0<ti.size) (eK ti.zero ti.sl fun z b =>
         .getH (rid d 0) fun p=>.bL (rid d 0) (p.1+1,.row e ti.size (List.replicate n.toNat z) b) (put N (some d) (.v false [.row (rid d 0) (p.1+1)])))
       | _,_=>.fail
     | none=>.fail
   | _,_=>.fail
 | .load t x=>match T t with
   | some ti=>vOp x fun p=>iZ N o.dst ti p
   | none=>.fail
 | .store t x y=>match o.dst,T t with
   | none,some ti=>vOp x fun p=>vOp y fun v=>jY T ti p v
   | _,_=>.fail
 | .fieldAddr s x f=>match T s with
   | some { k:=.struct fs,.. }=>match fs[f]? with
     | some (off,sz,_)=>if 0<sz then vOp x fun p=>iH N o.dst off p else .fail
     | none=>.fail
   | _=>.fail
 | .field s x f=>match T s with
   | some { k:=.struct fs,.. }=>match fs[f]? with
     | some (off,sz,ag)=>vOp x fun p=>match p with
       | .v true cs=>if off+sz≤cs.length∧(ag=true∨sz=1) then put N o.dst (.v ag ((cs.drop off).take sz)) else .fail
       | _=>.fail
     | none=>.fail
   | _=>.fail
 | .indexAddr t x ix=>match T t with
   | some { k:=.slice e,.. }=>match T e with
     | some ti=>vOp x fun a=>vOp ix fun i=>cW N o.dst ti.size a i
     | none=>.fail
   | some { k:=.arr e n,.. }=>match T e with
     | some ti=>vOp x fun a=>vOp ix fun i=>match a,i with
       | .v false [.bp j ver off],.v false [.dat (.int _ m)]=>.getH j fun q=>match q.2 with
         | .box _ _=>if q.1=ver then .must (0≤m∧m.toNat<n) (put N o.dst (.v false [.bp j ver (off+m.toNat*ti.size)])) else .fail
         | _=>.fail
       | _,_=>.fail
     | none=>.fail
   | _=>.fail
 | .index t x ix=>match T t with
   | some { k:=.str,.. }=>vOp x fun a=>vOp ix fun i=>match a,i with
     | .v false [.dat (.str s)],.v false [.dat (.int _ n)]=>.must (0≤n) (match s[n.toNat]? with
       | some b=>put N o.dst (one (.int .u8 b.toNat))
       | none=>.fail)
     | _,_=>.fail
   | _=>.fail
 | .binOp op t x y _=>vOp x fun a=>vOp y fun b=>match a,b with
   | .v false [.dat (.int k m)],.v false [.dat (.int k' n)]=>if k=k'∨op = .shr∨op = .shl then (match bJ op k m n with
     | some d=>put N o.dst (one d)
     | none=>.fail) else .fail
   | .v false [.dat (.str m)],.v false [.dat (.str n)]=>if op = .add then .must (m.size+n.size≤9223372036854775807) (put N o.dst (one (.str (m++n)))) else (match gG op m n with
     | some d=>put N o.dst (one d)
     | none=>.fail)
   | .v false [.dat (.bool m)],.v false [.dat (.bool n)]=>match op,T t with
     | .eql,some { k:=.bool,.. }=>put N o.dst (one (.bool (m==n)))
     | .neq,some { k:=.bool,.. }=>put N o.dst (one (.bool !(m==n)))
     | _,_=>.fail
   | .v true cs,.v true ds=>match T t with
     | some { cmp:=l::ls,.. }=>match dY (l::ls) cs ds with
       | some b=>match op with
         | .eql=>put N o.dst (one (.bool b))
         | .neq=>put N o.dst (one (.bool !b))
         | _=>.fail
       | none=>.fail
     | _=>.fail
   | _,_=>.fail
 | .unOp .not _ x=>vOp x fun a=>match a with
   | .v false [.dat (.bool b)]=>put N o.dst (one (.bool !b))
   | _=>.fail
 | .unOp .neg _ x=>vOp x fun a=>match a with
   | .v false [.dat (.int k n)]=>put N o.dst (one (.int k (k.wrap (0-n))))
   | _=>.fail
 | .convert s t x=>match T s,T t with
   | some _,some { k:=.int k,.. }=>vOp x fun a=>match a with
     | .v false [.dat (.int _ n)]=>put N o.dst (one (.int k (k.wrap n)))
     | _=>.fail
   | some { k:=.str,.. },some { k:=.slice e,.. }=>match T e with
     | some { k:=.int .u8,.. }=>vOp x fun a=>match a with
       | .v false [.dat (.str b)]=>put N o.dst (one (.sl (gC b.data.toList)))
       | _=>.fail
     | _=>.fail
   | some { k:=.slice e,.. },some { k:=.str,.. }=>match T e with
     | some { k:=.int .u8,.. }=>vOp x fun a=>match a with
       | .v false [.dat (.sl xs)]=>.must (∀x∈xs,∃b:UInt8,x=[.int .u8 (b.toNat:Int)]) (put N o.dst (one (.str (strOf xs))))
       | .v false [.nil]=>put N o.dst (one (.str ByteArray.empty))
       | .v false [.row i ver]=>.getH i fun o'=>match o'.2 with
         | .row _ _ xs _=>if o'.1=ver then .must (∀x∈xs,∃b:UInt8,x=[.int .u8 (b.toNat:Int)]) (put N o.dst (one (.str (strOf xs)))) else .fail
         | _=>.fail
       | _=>.fail
     | _=>.fail
   | _,_=>.fail
 | .nilCheck x=>vOp x fun a=>match a with
   | .v false [.bp i ver off]=>.getH i fun q=>match q.2 with
     | .box _ _=>if q.1=ver then put N o.dst (.v false [.bp i ver off]) else .fail
     | _=>.fail
   | .v false [.rp i ver j off]=>.getH i fun q=>match q.2 with
     | .row _ _ _ _=>if q.1=ver then put N o.dst (.v false [.rp i ver j off]) else .fail
     | _=>.fail
   | .v false [.dat (.ptr ds)]=>put N o.dst (.v false [.dat (.ptr ds)])
   | .v false [.dat (.fn f ds)]=>put N o.dst (.v false [.dat (.fn f ds)])
   | .v false [.clo f cs]=>put N o.dst (.v false [.clo f cs])
   | _=>.fail
 | .slice t x lo hi none=>match T t with
   | some { k:=.slice e,.. }=>match T e with
     | some te=>vOp x fun a=>zV lo fun l=>zV hi fun h=>match a,l,h with
       | .v false [.dat (.sl xs)],some (.v false [.dat (.int _ i)]),none=>.must (0≤i∧i.toNat≤xs.length ∧ ∀x∈xs,x.length=te.size) (put N o.dst (one (.sl (xs.drop i.toNat))))
       | .v false [.dat (.sl xs)],none,some (.v false [.dat (.int _ j)])=>.must (0≤j∧j.toNat≤xs.length ∧ ∀x∈xs,x.length=te.size) (put N o.dst (one (.sl (xs.take j.toNat))))
       | .v false [.dat (.sl xs)],some (.v false [.dat (.int _ i)]),some (.v false [.dat (.int _ j)])=>.must (0≤i∧i≤j∧j.toNat≤xs.length ∧ ∀x∈xs,x.length=te.size) (put N o.dst (one (.sl ((xs.take j.toNat).drop i.toNat))))
       | .v false [.row j ver],some (.v false [.dat (.int _ x)]),none=>mO N o.dst te.size j ver x.toNat (fun n=>n) fun n=>0≤x∧x.toNat≤n
       | .v false [.row j ver],none,some (.v false [.dat (.int _ y)])=>mO N o.dst te.size j ver 0 (fun _=>y.toNat) fun n=>0≤y∧y.toNat≤n
       | .v false [.row j ver],some (.v false [.dat (.int _ x)]),some (.v false [.dat (.int _ y)])=>mO N o.dst te.size j ver x.toNat (fun _=>y.toNat) fun n=>0≤x∧x≤y∧y.toNat≤n
       | _,_,_=>.fail
     | none=>.fail
   | _=>.fail
 | .makeFunc (.func f) first captured=>if first.size=0 then (lY captured.toList fun cs=>put N o.dst (.v false [match cs with | []=>.dat (.fn f []) | _=>.clo f cs])) else .fail
 | .extract x i=>vOp x fun a=>match a with
   | .tup vs=>match vs[i]? with
     | some (ag,cs)=>put N o.dst (.v ag cs)
     | none=>.fail
   | _=>.fail
 | .call { callee:=.builtin .len,args:=as,argTypes:=ts }=>match as.toList,ts.toList with
   | [x],[t]=>match T t with
     | some { k:=.slice _,.. }=>vOp x fun a=>lenOf a fun n=>put N o.dst (one (.int .i64 n))
     | some { k:=.str,.. }=>vOp x fun a=>match a with
       | .v false [.dat (.str s)]=>put N o.dst (one (.int .i64 s.size))
       | _=>.fail
     | _=>.fail
   | _,_=>.fail
 | .call { callee:=.builtin .min,args:=as,.. }=>match as.toList with
   | [x,y]=>vOp x fun a=>vOp y fun b=>match a,b with
     | .v false [.dat (.int k m)],.v false [.dat (.int _ n)]=>put N o.dst (one (.int k (if n<m then n else m)))
     | _,_=>.fail
   | _=>.fail
 | .call { callee:=.builtin .max,args:=as,.. }=>match as.toList with
   | [x,y]=>vOp x fun a=>vOp y fun b=>match a,b with
     | .v false [.dat (.int k m)],.v false [.dat (.int _ n)]=>put N o.dst (one (.int k (if n>m then n else m)))
     | _,_=>.fail
   | [x,y,z]=>vOp x fun a=>vOp y fun b=>vOp z fun c=>match a,b,c with
     | .v false [.dat (.int k m)],.v false [.dat (.int _ n)],.v false [.dat (.int _ q)]=>put N o.dst (one (.int k (if q>(if n>m then n else m) then q else (if n>m then n else m))))
     | _,_,_=>.fail
   | _=>.fail
 | .call { callee:=.builtin .append,args:=as,argTypes:=ts }=>match as.toList,ts.toList with
   | [s,x],[t,t']=>if t=t' then (match T t with
     | some { k:=.slice e,.. }=>match T e with
       | some ti=>vOp s fun a=>vOp x fun b=>fN N o.dst e ti.size ti.bytes a b
       | none=>.fail
     | _=>.fail) else (match T t,T t' with
     | some { k:=.slice e,.. },some { k:=.str,.. }=>match T e with
       | some { k:=.int .u8,size:=1,bytes:=1,zero:=[.dat (.int .u8 0)],.. }=>vOp s fun a=>vOp x fun b=>mJ N o.dst e a b
       | _=>.fail
     | _,_=>.fail)
   | _,_=>.fail
 | .call { callee:=.builtin .clear,args:=as,argTypes:=ts }=>match as.toList,ts.toList with
   | [x],[t]=>match T t with
     | some { k:=.slice e,.. }=>match T e with
       | some ti=>vOp x fun v=>pZ o.dst e ti.size v
       | none=>.fail
     | _=>.fail
   | _,_=>.fail
 | .call { callee:=.value (.func f),args:=as,.. }=>gN as.toList fun avs=>.call f avs fun rs=>kR N o.dst as.toList avs rs
 | .call { callee:=.value (.tmp t),args:=as,.. }=>gN as.toList fun avs=>.getT t fun v=>match v with
   | .v false [.dat (.fn f caps)]=>.call f (avs++caps.map fun c=>(false,[c])) fun rs=>if eI rs=true then .fail else fG N o.dst rs
   | .v false [.clo f caps]=>fY caps fun ds=>.call f (avs++ds.map fun c=>(false,[c])) fun rs=>if eI rs=true then .fail else fG N o.dst rs
   | _=>.fail
 | _=>.fail
def evG (T:sC) (N:Nat) (ops:Array Oper) (o:Oper):Prog:=
 match o.guard with
 | none=>eR T N o
 | some (j,want)=>match (ops[j]?).bind (·.dst) with
   | some t=>.getT t fun v=>match v with
     | .v false [.dat (.bool b)]=>if b=want then eR T N o else put N o.dst .undef
     | .undef=>put N o.dst .undef
     | _=>.fail
   | none=>.fail
def gS (P:Program) (T:sC) (N:Nat) (ops:Array Oper):List Oper→St→(St→Prop)→Prop
 | [],s,K=>K s
 | o::rest,s,K=>ex P (evG T N ops o) s fun s'=>gS P T N ops rest s' K
theorem kF {P:Program} : ∀(p:Prog) {s:St} {K K':St→Prop},(∀s,K s→K' s)→ex P p s K→ex P p s K'
 | .done,_,_,_,h,hh=>h _ hh
 | .fail,_,_,_,_,hh=>hh
 | .getT t k,s,_,_,h,hh=>kF (k (s.t t)) h hh
 | .kD t v k,s,_,_,h,hh=>kF k h hh
 | .getH i k,s,_,_,h,hh=>kF (k (s.h i)) h hh
 | .bL i x k,s,_,_,h,hh=>kF k h hh
 | .call f args k,s,_,_,h,⟨rs,hc,hh⟩=>⟨rs,hc,kF (k rs) h hh⟩
 | .must p k,s,_,_,h,⟨hp,hh⟩=>⟨hp,kF k h hh⟩
end Go.Sh
namespace Go.Sh
set_option linter.unusedVariables false
set_option linter.unusedSimpArgs false
open Go.RowKit
abbrev eS:=Nat→Nat×lG
structure Gh where
 val:Nat→Value
 fp:Nat→List Nat
 S:Nat→Prop
 Q:QF
def fS:Value→Option Nat
 | .pointer (some a)=>some a.block
 | .slice (some a) _ _=>some a.block
 | _=>none
def nM (g:Gh) (h:eS) (c:Nat×Nat×Nat) (v:Value):Prop:=
 c.2.1≤(h c.1).1∧((h c.1).1=c.2.1 → ∀t cs,(h c.1).2 = .box t cs → ∃b,g.val c.1 = .pointer (some ⟨b,0,none⟩)∧v = .pointer (some ⟨b,c.2.2,none⟩))
def iE (g:Gh) (h:eS):List (Nat×Nat×Nat)→List Value→Prop
 | [],vs=>vs=[]
 | c::cs,vs=>∃v vs',vs=v::vs'∧nM g h c v∧iE g h cs vs'
def fW (g:Gh) (h:eS) (w:World):SC→Value→Prop
 | .dat d,v=>∃F,Rep w d v F ∧ ∀b∈F,g.S b
 | .nil,v=>v = .slice none 0 0
 | .row i ver,v=>v.oneCell'=true∧ver≤(h i).1∧((h i).1=ver → ∀e sz xs dp,(h i).2 = .row e sz xs dp→v=g.val i)
 | .bp i ver off,v=>v.oneCell'=true∧nM g h (i,ver,off) v
 | .rp i ver j off,v=>v.oneCell'=true∧ver≤(h i).1∧((h i).1=ver → ∀e sz xs dp,(h i).2 = .row e sz xs dp → ∃b n c,g.val i = .slice (some ⟨b,0,none⟩) n c∧v = .pointer (some ⟨b,j*sz+off,none⟩))
 | .clo f caps,v=>∃vs,v = .func (.func f) #[] vs.toArray∧iE g h caps vs
 | .old B d u,v=>∃F,Rep w d v F∧(∀b∈F,g.S b∧b<B) ∧ ∀x,u=some x→v=x
 | .part i ver lo n,v=>v.oneCell'=true∧ver≤(h i).1∧((h i).1=ver → ∀e sz xs dp,(h i).2 = .row e sz xs dp → ∃ad c,v = .slice ad n c∧n≤c∧(n=0 ∨ ∃b m c',g.val i = .slice (some ⟨b,0,none⟩) m c'∧lo+n≤m∧ad=some ⟨b,lo*sz,none⟩)∧(lo=0 → ∃m,g.val i = .slice ad m c∧n≤m))
 | .exa W d x,v=>v=x ∧ ∃F,Rep W d x F ∧ ∀b∈F,g.S b∧w.heap[b]? = W.heap[b]?
def aD (g:Gh) (h:eS) (w:World):List SC→List Value→Prop
 | [],vs=>vs=[]
 | c::cs,vs=>∃v vs',vs=v::vs'∧fW g h w c v∧aD g h w cs vs'
def jL (g:Gh) (h:eS) (w:World) (x:Bool×List SC) (v:Value):Prop:=
 match x with
 | (true,cs)=>∃vs,v = .agg vs∧aD g h w cs vs.toList
 | (false,cs)=>aD g h w cs [v]
def gP (g:Gh) (h:eS) (w:World):List (Bool×List SC)→List Value→Prop
 | [],vs=>vs=[]
 | c::cs,vs=>∃v vs',vs=v::vs'∧jL g h w c v∧gP g h w cs vs'
def dW (g:Gh) (h:eS) (w:World):SV→Value→Prop
 | .unk,_=>True
 | .undef,v=>v=undef
 | .v ag cs,v=>jL g h w (ag,cs) v
 | .tup xs,v=>∃vs,v = .tuple vs∧gP g h w xs vs.toList
def gF (base:Nat) (g:Gh) (h:eS) (w:World) (i:Nat):lG→Prop
 | .none=>True
 | .box t cells=>∃b vals,g.val i = .pointer (some ⟨b,0,none⟩)∧g.Q.fb≤b∧w.heap[b]? = some (.cells vals t (0,0))∧aD g h w cells vals.toList
 | .row e sz xs dp=>∃cells,w.ownsRow base e sz (g.val i) xs.length cells∧(∀x∈xs,x.length=sz)∧aR g.Q.L dp w e xs cells (g.fp i)∧(∀b∈g.fp i,g.S b)∧(dp=true→fI base w (g.fp i))
 | .pin j ver u=>g.val i=undef∧ver≤(h j).1∧((h j).1=ver → ∀e sz xs dp,(h j).2 = .row e sz xs dp→g.val j=u)
def live (h:eS) (i:Nat):Prop:=(h i).2 ≠ .none
def bT (h:eS) (i:Nat):Prop:=∃e sz xs,(h i).2 = .row e sz xs true
structure Inv (base:Nat) (g:Gh) (h:eS) (w:World) (pool:List Nat):Prop where
 base_le:base≤w.heap.size
 S_old : ∀b,g.S b→b<base→g.Q b
 S_lt : ∀b,g.S b→b<w.heap.size
 obj : ∀i,gF base g h w i (h i).2
 mtb : ∀i b,live h i→fS (g.val i)=some b → ¬g.S b
 inj : ∀i j b,i≠j→live h i→live h j→fS (g.val i)=some b→fS (g.val j)≠some b
 dis : ∀i j,i≠j→bT h i→bT h j → ∀b∈g.fp i,b∉g.fp j
 pool_own:fI base w pool
 pool_S : ∀b∈pool,g.S b
 pool_dis : ∀i,bT h i → ∀b∈g.fp i,b∉pool
 fb:g.Q.fb≤base
theorem aAc.eU {w w':World} {b:Nat} (h:aAc w b) (hb:w'.heap[b]? = w.heap[b]?):aAc w' b:=by
 obtain ⟨c,e,hh⟩:=h;exact ⟨c,e,hb.trans hh⟩
theorem aAc.lt {w:World} {b:Nat} (h:aAc w b):b<w.heap.size:=by
 obtain ⟨c,e,hh⟩:=h;exact (Array.getElem?_eq_some_iff.1 hh).1
theorem fI.eU {base:Nat} {w w':World} {F:List Nat} (h:fI base w F) (hb : ∀b∈F,w'.heap[b]? = w.heap[b]?):fI base w' F:=
 ⟨h.1,fun b hm=>⟨(h.2 b hm).1,(h.2 b hm).2.eU (hb b hm)⟩⟩
theorem fI.nil (base:Nat) (w:World):fI base w []:=⟨List.nodup_nil,fun b hb=>by simp at hb⟩
structure bU (g g':Gh) (h h':eS) (w w':World):Prop where
 S : ∀b,g.S b→g'.S b
 Sw : ∀b,g.S b→w'.heap[b]? = w.heap[b]?
 ver : ∀i,(h i).1≤(h' i).1
 row : ∀i e sz xs dp,(h' i).1=(h i).1→(h' i).2 = .row e sz xs dp→g'.val i=g.val i ∧ ∃xs0 dp0,(h i).2 = .row e sz xs0 dp0
 box : ∀i t cs,(h' i).1=(h i).1→(h' i).2 = .box t cs→g'.val i=g.val i ∧ ∃cs0,(h i).2 = .box t cs0
 Q:g'.Q=g.Q
section
variable {g g':Gh} {h h':eS} {w w':World}
theorem nM.cU (T:bU g g' h h' w w') {c:Nat×Nat×Nat} {v:Value} (hc:nM g h c v):nM g' h' c v:=by
 refine ⟨Nat.le_trans hc.1 (T.ver _),fun hv t cs hb => ?_⟩
 have h1:=T.ver c.1
 have h2:(h' c.1).1=(h c.1).1:=by have:=hc.1;omega
 obtain ⟨h3,cs0,h4⟩:=T.box _ _ _ h2 hb
 obtain ⟨b,h5,h6⟩:=hc.2 (by omega) t cs0 h4
 exact ⟨b,h3.trans h5,h6⟩
theorem iE.cU (T:bU g g' h h' w w') : ∀ {cs:List (Nat×Nat×Nat)} {vs:List Value},iE g h cs vs→iE g' h' cs vs
 | [],vs,hc=>hc
 | c::cs,vs,hc=>by
  obtain ⟨v,vs',rfl,h1,h2⟩:=hc
  exact ⟨v,vs',rfl,h1.cU T,iE.cU T h2⟩
theorem fW.cU (T:bU g g' h h' w w') {c:SC} {v:Value} (hc:fW g h w c v):fW g' h' w' c v:=by
 cases c with
 | dat d =>
  obtain ⟨F,h1,h2⟩:=hc
  exact ⟨F,Rep.eU d v F h1 fun b hb=>T.Sw b (h2 b hb),fun b hb=>T.S b (h2 b hb)⟩
 | nil=>exact hc
 | row i ver =>
  obtain ⟨h0,h1,h2⟩:=hc
  refine ⟨h0,Nat.le_trans h1 (T.ver i),fun hv e sz xs dp hr => ?_⟩
  have h3:=T.ver i
  have h4:(h' i).1=(h i).1:=by omega
  obtain ⟨h5,xs0,dp0,h6⟩:=T.row _ _ _ _ _ h4 hr
  rw [h5]
  exact h2 (by omega) _ _ _ _ h6
 | bp i ver off=>exact ⟨hc.1,hc.2.cU T⟩
 | rp i ver j off =>
  obtain ⟨h0,h1,h2⟩:=hc
  refine ⟨h0,Nat.le_trans h1 (T.ver i),fun hv e sz xs dp hr => ?_⟩
  have h3:=T.ver i
  have h4:(h' i).1=(h i).1:=by omega
  obtain ⟨h5,xs0,dp0,h6⟩:=T.row _ _ _ _ _ h4 hr
  rw [h5]
  exact h2 (by omega) _ _ _ _ h6
 | clo f caps =>
  obtain ⟨vs,h1,h2⟩:=hc
  exact ⟨vs,h1,h2.cU T⟩
 | old B d u =>
  obtain ⟨F,h1,h2,h3⟩:=hc
  exact ⟨F,Rep.eU d v F h1 fun b hb=>T.Sw b (h2 b hb).1,fun b hb=>⟨T.S b (h2 b hb).1,(h2 b hb).2⟩,h3⟩
 | part i ver lo n =>
  obtain ⟨h0,h1,h2⟩:=hc
  refine ⟨h0,Nat.le_trans h1 (T.ver i),fun hv e sz xs dp hr => ?_⟩
  have h3:=T.ver i
  have h4:(h' i).1=(h i).1:=by omega
  obtain ⟨h5,xs0,dp0,h6⟩:=T.row _ _ _ _ _ h4 hr
  rw [h5]
  exact h2 (by omega) _ _ _ _ h6
 | exa W d x =>
  obtain ⟨h0,F,h1,h2⟩:=hc
  exact ⟨h0,F,h1,fun b hb=>⟨T.S b (h2 b hb).1,(T.Sw b (h2 b hb).1).trans (h2 b hb).2⟩⟩
theorem aD.cU (T:bU g g' h h' w w') : ∀ {cs:List SC} {vs:List Value},aD g h w cs vs→aD g' h' w' cs vs
 | [],vs,hc=>hc
 | c::cs,vs,hc=>by
  obtain ⟨v,vs',rfl,h1,h2⟩:=hc
  exact ⟨v,vs',rfl,h1.cU T,aD.cU T h2⟩
theorem jL.cU (T:bU g g' h h' w w') {x:Bool×List SC} {v:Value} (hc:jL g h w x v):jL g' h' w' x v:=by
 obtain ⟨b,cs⟩:=x
 cases b
 ·exact aD.cU T hc
 ·obtain ⟨vs,h1,h2⟩:=hc;exact ⟨vs,h1,aD.cU T h2⟩
theorem gP.cU (T:bU g g' h h' w w') : ∀ {cs:List (Bool×List SC)} {vs:List Value},gP g h w cs vs→gP g' h' w' cs vs
 | [],vs,hc=>hc
 | c::cs,vs,hc=>by
  obtain ⟨v,vs',rfl,h1,h2⟩:=hc
  exact ⟨v,vs',rfl,h1.cU T,gP.cU T h2⟩
theorem dW.cU (T:bU g g' h h' w w') {x:SV} {v:Value} (hc:dW g h w x v):dW g' h' w' x v:=by
 cases x with
 | unk=>trivial
 | undef=>exact hc
 | v ag cs=>exact jL.cU T hc
 | tup xs=>obtain ⟨vs,h1,h2⟩:=hc;exact ⟨vs,h1,gP.cU T h2⟩
end
theorem bU.refl (g:Gh) (h:eS) (w:World):bU g g h h w w:=
 ⟨fun _ hb=>hb,fun _ _=>rfl,fun _=>Nat.le_refl _,fun i e sz xs dp _ hr=>⟨rfl,xs,dp,hr⟩,fun i t cs _ hb=>⟨rfl,cs,hb⟩,rfl⟩
theorem aD.length {g:Gh} {h:eS} {w:World} : ∀ {cs:List SC} {vs:List Value},aD g h w cs vs→vs.length=cs.length
 | [],vs,hc=>by rw [hc];rfl
 | c::cs,vs,hc=>by
  obtain ⟨v,vs',rfl,h1,h2⟩:=hc
  simp [aD.length h2]
theorem aD.append {g:Gh} {h:eS} {w:World} : ∀ {cs ds:List SC} {vs us:List Value},aD g h w cs vs→aD g h w ds us→aD g h w (cs++ds) (vs++us)
 | [],ds,vs,us,hc,hd=>by rw [hc];exact hd
 | c::cs,ds,vs,us,hc,hd=>by
  obtain ⟨v,vs',rfl,h1,h2⟩:=hc
  exact ⟨v,vs'++us,rfl,h1,aD.append h2 hd⟩
theorem aD.take {g:Gh} {h:eS} {w:World} : ∀(n:Nat) {cs:List SC} {vs:List Value},aD g h w cs vs→aD g h w (cs.take n) (vs.take n)
 | 0,cs,vs,hc=>by simp [aD]
 | n+1,[],vs,hc=>by rw [hc];simp [aD]
 | n+1,c::cs,vs,hc=>by
  obtain ⟨v,vs',rfl,h1,h2⟩:=hc
  exact ⟨v,vs'.take n,rfl,h1,aD.take n h2⟩
theorem aD.drop {g:Gh} {h:eS} {w:World} : ∀(n:Nat) {cs:List SC} {vs:List Value},aD g h w cs vs→aD g h w (cs.drop n) (vs.drop n)
 | 0,cs,vs,hc=>by simpa using hc
 | n+1,[],vs,hc=>by rw [hc];simp [aD]
 | n+1,c::cs,vs,hc=>by
  obtain ⟨v,vs',rfl,h1,h2⟩:=hc
  exact aD.drop n h2
theorem fW.one {g:Gh} {h:eS} {w:World} {c:SC} {v:Value} (hc:fW g h w c v):v.oneCell'=true:=by
 cases c with
 | dat d=>obtain ⟨F,h1,_⟩:=hc;exact h1.one
 | nil=>rw [hc];rfl
 | row i ver=>exact hc.1
 | bp i ver off=>exact hc.1
 | rp i ver j off=>exact hc.1
 | clo f caps=>obtain ⟨vs,h1,_⟩:=hc;rw [h1];rfl
 | old B d u=>obtain ⟨F,h1,_⟩:=hc;exact h1.one
 | part i ver lo n=>exact hc.1
 | exa W d x=>obtain ⟨rfl,F,h1,_⟩:=hc;exact h1.one
theorem aD.one {g:Gh} {h:eS} {w:World} : ∀ {cs:List SC} {vs:List Value},aD g h w cs vs → ∀u∈vs,u.oneCell'=true
 | [],vs,hc=>by rw [hc];simp
 | c::cs,vs,hc=>by
  obtain ⟨v,vs',rfl,h1,h2⟩:=hc
  intro u hu
  rcases List.mem_cons.1 hu with rfl | hu
  ·exact h1.one
  ·exact aD.one h2 u hu
theorem aD.lC {g:Gh} {h:eS} {w:World} : ∀ {ds:List D} {vs:List Value} {F:List Nat},aA w ds vs F→(∀b∈F,g.S b)→aD g h w (ds.map .dat) vs
 | [],vs,F,hr,_=>by simp only [aA] at hr;exact hr.1
 | d::ds,vs,F,hr,hF=>by
  simp only [aA] at hr
  obtain ⟨v,vs',F1,F2,rfl,rfl,h3,h4⟩:=hr
  exact ⟨v,vs',rfl,⟨F1,h3,fun b hb=>hF b (by simp [hb])⟩,aD.lC h4 fun b hb=>hF b (by simp [hb])⟩
theorem bZ {w:World} {base:Nat} {e:TypeId} {sz n:Nat} {v:Value} {xs:List Value} (h:w.ownsRow base e sz v n xs):fS v=v.ownBlock:=by
 rcases h.2 with ⟨rfl,_⟩ | ⟨gg,cap,cur,rfl,_⟩<;>rfl
theorem Inv.iO {base:Nat} {g:Gh} {h:eS} {w:World} {pool:List Nat} (I:Inv base g h w pool) {i b:Nat} (hl:live h i) (hb:fS (g.val i)=some b):g.Q.fb≤b∧aAc w b:=by
 have ho:=I.obj i
 unfold live at hl
 revert ho hl
 cases hh:(h i).2 with
 | none=>intro hl _;exact absurd rfl hl
 | box t cells =>
  rintro _ ⟨b',vals,h1,h2,h3,_⟩
  rw [h1] at hb
  simp [fS] at hb
  subst hb
  exact ⟨h2,vals,t,h3⟩
 | pin j ver u =>
  rintro _ ⟨h1,_⟩
  rw [h1] at hb;simp [undef,fS] at hb
 | row e sz xs dp =>
  rintro _ ⟨cells,h1,_⟩
  rcases h1.2 with ⟨h2,_⟩ | ⟨gg,cap,cur,h2,h3,h4,_⟩
  ·rw [h2] at hb;simp [fS] at hb
  ·rw [h2] at hb;simp [fS] at hb;subst hb;exact ⟨Nat.le_trans I.fb h3,cur,e,h4⟩
theorem bU.grow {g:Gh} {h:eS} {w w':World} (hS : ∀b,g.S b→b<w.heap.size) (hb : ∀b,b<w.heap.size→w'.heap[b]? = w.heap[b]?):bU g g h h w w':=
 ⟨fun _ x=>x,fun b x=>hb b (hS b x),fun _=>Nat.le_refl _,fun i e sz xs dp _ hr=>⟨rfl,xs,dp,hr⟩,fun i t cs _ hx=>⟨rfl,cs,hx⟩,rfl⟩
theorem Inv.grow {base:Nat} {g:Gh} {h:eS} {w w':World} {pool:List Nat} (I:Inv base g h w pool) (hs:w.heap.size≤w'.heap.size) (hb : ∀b,b<w.heap.size→w'.heap[b]? = w.heap[b]?):Inv base g h w' pool:=by
 have T:bU g g h h w w':=bU.grow I.S_lt hb
 refine ⟨Nat.le_trans I.base_le hs,I.S_old,fun b x=>Nat.lt_of_lt_of_le (I.S_lt b x) hs,fun i => ?_,I.mtb,I.inj,I.dis,I.pool_own.eU fun b x=>hb b (I.S_lt b (I.pool_S b x)),I.pool_S,I.pool_dis,I.fb⟩
 have ho:=I.obj i
 have hl:=@Inv.iO base g h w pool I i
 revert ho hl
 unfold live
 cases hh:(h i).2 with
 | none=>intros;trivial
 | box t cells =>
  rintro ⟨b',vals,h1,h2,h3,h4⟩ _
  exact ⟨b',vals,h1,h2,(hb _ (Array.getElem?_eq_some_iff.1 h3).1).trans h3,h4.cU T⟩
 | pin j ver u=>intro h1 _;exact h1
 | row e sz xs dp =>
  rintro ⟨cells,h1,h2,h3,h4,h5⟩ _
  refine ⟨cells,⟨h1.1,?_⟩,h2,h3.eU fun b x=>hb b (I.S_lt b (h4 b x)),h4,fun hd=>(h5 hd).eU fun b x=>hb b (I.S_lt b (h4 b x))⟩
  rcases h1.2 with h6 | ⟨gg,cap,cur,h6,h7,h8,h9⟩
  ·exact .inl h6
  ·exact .inr ⟨gg,cap,cur,h6,h7,(hb _ (Array.getElem?_eq_some_iff.1 h8).1).trans h8,h9⟩
def dN (h:eS) (i:Nat) (x:Nat×lG):eS:=fun j=>if j=i then x else h j
theorem aJ (h:eS) (i:Nat) (x:Nat×lG):dN h i x i=x:=by simp [dN]
theorem bG (h:eS) (i j:Nat) (x:Nat×lG) (hne:j≠i):dN h i x j=h j:=by simp [dN,hne]
def kH {α:Type} (f:Nat→α) (i:Nat) (x:α):Nat→α:=fun j=>if j=i then x else f j
theorem bC {α:Type} (f:Nat→α) (i:Nat) (x:α):kH f i x i=x:=by simp [kH]
theorem fV {α:Type} (f:Nat→α) (i j:Nat) (x:α) (hne:j≠i):kH f i x j=f j:=by simp [kH,hne]
theorem bU.drop {g:Gh} {h:eS} {w:World} (i:Nat) (S':Nat→Prop) (hS : ∀b,g.S b→S' b):bU g { g with S:=S' } h (dN h i ((h i).1,.none)) w w:=by
 refine ⟨hS,fun _ _=>rfl,fun j => ?_,fun j e sz xs dp _ hr => ?_,fun j t cs _ hx => ?_,rfl⟩
 ·by_cases hj:j=i
  ·subst hj;rw [aJ];exact Nat.le_refl _
  ·rw [bG _ _ _ _ hj];exact Nat.le_refl _
 ·by_cases hj:j=i
  ·subst hj;rw [aJ] at hr;cases hr
  ·rw [bG _ _ _ _ hj] at hr;exact ⟨rfl,xs,dp,hr⟩
 ·by_cases hj:j=i
  ·subst hj;rw [aJ] at hx;cases hx
  ·rw [bG _ _ _ _ hj] at hx;exact ⟨rfl,cs,hx⟩
theorem eL {h:eS} {i j:Nat} {n:Nat} (hl:live (dN h i (n,.none)) j):j≠i∧live h j:=by
 unfold live at *
 by_cases hj:j=i
 ·subst hj;rw [aJ] at hl;exact absurd rfl hl
 ·rw [bG _ _ _ _ hj] at hl;exact ⟨hj,hl⟩
theorem eZ {h:eS} {i j:Nat} {n:Nat} (hl:bT (dN h i (n,.none)) j):j≠i∧bT h j:=by
 unfold bT at *
 by_cases hj:j=i
 ·subst hj;rw [aJ] at hl;obtain ⟨_,_,_,hl⟩:=hl;cases hl
 ·rw [bG _ _ _ _ hj] at hl;exact ⟨hj,hl⟩
theorem kU {h:eS} {i:Nat} (hd:bT h i):live h i:=by
 obtain ⟨_,_,_,hd⟩:=hd
 unfold live
 rw [hd];simp
theorem gF.cU {base:Nat} {g g':Gh} {h h':eS} {w w':World} {i:Nat} {o:lG} (T:bU g g' h h' w w') (hv:g'.val i=g.val i) (hf:g'.fp i=g.fp i)
  (hbl : ∀b,fS (g.val i)=some b→w'.heap[b]? = w.heap[b]?) (ho:gF base g h w i o):gF base g' h' w' i o:=by
 cases o with
 | none=>trivial
 | box t cells =>
  obtain ⟨b,vals,h1,h2,h3,h4⟩:=ho
  exact ⟨b,vals,hv.trans h1,by rw [T.Q];exact h2,(hbl b (by rw [h1];rfl)).trans h3,h4.cU T⟩
 | pin j ver u =>
  obtain ⟨h0,h1,h2⟩:=ho
  refine ⟨hv.trans h0,Nat.le_trans h1 (T.ver j),fun he e sz xs dp hr => ?_⟩
  have h3:=T.ver j
  have h4:(h' j).1=(h j).1:=by omega
  obtain ⟨h5,xs0,dp0,h6⟩:=T.row _ _ _ _ _ h4 hr
  rw [h5]
  exact h2 (by omega) _ _ _ _ h6
 | row e sz xs dp =>
  obtain ⟨cells,h1,h2,h3,h4,h5⟩:=ho
  refine ⟨cells,⟨h1.1,?_⟩,h2,?_,?_,?_⟩
  ·rw [hv]
   rcases h1.2 with h6 | ⟨gg,cap,cur,h6,h7,h8,h9⟩
   ·exact .inl h6
   ·exact .inr ⟨gg,cap,cur,h6,h7,(hbl gg (by rw [h6];rfl)).trans h8,h9⟩
  ·rw [hf,T.Q];exact h3.eU fun b x=>T.Sw b (h4 b x)
  ·rw [hf];exact fun b x=>T.S b (h4 b x)
  ·rw [hf];exact fun hd=>(h5 hd).eU fun b x=>T.Sw b (h4 b x)
theorem Inv.drop {base:Nat} {g:Gh} {h:eS} {w:World} {pool:List Nat} (I:Inv base g h w pool) (i:Nat):Inv base g (dN h i ((h i).1,.none)) w pool:=by
 have T:bU g g h (dN h i ((h i).1,.none)) w w:=bU.drop i g.S fun _ x=>x
 refine ⟨I.base_le,I.S_old,I.S_lt,fun j => ?_,fun j b hl=>I.mtb j b (eL hl).2,fun j k b hne hl hk=>I.inj j k b hne (eL hl).2 (eL hk).2,
  fun j k hne hd he=>I.dis j k hne (eZ hd).2 (eZ he).2,I.pool_own,I.pool_S,fun j hd=>I.pool_dis j (eZ hd).2,I.fb⟩
 by_cases hj:j=i
 ·subst hj;rw [aJ];trivial
 ·rw [bG _ _ _ _ hj];exact gF.cU T rfl rfl (fun _ _=>rfl) (I.obj j)
theorem Inv.take {base:Nat} {g:Gh} {h:eS} {w:World} {pool:List Nat} (I:Inv base g h w pool) {i:Nat} {e:TypeId} {sz:Nat} {xs:List (List D)} {dp:Bool} (hi:(h i).2 = .row e sz xs dp) :
  ∃S' F,(∀b,g.S b→S' b)∧(∀b,S' b→g.S b∨fS (g.val i)=some b)∧Rep w (.sl xs) (g.val i) F∧(dp=true→gI g.Q.L w (.sl xs) (some (e,sz)) (g.val i) F)∧F=(g.val i).ownBlock.toList++g.fp i∧(∀b∈F,S' b)∧(dp=true→(∀b∈F,b∉pool)) ∧
   Inv base { g with S:=S' } (dN h i ((h i).1,.none)) w (if dp then pool++F else pool):=by
 have ho:=I.obj i
 rw [hi] at ho
 obtain ⟨cells,h1,h2,h3,h4,h5⟩:=ho
 have hlive:live h i:=by unfold live;rw [hi];simp
 rcases h1.2 with ⟨hv,hn⟩ | ⟨gg,cap,cur,hv,hb,hh,hnc,hcm,hcs,htk⟩
 ·-- nil: nothing to own
  have hx:xs=[]:=List.eq_nil_of_length_eq_zero hn
  subst hx
  have I':=I.drop i
  have hG:g.fp i=[]∧cells=[]:=by have:=h3.rep;simp only [aC] at this;exact ⟨this.2,this.1⟩
  refine ⟨g.S,[],fun _ x=>x,fun _ x=>.inl x,?_,fun _ => ?_,by rw [hv,hG.1];rfl,by simp,by simp,?_⟩
  ·simp only [Rep];exact ⟨none,0,0,hv,rfl,Nat.le_refl _,.inl (by simp)⟩
  ·simp only [gI];exact ⟨[],[],by rw [hv];exact World.ownsRow_nil w 0 e sz,by simp,by rw [hv];rfl,by simp [bQ]⟩
  ·have:(if dp then pool++[] else pool)=pool:=by cases dp<;>simp
   rw [this];exact I'
 ·have hgg:gg<w.heap.size:=(Array.getElem?_eq_some_iff.1 hh).1
  have hom:fS (g.val i)=some gg:=by rw [hv];rfl
  have hnS : ¬g.S gg:=I.mtb i gg hlive hom
  let S':Nat→Prop:=fun b=>g.S b∨b=gg
  have T:bU g { g with S:=S' } h (dN h i ((h i).1,.none)) w w:=bU.drop i S' fun _ x=>.inl x
  ·refine ⟨S',gg::g.fp i,fun _ x=>.inl x,(by rintro b (x | rfl);exact .inl x;exact .inr hom),?_,fun hd => ?_,by rw [hv];rfl,?_,?_,?_⟩
   ·simp only [Rep]
    refine ⟨_,_,cap,hv,rfl,hnc,.inr ⟨gg,0,cells,sz,g.fp i,rfl,hgg,rfl,?_,h1.1,h2,h3.rep⟩⟩
    intro j u hu
    have:=h1.cells (g:=gg) (by rw [hv];rfl) j u hu
    rw [Addr.add_lit] at this
    exact this
   ·simp only [gI]
    have h3':bQ g.Q.L w xs e cells (g.fp i):=by have:=h3;unfold aR at this;rw [if_pos hd] at this;exact this
    exact ⟨cells,g.fp i,⟨h1.1,by rcases h1.2 with h6 | ⟨g1,c1,u1,h6,h7,h8⟩;exact .inl h6;exact .inr ⟨g1,c1,u1,h6,Nat.zero_le _,h8⟩⟩,h2,by rw [hv];rfl,h3'⟩
   ·intro b hb'
    rcases List.mem_cons.1 hb' with rfl | hb'
    ·exact .inr rfl
    ·exact .inl (h4 b hb')
   ·intro hd b hb'
    rcases List.mem_cons.1 hb' with rfl | hb'
    ·exact fun hp=>hnS (I.pool_S _ hp)
    ·exact I.pool_dis i ⟨e,sz,xs,by rw [hi,hd]⟩ b hb'
   ·have hobj : ∀j,gF base { g with S:=S' } (dN h i ((h i).1,.none)) w j (dN h i ((h i).1,.none) j).2:=by
     intro j
     by_cases hj:j=i
     ·subst hj;rw [aJ];trivial
     ·rw [bG _ _ _ _ hj];exact gF.cU T rfl rfl (fun _ _=>rfl) (I.obj j)
    have hmut : ∀j b,live (dN h i ((h i).1,.none)) j→fS (g.val j)=some b → ¬S' b:=by
     intro j b hl hb' hS
     obtain ⟨hne,hl⟩:=eL hl
     rcases hS with hS | rfl
     ·exact I.mtb j b hl hb' hS
     ·exact I.inj j i _ hne hl hlive hb' hom
    have hSold : ∀b,S' b→b<base→g.Q b:=by
     rintro b (hS | rfl) hlt
     ·exact I.S_old b hS hlt
     ·omega
    have hSlt : ∀b,S' b→b<w.heap.size:=by
     intro b hS
     rcases hS with hS | rfl
     ·exact I.S_lt b hS
     ·exact hgg
    cases dp with
    | false =>
     exact ⟨I.base_le,hSold,hSlt,hobj,hmut,fun j k b hne hl hk=>I.inj j k b hne (eL hl).2 (eL hk).2,
      fun j k hne hd he=>I.dis j k hne (eZ hd).2 (eZ he).2,I.pool_own,fun b x=>.inl (I.pool_S b x),fun j hd=>I.pool_dis j (eZ hd).2,I.fb⟩
    | true =>
     have hdi:bT h i:=⟨e,sz,xs,hi⟩
     have hown:=h5 rfl
     refine ⟨I.base_le,hSold,hSlt,hobj,hmut,fun j k b hne hl hk=>I.inj j k b hne (eL hl).2 (eL hk).2,
      fun j k hne hd he=>I.dis j k hne (eZ hd).2 (eZ he).2,⟨?_,?_⟩,?_,?_,I.fb⟩
     ·simp only [if_true]
      rw [List.nodup_append]
      refine ⟨I.pool_own.1,List.nodup_cons.2 ⟨fun hm=>hnS (h4 _ hm),hown.1⟩,?_⟩
      rintro a ha b hb' rfl
      rcases List.mem_cons.1 hb' with rfl | hb'
      ·exact hnS (I.pool_S _ ha)
      ·exact I.pool_dis i hdi _ hb' ha
     ·simp only [if_true]
      intro b hm
      rcases List.mem_append.1 hm with hm | hm
      ·exact I.pool_own.2 b hm
      ·rcases List.mem_cons.1 hm with rfl | hm
       ·exact ⟨hb,cur,e,hh⟩
       ·exact hown.2 b hm
     ·simp only [if_true]
      intro b hm
      rcases List.mem_append.1 hm with hm | hm
      ·exact .inl (I.pool_S b hm)
      ·rcases List.mem_cons.1 hm with rfl | hm
       ·exact .inr rfl
       ·exact .inl (h4 b hm)
     ·simp only [if_true]
      intro j hd b hm hm'
      obtain ⟨hne,hd⟩:=eZ hd
      rcases List.mem_append.1 hm' with hm' | hm'
      ·exact I.pool_dis j hd b hm hm'
      ·rcases List.mem_cons.1 hm' with rfl | hm'
       ·have ho:=I.obj j
        obtain ⟨e',sz',xs',hj⟩:=hd
        rw [hj] at ho
        obtain ⟨_,_,_,_,h4',_⟩:=ho
        exact hnS (h4' _ hm)
       ·exact I.dis j i hne hd hdi b hm hm'
end Go.Sh
namespace Go.Sh
set_option linter.unusedVariables false
set_option linter.unusedSimpArgs false
open Go.RowKit
def aAz:Value→Option SC
 | .int k n=>some (.dat (.int k n))
 | .bool b=>some (.dat (.bool b))
 | .string s=>some (.dat (.str s))
 | .slice none 0 0=>some .nil
 | _=>none
def pO:List Value→Option (List SC)
 | []=>some []
 | v::vs=>match aAz v,pO vs with
  | some c,some cs=>some (c::cs)
  | _,_=>none
def yF:TypeDesc→Bool
 | .struct _ | .array _ _=>true
 | _=>false
def lO (P:Program) (t:TypeId):Bool:=match P.underlying t with | some d=>yF d | none=>false
def rO (P:Program):TypeDesc→Option TK
 | .struct fields=>match fields.toList.mapM (fun f=>(P.info? f.type).map fun i=>(f.offset,i.size)) with
  | some pl=>if fields.toList.all (fun f=>(P.underlying f.type).isSome)=true then some (.struct ((pl.zip (fields.toList.map fun f=>lO P f.type)).map fun x=>(x.1.1,x.1.2,x.2))) else none
  | none=>none
 | .array n e=>some (.arr e n)
 | .slice e=>some (.slice e)
 | .int k=>some (.int k)
 | .bool=>some .bool
 | .string=>some .str
 | _=>some .other
def hT (P:Program) (f:TypeId→Option (List LK)):Nat→List Field→Option (List LK)
 | _,[]=>some []
 | off, x :: xs => if x.offset = off ∧ x.name ≠ "_" ∧ (P.info? x.type).isSome = true then (match f x.type, hT P f (off + P.cellsOf x.type) xs with
   | some a,some b=>if a.length=P.cellsOf x.type then some (a++b) else none
   | _,_=>none) else none
def iS (P:Program):Nat→TypeId→Option (List LK)
 | 0,_=>none
 | n+1,t=>match P.underlying t with
  | some (.int _)=>some [.int]
  | some .bool=>some [.bool]
  | some .string=>some [.str]
  | some (.struct fs)=>if P.stoodInHeld t=false then hT P (iS P n) 0 fs.toList else none
  | _=>none
def aAM (P:Program) (t:TypeId):List LK:=if lO P t=true∧P.eqGuardType P.depth t=false then (iS P 8 t).getD [] else []
def dA (P:Program) (t:TypeId):Option TI:=
 match P.info? t,P.underlying t with
 | some i,some d=>match i.zero,rO P d with
  | some z,some k=>match pO z.cells.toList with
   | some zs=>if z.cells.size=i.size∧(yF d=true∨i.size=1) then some { k:=k,size:=i.size,bytes:=i.bytes,zero:=zs,cmp:=aAM P t,sl:=slP P t } else none
   | none=>none
  | _,_=>none
 | _,_=>none
structure TOk (P:Program) (t:TypeId) (ti:TI):Prop where
 ok : ∃i d z,P.info? t=some i∧P.underlying t=some d∧i.zero=some z∧rO P d=some ti.k∧pO z.cells.toList=some ti.zero∧z.cells.size=i.size∧i.size=ti.size∧i.bytes=ti.bytes∧(yF d=true∨i.size=1)
 cmp:ti.cmp=aAM P t
 sl:ti.sl=slP P t
theorem aY {P:Program} {t:TypeId} {ti:TI} (h:dA P t=some ti):TOk P t ti:=by
 unfold dA at h
 split at h
 ·rename_i i d hi hd
  split at h
  ·rename_i z k hz hk
   split at h
   ·rename_i zs hzs
    split at h
    ·rename_i hs
     simp at h
     subst h
     exact ⟨⟨i,d,z,hi,hd,hz,hk,hzs,hs.1,rfl,rfl,hs.2⟩,rfl,rfl⟩
    ·cases h
   ·cases h
  ·cases h
 ·cases h
theorem yG {v:Value} {c:SC} (h:aAz v=some c) (g:Gh) (hp:eS) (w:World):fW g hp w c v:=by
 unfold aAz at h
 split at h<;>cases h
 ·exact ⟨[],by simp [Rep],by simp⟩
 ·exact ⟨[],by simp [Rep],by simp⟩
 ·exact ⟨[],by simp [Rep],by simp⟩
 ·rfl
theorem hP : ∀ {vs:List Value} {cs:List SC},pO vs=some cs → ∀(g:Gh) (hp:eS) (w:World),aD g hp w cs vs
 | [],cs,h,g,hp,w=>by simp [pO] at h;subst h;rfl
 | v::vs,cs,h,g,hp,w=>by
  simp only [pO] at h
  split at h
  ·rename_i c cs' hc hcs
   cases h
   exact ⟨v,vs,rfl,yG hc g hp w,hP hcs g hp w⟩
  ·cases h
theorem aAa (v:Value) (g:Gh) (hp:eS) (w:World):dW g hp w (cst v) v:=by
 unfold cst
 split
 ·exact ⟨_,[],rfl,⟨[],by simp [Rep],by simp⟩,rfl⟩
 ·exact ⟨_,[],rfl,⟨[],by simp [Rep],by simp⟩,rfl⟩
 ·exact ⟨_,[],rfl,⟨[],by simp [Rep],by simp⟩,rfl⟩
 ·exact ⟨_,[],rfl,rfl,rfl⟩
 ·trivial
def qV (l:Option Nat) (h:eS) (g:Gh):Prop:=∀b,l=some b→1≤(h 7059000).1 ∧ ∀t cs,h 7059000=(1,.box t cs)→g.val 7059000 = .pointer (some ⟨b,0,none⟩)
theorem qV.cU {g g':Gh} {h h':eS} {w w':World} {l:Option Nat} (T:bU g g' h h' w w') (hl:qV l h g):qV l h' g':=fun b hb=>by
 obtain ⟨h1,h2⟩:=hl b hb
 have h3:=T.ver 7059000
 refine ⟨by omega,fun t cs hh => ?_⟩
 have h4:(h' 7059000).1=1:=by rw [hh]
 obtain ⟨h5,cs0,h6⟩:=T.box 7059000 t cs (by omega) (by rw [hh])
 rw [h5]
 refine h2 t cs0 ?_
 have h7:(h 7059000).1=1:=by omega
 rw [←h7,←h6]
structure bY (P:Program) (base:Nat) (w0:W0) (N:Nat) (g:Gh) (s:St) (a:Act) (w:World) (pool:List Nat):Prop where
 defers:a.defers=[]
 size:a.tmps.size=N
 below:Below w0.Q.fb w0.w w
 q:(∀b,g.Q b→w0.Q b)∧g.Q.fb=w0.Q.fb∧qV w0.Q.lent s.h g
 eU : ∀b,w0.K b→g.S b∧w.heap[b]? = w0.w.heap[b]?
 inv:Inv base g s.h w pool
 tmp : ∀t,dW g s.h w (s.t t) (a.tmps.getD t undef)
 lab:g.Q.L=w0.Q.L∧(w0.Q.L=slP P∨w0.Q.L=wT)
 frm : ∀i,dW g s.h w (s.fr i) (w0.fv i)
def Rel (P:Program) (base:Nat) (w0:W0) (N:Nat) (s:St) (a:Act) (w:World):Prop:=∃g,bY P base w0 N g s a w []
section
variable {P:Program} {base N:Nat} {w0:W0} {w:World} {g:Gh} {s:St} {a:Act} {pool:List Nat} {K:St→Prop}
theorem aN (R:bY P base w0 N g s a w pool) {x:Operand} {k:SV→Prog} (h:ex P (vOp x k) s K) : ∃sv,dW g s.h w sv (a.eval x)∧ex P (k sv) s K:=by
 cases x with
 | tmp t=>exact ⟨s.t t,R.tmp t,h⟩
 | const c=>exact ⟨cst c,aAa c g s.h w,h⟩
 | func f=>exact ⟨.v false [.dat (.fn f [])],⟨_,[],rfl,⟨[],by simp only [Rep];exact ⟨[],rfl,by simp [aA]⟩,by simp⟩,rfl⟩,h⟩
 | global gl=>exact h.elim
theorem zA {a:Act} {N d t:Nat} {v:Value} (hs:a.tmps.size=N) (hd:d<N):(a.put (some d) v).tmps.getD t undef=if t=d then v else a.tmps.getD t undef:=by
 simp only [Act.put,Array.getD_eq_getD_getElem?,Array.getElem?_setIfInBounds]
 by_cases h:d=t
 ·subst h;simp [hs,hd]
 ·have h' : ¬t=d:=fun e=>h e.symm
  simp [h,h']
theorem fT (R:bY P base w0 N g s a w pool) {dst:Option Tmp} {sv:SV} {v:Value} (hv:dW g s.h w sv v) (h:ex P (put N dst sv) s K) : ∃s',K s'∧bY P base w0 N g s' (a.put dst v) w pool:=by
 cases dst with
 | none=>exact ⟨s,h,R⟩
 | some d =>
  unfold put at h
  simp only at h
  split at h
  ·rename_i hd
   refine ⟨s.kD d sv,h,⟨R.defers,by simp [Act.put,R.size],R.below,R.q,R.eU,R.inv,fun t => ?_,R.lab,R.frm⟩⟩
   rw [zA R.size hd,St.jV]
   by_cases ht:t=d
   ·simp only [ht,if_true];exact hv
   ·simp only [ht,if_false];exact R.tmp t
  ·exact h.elim
theorem Inv.forget {h:eS} (I:Inv base g h w pool):Inv base g h w []:=
 ⟨I.base_le,I.S_old,I.S_lt,I.obj,I.mtb,I.inj,I.dis,fI.nil _ _,by simp,fun _ _ _ _=>by simp,I.fb⟩
theorem bY.forget (R:bY P base w0 N g s a w pool):bY P base w0 N g s a w []:=⟨R.defers,R.size,R.below,R.q,R.eU,R.inv.forget,R.tmp,R.lab,R.frm⟩
theorem bY.fbb (R:bY P base w0 N g s a w pool):w0.Q.fb≤base:=R.q.2.1 ▸ R.inv.fb
theorem bY.bel (R:bY P base w0 N g s a w pool) {w':World} (h:Below base w w'):Below w0.Q.fb w0.w w':=R.below.trans (h.mono R.fbb)
theorem bY.cU {g':Gh} {s':St} {w':World} {pool':List Nat} (R:bY P base w0 N g s a w pool) (T:bU g g' s.h s'.h w w') (ht:s'.t=s.t) (hb:Below w0.Q.fb w0.w w') (hI:Inv base g' s'.h w' pool') (hfr:s'.fr=s.fr:=by rfl):bY P base w0 N g' s' a w' pool':=
 ⟨R.defers,R.size,hb,⟨by rw [T.Q];exact R.q.1,by rw [T.Q];exact R.q.2.1,R.q.2.2.cU T⟩,fun b hb=>⟨T.S b (R.eU b hb).1,(T.Sw b (R.eU b hb).1).trans (R.eU b hb).2⟩,hI,fun t=>by rw [ht];exact (R.tmp t).cU T,by rw [T.Q];exact R.lab,fun i=>by rw [hfr];exact (R.frm i).cU T⟩
theorem nH {d:D} {v:Value} {F:List Nat} (h:Rep w d v F) (hf:d.flat=true):F=[]:=by
 cases d<;>simp [D.flat] at hf<;>simp only [Rep] at h<;>exact h.2
theorem gI.flat {L:TL} {w:World} {d:D} {t:Option (TypeId×Nat)} {v:Value} {F:List Nat} (h:Rep w d v F) (hf:d.flat=true):gI L w d t v F:=by
 cases d<;>simp [D.flat] at hf<;>simp only [Rep] at h<;>simp only [gI]<;>exact h
theorem aK.flat {L:TL} {w:World} : ∀ {ds:List D} {ts:Lb} {vs:List Value} {F:List Nat},aA w ds vs F→ds.all D.flat=true→aK L w ds ts vs F
 | [],ts,vs,F,h,_=>by simp only [aA] at h;simp only [aK];exact h
 | d::ds,ts,vs,F,h,hf=>by
  simp only [List.all_cons,Bool.and_eq_true] at hf
  simp only [aA] at h
  obtain ⟨v,vs',F1,F2,h1,h2,h3,h4⟩:=h
  simp only [aK]
  exact ⟨v,vs',F1,F2,h1,h2,gI.flat h3 hf.1,aK.flat h4 hf.2⟩
theorem bQ.flat {L:TL} {w:World} : ∀ {xs:List (List D)} {e:TypeId} {vs:List Value} {F:List Nat},aC w xs vs F→(∀x∈xs,x.all D.flat=true)→bQ L w xs e vs F
 | [],e,vs,F,h,_=>by simp only [aC] at h;simp only [bQ];exact h
 | x::xs,e,vs,F,h,hf=>by
  simp only [aC] at h
  obtain ⟨v1,v2,F1,F2,h1,h2,h3,h4⟩:=h
  simp only [bQ]
  exact ⟨v1,v2,F1,F2,h1,h2,aK.flat h3 (hf x (by simp)),bQ.flat h4 fun y hy=>hf y (by simp [hy])⟩
theorem aR.flat {L:TL} {m:Bool} {w:World} {xs:List (List D)} {e:TypeId} {vs:List Value} {F:List Nat} (h:aC w xs vs F) (hf : ∀x∈xs,x.all D.flat=true):aR L m w e xs vs F:=by
 cases m with
 | true=>exact bQ.flat h hf
 | false=>exact h
theorem bQ.toL (R:bY P base w0 N g s a w pool) {xs:List (List D)} {e:TypeId} {vs:List Value} {F:List Nat} (h:bQ (slP P) w xs e vs F):bQ g.Q.L w xs e vs F:=by
 rw [R.lab.1]
 rcases R.lab.2 with hl | hl
 ·rw [hl];exact h
 ·rw [hl];exact bQ.sD h.rep
theorem aK.toL (R:bY P base w0 N g s a w pool) {te:TI} {e:TypeId} (hte:dA P e=some te) (off:Nat) {ds:List D} {vs:List Value} {F:List Nat} (h:aK g.Q.L w ds (te.sl.drop off) vs F):aK g.Q.L w ds ((g.Q.L e).drop off) vs F:=by
 rcases R.lab.2 with hl | hl
 ·have:g.Q.L e=te.sl:=by rw [R.lab.1,hl];exact (aY hte).sl.symm
  rw [this];exact h
 ·have:g.Q.L e=[]:=by rw [R.lab.1,hl];rfl
  rw [this,List.drop_nil];exact aK.none h.rep
theorem iC : ∀ {cs:List SC} {ts:Lb} {vs:List Value} {k:List D→Bool→Prog} {g:Gh} {s:St} {pool:List Nat},bY P base w0 N g s a w pool→aD g s.h w cs vs→ex P (eK cs ts k) s K →
  ∃g' s' ds b F pool',ex P (k ds b) s' K∧bY P base w0 N g' s' a w pool'∧bU g g' s.h s'.h w w∧s'.t=s.t∧aA w ds vs F∧(∀x∈F,g'.S x)∧(b=true→pool'=pool++F∧aK g.Q.L w ds ts vs F)
 | [],ts,vs,k,g,s,pool,R,hc,h=>⟨g,s,[],true,[],pool,h,R,bU.refl _ _ _,rfl,by simp only [aA];exact ⟨hc,trivial⟩,by simp,fun _=>⟨by simp,by simp only [aK];exact ⟨hc,trivial⟩⟩⟩
 | .dat d::cs,ts,vs,k,g,s,pool,R,hc,h=>by
  obtain ⟨v,vs',rfl,⟨F1,h1,h2⟩,h3⟩:=hc
  obtain ⟨g',s',ds,b,F,pool',h4,h5,h6,h6t,h7,h8,h9⟩:=iC R h3 h
  refine ⟨g',s',d::ds,d.flat&&b,F1++F,pool',h4,h5,h6,h6t,?_,?_,?_⟩
  ·simp only [aA];exact ⟨v,vs',F1,F,rfl,rfl,h1,h7⟩
  ·intro x hx
   rcases List.mem_append.1 hx with hx | hx
   ·exact h6.S x (h2 x hx)
   ·exact h8 x hx
  ·intro hb
   simp at hb
   have e0:=nH h1 hb.1
   subst e0
   refine ⟨by rw [List.nil_append];exact (h9 hb.2).1,?_⟩
   simp only [aK]
   exact ⟨v,vs',[],F,rfl,rfl,gI.flat h1 hb.1,(h9 hb.2).2⟩
 | .nil::cs,ts,vs,k,g,s,pool,R,hc,h=>by
  obtain ⟨v,vs',rfl,h1,h3⟩:=hc
  obtain ⟨g',s',ds,b,F,pool',h4,h5,h6,h6t,h7,h8,h9⟩:=iC R h3 h
  refine ⟨g',s',.sl []::ds,_,F,pool',h4,h5,h6,h6t,?_,h8,fun hb => ?_⟩
  ·simp only [aA]
   refine ⟨v,vs',[],F,rfl,rfl,?_,h7⟩
   simp only [Rep]
   exact ⟨none,0,0,h1,rfl,Nat.le_refl _,.inl (by simp)⟩
  ·refine ⟨(h9 hb).1,?_⟩
   simp only [aK]
   refine ⟨v,vs',[],F,rfl,rfl,?_,(h9 hb).2⟩
   cases lab ts with
   | none=>simp only [gI,Rep];exact ⟨none,0,0,h1,rfl,Nat.le_refl _,.inl (by simp)⟩
   | some t=>simp only [gI];exact ⟨[],[],by rw [h1];exact World.ownsRow_nil w 0 t.1 t.2,by simp,by rw [h1];rfl,by simp [bQ]⟩
 | .row i ver::cs,ts,vs,k,g,s,pool,R,hc,h=>by
  obtain ⟨v,vs',rfl,⟨h0,h1,h2⟩,h3⟩:=hc
  simp only [eK,ex] at h
  split at h
  ·rename_i e sz xs dp ho
   split at h
   ·rename_i hv
    have hval:=h2 hv e sz xs dp ho
    obtain ⟨S',F1,hS,_,hr,hst,_,hF,hn,hI⟩:=R.inv.take ho
    have T:bU g { g with S:=S' } s.h (dN s.h i ((s.h i).1,.none)) w w:=bU.drop i S' hS
    rw [hv] at T hI
    have R':bY P base w0 N { g with S:=S' } (s.bL i (ver,.none)) a w (if dp then pool++F1 else pool):=R.cU T rfl R.below hI
    obtain ⟨g',s',ds,b,F,pool',h4,h5,h6,h6t,h7,h8,h9⟩:=iC R' (h3.cU T) h
    refine ⟨g',s',.sl xs::ds,_,F1++F,pool',h4,h5,?_,h6t,?_,?_,?_⟩
    ·exact ⟨fun b x=>h6.S b (hS b x),fun b x=>rfl,fun j=>Nat.le_trans (T.ver j) (h6.ver j),
      fun j e sz xs dp hj hr=>by
       have v1:=T.ver j
       have v2:=h6.ver j
       obtain ⟨e1,x1,d1,r1⟩:=h6.row j e sz xs dp (by simp only [St.bL] at *;unfold dN at *;omega) hr
       obtain ⟨e2,x2,d2,r2⟩:=T.row j e sz x1 d1 (by simp only [St.bL] at *;unfold dN at *;omega) r1
       exact ⟨e1.trans e2,x2,d2,r2⟩,
      fun j t cs hj hr=>by
       have v1:=T.ver j
       have v2:=h6.ver j
       obtain ⟨e1,x1,r1⟩:=h6.box j t cs (by simp only [St.bL] at *;unfold dN at *;omega) hr
       obtain ⟨e2,x2,r2⟩:=T.box j t x1 (by simp only [St.bL] at *;unfold dN at *;omega) r1
       exact ⟨e1.trans e2,x2,r2⟩,h6.Q.trans T.Q⟩
    ·simp only [aA];exact ⟨v,vs',F1,F,rfl,rfl,hval ▸ hr,h7⟩
    ·intro x hx
     rcases List.mem_append.1 hx with hx | hx
     ·exact h6.S x (hF x hx)
     ·exact h8 x hx
    ·intro hb
     split at hb
     ·rename_i hl
      simp at hb
      refine ⟨by rw [(h9 hb.2).1,hb.1];simp,?_⟩
      simp only [aK]
      exact ⟨v,vs',F1,F,rfl,rfl,by rcases hl with hl | hl;rw [hl,hval];exact gI.none hr;rw [hl,hval];exact hst hb.1,(h9 hb.2).2⟩
     ·cases hb
   ·exact h.elim
  ·exact h.elim
 | .bp _ _ _::_,_,_,_,_,_,_,_,_,h=>h.elim
 | .rp _ _ _ _::_,_,_,_,_,_,_,_,_,h=>h.elim
 | .clo _ _::_,_,_,_,_,_,_,_,_,h=>h.elim
 | .old _ _ _::_,_,_,_,_,_,_,_,_,h=>h.elim
 | .part _ _ _ _::_,_,_,_,_,_,_,_,_,h=>h.elim
 | .exa _ _ _::_,_,_,_,_,_,_,_,_,h=>h.elim
theorem pM {L:TL} {dp:Bool} {e:TypeId} {xs:List (List D)} {cells:List Value} {G:List Nat} {sz lo n:Nat} (hr:aR L dp w e xs cells G) (hx : ∀x∈xs,x.length=sz) (hln:n=0∨lo+n≤xs.length) :
  ∃c1 c2 c3 F1 F2 F3,cells=c1++(c2++c3)∧G=F1++(F2++F3)∧(lo≤xs.length→c1.length=lo*sz)∧c2.length=n*sz∧aR L dp w e (xs.take lo) c1 F1∧aR L dp w e ((xs.drop lo).take n) c2 F2∧aR L dp w e (xs.drop (lo+n)) c3 F3:=by
 have hs:xs=xs.take lo++((xs.drop lo).take n++xs.drop (lo+n)):=by
  rw [←List.drop_drop,List.take_append_drop,List.take_append_drop]
 rw [hs] at hr
 obtain ⟨c1,v2,F1,G2,rfl,rfl,r1,r2⟩:=aR.split hr
 obtain ⟨c2,c3,F2,F3,rfl,rfl,r3,r4⟩:=aR.split r2
 refine ⟨c1,c2,c3,F1,F2,F3,rfl,rfl,?_,?_,r1,r3,r4⟩
 ·intro h
  ·rw [aC.length r1.rep fun x hx'=>hx x (List.mem_of_mem_take hx'),List.length_take,Nat.min_eq_left (by omega)]
 ·rw [aC.length r3.rep fun x hx'=>hx x (List.mem_of_mem_drop (List.mem_of_mem_take hx')),List.length_take,List.length_drop]
  congr 1;rcases hln with h | h<;>omega
theorem xP {b off:Nat} {c1 c2 c3:List Value} (h:fP w b off (c1++(c2++c3))):fP w b (off+c1.length) c2:=by
 intro j u hu
 rw [Nat.add_assoc]
 refine h (c1.length+j) u ?_
 rw [List.getElem?_append_right (by omega),Nat.add_sub_cancel_left]
 have hj:j<c2.length:=(List.getElem?_eq_some_iff.1 hu).1
 rw [List.getElem?_append_left hj]
 exact hu
theorem lU {e:TypeId} {sz n:Nat} {v:Value} {xs ys:List Value} (h:w.ownsRow base e sz v n xs) (k:w.ownsRow base e sz v n ys):xs=ys:=by
 rcases h.2 with ⟨e1,e0⟩ | ⟨gg,cap,cur,e1,e2,e3,e4,e5,e6,e7⟩
 ·have a1:=h.1;have a2:=k.1
  rw [e0] at a1 a2
  rw [List.eq_nil_of_length_eq_zero (by omega:xs.length=0),List.eq_nil_of_length_eq_zero (by omega:ys.length=0)]
 ·rcases k.2 with ⟨f1,_⟩ | ⟨gg',cap',cur',f1,f2,f3,f4,f5,f6,f7⟩
  ·rw [e1] at f1;cases f1
  ·rw [e1] at f1;cases f1
   rw [e3] at f3;cases f3
   exact e7.symm.trans f7
theorem mK (I:Inv base g s.h w pool) {i ver lo n:Nat} {v:Value} {e:TypeId} {sz:Nat} {xs:List (List D)} {dp:Bool} (hc:fW g s.h w (.part i ver lo n) v) (hv:(s.h i).1=ver) (ho:(s.h i).2 = .row e sz xs dp) :
  ∃ad c,v = .slice ad n c∧n≤c∧(n=0∨lo+n≤xs.length)∧(n=0 ∨ ∃b cells,ad=some ⟨b,lo*sz,none⟩∧b<w.heap.size∧w.ownsRow base e sz (g.val i) xs.length cells∧fP w b 0 cells)∧(lo=0 → ∃m,g.val i = .slice ad m c∧n≤m):=by
 obtain ⟨h0,h1,h2⟩:=hc
 obtain ⟨ad,c,rfl,k2,k3,k4⟩:=h2 hv e sz xs dp ho
 have hob:=I.obj i
 rw [ho] at hob
 obtain ⟨cells,p1,p2,p3,p4,p5⟩:=hob
 refine ⟨ad,c,rfl,k2,?_,?_,k4⟩
 ·rcases k3 with k3 | ⟨b,m,c',k5,k6,k7⟩
  ·exact .inl k3
  ·right
   rcases p1.2 with ⟨e1,_⟩ | ⟨gg,cap,cur,e1,_⟩
   ·rw [k5] at e1;cases e1
   ·rw [k5] at e1;cases e1;exact k6
 ·rcases k3 with k3 | ⟨b,m,c',k5,k6,k7⟩
  ·exact .inl k3
  ·right
   rw [k5] at p1
   rcases p1.2 with ⟨e1,_⟩ | ⟨gg,cap,cur,e1,e2,e3,e4,e5,e6,e7⟩
   ·cases e1
   ·cases e1
    refine ⟨_,cells,k7,(Array.getElem?_eq_some_iff.1 e3).1,by rw [k5];exact p1,fun j u hu => ?_⟩
    have hj:j<cells.length:=(List.getElem?_eq_some_iff.1 hu).1
    rw [Nat.zero_add,p1.cellAt j (by rw [←p1.1];exact hj)]
    exact hu
theorem iY (I:Inv base g s.h w pool) {i:Nat} {e:TypeId} {sz:Nat} {xs:List (List D)} {dp:Bool} (ho:(s.h i).2 = .row e sz xs dp) : ∃F,Rep w (.sl xs) (g.val i) F:=by
 obtain ⟨_,F,_,_,hr,_⟩:=I.take ho
 exact ⟨F,hr⟩
theorem jF (I:Inv base g s.h w pool) : ∀ {cs:List SC} {vs:List Value} {k:List D→Prog},aD g s.h w cs vs→ex P (gD cs k) s K → ∃ds F,aA w ds vs F∧ex P (k ds) s K
 | [],vs,k,hc,h=>⟨[],[],by simp only [aA];exact ⟨hc,trivial⟩,h⟩
 | .dat d::cs,vs,k,hc,h=>by
  obtain ⟨v,vs',rfl,⟨F1,h1,h2⟩,h3⟩:=hc
  obtain ⟨ds,F,h4,h5⟩:=jF I h3 h
  exact ⟨d::ds,F1++F,by simp only [aA];exact ⟨v,vs',F1,F,rfl,rfl,h1,h4⟩,h5⟩
 | .old B d u::cs,vs,k,hc,h=>by
  obtain ⟨v,vs',rfl,⟨F1,h1,h2,_⟩,h3⟩:=hc
  obtain ⟨ds,F,h4,h5⟩:=jF I h3 h
  exact ⟨d::ds,F1++F,by simp only [aA];exact ⟨v,vs',F1,F,rfl,rfl,h1,h4⟩,h5⟩
 | .nil::cs,vs,k,hc,h=>by
  obtain ⟨v,vs',rfl,h1,h3⟩:=hc
  obtain ⟨ds,F,h4,h5⟩:=jF I h3 h
  refine ⟨.sl []::ds,F,?_,h5⟩
  simp only [aA]
  refine ⟨v,vs',[],F,rfl,rfl,?_,h4⟩
  simp only [Rep]
  exact ⟨none,0,0,h1,rfl,Nat.le_refl _,.inl (by simp)⟩
 | .row i ver::cs,vs,k,hc,h=>by
  obtain ⟨v,vs',rfl,⟨h0,h1,h2⟩,h3⟩:=hc
  simp only [gD,ex] at h
  split at h
  ·rename_i e sz xs dp ho
   split at h
   ·rename_i hv
    have hval:=h2 hv e sz xs dp ho
    obtain ⟨F1,hr⟩:=iY I ho
    obtain ⟨ds,F,h4,h5⟩:=jF I h3 h
    exact ⟨.sl xs::ds,F1++F,by simp only [aA];exact ⟨v,vs',F1,F,rfl,rfl,hval ▸ hr,h4⟩,h5⟩
   ·exact h.elim
  ·exact h.elim
 | .bp _ _ _::_,_,_,_,h=>h.elim
 | .rp _ _ _ _::_,_,_,_,h=>h.elim
 | .clo _ _::_,_,_,_,h=>h.elim
 | .part _ _ _ _::_,_,_,_,h=>h.elim
 | .exa _ _ _::_,_,_,_,h=>h.elim
theorem nK (I:Inv base g s.h w pool) {i ver off:Nat} {v:Value} {k:List D→Prog} (hc:nM g s.h (i,ver,off) v) (h:ex P (iI i ver off k) s K) :
  ∃ds F,Rep w (.ptr ds) v F∧ex P (k ds) s K:=by
 simp only [iI,ex] at h
 split at h
 ·rename_i t cells ho
  split at h
  ·rename_i hv
   obtain ⟨b,h1,h2⟩:=hc.2 hv t cells ho
   have hob:=I.obj i
   rw [ho] at hob
   obtain ⟨b',vals,h3,h4,h5,h6⟩:=hob
   have hbb:b'=b:=by rw [h1] at h3;simp at h3;exact h3.symm
   subst hbb
   obtain ⟨ds,F,h7,h8⟩:=jF I (h6.drop off) h
   refine ⟨ds,b'::F,?_,h8⟩
   simp only [Rep]
   refine ⟨b',off,vals.toList.drop off,F,h2,(Array.getElem?_eq_some_iff.1 h5).1,rfl,?_,h7⟩
   intro j u hu
   rw [cell_of_row w b' _ vals t (0,0) h5]
   simpa using hu
  ·exact h.elim
 ·exact h.elim
theorem jE (I:Inv base g s.h w pool) : ∀ {cs:List (Nat×Nat×Nat)} {vs:List Value} {k:List D→Prog},iE g s.h cs vs→ex P (fY cs k) s K → ∃ds F,aA w ds vs F∧ex P (k ds) s K
 | [],vs,k,hc,h=>⟨[],[],by simp only [aA];exact ⟨hc,trivial⟩,h⟩
 | (i,ver,off)::cs,vs,k,hc,h=>by
  obtain ⟨v,vs',rfl,h1,h3⟩:=hc
  obtain ⟨ds,F,h4,h5⟩:=nK I h1 h
  obtain ⟨es,G,h6,h7⟩:=jE I h3 h5
  exact ⟨.ptr ds::es,F++G,by simp only [aA];exact ⟨v,vs',F,G,rfl,rfl,h4,h6⟩,h7⟩
theorem eX (I:Inv base g s.h w pool) : ∀ {cs:List SC} {vs:List Value} {k:List D→Prog},aD g s.h w cs vs→ex P (eF cs k) s K → ∃ds F,aA w ds vs F∧ex P (k ds) s K
 | [],vs,k,hc,h=>⟨[],[],by simp only [aA];exact ⟨hc,trivial⟩,h⟩
 | .dat d::cs,vs,k,hc,h=>by
  obtain ⟨v,vs',rfl,⟨F1,h1,h2⟩,h3⟩:=hc
  obtain ⟨ds,F,h4,h5⟩:=eX I h3 h
  exact ⟨d::ds,F1++F,by simp only [aA];exact ⟨v,vs',F1,F,rfl,rfl,h1,h4⟩,h5⟩
 | .nil::cs,vs,k,hc,h=>by
  obtain ⟨v,vs',rfl,h1,h3⟩:=hc
  obtain ⟨ds,F,h4,h5⟩:=eX I h3 h
  refine ⟨.sl []::ds,F,?_,h5⟩
  simp only [aA]
  refine ⟨v,vs',[],F,rfl,rfl,?_,h4⟩
  simp only [Rep]
  exact ⟨none,0,0,h1,rfl,Nat.le_refl _,.inl (by simp)⟩
 | .row i ver::cs,vs,k,hc,h=>by
  obtain ⟨v,vs',rfl,⟨h0,h1,h2⟩,h3⟩:=hc
  simp only [eF,ex] at h
  split at h
  ·rename_i e sz xs dp ho
   split at h
   ·rename_i hv
    have hval:=h2 hv e sz xs dp ho
    obtain ⟨F1,hr⟩:=iY I ho
    obtain ⟨ds,F,h4,h5⟩:=eX I h3 h
    exact ⟨.sl xs::ds,F1++F,by simp only [aA];exact ⟨v,vs',F1,F,rfl,rfl,hval ▸ hr,h4⟩,h5⟩
   ·exact h.elim
  ·exact h.elim
 | .bp i ver off::cs,vs,k,hc,h=>by
  obtain ⟨v,vs',rfl,⟨h0,h1⟩,h3⟩:=hc
  obtain ⟨ds,F,h4,h5⟩:=nK I h1 h
  obtain ⟨es,G,h6,h7⟩:=eX I h3 h5
  exact ⟨.ptr ds::es,F++G,by simp only [aA];exact ⟨v,vs',F,G,rfl,rfl,h4,h6⟩,h7⟩
 | .rp _ _ _ _::_,_,_,_,h=>h.elim
 | .clo f caps::cs,vs,k,hc,h=>by
  obtain ⟨v,vs',rfl,⟨us,h0,h1⟩,h3⟩:=hc
  obtain ⟨ds,F,h4,h5⟩:=jE I h1 h
  obtain ⟨es,G,h6,h7⟩:=eX I h3 h5
  refine ⟨.fn f ds::es,F++G,?_,h7⟩
  simp only [aA]
  refine ⟨v,vs',F,G,rfl,rfl,?_,h6⟩
  simp only [Rep]
  exact ⟨us,h0,h4⟩
 | .old B d u::cs,vs,k,hc,h=>by
  obtain ⟨v,vs',rfl,⟨F1,h1,h2,_⟩,h3⟩:=hc
  obtain ⟨ds,F,h4,h5⟩:=eX I h3 h
  exact ⟨d::ds,F1++F,by simp only [aA];exact ⟨v,vs',F1,F,rfl,rfl,h1,h4⟩,h5⟩
 | .exa W d x::cs,vs,k,hc,h=>by
  obtain ⟨v,vs',rfl,⟨rfl,F1,h1,h2⟩,h3⟩:=hc
  obtain ⟨ds,F,h4,h5⟩:=eX I h3 h
  exact ⟨d::ds,F1++F,by simp only [aA];exact ⟨v,vs',F1,F,rfl,rfl,Rep.eU _ _ _ h1 fun b hb=>(h2 b hb).2,h4⟩,h5⟩
 | .part i ver lo n::cs,vs,k,hc,h=>by
  obtain ⟨v,vs',rfl,hp,h3⟩:=hc
  simp only [eF,ex] at h
  split at h
  ·rename_i e sz xs dp ho
   split at h
   ·rename_i hv
    obtain ⟨ad,c,rfl,q1,q2,q3,_⟩:=mK I hp hv ho
    have hob:=I.obj i
    rw [ho] at hob
    obtain ⟨cells,p1,p2,p3,p4,p5⟩:=hob
    obtain ⟨c1,c2,c3,F1,F2,F3,rfl,hG,m1,m2,m3,m4,m5⟩:=pM (lo:=lo) (n:=n) p3 p2 q2
    obtain ⟨ds,F,h4,h5⟩:=eX I h3 h
    rcases q3 with q3 | ⟨b,cells',q3,q4,q5,q6⟩
    ·refine ⟨.sl ((xs.drop lo).take n)::ds,[]++F,?_,h5⟩
     simp only [aA]
     refine ⟨_,vs',[],F,rfl,rfl,?_,h4⟩
     simp only [Rep]
     exact ⟨ad,n,c,rfl,by rw [q3];simp,q1,.inl ⟨q3,trivial⟩⟩
    ·have hcc:cells'=c1++(c2++c3):=lU q5 p1
     subst hcc
     refine ⟨.sl ((xs.drop lo).take n)::ds,(b::F2)++F,?_,h5⟩
     simp only [aA]
     refine ⟨_,vs',b::F2,F,rfl,rfl,?_,h4⟩
     simp only [Rep]
     by_cases hn:n=0
     ·refine ⟨ad,n,c,rfl,by rw [hn];simp,q1,.inr ⟨b,lo*sz,c2,sz,F2,q3,q4,rfl,?_,m2,fun x hx=>p2 x (List.mem_of_mem_drop (List.mem_of_mem_take hx)),m4.rep⟩⟩
      have:c2=[]:=List.eq_nil_of_length_eq_zero (by rw [m2,hn];simp)
      subst this
      intro j u hu;simp at hu
     ·have hlo:lo+n≤xs.length:=q2.resolve_left hn
      refine ⟨ad,n,c,rfl,by rw [List.length_take,List.length_drop];omega,q1,.inr ⟨b,lo*sz,c2,sz,F2,q3,q4,rfl,?_,m2,fun x hx=>p2 x (List.mem_of_mem_drop (List.mem_of_mem_take hx)),m4.rep⟩⟩
      have:=xP q6
      rw [m1 (by omega),Nat.zero_add] at this
      exact this
   ·exact h.elim
  ·exact h.elim
theorem gW (R:bY P base w0 N g s a w pool) : ∀ {xs:List Operand} {k:List (Bool×List D)→Prog},ex P (gN xs k) s K → ∃as F,dU w (xs.map a.eval) as F∧ex P (k as) s K
 | [],k,h=>⟨[],[],rfl,h⟩
 | x::xs,k,h=>by
  obtain ⟨sv,h1,h2⟩:=aN R h
  cases sv with
  | v ag cs =>
   simp only at h2
   cases ag with
   | false =>
    obtain ⟨ds,F,h3,h4⟩:=eX R.inv h1 h2
    obtain ⟨as,Fa,h5,h6⟩:=gW R h4
    refine ⟨(false,ds)::as,_,⟨F,Fa,rfl,?_,h5⟩,h6⟩
    have hl:=h3.length
    match ds,h3,hl with
    | [d],h3,_ =>
     simp only [aA] at h3
     obtain ⟨v,vs',F1,F2,e1,rfl,h7,_,rfl⟩:=h3
     simp at e1
     rw [List.append_nil]
     exact ⟨d,rfl,e1.1 ▸ h7⟩
   | true =>
    obtain ⟨vs,hv,hc⟩:=h1
    obtain ⟨ds,F,h3,h4⟩:=eX R.inv hc h2
    obtain ⟨as,Fa,h5,h6⟩:=gW R h4
    exact ⟨(true,ds)::as,_,⟨F,Fa,rfl,⟨vs,hv,h3⟩,h5⟩,h6⟩
  | unk=>exact h2.elim
  | undef=>exact h2.elim
  | tup vs=>exact h2.elim
theorem uN {j vj:Nat} {e:TypeId} {sz:Nat} {xs:List (List D)} {dp:Bool} (R:bY P base w0 N g s a w []) (h2:s.h j=(vj,.row e sz xs dp)) :
  ∃g',bY P base w0 N g' (s.bL j (vj,.none)) a w []∧bU g g' s.h (s.bL j (vj,.none)).h w w ∧ ∀v,fW g s.h w (.row j vj) v → ∃F,Rep w (.sl xs) v F ∧ ∀b∈F,g'.S b:=by
 have hj1:(s.h j).1=vj:=by rw [h2]
 have hj2:(s.h j).2 = .row e sz xs dp:=by rw [h2]
 obtain ⟨S',F,hS,_,hrep,_,_,hF,_,I1⟩:=R.inv.take hj2
 have T1:=bU.drop (g:=g) (h:=s.h) (w:=w) j S' hS
 rw [hj1] at I1 T1
 refine ⟨_,R.cU T1 rfl R.below I1.forget,T1,?_⟩
 rintro v ⟨h0,_,hv⟩
 have e1:v=g.val j:=hv hj1 e sz xs dp hj2
 subst e1
 exact ⟨F,hrep,hF⟩
theorem bU.id (g:Gh) (h:eS) (w:World):bU g g h h w w:=bU.refl g h w
theorem iA : ∀ {cs:List SC} {vs:List Value} {k:List D→Prog} {g:Gh} {s:St},bY P base w0 N g s a w []→aD g s.h w cs vs→ex P (iW cs k) s K →
  ∃g' s' ds F,bY P base w0 N g' s' a w []∧(∀b,g.S b→g'.S b)∧aA w ds vs F∧(∀b∈F,g'.S b)∧ex P (k ds) s' K
 | [],vs,k,g,s,R,hc,h=>⟨g,s,[],[],R,fun _ x=>x,by simp only [aA];exact ⟨hc,trivial⟩,by simp,h⟩
 | .dat d::cs,vs,k,g,s,R,hc,h=>by
  obtain ⟨v,vs',rfl,⟨F1,h1,h2⟩,h3⟩:=hc
  obtain ⟨g',s',ds,F,R',hS,h4,h5,h6⟩:=iA R h3 h
  refine ⟨g',s',d::ds,F1++F,R',hS,by simp only [aA];exact ⟨v,vs',F1,F,rfl,rfl,h1,h4⟩,fun b hb => ?_,h6⟩
  rcases List.mem_append.1 hb with hb | hb
  ·exact hS b (h2 b hb)
  ·exact h5 b hb
 | .nil::cs,vs,k,g,s,R,hc,h=>by
  obtain ⟨v,vs',rfl,h1,h3⟩:=hc
  obtain ⟨g',s',ds,F,R',hS,h4,h5,h6⟩:=iA R h3 h
  refine ⟨g',s',.sl []::ds,F,R',hS,?_,h5,h6⟩
  simp only [aA]
  refine ⟨v,vs',[],F,rfl,rfl,?_,h4⟩
  simp only [Rep]
  exact ⟨none,0,0,h1,rfl,Nat.le_refl _,.inl (by simp)⟩
 | .old B d u::cs,vs,k,g,s,R,hc,h=>by
  obtain ⟨v,vs',rfl,⟨F1,h1,h2,_⟩,h3⟩:=hc
  obtain ⟨g',s',ds,F,R',hS,h4,h5,h6⟩:=iA R h3 h
  refine ⟨g',s',d::ds,F1++F,R',hS,by simp only [aA];exact ⟨v,vs',F1,F,rfl,rfl,h1,h4⟩,fun b hb => ?_,h6⟩
  rcases List.mem_append.1 hb with hb | hb
  ·exact hS b (h2 b hb).1
  ·exact h5 b hb
 | .row i ver::cs,vs,k,g,s,R,hc,h=>by
  obtain ⟨v,vs',rfl,h1,h3⟩:=hc
  simp only [iW,ex] at h
  split at h
  ·rename_i e sz xs dp ho
   split at h
   ·rename_i hv
    simp only [ex] at h
    have h2:s.h i=(ver,.row e sz xs dp):=by rw [←hv,←ho]
    obtain ⟨g1,R1,T1,hf⟩:=uN R h2
    obtain ⟨F1,k1,k2⟩:=hf v h1
    obtain ⟨g',s',ds,F,R',hS,h4,h5,h6⟩:=iA R1 (h3.cU T1) h
    refine ⟨g',s',.sl xs::ds,F1++F,R',fun b x=>hS b (T1.S b x),by simp only [aA];exact ⟨v,vs',F1,F,rfl,rfl,k1,h4⟩,fun b hb => ?_,h6⟩
    rcases List.mem_append.1 hb with hb | hb
    ·exact hS b (k2 b hb)
    ·exact h5 b hb
   ·exact h.elim
  ·exact h.elim
 | .bp _ _ _::_,_,_,_,_,_,_,h=>h.elim
 | .rp _ _ _ _::_,_,_,_,_,_,_,h=>h.elim
 | .clo _ _::_,_,_,_,_,_,_,h=>h.elim
 | .part _ _ _ _::_,_,_,_,_,_,_,h=>h.elim
 | .exa _ _ _::_,_,_,_,_,_,_,h=>h.elim
theorem jO : ∀ {xs:List Operand} {k:List (Bool×List D)→Prog} {g:Gh} {s:St},bY P base w0 N g s a w []→ex P (kS xs k) s K →
  ∃g' s' as F,bY P base w0 N g' s' a w []∧(∀b,g.S b→g'.S b)∧dU w (xs.map a.eval) as F∧(∀b∈F,g'.S b)∧ex P (k as) s' K
 | [],k,g,s,R,h=>⟨g,s,[],[],R,fun _ x=>x,rfl,by simp,h⟩
 | x::xs,k,g,s,R,h=>by
  obtain ⟨sv,h1,h2⟩:=aN R h
  cases sv with
  | v ag cs =>
   simp only at h2
   cases ag with
   | false =>
    obtain ⟨g1,s1,ds,F,R1,hS1,h3,h3b,h4⟩:=iA R h1 h2
    obtain ⟨g2,s2,as,Fa,R2,hS2,h5,h5b,h6⟩:=jO R1 h4
    refine ⟨g2,s2,(false,ds)::as,_,R2,fun b x=>hS2 b (hS1 b x),⟨F,Fa,rfl,?_,h5⟩,?_,h6⟩
    ·have hl:=h3.length
     match ds,h3,hl with
     | [d],h3,_ =>
      simp only [aA] at h3
      obtain ⟨v,vs',F1,F2,e1,rfl,h7,_,rfl⟩:=h3
      simp at e1
      rw [List.append_nil]
      exact ⟨d,rfl,e1.1 ▸ h7⟩
    ·intro b hb
     rcases List.mem_append.1 hb with hb | hb
     ·exact hS2 b (h3b b hb)
     ·exact h5b b hb
   | true =>
    obtain ⟨vs,hv,hc⟩:=h1
    obtain ⟨g1,s1,ds,F,R1,hS1,h3,h3b,h4⟩:=iA R hc h2
    obtain ⟨g2,s2,as,Fa,R2,hS2,h5,h5b,h6⟩:=jO R1 h4
    refine ⟨g2,s2,(true,ds)::as,_,R2,fun b x=>hS2 b (hS1 b x),⟨F,Fa,rfl,⟨vs,hv,h3⟩,h5⟩,?_,h6⟩
    intro b hb
    rcases List.mem_append.1 hb with hb | hb
    ·exact hS2 b (h3b b hb)
    ·exact h5b b hb
  | unk=>exact h2.elim
  | undef=>exact h2.elim
  | tup vs=>exact h2.elim
end
end Go.Sh
namespace Go.Sh
set_option linter.unusedVariables false
set_option linter.unusedSimpArgs false
open Go.RowKit
theorem bU.trans {g1 g2 g3:Gh} {h1 h2 h3:eS} {w1 w2 w3:World} (A:bU g1 g2 h1 h2 w1 w2) (B:bU g2 g3 h2 h3 w2 w3):bU g1 g3 h1 h3 w1 w3:=
 ⟨fun b x=>B.S b (A.S b x),fun b x=>(B.Sw b (A.S b x)).trans (A.Sw b x),fun j=>Nat.le_trans (A.ver j) (B.ver j),
  fun j e sz xs dp hj hr=>by
   have v1:=A.ver j
   have v2:=B.ver j
   obtain ⟨e1,x1,d1,r1⟩:=B.row j e sz xs dp (by omega) hr
   obtain ⟨e2,x2,d2,r2⟩:=A.row j e sz x1 d1 (by omega) r1
   exact ⟨e1.trans e2,x2,d2,r2⟩,
  fun j t cs hj hr=>by
   have v1:=A.ver j
   have v2:=B.ver j
   obtain ⟨e1,x1,r1⟩:=B.box j t cs (by omega) hr
   obtain ⟨e2,x2,r2⟩:=A.box j t x1 (by omega) r1
   exact ⟨e1.trans e2,x2,r2⟩,B.Q.trans A.Q⟩
def oI (g:Gh) (i:Nat) (v:Value) (F:List Nat):Gh:={ g with val:=kH g.val i v,fp:=kH g.fp i F }
theorem bU.create {g:Gh} {h:eS} {w:World} (i:Nat) (v:Value) (F:List Nat) (o:lG):bU g (oI g i v F) h (dN h i ((h i).1+1,o)) w w:=by
 refine ⟨fun _ x=>x,fun _ _=>rfl,fun j => ?_,fun j e sz xs dp hj hr => ?_,fun j t cs hj hx => ?_,rfl⟩
 ·by_cases hj:j=i
  ·subst hj;rw [aJ];exact Nat.le_succ _
  ·rw [bG _ _ _ _ hj];exact Nat.le_refl _
 ·by_cases hji:j=i
  ·subst hji;rw [aJ] at hj;simp at hj
  ·rw [bG _ _ _ _ hji] at hr;exact ⟨fV _ _ _ _ hji,xs,dp,hr⟩
 ·by_cases hji:j=i
  ·subst hji;rw [aJ] at hj;simp at hj
  ·rw [bG _ _ _ _ hji] at hx;exact ⟨fV _ _ _ _ hji,cs,hx⟩
theorem iF {h:eS} {i j:Nat} {x:Nat×lG} (hl:live (dN h i x) j):j=i∨(j≠i∧live h j):=by
 by_cases hj:j=i
 ·exact .inl hj
 ·unfold live at *;rw [bG _ _ _ _ hj] at hl;exact .inr ⟨hj,hl⟩
theorem gT {h:eS} {i j:Nat} {x:Nat×lG} (hl:bT (dN h i x) j):j=i∨(j≠i∧bT h j):=by
 by_cases hj:j=i
 ·exact .inl hj
 ·unfold bT at *;rw [bG _ _ _ _ hj] at hl;exact .inr ⟨hj,hl⟩
section
variable {base:Nat} {g:Gh} {h:eS} {w:World} {pool:List Nat}
def iB (g:Gh) (h:eS) (b:Nat):Prop:=¬g.S b ∧ ∀j,live h j→fS (g.val j)≠some b
theorem Inv.qW (I:Inv base g h w pool) {i:Nat} {v:Value} {F:List Nat} {o:lG} {pool':List Nat}
  (ho:gF base (oI g i v F) (dN h i ((h i).1+1,o)) w i o) (hfree : ∀b,fS v=some b→iB g h b)
  (hpl : ∀b∈pool',b∈pool) (hpn:pool'.Nodup)
  (hd:(∃e sz xs,o = .row e sz xs true) → ∀b∈F,b∈pool∧b∉pool') :
  Inv base (oI g i v F) (dN h i ((h i).1+1,o)) w pool':=by
 have T:=bU.create (g:=g) (h:=h) (w:=w) i v F o
 have vi:(oI g i v F).val i=v:=bC _ _ _
 have vn : ∀j,j≠i→(oI g i v F).val j=g.val j:=fun j hj=>fV _ _ _ _ hj
 have fi:(oI g i v F).fp i=F:=bC _ _ _
 have fn : ∀j,j≠i→(oI g i v F).fp j=g.fp j:=fun j hj=>fV _ _ _ _ hj
 have hdi:bT (dN h i ((h i).1+1,o)) i → ∃e sz xs,o = .row e sz xs true:=by
  rintro ⟨e,sz,xs,hh⟩;rw [aJ] at hh;exact ⟨e,sz,xs,hh⟩
 refine ⟨I.base_le,I.S_old,I.S_lt,fun j => ?_,fun j b hl hb => ?_,fun j k b hne hl hk hb hb' => ?_,fun j k hne hj hk b hb hb' => ?_,
  ⟨hpn,fun b hb=>I.pool_own.2 b (hpl b hb)⟩,fun b hb=>I.pool_S b (hpl b hb),fun j hj b hb hb' => ?_,I.fb⟩
 ·by_cases hj:j=i
  ·subst hj;rw [aJ];exact ho
  ·rw [bG _ _ _ _ hj];exact gF.cU T (vn j hj) (fn j hj) (fun _ _=>rfl) (I.obj j)
 ·rcases iF hl with rfl | ⟨hj,hl⟩
  ·rw [vi] at hb;exact (hfree b hb).1
  ·rw [vn j hj] at hb;exact I.mtb j b hl hb
 ·rcases iF hl with rfl | ⟨hj,hl1⟩
  ·rcases iF hk with rfl | ⟨hk',hk1⟩
   ·exact hne rfl
   ·rw [vi] at hb;rw [vn k hk'] at hb';exact (hfree b hb).2 k hk1 hb'
  ·rw [vn j hj] at hb
   rcases iF hk with rfl | ⟨hk',hk1⟩
   ·rw [vi] at hb';exact (hfree b hb').2 j hl1 hb
   ·rw [vn k hk'] at hb';exact I.inj j k b hne hl1 hk1 hb hb'
 ·rcases gT hj with rfl | ⟨hj',hj'd⟩
  ·rcases gT hk with rfl | ⟨hk',hk'd⟩
   ·exact hne rfl
   ·rw [fi] at hb;rw [fn k hk'] at hb';exact I.pool_dis k hk'd b hb' (hd (hdi hj) b hb).1
  ·rw [fn j hj'] at hb
   rcases gT hk with rfl | ⟨hk',hk'd⟩
   ·rw [fi] at hb';exact I.pool_dis j hj'd b hb (hd (hdi hk) b hb').1
   ·rw [fn k hk'] at hb';exact I.dis j k hne hj'd hk'd b hb hb'
 ·rcases gT hj with rfl | ⟨hj',hj'd⟩
  ·rw [fi] at hb;exact (hd (hdi hj) b hb).2 hb'
  ·rw [fn j hj'] at hb;exact I.pool_dis j hj'd b hb (hpl b hb')
theorem Inv.rL (I:Inv base g h w pool) {i b:Nat} {vals:Array Value} {t:TypeId} {cells:List SC} (hb:base≤b) (hf:iB g h b) (hw:w.heap[b]? = some (.cells vals t (0,0)))
  (hc:aD g h w cells vals.toList):Inv base (oI g i (.pointer (some ⟨b,0,none⟩)) []) (dN h i ((h i).1+1,.box t cells)) w pool:=
 I.qW ⟨b,vals,bC _ _ _,Nat.le_trans I.fb hb,hw,hc.cU (bU.create i _ _ _)⟩ (fun b' hb'=>by simp [fS] at hb';subst hb';exact hf) (fun _ x=>x) I.pool_own.1 (by rintro ⟨_,_,_,h⟩;cases h)
theorem Inv.iD (I:Inv base g h w pool) {i:Nat} {v:Value} {e:TypeId} {sz:Nat} {xs:List (List D)} {dp:Bool} {cells:List Value} {F:List Nat} {pool':List Nat} (ho:w.ownsRow base e sz v xs.length cells)
  (hx : ∀x∈xs,x.length=sz) (hr:aR g.Q.L dp w e xs cells F) (hF : ∀b∈F,g.S b) (hf : ∀b,fS v=some b→iB g h b)
  (hpl : ∀b∈pool',b∈pool) (hpn:pool'.Nodup) (hd:dp=true→F.Nodup ∧ ∀b∈F,b∈pool∧b∉pool') :
  Inv base (oI g i v F) (dN h i ((h i).1+1,.row e sz xs dp)) w pool':=by
 have vi:(oI g i v F).val i=v:=bC _ _ _
 have fi:(oI g i v F).fp i=F:=bC _ _ _
 refine I.qW ⟨cells,by rw [vi];exact ho,hx,by rw [fi];exact hr,by rw [fi];exact hF,fun hdp=>by rw [fi];exact ⟨(hd hdp).1,fun b hb=>I.pool_own.2 b ((hd hdp).2 b hb).1⟩⟩ hf hpl hpn ?_
 rintro ⟨e',sz',xs',hh⟩
 cases hh
 exact (hd rfl).2
theorem Inv.aA5 (I:Inv base g h w pool) {G:List Nat} (hG:fI base w G) (hf : ∀b∈G,iB g h b):Inv base { g with S:=fun b=>g.S b∨b∈G } h w (pool++G):=by
 have T:bU g { g with S:=fun b=>g.S b∨b∈G } h h w w:=
  ⟨fun _ x=>.inl x,fun _ _=>rfl,fun _=>Nat.le_refl _,fun i e sz xs dp _ hr=>⟨rfl,xs,dp,hr⟩,fun i t cs _ hx=>⟨rfl,cs,hx⟩,rfl⟩
 have hin : ∀i,bT h i → ∀b∈g.fp i,g.S b:=by
  rintro i ⟨e,sz,xs,hh⟩ b hb
  have:=I.obj i
  rw [hh] at this
  obtain ⟨_,_,_,_,h4,_⟩:=this
  exact h4 b hb
 refine ⟨I.base_le,fun b x hlt=>x.elim (fun x=>I.S_old b x hlt) (fun x=>absurd (hG.2 b x).1 (by omega)),?_,fun j=>gF.cU T rfl rfl (fun _ _=>rfl) (I.obj j),?_,I.inj,I.dis,⟨?_,?_⟩,?_,?_,I.fb⟩
 ·rintro b (hb | hb)
  ·exact I.S_lt b hb
  ·exact (hG.2 b hb).2.lt
 ·rintro j b hl hb (hS | hS)
  ·exact I.mtb j b hl hb hS
  ·exact (hf b hS).2 j hl hb
 ·rw [List.nodup_append]
  refine ⟨I.pool_own.1,hG.1,?_⟩
  rintro x hx y hy rfl
  exact (hf x hy).1 (I.pool_S x hx)
 ·intro b hb
  rcases List.mem_append.1 hb with hb | hb
  ·exact I.pool_own.2 b hb
  ·exact hG.2 b hb
 ·intro b hb
  rcases List.mem_append.1 hb with hb | hb
  ·exact .inl (I.pool_S b hb)
  ·exact .inr hb
 ·intro i hd b hb hb'
  rcases List.mem_append.1 hb' with hb' | hb'
  ·exact I.pool_dis i hd b hb hb'
  ·exact (hf b hb').1 (hin i hd b hb)
theorem Inv.aAg (I:Inv base g h w pool) {X:Nat→Prop} (hX : ∀b,X b→(g.S b∨base≤b)∧b<w.heap.size) (hf : ∀b,X b → ¬g.S b→iB g h b):Inv base { g with S:=fun b=>g.S b∨X b } h w pool:=by
 have T:bU g { g with S:=fun b=>g.S b∨X b } h h w w:=
  ⟨fun _ x=>.inl x,fun _ _=>rfl,fun _=>Nat.le_refl _,fun i e sz xs dp _ hr=>⟨rfl,xs,dp,hr⟩,fun i t cs _ hx=>⟨rfl,cs,hx⟩,rfl⟩
 refine ⟨I.base_le,fun b x hlt=>x.elim (fun x=>I.S_old b x hlt) (fun x=>(hX b x).1.elim (fun y=>I.S_old b y hlt) (fun y=>absurd y (by omega))),?_,fun j=>gF.cU T rfl rfl (fun _ _=>rfl) (I.obj j),?_,I.inj,I.dis,I.pool_own,fun b hb=>.inl (I.pool_S b hb),I.pool_dis,I.fb⟩
 ·rintro b (hb | hb)
  ·exact I.S_lt b hb
  ·exact (hX b hb).2
 ·rintro j b hl hb (hS | hS)
  ·exact I.mtb j b hl hb hS
  ·by_cases hs:g.S b
   ·exact I.mtb j b hl hb hs
   ·exact (hf b hS hs).2 j hl hb
theorem bU.aAg (g:Gh) (h:eS) (w:World) (X:Nat→Prop):bU g { g with S:=fun b=>g.S b∨X b } h h w w:=
 ⟨fun _ x=>.inl x,fun _ _=>rfl,fun _=>Nat.le_refl _,fun i e sz xs dp _ hr=>⟨rfl,xs,dp,hr⟩,fun i t cs _ hx=>⟨rfl,cs,hx⟩,rfl⟩
theorem bU.aA5 (g:Gh) (h:eS) (w:World) (G:List Nat):bU g { g with S:=fun b=>g.S b∨b∈G } h h w w:=
 ⟨fun _ x=>.inl x,fun _ _=>rfl,fun _=>Nat.le_refl _,fun i e sz xs dp _ hr=>⟨rfl,xs,dp,hr⟩,fun i t cs _ hx=>⟨rfl,cs,hx⟩,rfl⟩
end
theorem qE {w:World} {b b':Nat} {e:TypeId} {sz n:Nat} {v:Value} {xs:List Value} (h:w.ownsRow b e sz v n xs) (hb:b'≤b):w.ownsRow b' e sz v n xs:=by
 refine ⟨h.1,?_⟩
 rcases h.2 with h1 | ⟨gg,cap,cur,h1,h2,h3⟩
 ·exact .inl h1
 ·exact .inr ⟨gg,cap,cur,h1,Nat.le_trans hb h2,h3⟩
section
variable {P:Program} {base N:Nat} {w0:W0} {w:World} {a:Act} {K:St→Prop}
theorem rU (s:St) (i:Nat) (x:Nat×lG):(s.bL i x).h=dN s.h i x:=rfl
theorem eQ {base1 d:Nat} {X:Nat→Prop} (hbb:base≤base1) : ∀ {rs:List RC} {vs:List Value} {F:List Nat} {j:Nat} {k:List SC→Prog} {g:Gh} {s:St} {pool:List Nat},
  bY P base w0 N g s a w pool→dE (slP P) base1 w X vs rs F→fI base w F→(∀b∈F,iB g s.h b)→(rs.any RC.isAny=true → ∀b,X b→g.S b)→ex P (cC d j rs k) s K →
  ∃g' s' cs,ex P (k cs) s' K∧bY P base w0 N g' s' a w pool∧aD g' s'.h w cs vs∧bU g g' s.h s'.h w w∧s'.t=s.t∧(∀b,b∉F→iB g s.h b→iB g' s'.h b)
 | [],vs,F,j,k,g,s,pool,R,hr,hF,hf,hX,h=>by
  cases vs with
  | nil=>exact ⟨g,s,[],h,R,rfl,bU.refl _ _ _,rfl,fun _ _ x=>x⟩
  | cons v vs=>simp [dE] at hr
 | .any x::rs,vs,F,j,k,g,s,pool,R,hr,hF,hf,hX,h=>by
  cases vs with
  | nil=>simp [dE] at hr
  | cons v vs =>
   simp only [dE] at hr
   obtain ⟨⟨G,hG1,hG2⟩,hr2⟩:=hr
   obtain ⟨g',s',cs,h1,h2,h3,h4,h5,h6⟩:=eQ hbb R hr2 hF hf (fun _=>hX (by simp [RC.isAny])) h
   exact ⟨g',s',.dat x::cs,h1,h2,⟨v,vs,rfl,fW.cU h4 ⟨G,hG1,fun b hb=>hX (by simp [RC.isAny]) b (hG2 b hb)⟩,h3⟩,h4,h5,h6⟩
 | .ro x::rs,vs,F,j,k,g,s,pool,R,hr,hF,hf,hX,h=>by
  cases vs with
  | nil=>simp [dE] at hr
  | cons v vs =>
   simp only [dE] at hr
   obtain ⟨g',s',cs,h1,h2,h3,h4,h5,h6⟩:=eQ hbb R hr.2 hF hf (fun hh=>hX (by simp [hh])) h
   exact ⟨g',s',.dat x::cs,h1,h2,⟨v,vs,rfl,⟨[],Rep.eU _ _ _ hr.1 (by simp),by simp⟩,h3⟩,h4,h5,h6⟩
 | .own e sz xs::rs,vs,F,j,k,g,s,pool,R,hr,hF,hf,hX,h=>by
  cases vs with
  | nil=>simp [dE] at hr
  | cons v vs =>
   simp only [dE] at hr
   obtain ⟨cells,G,F',ho,hx,hrr,rfl,hr'⟩:=hr
   simp only [cC,ex] at h
   have hnd:=hF.1
   rw [List.nodup_append,List.nodup_append] at hnd
   obtain ⟨nd1,⟨nd2,nd3,nd4⟩,nd5⟩:=hnd
   have hGown:fI base w G:=⟨nd2,fun b hb=>hF.2 b (by simp [hb])⟩
   have I1:=R.inv.aA5 hGown fun b hb=>hf b (by simp [hb])
   have T1:=bU.aA5 g s.h w G
   let g1:Gh:={ g with S:=fun b=>g.S b∨b∈G }
   have hob:fS v=v.ownBlock:=bZ ho
   have hfree1 : ∀b,fS v=some b→iB g1 s.h b:=by
    intro b hb
    rw [hob] at hb
    have hm:b∈v.ownBlock.toList:=by rw [hb];simp
    have hfr:=hf b (by rw [List.mem_append];exact .inl hm)
    refine ⟨?_,hfr.2⟩
    rintro (hS | hS)
    ·exact hfr.1 hS
    ·exact nd5 b hm b (by simp [hS]) rfl
   have I2:=I1.iD (i:=rid d j) (dp:=true) (pool':=pool) (qE ho hbb) hx (by show bQ g.Q.L w xs e cells G;exact bQ.toL R hrr) (fun b hb=>.inr hb) hfree1 (fun b hb=>by simp [hb]) R.inv.pool_own.1
    (fun _=>⟨nd2,fun b hb=>⟨by simp [hb],fun hp=>(hf b (by simp [hb])).1 (R.inv.pool_S b hp)⟩⟩)
   have T2:=bU.create (g:=g1) (h:=s.h) (w:=w) (rid d j) v G (.row e sz xs true)
   have T12:=T1.trans T2
   have R2:bY P base w0 N (oI g1 (rid d j) v G) (s.bL (rid d j) ((s.h (rid d j)).1+1,.row e sz xs true)) a w pool:=R.cU T12 rfl R.below I2
   have keepFree : ∀b,b∉v.ownBlock.toList→b∉G→iB g s.h b→iB (oI g1 (rid d j) v G) (dN s.h (rid d j) ((s.h (rid d j)).1+1,.row e sz xs true)) b:=by
    intro b hb1 hb2 hfr
    refine ⟨?_,fun j' hl => ?_⟩
    ·rintro (hS | hS)
     ·exact hfr.1 hS
     ·exact hb2 hS
    ·rcases iF hl with rfl | ⟨hj,hl⟩
     ·show fS (kH g1.val _ v _)≠some b
      rw [bC,hob]
      intro hh
      exact hb1 (by rw [hh];simp)
     ·show fS (kH g1.val _ v _)≠some b
      rw [fV _ _ _ _ hj]
      exact hfr.2 j' hl
   have hF':fI base w F':=⟨nd3,fun b hb=>hF.2 b (by simp [hb])⟩
   obtain ⟨g',s',cs,h1,h2,h3,h4,h5,h6⟩:=eQ hbb R2 hr' hF'
    (fun b hb=>keepFree b (fun hm=>nd5 b hm b (by simp [hb]) rfl) (fun hm=>nd4 b hm b hb rfl) (hf b (by simp [hb]))) (fun hh b hb=>T12.S b (hX (by simp [hh]) b hb)) h
   refine ⟨g',s',.row (rid d j) ((s.h (rid d j)).1+1)::cs,h1,h2,⟨v,vs,rfl,?_,h3⟩,T12.trans h4,h5.trans rfl,fun b hb hfr=>h6 b (fun hm=>hb (by simp [hm])) (keepFree b (fun hm=>hb (by rw [List.mem_append];exact .inl hm)) (fun hm=>hb (by simp [hm])) hfr)⟩
   refine fW.cU h4 ?_
   refine ⟨?_,?_,?_⟩
   ·rcases ho.2 with ⟨rfl,_⟩ | ⟨gg,cap,cur,rfl,_⟩<;>rfl
   ·show _≤(dN s.h (rid d j) _ (rid d j)).1
    rw [aJ];exact Nat.le_refl _
   ·intro _ e' sz' xs' dp' _
    show v=kH g1.val _ v _
    rw [bC]
theorem lQ {base1 d:Nat} {X:Nat→Prop} (hbb:base≤base1) : ∀ {rs:List (Bool×List RC)} {vs:List Value} {F:List Nat} {j:Nat} {k:List (Bool×List SC)→Prog} {g:Gh} {s:St} {pool:List Nat},
  bY P base w0 N g s a w pool→hM (slP P) base1 w X vs rs F→fI base w F→(∀b∈F,iB g s.h b)→(eI rs=true → ∀b,X b→g.S b)→ex P (fM d j rs k) s K →
  ∃g' s' cs,ex P (k cs) s' K∧bY P base w0 N g' s' a w pool∧gP g' s'.h w cs vs∧bU g g' s.h s'.h w w∧s'.t=s.t
 | [],vs,F,j,k,g,s,pool,R,hr,hF,hf,hX,h=>by
  cases vs with
  | nil=>exact ⟨g,s,[],h,R,rfl,bU.refl _ _ _,rfl⟩
  | cons v vs=>simp [hM] at hr
 | (ag,r)::rs,vs,F,j,k,g,s,pool,R,hr,hF,hf,hX,h=>by
  cases vs with
  | nil=>simp [hM] at hr
  | cons v vs =>
   simp only [hM] at hr
   obtain ⟨F1,F2,rfl,h1,h2⟩:=hr
   have hnd:=hF.1
   rw [List.nodup_append] at hnd
   obtain ⟨nd1,nd2,nd3⟩:=hnd
   have hF1:fI base w F1:=⟨nd1,fun b hb=>hF.2 b (by simp [hb])⟩
   have hF2:fI base w F2:=⟨nd2,fun b hb=>hF.2 b (by simp [hb])⟩
   have key : ∃us,dE (slP P) base1 w X us r F1 ∧ ∀(g':Gh) (h':eS) (cs:List SC),aD g' h' w cs us→jL g' h' w (ag,cs) v:=by
    cases ag with
    | false=>exact ⟨[v],h1,fun g' h' cs hc=>hc⟩
    | true=>obtain ⟨us,rfl,hc⟩:=h1;exact ⟨us.toList,hc,fun g' h' cs hc=>⟨us,rfl,hc⟩⟩
   obtain ⟨us,hu,hback⟩:=key
   obtain ⟨g1,s1,cs,k1,k2,k3,k4,k5,k6⟩:=eQ hbb R hu hF1 (fun b hb=>hf b (by simp [hb])) (fun hh=>hX (by simp only [eI,List.any_cons,hh,Bool.true_or])) h
   obtain ⟨g2,s2,vs2,m1,m2,m3,m4,m5⟩:=lQ hbb k2 h2 hF2 (fun b hb=>k6 b (fun hm=>nd3 b hm b hb rfl) (hf b (by simp [hb]))) (fun hh b hb=>k4.S b (hX (by simp only [eI,List.any_cons] at hh ⊢;rw [hh,Bool.or_true]) b hb)) k1
   exact ⟨g2,s2,(ag,cs)::vs2,m1,m2,⟨v,vs,rfl,jL.cU m4 (hback _ _ _ k3),m3⟩,k4.trans m4,m5.trans k5⟩
theorem kC {base1:Nat} (hbb:base≤base1) {rs:List (Bool×List RC)} {v:Value} {g:Gh} {s:St} {pool:List Nat} {dst:Option Tmp}
  {X:Nat→Prop} {F:List Nat} (R:bY P base w0 N g s a w pool) (hF:fI base1 w F) (hv:wJ (slP P) base1 w X v rs F) (hff : ∀b∈F,iB g s.h b) (hX:eI rs=true → ∀b,X b→g.S b) (h:ex P (fG N dst rs) s K) :
  ∃g' s',K s'∧bY P base w0 N g' s' (a.put dst v) w pool:=by
 have hF':fI base w F:=⟨hF.1,fun b hb=>⟨Nat.le_trans hbb (hF.2 b hb).1,(hF.2 b hb).2⟩⟩
 cases dst with
 | none=>exact ⟨g,s,h,R⟩
 | some d =>
  have many : ∀rs',rs'=rs→(∃vs,v = .tuple vs∧hM (slP P) base1 w X vs.toList rs' F)→ex P (fM d 0 rs' fun vs=>put N (some d) (.tup vs)) s K → ∃g' s',K s'∧bY P base w0 N g' s' (a.put (some d) v) w pool:=by
   rintro rs' rfl ⟨vs,rfl,hv2⟩ hk
   obtain ⟨g1,s1,cs,k1,k2,k3,_⟩:=lQ hbb R hv2 hF' hff hX hk
   obtain ⟨s2,m1,m2⟩:=fT k2 (sv:=.tup cs) (v:=.tuple vs) ⟨vs,rfl,k3⟩ k1
   exact ⟨g1,s2,m1,m2⟩
  match rs,hv,h with
  | [(false,r)],hv,h =>
   obtain ⟨g1,s1,cs,k1,k2,k3,_⟩:=eQ hbb R hv hF' hff (fun hh=>hX (by simp only [eI,List.any_cons,hh,Bool.true_or])) h
   obtain ⟨s2,m1,m2⟩:=fT k2 (sv:=.v false cs) (v:=v) k3 k1
   exact ⟨g1,s2,m1,m2⟩
  | [(true,r)],hv,h =>
   obtain ⟨us,rfl,hc⟩:=hv
   obtain ⟨g1,s1,cs,k1,k2,k3,_⟩:=eQ hbb R hc hF' hff (fun hh=>hX (by simp only [eI,List.any_cons,hh,Bool.true_or])) h
   obtain ⟨s2,m1,m2⟩:=fT k2 (sv:=.v true cs) (v:=.agg us) ⟨us,rfl,k3⟩ k1
   exact ⟨g1,s2,m1,m2⟩
  | [],hv,h=>exact many _ rfl hv h
  | r1::r2::rs,hv,h=>exact many _ rfl hv h
theorem pI {g:Gh} {s:St} {f:FuncId} {vs:Array Value} {as:List (Bool×List D)} {rs:List (Bool×List RC)} {dst:Option Tmp} {R':Ending→World→Prop} {Fa:List Nat}
  (R:bY P base w0 N g s a w []) (ha:dU w vs.toList as Fa) (hs:eI rs=true → ∀b∈Fa,g.S b) (hc:qB P f as rs) (h:ex P (fG N dst rs) s K)
  (hnext : ∀v w',(∃s',K s'∧Rel P base w0 N s' (a.put dst v) w')→R' (.returned v) w'):Calls P f vs w R':=by
 refine (hc.2 w vs Fa ha).mono fun e w' hh => ?_
 obtain ⟨v,rfl,hr,hb⟩:=hh
 refine hnext v w' ?_
 have I':=R.inv.grow hb.size hb.block
 have T:bU g g s.h s.h w w':=bU.grow R.inv.S_lt hb.block
 have R1:bY P base w0 N g s a w' []:=R.cU T rfl (R.bel (hb.mono R.inv.base_le)) I'
 have hfr : ∀b,w.heap.size≤b→iB g s.h b:=fun b hle =>
  ⟨fun hS=>absurd (R.inv.S_lt b hS) (by omega),fun j hl hb'=>absurd (R.inv.iO hl hb').2.lt (by omega)⟩
 obtain ⟨F,X,hF,hX,hA,hv⟩:=hr
 cases han:eI rs with
 | false =>
  obtain ⟨g',s',k1,k2⟩:=kC R.inv.base_le R1 hF hv (fun b hb'=>hfr b (hF.2 b hb').1) (fun hh=>by rw [han] at hh;cases hh) h
  exact ⟨s',k1,g',k2⟩
 | true =>
  have hFn:=hA han
  subst hFn
  have hs':=hs han
  have hX1 : ∀b,X b→(g.S b∨base≤b)∧b<w'.heap.size:=fun b hb'=>⟨(hX b hb').1.elim (fun x=>.inl (hs' b x)) (fun x=>.inr (Nat.le_trans R.inv.base_le x)),(hX b hb').2⟩
  have hX2 : ∀b,X b → ¬g.S b→iB g s.h b:=fun b hb' hn=>(hX b hb').1.elim (fun x=>absurd (hs' b x) hn) (fun x=>hfr b x)
  have I2:=I'.aAg hX1 hX2
  have R2:bY P base w0 N { g with S:=fun b=>g.S b∨X b } s a w' []:=R1.cU (bU.aAg g s.h w' X) rfl R1.below I2
  obtain ⟨g',s',k1,k2⟩:=kC R.inv.base_le R2 hF hv (by simp) (fun _ b hb'=>.inr hb') h
  exact ⟨s',k1,g',k2⟩
end
end Go.Sh
