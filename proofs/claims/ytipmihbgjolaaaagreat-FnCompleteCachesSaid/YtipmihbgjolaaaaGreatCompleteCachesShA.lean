/-
  Helper text. No conditions.
-/
import Derived.Below
import Derived.Laws.OwnMore
import Derived.Laws.Rows
import Derived.Orders
import Derived.WalkKit
import Derived.Laws.MakeOwn
import Derived.Laws.CopyRow
set_option linter.unusedVariables false
set_option linter.unusedSimpArgs false
namespace Go.Sh
open Go.RowKit
theorem qI {a b:Prop} (x:a) (y:b):a/\b:=⟨x,y⟩
theorem qb {p:Prop} (h:p:=by omega):p:=h
theorem qc {p:Prop} (h:p:=by simp;omega):p:=h
theorem qd {p:Prop} (h:p:=by simp):p:=h
theorem qe {p:Prop} (h:p:=by decide):p:=h
theorem qf {p:Prop} (h:p:=by decide +kernel):p:=h
theorem qg {p:Prop} (h:p:=by dsimp only;omega):p:=h
theorem qh {p:Prop} (h:p:=by (try dsimp only);omega):p:=h
theorem qi {p:Prop} (h:p:=by unfold fuel;omega):p:=h
theorem qj {p:Prop} (h:p:=by unfold maxLen;omega):p:=h
theorem qk {p:Prop} (h:p:=by rw [Y7];simp):p:=h
theorem ql {p:Prop} (h:p:=by simp [Act.eval,Act.put]):p:=h
theorem qm {p:Prop} (h:p:=by simp only [qE,qJ,qK,qT,qU];omega):p:=h
theorem qn {p:Prop} (h:p:=by simp only [qE,qJ,qK];omega):p:=h
theorem qo {p:Prop} (h:p:=by simp only [qE,qT,qU,qJ,qK];omega):p:=h
theorem qp {p:Prop} (h:p:=by simp only [qE];omega):p:=h
theorem qq {p:Prop} (h:p:=by simp only [qJ,qK,qT];omega):p:=h
theorem qs {p:Prop} (h:p:=by simp only [qJ,qK];omega):p:=h
theorem qt {p:Prop} (h:p:=by simp only [qK,qT];omega):p:=h
theorem qu {p:Prop} (h:p:=by simp only [qT,qJ,qK];omega):p:=h
theorem qv {p:Prop} (h:p:=by (simp +decide only [F,reduceIte,Nat.reduceAdd,qB,qC,EN, *,-h];rfl)):p:=h
theorem qA:type_of% @Option.bind_some:=@Option.bind_some
theorem qB:type_of% @Bool.not_true:=@Bool.not_true
theorem qC:type_of% @Bool.not_false:=@Bool.not_false
theorem qD:type_of% @Bool.false_eq_true:=@Bool.false_eq_true
theorem qE:type_of% @List.length_append:=@List.length_append
theorem qF:type_of% @List.getElem?_eq_getElem:=@List.getElem?_eq_getElem
theorem qG:type_of% @List.getElem_mem:=@List.getElem_mem
theorem qH:type_of% @Int.toNat_natCast:=@Int.toNat_natCast
theorem qJ:type_of% @List.length_cons:=@List.length_cons
theorem qK:type_of% @List.length_nil:=@List.length_nil
theorem qL:type_of% @decide_eq_true_eq:=@decide_eq_true_eq
theorem qM:type_of% @Bool.and_eq_true:=@Bool.and_eq_true
theorem qN:type_of% @List.length_set:=@List.length_set
theorem qO:type_of% @List.not_mem_nil:=@List.not_mem_nil
theorem qP:type_of% @List.mem_append:=@List.mem_append
theorem qQ:type_of% @List.all_eq_true:=@List.all_eq_true
theorem qR:type_of% @List.mem_range:=@List.mem_range
theorem qS:type_of% @List.append_assoc:=@List.append_assoc
theorem qT:type_of% @List.length_take:=@List.length_take
theorem qU:type_of% @List.length_drop:=@List.length_drop
theorem qV:type_of% @List.drop_eq_getElem_cons:=@List.drop_eq_getElem_cons
theorem qW:type_of% @List.append_nil:=@List.append_nil
theorem qX:type_of% @List.getElem?_eq_none:=@List.getElem?_eq_none
theorem qY:type_of% @List.drop_length:=@List.drop_length
theorem qZ:type_of% @Prod.mk.injEq:=@Prod.mk.injEq
theorem qa:type_of% @Option.some.injEq:=@Option.some.injEq
inductive D where
 | int (k:IntKind) (n:Int)
 | bool (b:Bool)
 | str (s:ByteArray)
 | sl (xs:List (List D))
 | ptr (cs:List D)
 | fn (f:FuncId) (cs:List D)
 | opq
 | val (u:Value)
def BX (w:World) (g off:Nat) (cells:List Value):Prop:=
 ∀j u,cells[j]? = some u->w.cell? ⟨g,off+j,none⟩=some u
mutual
def Rep (w:World):D->Value->List Nat->Prop
 | .int k n,v,F=>v = .int k n/\F=[]
 | .bool b,v,F=>v = .bool b/\F=[]
 | .str s,v,F=>v = .string s/\F=[]
 | .sl xs,v,F=>∃a n c,v = .slice a n c/\n=xs.length/\n<=c /\
   ((n=0/\F=[]) \/ ∃g off cells sz G,a=some ⟨g,off,none⟩/\g<w.heap.size/\F=g::G/\BX w g off cells /\
    cells.length=n*sz/\(∀x∈xs,x.length=sz)/\aV w xs cells G)
 | .ptr cs,v,F=>∃g off cells G,v = .pointer (some ⟨g,off,none⟩)/\g<w.heap.size/\F=g::G/\BX w g off cells/\aJ w cs cells G
 | .fn f cs,v,F=>∃caps,v = .func (.func f) #[] caps.toArray/\aJ w cs caps F
 | .opq,v,F=>v.oneCell'=true/\F=[]
 | .val u,v,F=>(v=u/\v.oneCell'=true)/\F=[]
def aJ (w:World):List D->List Value->List Nat->Prop
 | [],vs,F=>vs=[]/\F=[]
 | d::ds,vs,F=>∃v vs' F1 F2,vs=v::vs'/\F=F1++F2/\Rep w d v F1/\aJ w ds vs' F2
def aV (w:World):List (List D)->List Value->List Nat->Prop
 | [],vs,F=>vs=[]/\F=[]
 | x::xs,vs,F=>∃v1 v2 F1 F2,vs=v1++v2/\F=F1++F2/\aJ w x v1 F1/\aV w xs v2 F2
end
theorem BX.AH {w w':World} {g off:Nat} {cells:List Value} (h:BX w g off cells) (hb:w'.heap[g]? = w.heap[g]?):BX w' g off cells:=
 λj u hu=>(World.cell?_of_block (w:=w) (a:=⟨g,off+j,none⟩) hb).trans (h j u hu)
theorem Mg {w w':World} {g:Nat} (hg:g<w.heap.size) (hb:w'.heap[g]? = w.heap[g]?):g<w'.heap.size:=by rcases Nat.lt_or_ge g w'.heap.size with h | h;(exact h);·rw [Array.getElem?_eq_none h,Array.getElem?_eq_getElem hg] at hb;cases hb
mutual
theorem Rep.AH {w w':World} : ∀(d:D) (v:Value) (F:List Nat),Rep w d v F->(∀b∈F,w'.heap[b]? = w.heap[b]?)->Rep w' d v F
 | .int k n,v,F,h,_=>by simpa [Rep] using h
 | .bool b,v,F,h,_=>by simpa [Rep] using h
 | .str s,v,F,h,_=>by simpa [Rep] using h
 | .sl xs,v,F,h,hb=>by simp only [Rep] at h ⊢;obtain ⟨a,n,c,h1,h2,h3,h4⟩:=h;refine ⟨a,n,c,h1,h2,h3,?_⟩;rcases h4 with h4 | ⟨g,off,cells,sz,G,ha,hg,rfl,hl,hc,hx,hr⟩;(exact .inl h4);·exact .inr ⟨g,off,cells,sz,G,ha,Mg hg (hb g qd),rfl,hl.AH (hb g qd),hc,hx,aV.AH xs cells G hr λb hm=>hb b (by simp [hm])⟩
 | .ptr cs,v,F,h,hb=>by simp only [Rep] at h ⊢;obtain ⟨g,off,cells,G,h1,hg,rfl,hl,hr⟩:=h;exact ⟨g,off,cells,G,h1,Mg hg (hb g qd),rfl,hl.AH (hb g qd),aJ.AH cs cells G hr λb hm=>hb b (by simp [hm])⟩
 | .fn f cs,v,F,h,hb=>by simp only [Rep] at h ⊢;obtain ⟨caps,h1,hr⟩:=h;exact ⟨caps,h1,aJ.AH cs caps F hr hb⟩
 | .opq,v,F,h,_=>by simpa [Rep] using h
 | .val u,v,F,h,_=>by simpa [Rep] using h
theorem aJ.AH {w w':World} : ∀(ds:List D) (vs:List Value) (F:List Nat),aJ w ds vs F->(∀b∈F,w'.heap[b]? = w.heap[b]?)->aJ w' ds vs F
 | [],vs,F,h,_=>by simpa [aJ] using h
 | d::ds,vs,F,h,hb=>by simp only [aJ] at h ⊢;obtain ⟨v,vs',F1,F2,h1,rfl,h3,h4⟩:=h;exact ⟨v,vs',F1,F2,h1,rfl,Rep.AH d v F1 h3 λb hm=>hb b (by simp [hm]),aJ.AH ds vs' F2 h4 λb hm=>hb b (by simp [hm])⟩
theorem aV.AH {w w':World} : ∀(xs:List (List D)) (vs:List Value) (F:List Nat),aV w xs vs F->(∀b∈F,w'.heap[b]? = w.heap[b]?)->aV w' xs vs F
 | [],vs,F,h,_=>by simpa [aV] using h
 | x::xs,vs,F,h,hb=>by simp only [aV] at h ⊢;obtain ⟨v1,v2,F1,F2,h1,rfl,h3,h4⟩:=h;exact ⟨v1,v2,F1,F2,h1,rfl,aJ.AH x v1 F1 h3 λb hm=>hb b (by simp [hm]),aV.AH xs v2 F2 h4 λb hm=>hb b (by simp [hm])⟩
end
mutual
theorem Rep.lt {w:World} : ∀(d:D) (v:Value) (F:List Nat),Rep w d v F -> ∀b∈F,b<w.heap.size
 | .int k n,v,F,h=>by simp only [Rep] at h;simp [h.2]
 | .bool b,v,F,h=>by simp only [Rep] at h;simp [h.2]
 | .str s,v,F,h=>by simp only [Rep] at h;simp [h.2]
 | .sl xs,v,F,h=>by simp only [Rep] at h;obtain ⟨a,n,c,h1,h2,h3,h4⟩:=h;rcases h4 with ⟨_,rfl⟩ | ⟨g,off,cells,sz,G,ha,hg,rfl,hl,hc,hx,hr⟩;(simp);·intro b hb;rcases List.mem_cons.1 hb with rfl | hb;(exact hg);·exact aV.lt xs cells G hr b hb
 | .ptr cs,v,F,h=>by simp only [Rep] at h;obtain ⟨g,off,cells,G,h1,hg,rfl,hl,hr⟩:=h;intro b hb;rcases List.mem_cons.1 hb with rfl | hb;(exact hg);·exact aJ.lt cs cells G hr b hb
 | .fn f cs,v,F,h=>by simp only [Rep] at h;obtain ⟨caps,h1,hr⟩:=h;exact aJ.lt cs caps F hr
 | .opq,v,F,h=>by simp only [Rep] at h;simp [h.2]
 | .val u,v,F,h=>by simp only [Rep] at h;simp [h.2]
theorem aJ.lt {w:World} : ∀(ds:List D) (vs:List Value) (F:List Nat),aJ w ds vs F -> ∀b∈F,b<w.heap.size
 | [],vs,F,h=>by simp only [aJ] at h;simp [h.2]
 | d::ds,vs,F,h=>by simp only [aJ] at h;obtain ⟨v,vs',F1,F2,h1,rfl,h3,h4⟩:=h;intro b hb;rcases List.mem_append.1 hb with hb | hb;(exact Rep.lt d v F1 h3 b hb);·exact aJ.lt ds vs' F2 h4 b hb
theorem aV.lt {w:World} : ∀(xs:List (List D)) (vs:List Value) (F:List Nat),aV w xs vs F -> ∀b∈F,b<w.heap.size
 | [],vs,F,h=>by simp only [aV] at h;simp [h.2]
 | x::xs,vs,F,h=>by simp only [aV] at h;obtain ⟨v1,v2,F1,F2,h1,rfl,h3,h4⟩:=h;intro b hb;rcases List.mem_append.1 hb with hb | hb;(exact aJ.lt x v1 F1 h3 b hb);·exact aV.lt xs v2 F2 h4 b hb
end
theorem Rep.one {w:World} {d:D} {v:Value} {F:List Nat} (h:Rep w d v F):v.oneCell'=true:=by
 cases d<;>simp only [Rep] at h
 ·rw [h.1];rfl
 ·rw [h.1];rfl
 ·rw [h.1];rfl
 ·obtain ⟨a,n,c,rfl,_⟩:=h;rfl
 ·obtain ⟨g,off,cells,G,rfl,_⟩:=h;rfl
 ·obtain ⟨caps,rfl,_⟩:=h;rfl
 ·exact h.1
 ·exact h.1.2
theorem aJ.length {w:World} : ∀ {ds:List D} {vs:List Value} {F:List Nat},aJ w ds vs F->vs.length=ds.length
 | [],vs,F,h=>by simp only [aJ] at h;simp [h.1]
 | d::ds,vs,F,h=>by simp only [aJ] at h;obtain ⟨v,vs',F1,F2,rfl,rfl,h3,h4⟩:=h;simp [aJ.length h4]
theorem aJ.one {w:World} : ∀ {ds:List D} {vs:List Value} {F:List Nat},aJ w ds vs F -> ∀u∈vs,u.oneCell'=true
 | [],vs,F,h=>by simp only [aJ] at h;simp [h.1]
 | d::ds,vs,F,h=>by simp only [aJ] at h;obtain ⟨v,vs',F1,F2,rfl,rfl,h3,h4⟩:=h;intro u hu;rcases List.mem_cons.1 hu with rfl | hu;(exact h3.one);·exact aJ.one h4 u hu
theorem aV.one {w:World} : ∀ {xs:List (List D)} {vs:List Value} {F:List Nat},aV w xs vs F -> ∀u∈vs,u.oneCell'=true
 | [],vs,F,h=>by simp only [aV] at h;simp [h.1]
 | x::xs,vs,F,h=>by simp only [aV] at h;obtain ⟨v1,v2,F1,F2,rfl,rfl,h3,h4⟩:=h;intro u hu;rcases List.mem_append.1 hu with hu | hu;(exact h3.one u hu);·exact aV.one h4 u hu
theorem aJ.at_ {w:World} : ∀ {ds:List D} {vs:List Value} {F:List Nat},aJ w ds vs F -> ∀(j:Nat) (d:D),ds[j]? = some d ->
  ∃v Fj,vs[j]? = some v/\Rep w d v Fj /\ ∀b∈Fj,b∈F
 | [],vs,F,_,j,d,hj=>by simp at hj
 | d0::ds,vs,F,h,j,d,hj=>by
  simp only [aJ] at h
  obtain ⟨v,vs',F1,F2,rfl,rfl,h3,h4⟩:=h
  cases j with
  | zero =>
   simp at hj
   subst hj
   exact ⟨v,F1,qd,h3,λb hb=>by simp [hb]⟩
  | succ j =>
   simp at hj
   obtain ⟨u,Fj,hu,hr,hF⟩:=aJ.at_ h4 j d hj
   exact ⟨u,Fj,by simpa using hu,hr,λb hb=>by simp [hF b hb]⟩
theorem aJ.append {w:World} : ∀ {ds es:List D} {vs us:List Value} {F G:List Nat},aJ w ds vs F->aJ w es us G->aJ w (ds++es) (vs++us) (F++G)
 | [],es,vs,us,F,G,h,k=>by simp only [aJ] at h;simpa [h.1,h.2] using k
 | d::ds,es,vs,us,F,G,h,k=>by simp only [aJ] at h;obtain ⟨v,vs',F1,F2,rfl,rfl,h3,h4⟩:=h;simp only [List.cons_append,aJ];exact ⟨v,vs'++us,F1,F2++G,rfl,qd,h3,aJ.append h4 k⟩
theorem aV.append {w:World} : ∀ {xs ys:List (List D)} {vs us:List Value} {F G:List Nat},aV w xs vs F->aV w ys us G->aV w (xs++ys) (vs++us) (F++G)
 | [],ys,vs,us,F,G,h,k=>by simp only [aV] at h;simpa [h.1,h.2] using k
 | x::xs,ys,vs,us,F,G,h,k=>by simp only [aV] at h;obtain ⟨v1,v2,F1,F2,rfl,rfl,h3,h4⟩:=h;simp only [List.cons_append,aV];exact ⟨v1,v2++us,F1,F2++G,qd,qd,h3,aV.append h4 k⟩
theorem aV.split {w:World} : ∀ {xs ys:List (List D)} {vs:List Value} {F:List Nat},aV w (xs++ys) vs F ->
  ∃v1 v2 F1 F2,vs=v1++v2/\F=F1++F2/\aV w xs v1 F1/\aV w ys v2 F2
 | [],ys,vs,F,h=>⟨[],vs,[],F,rfl,rfl,by simp [aV],h⟩
 | x::xs,ys,vs,F,h=>by simp only [List.cons_append,aV] at h;obtain ⟨v1,v2,F1,F2,rfl,rfl,h3,h4⟩:=h;obtain ⟨u1,u2,G1,G2,rfl,rfl,h5,h6⟩:=aV.split h4;exact ⟨v1++u1,u2,F1++G1,G2,qd,qd,by simp only [aV];exact ⟨v1,u1,F1,G1,rfl,rfl,h3,h5⟩,h6⟩
theorem aV.length {w:World} {sz:Nat} : ∀ {xs:List (List D)} {vs:List Value} {F:List Nat},aV w xs vs F->(∀x∈xs,x.length=sz)->vs.length=xs.length*sz
 | [],vs,F,h,_=>by simp only [aV] at h;simp [h.1]
 | x::xs,vs,F,h,hx=>by
  simp only [aV] at h
  obtain ⟨v1,v2,F1,F2,rfl,rfl,h3,h4⟩:=h
  have h5:=aV.length h4 λy hy=>hx y (by simp [hy])
  have h6:=h3.length
  have h7:=hx x qd
  simp only [qE,qJ,h5,h6,h7,Nat.add_mul]
  omega
theorem aV.at_ {w:World} {sz:Nat} {xs:List (List D)} {vs:List Value} {F:List Nat} (h:aV w xs vs F) (hx : ∀x∈xs,x.length=sz) {i:Nat} {x:List D} (hi:xs[i]? = some x) :
  ∃v1 v2 v3 F1 F2 F3,vs=v1++(v2++v3)/\F=F1++(F2++F3)/\v1.length=i*sz/\aV w (xs.take i) v1 F1/\aJ w x v2 F2/\aV w (xs.drop (i+1)) v3 F3:=by
 have hlt:i<xs.length:=(List.getElem?_eq_some_iff.1 hi).1
 have hsp:xs=xs.take i++(x::xs.drop (i+1)):=by have:xs[i]=x:=(List.getElem?_eq_some_iff.1 hi).2;rw [<-this,<-qV hlt,List.take_append_drop]
 rw [hsp] at h
 obtain ⟨v1,v2,F1,F2,rfl,rfl,h3,h4⟩:=aV.split h
 simp only [aV] at h4
 obtain ⟨u1,u2,G1,G2,rfl,rfl,h5,h6⟩:=h4
 refine ⟨v1,u1,u2,F1,G1,G2,rfl,rfl,?_,h3,h5,h6⟩
 have:=aV.length h3 λy hy=>hx y (List.mem_of_mem_take hy)
 rw [this,qT,Nat.min_eq_left qb]
abbrev Lb:=List (Option (TypeId×Nat))
abbrev TL:=TypeId->Lb
def lab:Lb->Option (TypeId×Nat)
 | []=>none
 | x::_=>x
mutual
def Cx (L:TL) (w:World):D->Option (TypeId×Nat)->Value->List Nat->Prop
 | .int k n,_,v,F=>v = .int k n/\F=[]
 | .bool b,_,v,F=>v = .bool b/\F=[]
 | .str s,_,v,F=>v = .string s/\F=[]
 | .sl xs,none,v,F=>Rep w (.sl xs) v F
 | .sl xs,some t,v,F=>∃cells G,w.ownsRow 0 t.1 t.2 v xs.length cells/\(∀x∈xs,x.length=t.2)/\F=v.ownBlock.toList++G/\jW L w xs t.1 cells G
 | .ptr cs,_,v,F=>Rep w (.ptr cs) v F
 | .fn f cs,_,v,F=>Rep w (.fn f cs) v F
 | .opq,_,v,F=>v.oneCell'=true/\F=[]
 | .val u,_,v,F=>(v=u/\v.oneCell'=true)/\F=[]
def bT (L:TL) (w:World):List D->Lb->List Value->List Nat->Prop
 | [],_,vs,F=>vs=[]/\F=[]
 | d::ds,ts,vs,F=>∃v vs' F1 F2,vs=v::vs'/\F=F1++F2/\Cx L w d (lab ts) v F1/\bT L w ds ts.tail vs' F2
def jW (L:TL) (w:World):List (List D)->TypeId->List Value->List Nat->Prop
 | [],_,vs,F=>vs=[]/\F=[]
 | x::xs,e,vs,F=>∃v1 v2 F1 F2,vs=v1++v2/\F=F1++F2/\bT L w x (L e) v1 F1/\jW L w xs e v2 F2
end
theorem Lo {w:World} {base:Nat} {e:TypeId} {sz n g cap:Nat} {cells:List Value} (h:w.ownsRow base e sz (.slice (some ⟨g,0,none⟩) n cap) n cells):BX w g 0 cells:=by intro j u hu;have:=h.cells (g:=g) rfl j u hu;rw [Addr.add_lit] at this;exact this
theorem O6 {w w':World} {base n:Nat} {e:TypeId} {sz:Nat} {v:Value} {cells:List Value} (h:w.ownsRow base e sz v n cells) (hb : ∀b∈v.ownBlock.toList,w'.heap[b]? = w.heap[b]?):w'.ownsRow base e sz v n cells:=by refine ⟨h.1,?_⟩;rcases h.2 with h6 | ⟨gg,cap,cur,h6,h7,h8,h9⟩;(exact .inl h6);·exact .inr ⟨gg,cap,cur,h6,h7,(hb gg (by rw [h6];simp [Value.ownBlock])).trans h8,h9⟩
mutual
theorem Cx.rep {L:TL} {w:World} : ∀(d:D) (t:Option (TypeId×Nat)) (v:Value) (F:List Nat),Cx L w d t v F->Rep w d v F
 | .int k n,t,v,F,h=>by simp only [Cx] at h;simp only [Rep];exact h
 | .bool b,t,v,F,h=>by simp only [Cx] at h;simp only [Rep];exact h
 | .str s,t,v,F,h=>by simp only [Cx] at h;simp only [Rep];exact h
 | .sl xs,none,v,F,h=>by simp only [Cx] at h;exact h
 | .sl xs,some (e,sz),v,F,h=>by simp only [Cx] at h;obtain ⟨cells,G,h1,h2,rfl,h3⟩:=h;have h4:=jW.rep xs e cells G h3;have h1':=h1;rcases h1.2 with ⟨rfl,h6⟩ | ⟨gg,cap,cur,rfl,h7,h8,h9,aa,ae,af⟩;(have hx:xs=[]:=List.eq_nil_of_length_eq_zero h6;subst hx;simp only [aV] at h4;simp only [Rep];exact ⟨none,0,0,rfl,rfl,Nat.le_refl _,.inl ⟨rfl,by rw [h4.2];rfl⟩⟩);·simp only [Rep];exact ⟨_,_,cap,rfl,rfl,h9,.inr ⟨gg,0,cells,sz,G,rfl,(Array.getElem?_eq_some_iff.1 h8).1,rfl,Lo h1',h1.1,h2,h4⟩⟩
 | .ptr cs,t,v,F,h=>by simp only [Cx] at h;exact h
 | .fn f cs,t,v,F,h=>by simp only [Cx] at h;exact h
 | .opq,t,v,F,h=>by simp only [Cx] at h;simp only [Rep];exact h
 | .val u,t,v,F,h=>by simp only [Cx] at h;simp only [Rep];exact h
theorem bT.rep {L:TL} {w:World} : ∀(ds:List D) (ts:Lb) (vs:List Value) (F:List Nat),bT L w ds ts vs F->aJ w ds vs F
 | [],ts,vs,F,h=>by simp only [bT] at h;simp only [aJ];exact h
 | d::ds,ts,vs,F,h=>by simp only [bT] at h;obtain ⟨v,vs',F1,F2,h1,h2,h3,h4⟩:=h;simp only [aJ];exact ⟨v,vs',F1,F2,h1,h2,Cx.rep d _ v F1 h3,bT.rep ds _ vs' F2 h4⟩
theorem jW.rep {L:TL} {w:World} : ∀(xs:List (List D)) (e:TypeId) (vs:List Value) (F:List Nat),jW L w xs e vs F->aV w xs vs F
 | [],e,vs,F,h=>by simp only [jW] at h;simp only [aV];exact h
 | x::xs,e,vs,F,h=>by simp only [jW] at h;obtain ⟨v1,v2,F1,F2,h1,h2,h3,h4⟩:=h;simp only [aV];exact ⟨v1,v2,F1,F2,h1,h2,bT.rep x _ v1 F1 h3,jW.rep xs e v2 F2 h4⟩
end
mutual
theorem Cx.AH {L:TL} {w w':World} : ∀(d:D) (t:Option (TypeId×Nat)) (v:Value) (F:List Nat),Cx L w d t v F->(∀b∈F,w'.heap[b]? = w.heap[b]?)->Cx L w' d t v F
 | .int k n,t,v,F,h,_=>by simpa [Cx] using h
 | .bool b,t,v,F,h,_=>by simpa [Cx] using h
 | .str s,t,v,F,h,_=>by simpa [Cx] using h
 | .sl xs,none,v,F,h,hb=>by simp only [Cx] at h ⊢;exact Rep.AH _ _ _ h hb
 | .sl xs,some (e,sz),v,F,h,hb=>by simp only [Cx] at h ⊢;obtain ⟨cells,G,h1,h2,rfl,h3⟩:=h;exact ⟨cells,G,O6 h1 λb hm=>hb b (List.mem_append_left _ hm),h2,rfl,jW.AH xs e cells G h3 λb hm=>hb b (List.mem_append_right _ hm)⟩
 | .ptr cs,t,v,F,h,hb=>by simp only [Cx] at h ⊢;exact Rep.AH _ _ _ h hb
 | .fn f cs,t,v,F,h,hb=>by simp only [Cx] at h ⊢;exact Rep.AH _ _ _ h hb
 | .opq,t,v,F,h,_=>by simpa [Cx] using h
 | .val u,t,v,F,h,_=>by simpa [Cx] using h
theorem bT.AH {L:TL} {w w':World} : ∀(ds:List D) (ts:Lb) (vs:List Value) (F:List Nat),bT L w ds ts vs F->(∀b∈F,w'.heap[b]? = w.heap[b]?)->bT L w' ds ts vs F
 | [],ts,vs,F,h,hb=>by simpa [bT] using h
 | d::ds,ts,vs,F,h,hb=>by simp only [bT] at h ⊢;obtain ⟨v,vs',F1,F2,h1,rfl,h3,h4⟩:=h;exact ⟨v,vs',F1,F2,h1,rfl,Cx.AH d _ v F1 h3 λb hm=>hb b (by simp [hm]),bT.AH ds _ vs' F2 h4 λb hm=>hb b (by simp [hm])⟩
theorem jW.AH {L:TL} {w w':World} : ∀(xs:List (List D)) (e:TypeId) (vs:List Value) (F:List Nat),jW L w xs e vs F->(∀b∈F,w'.heap[b]? = w.heap[b]?)->jW L w' xs e vs F
 | [],e,vs,F,h,hb=>by simpa [jW] using h
 | x::xs,e,vs,F,h,hb=>by simp only [jW] at h ⊢;obtain ⟨v1,v2,F1,F2,h1,rfl,h3,h4⟩:=h;exact ⟨v1,v2,F1,F2,h1,rfl,bT.AH x _ v1 F1 h3 λb hm=>hb b (by simp [hm]),jW.AH xs e v2 F2 h4 λb hm=>hb b (by simp [hm])⟩
end
theorem bT.append {L:TL} {w:World} : ∀ {ds es:List D} {ts:Lb} {vs us:List Value} {F G:List Nat},bT L w ds ts vs F->bT L w es (ts.drop ds.length) us G->bT L w (ds++es) ts (vs++us) (F++G)
 | [],es,ts,vs,us,F,G,h,k=>by simp only [bT] at h;simpa [h.1,h.2] using k
 | d::ds,es,ts,vs,us,F,G,h,k=>by simp only [bT] at h;obtain ⟨v,vs',F1,F2,rfl,rfl,h3,h4⟩:=h;simp only [List.cons_append,bT];refine ⟨v,vs'++us,F1,F2++G,rfl,qd,h3,bT.append h4 ?_⟩;rw [List.drop_tail];exact k
theorem bT.split {L:TL} {w:World} : ∀ {ds es:List D} {ts:Lb} {vs:List Value} {F:List Nat},bT L w (ds++es) ts vs F -> ∃F1 F2,F=F1++F2/\bT L w ds ts (vs.take ds.length) F1/\bT L w es (ts.drop ds.length) (vs.drop ds.length) F2
 | [],es,ts,vs,F,h=>⟨[],F,rfl,by simp [bT],by simpa using h⟩
 | d::ds,es,ts,vs,F,h=>by simp only [List.cons_append,bT] at h;obtain ⟨v,vs',F1,F2,rfl,rfl,h3,h4⟩:=h;obtain ⟨G1,G2,rfl,k1,k2⟩:=bT.split h4;refine ⟨F1++G1,G2,qd,?_,by rw [List.drop_tail] at k2;simpa using k2⟩;simp only [qJ,List.take_succ_cons,bT];exact ⟨v,vs'.take ds.length,F1,G1,rfl,rfl,h3,k1⟩
theorem jW.append {L:TL} {w:World} : ∀ {xs ys:List (List D)} {e:TypeId} {vs us:List Value} {F G:List Nat},jW L w xs e vs F->jW L w ys e us G->jW L w (xs++ys) e (vs++us) (F++G)
 | [],ys,e,vs,us,F,G,h,k=>by simp only [jW] at h;simpa [h.1,h.2] using k
 | x::xs,ys,e,vs,us,F,G,h,k=>by simp only [jW] at h;obtain ⟨v1,v2,F1,F2,rfl,rfl,h3,h4⟩:=h;simp only [List.cons_append,jW];exact ⟨v1,v2++us,F1,F2++G,qd,qd,h3,jW.append h4 k⟩
theorem jW.split {L:TL} {w:World} : ∀ {xs ys:List (List D)} {e:TypeId} {vs:List Value} {F:List Nat},jW L w (xs++ys) e vs F ->
  ∃v1 v2 F1 F2,vs=v1++v2/\F=F1++F2/\jW L w xs e v1 F1/\jW L w ys e v2 F2
 | [],ys,e,vs,F,h=>⟨[],vs,[],F,rfl,rfl,by simp [jW],h⟩
 | x::xs,ys,e,vs,F,h=>by simp only [List.cons_append,jW] at h;obtain ⟨v1,v2,F1,F2,rfl,rfl,h3,h4⟩:=h;obtain ⟨u1,u2,G1,G2,rfl,rfl,h5,h6⟩:=jW.split h4;exact ⟨v1++u1,u2,F1++G1,G2,qd,qd,by simp only [jW];exact ⟨v1,u1,F1,G1,rfl,rfl,h3,h5⟩,h6⟩
def Sx:TL:=λ_=>[]
theorem Cx.none {L:TL} {w:World} {d:D} {v:Value} {F:List Nat} (h:Rep w d v F):Cx L w d none v F:=by cases d<;>simp only [Cx]<;>(try simp only [Rep] at h)<;>exact h
theorem bT.none {L:TL} {w:World} : ∀ {ds:List D} {vs:List Value} {F:List Nat},aJ w ds vs F->bT L w ds [] vs F
 | [],vs,F,h=>by simp only [aJ] at h;simp only [bT];exact h
 | d::ds,vs,F,h=>by simp only [aJ] at h;obtain ⟨v,vs',F1,F2,h1,h2,h3,h4⟩:=h;simp only [bT];exact ⟨v,vs',F1,F2,h1,h2,Cx.none h3,bT.none h4⟩
theorem jW.PC {w:World} : ∀ {xs:List (List D)} {e:TypeId} {vs:List Value} {F:List Nat},aV w xs vs F->jW Sx w xs e vs F
 | [],e,vs,F,h=>by simp only [aV] at h;simp only [jW];exact h
 | x::xs,e,vs,F,h=>by simp only [aV] at h;obtain ⟨v1,v2,F1,F2,h1,h2,h3,h4⟩:=h;simp only [jW];exact ⟨v1,v2,F1,F2,h1,h2,bT.none h3,jW.PC h4⟩
def xZ (L:TL) (m:Bool) (w:World) (ts:Lb) (ds:List D) (vs:List Value) (F:List Nat):Prop:=if m=true then bT L w ds ts vs F else aJ w ds vs F
def dB (L:TL) (m:Bool) (w:World) (e:TypeId) (xs:List (List D)) (vs:List Value) (F:List Nat):Prop:=if m=true then jW L w xs e vs F else aV w xs vs F
theorem dB.Sx {m:Bool} {w:World} {xs:List (List D)} {e:TypeId} {vs:List Value} {F:List Nat} (h:aV w xs vs F):dB Sx m w e xs vs F:=by unfold dB;split;(exact jW.PC h);·exact h
section
variable {L:TL} {m n:Bool} {w w':World} {ts:Lb} {e:TypeId} {ds es:List D} {xs ys:List (List D)} {vs us:List Value} {F G:List Nat}
theorem xZ.rep (h:xZ L m w ts ds vs F):aJ w ds vs F:=by unfold xZ at h;split at h;(exact h.rep);·exact h
theorem dB.rep (h:dB L m w e xs vs F):aV w xs vs F:=by unfold dB at h;split at h;(exact h.rep);·exact h
theorem xZ.PC (h:xZ L m w ts ds vs F) (hm:n=true->m=true):xZ L n w ts ds vs F:=by unfold xZ;split;(rename_i hn;unfold xZ at h;rw [if_pos (hm hn)] at h;exact h);·exact h.rep
theorem dB.PC (h:dB L m w e xs vs F) (hm:n=true->m=true):dB L n w e xs vs F:=by unfold dB;split;(rename_i hn;unfold dB at h;rw [if_pos (hm hn)] at h;exact h);·exact h.rep
theorem xZ.AH (h:xZ L m w ts ds vs F) (hb : ∀b∈F,w'.heap[b]? = w.heap[b]?):xZ L m w' ts ds vs F:=by
 cases m with
 | true=>exact bT.AH _ _ _ _ h hb
 | false=>exact aJ.AH _ _ _ h hb
theorem dB.AH (h:dB L m w e xs vs F) (hb : ∀b∈F,w'.heap[b]? = w.heap[b]?):dB L m w' e xs vs F:=by
 cases m with
 | true=>exact jW.AH _ _ _ _ h hb
 | false=>exact aV.AH _ _ _ h hb
theorem dB.append (h:dB L m w e xs vs F) (k:dB L m w e ys us G):dB L m w e (xs++ys) (vs++us) (F++G):=by
 cases m with
 | true=>exact jW.append h k
 | false=>exact aV.append h k
theorem dB.split (h:dB L m w e (xs++ys) vs F) : ∃v1 v2 F1 F2,vs=v1++v2/\F=F1++F2/\dB L m w e xs v1 F1/\dB L m w e ys v2 F2:=by
 cases m with
 | true=>exact jW.split h
 | false=>exact aV.split h
theorem dB.nil:dB L m w e [] [] []:=by
 cases m with
 | true=>simp [dB,jW]
 | false=>simp [dB,aV]
theorem dB.one {x:List D} (h:xZ L m w (L e) x vs F):dB L m w e [x] vs F:=by
 cases m with
 | true=>simp only [dB,if_true,jW];exact ⟨vs,[],F,[],qd,qd,h,rfl,rfl⟩
 | false=>simp only [dB,qD,if_false,aV];exact ⟨vs,[],F,[],qd,qd,h,rfl,rfl⟩
theorem dB.aGV {x:List D} (h:dB L m w e [x] vs F):xZ L m w (L e) x vs F:=by
 cases m with
 | true =>
  simp only [dB,if_true,jW] at h
  obtain ⟨v1,v2,F1,F2,rfl,rfl,h3,rfl,rfl⟩:=h
  simpa [xZ] using h3
 | false =>
  simp only [dB,qD,if_false,aV] at h
  obtain ⟨v1,v2,F1,F2,rfl,rfl,h3,rfl,rfl⟩:=h
  simpa [xZ] using h3
theorem xZ.append (h:xZ L m w ts ds vs F) (k:xZ L m w (ts.drop ds.length) es us G):xZ L m w ts (ds++es) (vs++us) (F++G):=by
 cases m with
 | true=>exact bT.append h k
 | false=>exact aJ.append h k
theorem dB.at_ {sz:Nat} (h:dB L m w e xs vs F) (hx : ∀x∈xs,x.length=sz) {i:Nat} {x:List D} (hi:xs[i]? = some x) :
  ∃v1 v2 v3 F1 F2 F3,vs=v1++(v2++v3)/\F=F1++(F2++F3)/\v1.length=i*sz/\dB L m w e (xs.take i) v1 F1/\xZ L m w (L e) x v2 F2/\dB L m w e (xs.drop (i+1)) v3 F3:=by
 have hlt:i<xs.length:=(List.getElem?_eq_some_iff.1 hi).1
 have hsp:xs=xs.take i++([x]++xs.drop (i+1)):=by have:xs[i]=x:=(List.getElem?_eq_some_iff.1 hi).2;rw [<-this,List.singleton_append,<-qV hlt,List.take_append_drop]
 rw [hsp] at h
 obtain ⟨v1,v2,F1,F2,rfl,rfl,h3,h4⟩:=dB.split h
 obtain ⟨u1,u2,G1,G2,rfl,rfl,h5,h6⟩:=dB.split h4
 refine ⟨v1,u1,u2,F1,G1,G2,rfl,rfl,?_,h3,h5.aGV,h6⟩
 have:=aV.length h3.rep λy hy=>hx y (List.mem_of_mem_take hy)
 rw [this,qT,Nat.min_eq_left qb]
end
end Go.Sh
namespace Go.Sh
open Go.RowKit
def D.flat:D->Bool
 | .int _ _ | .bool _ | .str _ | .opq=>true
 | _=>false
inductive SC where
 | dat (d:D)
 | nil
 | row (id ver:Nat)
 | bp (id ver off:Nat)
 | rp (id ver i off:Nat)
 | clo (f:FuncId) (caps:List (Nat×Nat×Nat))
 | old (B:Nat) (d:D) (u:Option Value)
 | part (id ver lo n:Nat)
 | exa (W:World) (d:D) (x:Value)
inductive SV where
 | unk
 | undef
 | v (ag:Bool) (cs:List SC)
 | tup (vs:List (Bool×List SC))
inductive CT where
 | none
 | box (t:TypeId) (cells:List SC)
 | row (e:TypeId) (sz:Nat) (xs:List (List D)) (deep:Bool)
 | pin (i ver:Nat) (u:Value)
structure St where
 t:Nat->SV
 h:Nat->Nat×CT
 fr:Nat->SV:=λ_=>.unk
def St.Gu (s:St) (t:Nat) (v:SV):St:={ s with t:=λi=>if i=t then v else s.t i }
def St.fH (s:St) (i:Nat) (x:Nat×CT):St:={ s with h:=λj=>if j=i then x else s.h j }
theorem St.JE (s:St) (t:Nat) (v:SV) (i:Nat):(s.Gu t v).t i=if i=t then v else s.t i:=rfl
theorem St.Tq (s:St) (t:Nat) (v:SV) (i:Nat):(s.Gu t v).h i=s.h i:=rfl
theorem St.K7 (s:St) (t:Nat) (v:Nat×CT) (i:Nat):(s.fH t v).h i=if i=t then v else s.h i:=rfl
theorem St.Uv (s:St) (t:Nat) (v:Nat×CT) (i:Nat):(s.fH t v).t i=s.t i:=rfl
structure QF where
 p:Nat->Prop
 fb:Nat
 lent:Option Nat
 L:TL
instance:CoeFun QF λ_=>Nat->Prop:=⟨QF.p⟩
structure W0 where
 w:World
 Q:QF
 K:Nat->Prop
 fv:Nat->Value
def noK:Nat->Prop:=λ_=>False
def PT:Nat->Value:=λ_=>undef
def Ra (P:Program):Nat->TypeId->Lb
 | 0,_=>[]
 | n+1,t=>match P.underlying t with
  | some (.struct fs)=>fs.toList.flatMap λf=>Ra P n f.type
  | some (.array k e)=>(List.replicate k (Ra P n e)).flatten
  | some (.slice e)=>[some (e,P.cellsOf e)]
  | _=>[none]
def slP (P:Program):TL:=λt=>if (Ra P 8 t).all Option.isNone=true then [] else Ra P 8 t
inductive Ed where
 | del (e:TypeId) (sz:Nat)
 | ins (e:TypeId) (sz bytes:Nat)
 | sN (e:TypeId) (sz:Nat) (ys:List (List D))
 | pass
 | sel (c k sz:Nat)
 | lend (t:TypeId) (es:List D)
 | newb (t:TypeId) (es:List D)
inductive RC where
 | any (d:D)
 | ro (d:D)
 | own (e:TypeId) (sz:Nat) (xs:List (List D))
 | edit (q:Ed)
def RC.isAny:RC->Bool
 | .any _=>true
 | .edit _=>true
 | _=>false
def AJ (rs:List (Bool×List RC)):Bool:=rs.any λr=>r.2.any RC.isAny
theorem Oz (d:D):RC.isAny (.any d)=true:=rfl
theorem Rg (d:D):RC.isAny (.ro d)=false:=rfl
theorem Sd (q:Ed):RC.isAny (.edit q)=true:=rfl
theorem Sp (t:TypeId) (es:List D):RC.isAny (.edit (.lend t es))=true:=rfl
theorem Pn (e:TypeId) (sz:Nat) (xs:List (List D)):RC.isAny (.own e sz xs)=false:=rfl
def YI (w:World) (b:Nat):Prop:=∃cur e,w.heap[b]? = some (.cells cur e (0,0))
def QZ (w:World) (v:Value) (x:Bool×List D) (F:List Nat):Prop:=
 match x with
 | (true,ds)=>∃cs,v = .agg cs/\aJ w ds cs.toList F
 | (false,ds)=>∃d,ds=[d]/\Rep w d v F
def xJ (w:World):List Value->List (Bool×List D)->List Nat->Prop
 | [],[],F=>F=[]
 | v::vs,x::xs,F=>∃F1 F2,F=F1++F2/\QZ w v x F1/\xJ w vs xs F2
 | _,_,_=>False
def pX (L:TL) (base:Nat) (w:World) (X:Nat->Prop):List Value->List RC->List Nat->Prop
 | [],[],F=>F=[]
 | v::vs,.any d::rs,F=>(∃G,Rep w d v G /\ ∀b∈G,X b)/\pX L base w X vs rs F
 | v::vs,.ro d::rs,F=>Rep w d v []/\pX L base w X vs rs F
 | v::vs,.own e sz xs::rs,F=>∃cells G F',w.ownsRow base e sz v xs.length cells/\(∀x∈xs,x.length=sz)/\jW L w xs e cells G /\
   F=v.ownBlock.toList++(G++F')/\pX L base w X vs rs F'
 | _,_,_=>False
def Lk (L:TL) (base:Nat) (w:World) (X:Nat->Prop) (v:Value) (r:Bool×List RC) (F:List Nat):Prop:=
 match r with
 | (true,rs)=>∃cs,v = .agg cs/\pX L base w X cs.toList rs F
 | (false,rs)=>pX L base w X [v] rs F
def CI (L:TL) (base:Nat) (w:World) (X:Nat->Prop):List Value->List (Bool×List RC)->List Nat->Prop
 | [],[],F=>F=[]
 | v::vs,r::rs,F=>∃F1 F2,F=F1++F2/\Lk L base w X v r F1/\CI L base w X vs rs F2
 | _,_,_=>False
def Ac (base:Nat) (w:World) (F:List Nat):Prop:=F.Nodup /\ ∀b∈F,base<=b/\YI w b
def QI (L:TL) (base:Nat) (w:World) (X:Nat->Prop) (v:Value) (rs:List (Bool×List RC)) (F:List Nat):Prop:=
 match rs with
 | [r]=>Lk L base w X v r F
 | rs=>∃vs,v = .tuple vs/\CI L base w X vs.toList rs F
def JB (L:TL) (base:Nat) (w:World) (v:Value) (rs:List (Bool×List RC)) (Q:Nat->Prop):Prop:=
 ∃F X,Ac base w F/\(∀b,X b->(Q b\/base<=b)/\b<w.heap.size)/\(AJ rs=true->F=[])/\QI L base w X v rs F
def KP (P : Program) (f : FuncId) : Prop := ∃ fn c, P.funcs[f]? = some fn /\ fn.body = some c /\ (fn.name == "runtime.NumGoroutine") = false
def Rw (base:Nat) (e:TypeId) (sz:Nat) (w:World) (v:Value) (n:Nat) (cells:List Value) (ed:Ending) (w':World):Prop:=
 ∃v',ed = .returned v'/\w'.ownsRow base e sz v' n cells/\w.grownBy w' v.ownBlock/\(v'.ownBlock=v.ownBlock \/ ∃b,w.heap.size<=b/\v'.ownBlock=some b)
def aFu (P:Program) (f:FuncId) (args:List (Bool×List D)):Ed->Prop
 | .del e sz=>∀(base:Nat) (w:World) (v:Value) (n:Nat) (cells:List Value) (i j:Nat),base<=w.heap.size->w.ownsRow base e sz v n cells->i<=j->j<=n->(∀u∈cells,u.oneCell'=true) ->
   Calls P f #[v,.int .i64 i,.int .i64 j] w (Rw base e sz w v (i+(n-j)) (cells.take (i*sz)++cells.drop (j*sz)))
 | .ins e sz bytes=>∀(base:Nat) (w:World) (v v2:Value) (n m:Nat) (cells cells2:List Value) (i:Nat),base<=w.heap.size->w.ownsRow base e sz v n cells->w.ownsRow base e sz v2 m cells2 ->
   (∀b,v.ownBlock=some b->v2.ownBlock≠some b)->i<=n->0<m->(n+m)*bytes<=140737488355328->(∀u∈cells,u.oneCell'=true)->(∀u∈cells2,u.oneCell'=true) ->
   Calls P f #[v,.int .i64 i,v2] w (Rw base e sz w v (n+m) (cells.take (i*sz)++(cells2++cells.drop (i*sz))))
 | .sN e sz ys=>∃xs g caps,args=[(false,[.sl xs]),(false,[.fn g caps])]/\(∀x∈xs,x.all D.flat=true)/\((∀y∈ys,y.length=sz) /\ ∀y∈ys,y.all D.flat=true) /\ ∀(base:Nat) (w:World) (v fv:Value) (cells:List Value) (F2:List Nat),base<=w.heap.size->w.ownsRow base e sz v xs.length cells ->
   (∀x∈xs,x.length=sz)->aV w xs cells []->Rep w (.fn g caps) fv F2->(∀b,v.ownBlock=some b->b∉F2) ->
   Calls P f #[v,fv] w λed w'=>∃v' cells',ed = .returned v'/\w'.ownsRow base e sz v' ys.length cells'/\aV w' ys cells' []/\w.grownBy w' v.ownBlock/\(v'.ownBlock=v.ownBlock\/v'.ownBlock=none \/ ∃b,w.heap.size<=b/\v'.ownBlock=some b)
 | .pass=>∀(w:World) (v1 v2:Value) (F:List Nat),xJ w [v1,v2] args F->Calls P f #[v1,v2] w λe w'=>e = .returned (.tuple #[v2,.bool true])/\Below w.heap.size w w'
 | .sel c k sz=>∀(w:World) (vs:Array Value) (F:List Nat),xJ w vs.toList args F->Calls P f vs w λe w'=>Below w.heap.size w w' /\ ∃us:Array Value,us.size=sz/\e = .returned (.tuple #[.agg us,.bool true]) /\
   ∃cs rest b o n cap,vs.toList = .agg cs::rest/\cs.toList[c]? = some (.slice (some ⟨b,o,none⟩) n cap)/\BX w b (o+k*sz) us.toList
 | .lend _ _=>False
 | .newb t es=>∀(w:World) (vs:Array Value) (F:List Nat),xJ w vs.toList args F->Calls P f vs w λe w'=>Below w.heap.size w w' /\ ∃b vals G,e = .returned (.pointer (some ⟨b,0,none⟩))/\w.heap.size<=b /\
   w'.heap[b]? = some (.cells vals t (0,0))/\aJ w' es vals.toList G/\b∉G /\ ∀x∈G,(x∈F\/w.heap.size<=x)/\x<w'.heap.size
def aAG (P:Program) (f:FuncId) (args:List (Bool×List D)) (t:TypeId) (es:List D) (rs:List (Bool×List RC)):Prop:=
 AJ rs=false/\es.all D.flat=true /\ ∃d0 ds rest,args=(false,[.ptr (d0::ds)])::rest/\ds.all D.flat=true/\es.length=ds.length /\
  ∀(w:World) (b:Nat) (vals:Array Value) (v0:Value) (vs0 vs:List Value) (Fb F:List Nat),w.heap[b]? = some (.cells vals t (0,0))->vals.toList=v0::vs0->Rep w d0 v0 Fb->aJ w ds vs0 []->b∉Fb ->
   xJ w vs rest F->b∉F->Calls P f (.pointer (some ⟨b,0,none⟩)::vs).toArray w λe w'=>∃v us,e = .returned v/\JB (slP P) w.heap.size w' v rs (λx=>x<w.heap.size)/\w.grownBy w' (some b) /\
    w'.heap[b]? = some (.cells (v0::us).toArray t (0,0))/\aJ w' es us []
def NZ (P:Program) (f:FuncId) (args:List (Bool×List D)) (rs:List (Bool×List RC)):Prop:=
 KP P f /\ ∀(w:World) (vs:Array Value) (F:List Nat),xJ w vs.toList args F->Calls P f vs w λe w'=>∃v,e = .returned v/\JB (slP P) w.heap.size w' v rs (λb=>b∈F)/\Below w.heap.size w w'
def kR (P:Program) (f:FuncId) (args:List (Bool×List D)) (rs:List (Bool×List RC)):Prop:=
 NZ P f args rs\/(∃q,rs=[(false,[.edit q])]/\KP P f/\aFu P f args q) \/ ∃t es rs',rs=(false,[.edit (.lend t es)])::rs'/\KP P f/\aAG P f args t es rs'
theorem kR.body {P:Program} {f:FuncId} {args:List (Bool×List D)} {rs:List (Bool×List RC)} (h:kR P f args rs):KP P f:=by rcases h with h | ⟨q,_,h,_⟩ | ⟨t,es,rs',_,h,_⟩;(exact h.1);(exact h);·exact h
theorem kR.old {P:Program} {f:FuncId} {args:List (Bool×List D)} {rs:List (Bool×List RC)} (h:kR P f args rs) (ha:AJ rs=false):NZ P f args rs:=by rcases h with h | ⟨q,rfl,_⟩ | ⟨t,es,rs',rfl,_⟩;(exact h);(simp [AJ,RC.isAny] at ha);·simp [AJ,RC.isAny] at ha
inductive TK where
 | struct (fs:List (Nat×Nat×Bool))
 | arr (e:TypeId) (n:Nat)
 | slice (e:TypeId)
 | int (k:IntKind)
 | bool
 | str
 | other
inductive LK where
 | int
 | bool
 | str
structure TI where
 k:TK
 size:Nat
 bytes:Nat
 zero:List SC
 cmp:List LK:=[]
 sl:Lb:=[]
def TI.agg (ti:TI):Bool:=match ti.k with | .struct _=>true | .arr _ _=>true | _=>false
abbrev N3:=TypeId->Option TI
inductive Prog where
 | done
 | fail
 | getT (t:Nat) (k:SV->Prog)
 | Gu (t:Nat) (v:SV) (k:Prog)
 | getH (i:Nat) (k:Nat×CT->Prog)
 | fH (i:Nat) (x:Nat×CT) (k:Prog)
 | call (f:FuncId) (args:List (Bool×List D)) (k:List (Bool×List RC)->Prog)
 | must (p:Prop) (k:Prog)
inductive Loc where
 | t (i:Nat)
 | h (i:Nat)
 | f (i:Nat)
 deriving DecidableEq
def ex (P:Program):Prog->St->(St->Prop)->Prop
 | .done,s,K=>K s
 | .fail,_,_=>False
 | .getT t k,s,K=>ex P (k (s.t t)) s K
 | .Gu t v k,s,K=>ex P k (s.Gu t v) K
 | .getH i k,s,K=>ex P (k (s.h i)) s K
 | .fH i x k,s,K=>ex P k (s.fH i x) K
 | .call f args k,s,K=>∃rs,kR P f args rs/\ex P (k rs) s K
 | .must p k,s,K=>p/\ex P k s K
def cst:Value->SV
 | .int k n=>.v false [.dat (.int k n)]
 | .bool b=>.v false [.dat (.bool b)]
 | .string s=>.v false [.dat (.str s)]
 | .slice none 0 0=>.v false [.nil]
 | _=>.unk
def vOp (x:Operand) (k:SV->Prog):Prog:=
 match x with
 | .tmp t=>.getT t k
 | .const c=>k (cst c)
 | .func f=>k (.v false [.dat (.fn f [])])
 | .global _=>.fail
def Zu (x:Option Operand) (k:Option SV->Prog):Prog:=
 match x with
 | some x=>vOp x λv=>k (some v)
 | none=>k none
def put (N:Nat) (dst:Option Tmp) (v:SV):Prog:=
 match dst with
 | some d=>if d<N then .Gu d v .done else .fail
 | none=>.done
def rid (d j:Nat):Nat:=100000*(j+1)+d
def Bw:List SC->Lb->(List D->Bool->Prog)->Prog
 | [],_,k=>k [] true
 | .dat d::cs,ts,k=>Bw cs ts.tail λds b=>k (d::ds) (d.flat&&b)
 | .nil::cs,ts,k=>Bw cs ts.tail λds b=>k (.sl []::ds) b
 | .row i ver::cs,ts,k=>.getH i λo =>
   match o.2 with
   | .row e sz xs deep=>if o.1=ver then .fH i (ver,.none) (Bw cs ts.tail λds b=>k (.sl xs::ds) (if lab ts=none\/lab ts=some (e,sz) then deep&&b else false)) else .fail
   | _=>.fail
 | _::_,_,_=>.fail
def Eg:List SC->(List D->Prog)->Prog
 | [],k=>k []
 | .dat d::cs,k=>Eg cs λds=>k (d::ds)
 | .nil::cs,k=>Eg cs λds=>k (.sl []::ds)
 | .old _ d _::cs,k=>Eg cs λds=>k (d::ds)
 | .row i ver::cs,k=>.getH i λo =>
   match o.2 with
   | .row _ _ xs _=>if o.1=ver then Eg cs λds=>k (.sl xs::ds) else .fail
   | _=>.fail
 | _::_,_=>.fail
def FX (i ver off:Nat) (k:List D->Prog):Prog:=
 .getH i λo =>
  match o.2 with
  | .box _ cells=>if o.1=ver then Eg (cells.drop off) k else .fail
  | _=>.fail
def DG:List (Nat×Nat×Nat)->(List D->Prog)->Prog
 | [],k=>k []
 | (i,ver,off)::cs,k=>FX i ver off λds=>DG cs λes=>k (.ptr ds::es)
def Bt:List SC->(List D->Prog)->Prog
 | [],k=>k []
 | .dat d::cs,k=>Bt cs λds=>k (d::ds)
 | .nil::cs,k=>Bt cs λds=>k (.sl []::ds)
 | .row i ver::cs,k=>.getH i λo =>
   match o.2 with
   | .row _ _ xs _=>if o.1=ver then Bt cs λds=>k (.sl xs::ds) else .fail
   | _=>.fail
 | .bp i ver off::cs,k=>FX i ver off λds=>Bt cs λes=>k (.ptr ds::es)
 | .clo f caps::cs,k=>DG caps λds=>Bt cs λes=>k (.fn f ds::es)
 | .old _ d _::cs,k=>Bt cs λds=>k (d::ds)
 | .part i ver lo n::cs,k=>.getH i λo =>
   match o.2 with
   | .row _ _ xs _=>if o.1=ver then Bt cs λds=>k (.sl ((xs.drop lo).take n)::ds) else .fail
   | _=>.fail
 | .exa _ d _::cs,k=>Bt cs λds=>k (d::ds)
 | _::_,_=>.fail
def EA:List Operand->(List (Bool×List D)->Prog)->Prog
 | [],k=>k []
 | x::xs,k=>vOp x λv =>
   match v with
   | .v ag cs=>Bt cs λds=>EA xs λas=>k ((ag,ds)::as)
   | _=>.fail
def xD (d:Nat):Nat->List RC->(List SC->Prog)->Prog
 | _,[],k=>k []
 | j,.any x::rs,k=>xD d (j+1) rs λcs=>k (.dat x::cs)
 | j,.ro x::rs,k=>xD d (j+1) rs λcs=>k (.dat x::cs)
 | _,.edit _::_,_=>.fail
 | j,.own e sz xs::rs,k=>.getH (rid d j) λo=>.fH (rid d j) (o.1+1,.row e sz xs true) (xD d (j+1) rs λcs=>k (.row (rid d j) (o.1+1)::cs))
def CY (d:Nat):Nat->List (Bool×List RC)->(List (Bool×List SC)->Prog)->Prog
 | _,[],k=>k []
 | j,(ag,r)::rs,k=>xD d j r λcs=>CY d (j+r.length) rs λvs=>k ((ag,cs)::vs)
def Cc (N:Nat) (dst:Option Tmp) (rs:List (Bool×List RC)):Prog:=
 match dst with
 | none=>.done
 | some d =>
  match rs with
  | [(ag,r)]=>xD d 0 r λcs=>put N (some d) (.v ag cs)
  | rs=>CY d 0 rs λvs=>put N (some d) (.tup vs)
def IF:List SC->(List D->Prog)->Prog
 | [],k=>k []
 | .dat d::cs,k=>IF cs λds=>k (d::ds)
 | .nil::cs,k=>IF cs λds=>k (.sl []::ds)
 | .old _ d _::cs,k=>IF cs λds=>k (d::ds)
 | .row i ver::cs,k=>.getH i λo =>
   match o.2 with
   | .row _ _ xs _=>if o.1=ver then .fH i (ver,.none) (IF cs λds=>k (.sl xs::ds)) else .fail
   | _=>.fail
 | _::_,_=>.fail
def K0:List Operand->(List (Bool×List D)->Prog)->Prog
 | [],k=>k []
 | x::xs,k=>vOp x λv =>
   match v with
   | .v ag cs=>IF cs λds=>K0 xs λas=>k ((ag,ds)::as)
   | _=>.fail
def zY (N:Nat) (dst:Option Tmp) (xs:List Operand) (avs:List (Bool×List D)) (q:Ed):Prog:=
 match q,xs with
 | .del e sz,[a,b,c]=>vOp a λva=>vOp b λvb=>vOp c λvc=>match va,vb,vc with
   | .v false [.row i ver],.v false [.dat (.int .i64 x)],.v false [.dat (.int .i64 y)]=>.getH i λo=>match o.2 with
     | .row e' sz' rs deep=>if o.1=ver/\e'=e/\sz'=sz then .must (0<=x/\x<=y/\y.toNat<=rs.length)
       (.fH i (ver+1,.row e sz (rs.take x.toNat++rs.drop y.toNat) deep) (put N dst (.v false [.row i (ver+1)]))) else .fail
     | _=>.fail
   | _,_,_=>.fail
 | .ins e sz bytes,[a,b,c]=>vOp a λva=>vOp b λvb=>vOp c λvc=>match va,vb,vc with
   | .v false [.row i ver],.v false [.dat (.int .i64 x)],.v false [.row j ver2]=>.getH i λo=>match o.2 with
     | .row e' sz' rs deep=>if o.1=ver/\e'=e/\sz'=sz then .fH i (ver,.none) (.getH j λp=>match p.2 with
       | .row e'' sz'' ys b=>if p.1=ver2/\e''=e/\sz''=sz then .fH j (ver2,.none) (.must (0<=x/\x.toNat<=rs.length/\0<ys.length/\(rs.length+ys.length)*bytes<=140737488355328)
         (.fH i (ver+1,.row e sz (rs.take x.toNat++(ys++rs.drop x.toNat)) (deep&&b)) (put N dst (.v false [.row i (ver+1)])))) else .fail
       | _=>.fail) else .fail
     | _=>.fail
   | _,_,_=>.fail
 | .sN e sz ys,[a,b]=>vOp a λva=>vOp b λvb=>match va,vb with
   | .v false [.row i ver],.v false [c]=>.getH i λo=>match o.2 with
     | .row e' sz' rs deep=>if o.1=ver/\e'=e/\sz'=sz then .fH i (ver,.none) (Bt [c] λds=>.must (avs=[(false,[.sl rs]),(false,ds)])
       (.fH i (ver+1,.row e sz ys deep) (put N dst (.v false [.row i (ver+1)])))) else .fail
     | _=>.fail
   | _,_=>.fail
 | .pass,[_,b]=>vOp b λvb=>match vb with
   | .v ag cs=>put N dst (.tup [(ag,cs),(false,[.dat (.bool true)])])
   | _=>.fail
 | .sel c k sz,a::_=>vOp a λva=>match va with
   | .v true cs=>match cs[c]? with
     | some (.row i ver)=>.getH i λo=>match o.2 with
       | .row _ sz' rs _=>if o.1=ver/\sz'=sz then (match rs[k]? with
         | some y=>put N dst (.tup [(true,y.map .dat),(false,[.dat (.bool true)])])
         | none=>.fail) else .fail
       | _=>.fail
     | _=>.fail
   | _=>.fail
 | .newb t es,xs=>match dst with
   | some d=>K0 xs λas=>.must (as=avs) (.getH d λp=>.fH d (p.1+1,.box t (es.map .dat)) (put N (some d) (.v false [.bp d (p.1+1) 0])))
   | none=>.fail
 | _,_=>.fail
def Od:List Operand->(List (Bool×List D)->Prog)->Prog
 | [],k=>k []
 | x::xs,k=>vOp x λv =>
   match v with
   | .v ag cs=>Eg cs λds=>Od xs λas=>k ((ag,ds)::as)
   | _=>.fail
def Pg (N:Nat) (dst:Option Tmp) (t:TypeId) (es:List D) (rs:List (Bool×List RC)) (xs:List Operand) (avs:List (Bool×List D)):Prog:=
 match xs with
 | []=>.fail
 | a::bs=>vOp a λva=>match va with
   | .v false [.bp i ver 0]=>.getH i λo=>match o.2 with
     | .box t' (c0::cells)=>if o.1=ver/\t'=t then Eg [c0] λd0=>Eg cells λds=>.must (cells=ds.map .dat) (Od bs λas=>.must (avs=(false,[.ptr (d0++ds)])::as)
       (.fH i (ver,.box t (c0::es.map .dat)) (Cc N dst rs))) else .fail
     | _=>.fail
   | _=>.fail
def RC.ed:RC->Option Ed
 | .edit q=>some q
 | .any _=>none
 | .ro _=>none
 | .own _ _ _=>none
def PB:List (Bool×List RC)->Option Ed
 | []=>none
 | (_,[])::_=>none
 | (_,r::_)::_=>r.ed
def EL (N:Nat) (dst:Option Tmp) (xs:List Operand) (avs:List (Bool×List D)) (rs:List (Bool×List RC)):Option Ed->Prog
 | some (.lend t es)=>Pg N dst t es rs.tail xs avs
 | some (.del e sz)=>zY N dst xs avs (.del e sz)
 | some (.ins e sz b)=>zY N dst xs avs (.ins e sz b)
 | some (.sN e sz ys)=>zY N dst xs avs (.sN e sz ys)
 | some .pass=>zY N dst xs avs .pass
 | some (.sel c k sz)=>zY N dst xs avs (.sel c k sz)
 | some (.newb t es)=>zY N dst xs avs (.newb t es)
 | none=>K0 xs λas=>.must (as=avs) (Cc N dst rs)
def Kp (N:Nat) (dst:Option Tmp) (xs:List Operand) (avs:List (Bool×List D)) (rs:List (Bool×List RC)):Prog:=
 if AJ rs=true then EL N dst xs avs rs (PB rs) else Cc N dst rs
def Ct (place:Nat->Option (Nat×Nat)):List SC->List (Nat×Operand)->(List SC->Prog)->Prog
 | cells,[],k=>k cells
 | cells,(i,x)::rest,k=>vOp x λv =>
   match v,place i with
   | .v _ cs,some (off,sz)=>if cs.length=sz/\off+sz<=cells.length then Ct place (cells.take off++(cs++cells.drop (off+sz))) rest k else .fail
   | _,_=>.fail
def rows (sz:Nat):Nat->List D->List (List D)
 | 0,_=>[]
 | n+1,ds=>ds.take sz::rows sz n (ds.drop sz)
def one (d:D):SV:=.v false [.dat d]
def vY (op:BinOp) (k:IntKind) (a b:Int):Option D:=
 match op with
 | .add=>some (.int k (k.wrap (a+b)))
 | .sub=>some (.int k (k.wrap (a-b)))
 | .mul=>some (.int k (k.wrap (a*b)))
 | .eql=>some (.bool (a==b))
 | .neq=>some (.bool (a != b))
 | .lss=>some (.bool (decide (a<b)))
 | .leq=>some (.bool (decide (a<=b)))
 | .gtr=>some (.bool (decide (a>b)))
 | .geq=>some (.bool (decide (a>=b)))
 | .quo=>if b=0 then none else some (.int k (k.wrap (a.tdiv b)))
 | .rem=>if b=0 then none else some (.int k (a.tmod b))
 | .shl=>if b<0 then none else some (.int k (k.wrap (a*2^(min b.toNat k.bits))))
 | .shr=>if b<0 then none else some (.int k (a.fdiv (2^(min b.toNat k.bits))))
 | .and=>some (.int k (k.wrap (BitVec.ofInt k.bits a&&&BitVec.ofInt k.bits b).toNat))
 | .or=>some (.int k (k.wrap (BitVec.ofInt k.bits a|||BitVec.ofInt k.bits b).toNat))
 | .xor=>some (.int k (k.wrap (BitVec.ofInt k.bits a ^^^ BitVec.ofInt k.bits b).toNat))
 | .andNot=>some (.int k (k.wrap (BitVec.ofInt k.bits a &&& ~~~ BitVec.ofInt k.bits b).toNat))
def Cr (l:List UInt8):List (List D):=l.map λb=>[.int .u8 (b.toNat:Int)]
def byteOf:List D->UInt8
 | [.int _ n]=>UInt8.ofNat n.toNat
 | _=>0
def strOf (xs:List (List D)):ByteArray:=⟨(xs.map byteOf).toArray⟩
def GB (op:BinOp) (x y:ByteArray):Option D:=
 match op with
 | .eql=>some (.bool (x.toList==y.toList))
 | .neq=>some (.bool !(x.toList==y.toList))
 | .lss=>some (.bool (Op.bytesLess x.toList y.toList))
 | .leq=>some (.bool (Op.bytesLess x.toList y.toList||x.toList==y.toList))
 | .gtr=>some (.bool !(Op.bytesLess x.toList y.toList||x.toList==y.toList))
 | .geq=>some (.bool !(Op.bytesLess x.toList y.toList))
 | _=>none
def lenOf (v:SV) (k:Nat->Prog):Prog:=
 match v with
 | .v false [.dat (.sl xs)]=>k xs.length
 | .v false [.old _ (.sl xs) _]=>k xs.length
 | .v false [.nil]=>k 0
 | .v false [.row i ver]=>.getH i λo=>match o.2 with
   | .row _ _ xs _=>if o.1=ver then k xs.length else .fail
   | _=>.fail
 | .v false [.part i ver _ n]=>.getH i λo=>match o.2 with
   | .row _ _ _ _=>if o.1=ver then k n else .fail
   | _=>.fail
 | _=>.fail
def cellAt (W:World) (p:Value) (j:Nat):Value:=
 match p with
 | .pointer (some ⟨b,off,_⟩)=>(W.cell? ⟨b,off+j,none⟩).getD undef
 | _=>undef
def aAd (v:Value) (i esz:Nat):Value:=
 match v with
 | .slice (some ⟨b,off,_⟩) _ _=>.pointer (some ⟨b,off+i*esz,none⟩)
 | _=>undef
def aBU (W:World) (p:Value):Nat->List D->List SC
 | _,[]=>[]
 | j,d::ds=>.exa W d (cellAt W p j)::aBU W p (j+1) ds
def JP:List D->Option Value
 | []=>none
 | .val u::_=>some u
 | .int _ _::_=>none
 | .bool _::_=>none
 | .str _::_=>none
 | .sl _::_=>none
 | .ptr _::_=>none
 | .fn _ _::_=>none
 | .opq::_=>none
def KY (N:Nat) (dst:Option Tmp) (ti:TI) (p:SV):Prog:=
 match p with
 | .v false [.bp i ver off]=>.getH i λo=>match o.2 with
   | .box _ cells=>if o.1=ver/\off+ti.size<=cells.length then put N dst (.v ti.agg ((cells.drop off).take ti.size)) else .fail
   | _=>.fail
 | .v false [.dat (.ptr ds)]=>if ti.size<=ds.length then put N dst (.v ti.agg ((ds.take ti.size).map .dat)) else .fail
 | .v false [.rp i ver j off]=>.getH i λo=>match o.2 with
   | .row _ _ xs _=>if o.1=ver then (match xs[j]? with
     | some x=>if off+ti.size<=x.length then (match JP ((x.drop off).take ti.size) with
       | some u=>.getH 7058000 λp=>match p.2 with
         | .pin i' ver' u'=>.must (u'=u/\ti.agg=false) (.getH i' λq=>match q.2 with
           | .row _ _ _ _=>if q.1=ver' then put N dst (.v false [.row i' ver']) else .fail
           | _=>.fail)
         | _=>.fail
       | none=>put N dst (.v ti.agg (((x.drop off).take ti.size).map .dat))) else .fail
     | none=>.fail) else .fail
   | _=>.fail
 | .v false [.exa W (.ptr ds) p]=>if ti.size<=ds.length then put N dst (.v ti.agg ((aBU W p 0 ds).take ti.size)) else .fail
 | _=>.fail
def KM (T:N3) (ti:TI) (p v:SV):Prog:=
 match p,v with
 | .v false [.bp i ver off],.v _ cs=>.getH i λo=>match o.2 with
   | .box t cells=>if o.1=ver/\cs.length=ti.size/\off+ti.size<=cells.length then .fH i (ver,.box t (cells.take off++(cs++cells.drop (off+ti.size)))) .done else .fail
   | _=>.fail
 | .v false [.rp i ver j off],.v _ cs=>.getH i λo0=>match o0.2 with
   | .row e0 _ _ _=>match T e0 with
    | some te=>Bw cs (te.sl.drop off) λds b=>.getH i λo=>match o.2 with
     | .row e sz xs deep=>if o.1=ver/\cs.length=ti.size/\e=e0 then (match xs[j]? with
       | some x=>if off+ti.size<=x.length then .fH i (ver,.row e sz (xs.set j (x.take off++(ds++x.drop (off+ti.size)))) (deep&&b)) .done else .fail
       | none=>.fail) else .fail
     | _=>.fail
    | none=>.fail
   | _=>.fail
 | _,_=>.fail
def I4 (N:Nat) (dst:Option Tmp) (off:Nat) (p:SV):Prog:=
 match p with
 | .v false [.bp i ver o]=>.getH i λq=>match q.2 with
   | .box _ _=>if q.1=ver then put N dst (.v false [.bp i ver (o+off)]) else .fail
   | _=>.fail
 | .v false [.rp i ver j o]=>.getH i λq=>match q.2 with
   | .row _ _ _ _=>if q.1=ver then put N dst (.v false [.rp i ver j (o+off)]) else .fail
   | _=>.fail
 | .v false [.dat (.ptr ds)]=>if off<=ds.length then put N dst (.v false [.dat (.ptr (ds.drop off))]) else .fail
 | _=>.fail
def Bg (N:Nat) (dst:Option Tmp) (esz:Nat) (x ix:SV):Prog:=
 match x,ix with
 | .v false [.dat (.sl xs)],.v false [.dat (.int _ i)]=>.must (0<=i) (match xs[i.toNat]? with
   | some e=>if e.length=esz then put N dst (.v false [.dat (.ptr e)]) else .fail
   | none=>.fail)
 | .v false [.old _ (.sl xs) _],.v false [.dat (.int _ i)]=>.must (0<=i) (match xs[i.toNat]? with
   | some e=>if e.length=esz then put N dst (.v false [.dat (.ptr e)]) else .fail
   | none=>.fail)
 | .v false [.row j ver],.v false [.dat (.int _ i)]=>.getH j λo=>match o.2 with
   | .row _ sz xs _=>if o.1=ver/\sz=esz then .must (0<=i/\i.toNat<xs.length) (put N dst (.v false [.rp j ver i.toNat 0])) else .fail
   | _=>.fail
 | .v false [.exa W (.sl xs) v],.v false [.dat (.int _ i)]=>.must (0<=i) (match xs[i.toNat]? with
   | some e=>if e.length=esz then put N dst (.v false [.exa W (.ptr e) (aAd v i.toNat esz)]) else .fail
   | none=>.fail)
 | _,_=>.fail
def J8 (sz lo n:Nat) (xs:List (List D)):List (List D):=xs.take lo++(List.replicate n (List.replicate sz .opq)++xs.drop (lo+n))
def Ck (e0:TypeId) (x:SV) (k:List (List D)->Bool->Prog):Prog:=
 match x with
 | .v false [.dat (.sl ys)]=>k ys (ys.all λy=>y.all D.flat)
 | .v false [.nil]=>k [] true
 | .v false [.row i ver]=>.getH i λo=>match o.2 with
   | .row e _ ys deep=>if o.1=ver then .fH i (ver,.none) (k ys (if e=e0 then deep else false)) else .fail
   | _=>.fail
 | .v false [.part i ver lo n]=>.getH i λo=>match o.2 with
   | .row e sz ys deep=>if o.1=ver then .fH i (ver,.row e sz (J8 sz lo n ys) deep) (k ((ys.drop lo).take n) (if e=e0 then deep else false)) else .fail
   | _=>.fail
 | _=>.fail
def My (N:Nat) (dst:Option Tmp) (esz i ver l:Nat) (h:Nat->Nat) (p:Nat->Prop):Prog:=
 .getH i λq=>match q.2 with
  | .row _ sz xs _=>if q.1=ver/\sz=esz then .must (p xs.length) (put N dst (.v false [.part i ver l (h xs.length-l)])) else .fail
  | _=>.fail
def Ep (N:Nat) (dst:Option Tmp) (e:TypeId) (sz bytes:Nat) (s x:SV):Prog:=
 match dst with
 | none=>.fail
 | some d =>
 match s with
 | .v false [.row i ver]=>.getH i λo=>match o.2 with
   | .row e' sz' xs deep=>if o.1=ver/\e'=e/\sz'=sz then
     .fH i (ver,.none) (Ck e x λys b=>.must ((∀y∈ys,y.length=sz)/\(xs.length+ys.length)*bytes<=140737488355328/\0<sz/\0<bytes) (.fH i (ver+1,.row e sz (xs++ys) (deep&&b)) (put N dst (.v false [.row i (ver+1)])))) else .fail
   | _=>.fail
 | .v false [.part i ver 0 n]=>.getH i λp=>match p.2 with
   | .row _ _ xs0 _=>Ck e x λys b=>.getH i λo=>match o.2 with
     | .row e' sz' xs deep=>if o.1=ver/\e'=e/\sz'=sz then
       .must (xs.take n=xs0.take n/\(∀y∈ys,y.length=sz)/\(n+ys.length)*bytes<=140737488355328/\0<sz/\0<bytes) (.fH i (ver+1,.row e sz (xs0.take n++ys) (deep&&b)) (put N dst (.v false [.row i (ver+1)]))) else .fail
     | _=>.fail
   | _=>.fail
 | .v false [.nil]=>Ck e x λys b=>.must ((∀y∈ys,y.length=sz)/\ys.length*bytes<=140737488355328/\0<sz/\0<bytes) (.getH (rid d 0) λo=>.fH (rid d 0) (o.1+1,.row e sz ys b) (put N dst (.v false [.row (rid d 0) (o.1+1)])))
 | _=>.fail
def QA (dst:Option Tmp) (e:TypeId) (sz:Nat) (v:SV):Prog:=
 match dst,v with
 | none,.v false [.part i ver lo n]=>.getH i λp=>match p.2 with
   | .row e' sz' xs deep=>if p.1=ver/\e'=e/\sz'=sz then .must ((if deep=true then xs.all (λy=>y.all D.flat) else true)=true/\lo+n=xs.length)
     (.fH i (ver,.row e sz (xs.take lo++List.replicate n (List.replicate sz .opq)) deep) .done) else .fail
   | _=>.fail
 | _,_=>.fail
def NU (N:Nat) (dst:Option Tmp) (e:TypeId) (s x:SV):Prog:=
 match s,x with
 | .v false [.row i ver],.v false [.dat (.str b)]=>.getH i λo=>match o.2 with
   | .row e' 1 xs deep=>if o.1=ver/\e'=e then
     .must (xs.length+b.size<=140737488355328) (.fH i (ver+1,.row e 1 (xs++Cr b.data.toList) deep) (put N dst (.v false [.row i (ver+1)]))) else .fail
   | _=>.fail
 | _,_=>.fail
def MU:List Operand->(List (Nat×Nat×Nat)->Prog)->Prog
 | [],k=>k []
 | x::xs,k=>vOp x λv=>match v with
   | .v false [.bp i ver off]=>MU xs λcs=>k ((i,ver,off)::cs)
   | _=>.fail
def Bh:List LK->List SC->List SC->Option Bool
 | [],[],[]=>some true
 | .int::ls,.dat (.int k a)::xs,.dat (.int k' b)::ys=>if k=k' then (Bh ls xs ys).map ((a==b) && ·) else none
 | .bool::ls,.dat (.bool a)::xs,.dat (.bool b)::ys=>(Bh ls xs ys).map ((a==b) && ·)
 | .str::ls,.dat (.str a)::xs,.dat (.str b)::ys=>(Bh ls xs ys).map ((a.toList==b.toList) && ·)
 | _,_,_=>none
def AL (T:N3) (N:Nat) (o:Oper):Prog:=
 match o.op with
 | .move x | .assign x=>vOp x λv=>put N o.dst v
 | .pick c a b=>vOp c λv=>match v with
   | .v false [.dat (.bool t)]=>if t=true then vOp a λv=>put N o.dst v else vOp b λv=>put N o.dst v
   | _=>.fail
 | .alloc t=>match o.dst,T t with
   | some d,some ti=>.getH d λp=>.fH d (p.1+1,.box t ti.zero) (put N (some d) (.v false [.bp d (p.1+1) 0]))
   | _,_=>.fail
 | .box t x=>match o.dst with
   | some d=>vOp x λv=>match v with
     | .v _ cs=>.getH d λp=>.fH d (p.1+1,.box t cs) (put N (some d) (.v false [.bp d (p.1+1) 0]))
     | _=>.fail
   | none=>.fail
 | .build t parts=>match T t with
   | some { k:=.struct fs,zero:=z,.. }=>Ct (λi=>(fs[i]?).map λf=>(f.1,f.2.1)) z parts.toList λcs=>put N o.dst (.v true cs)
   | some { k:=.arr e _,zero:=z,.. }=>match T e,parts.toList with
     | some _,[]=>put N o.dst (.v true z)
     | _,_=>.fail
   | _=>.fail
 | .buildSlice t len parts=>match o.dst,T t with
   | some d,some { k:=.slice e,.. }=>match T e with
     | some ti=>if len*ti.size<=16777216/\0<ti.size/\(ti.sl=[]\/ti.sl.length=ti.size) then
       Ct (λi=>some (i*ti.size,ti.size)) ((List.replicate len ti.zero).flatten) parts.toList λcs=>Bw cs ((List.replicate len ti.sl).flatten) λds b =>
        .getH (rid d 0) λp=>.fH (rid d 0) (p.1+1,.row e ti.size (rows ti.size len ds) b) (put N (some d) (.v false [.row (rid d 0) (p.1+1)])) else .fail
     | none=>.fail
   | _,_=>.fail
 | .makeSlice t l c=>match o.dst,T t with
   | some d,some { k:=.slice e,.. }=>match T e with
     | some ti=>vOp l λvl=>vOp c λvc=>match vl,vc with
       | .v false [.dat (.int _ n)],.v false [.dat (.int _ m)]=>.must (n=m/\0<=n/\n.toNat*ti.bytes<=140737488355328/\n<=9223372036854775807/\0<ti.size) (Bw ti.zero ti.sl λz b =>
         .getH (rid d 0) λp=>.fH (rid d 0) (p.1+1,.row e ti.size (List.replicate n.toNat z) b) (put N (some d) (.v false [.row (rid d 0) (p.1+1)])))
       | _,_=>.fail
     | none=>.fail
   | _,_=>.fail
 | .load t x=>match T t with
   | some ti=>vOp x λp=>KY N o.dst ti p
   | none=>.fail
 | .store t x y=>match o.dst,T t with
   | none,some ti=>vOp x λp=>vOp y λv=>KM T ti p v
   | _,_=>.fail
 | .fieldAddr s x f=>match T s with
   | some { k:=.struct fs,.. }=>match fs[f]? with
     | some (off,sz,_)=>if 0<sz then vOp x λp=>I4 N o.dst off p else .fail
     | none=>.fail
   | _=>.fail
 | .field s x f=>match T s with
   | some { k:=.struct fs,.. }=>match fs[f]? with
     | some (off,sz,ag)=>vOp x λp=>match p with
       | .v true cs=>if off+sz<=cs.length/\(ag=true\/sz=1) then put N o.dst (.v ag ((cs.drop off).take sz)) else .fail
       | _=>.fail
     | none=>.fail
   | _=>.fail
 | .indexAddr t x ix=>match T t with
   | some { k:=.slice e,.. }=>match T e with
     | some ti=>vOp x λa=>vOp ix λi=>Bg N o.dst ti.size a i
     | none=>.fail
   | some { k:=.arr e n,.. }=>match T e with
     | some ti=>vOp x λa=>vOp ix λi=>match a,i with
       | .v false [.bp j ver off],.v false [.dat (.int _ m)]=>.getH j λq=>match q.2 with
         | .box _ _=>if q.1=ver then .must (0<=m/\m.toNat<n) (put N o.dst (.v false [.bp j ver (off+m.toNat*ti.size)])) else .fail
         | _=>.fail
       | _,_=>.fail
     | none=>.fail
   | _=>.fail
 | .index t x ix=>match T t with
   | some { k:=.str,.. }=>vOp x λa=>vOp ix λi=>match a,i with
     | .v false [.dat (.str s)],.v false [.dat (.int _ n)]=>.must (0<=n) (match s[n.toNat]? with
       | some b=>put N o.dst (one (.int .u8 b.toNat))
       | none=>.fail)
     | _,_=>.fail
   | _=>.fail
 | .binOp op t x y _=>vOp x λa=>vOp y λb=>match a,b with
   | .v false [.dat (.int k m)],.v false [.dat (.int k' n)]=>if k=k'\/op = .shr\/op = .shl then (match vY op k m n with
     | some d=>put N o.dst (one d)
     | none=>.fail) else .fail
   | .v false [.dat (.str m)],.v false [.dat (.str n)]=>if op = .add then .must (m.size+n.size<=9223372036854775807) (put N o.dst (one (.str (m++n)))) else (match GB op m n with
     | some d=>put N o.dst (one d)
     | none=>.fail)
   | .v false [.dat (.bool m)],.v false [.dat (.bool n)]=>match op,T t with
     | .eql,some { k:=.bool,.. }=>put N o.dst (one (.bool (m==n)))
     | .neq,some { k:=.bool,.. }=>put N o.dst (one (.bool !(m==n)))
     | _,_=>.fail
   | .v true cs,.v true ds=>match T t with
     | some { cmp:=l::ls,.. }=>match Bh (l::ls) cs ds with
       | some b=>match op with
         | .eql=>put N o.dst (one (.bool b))
         | .neq=>put N o.dst (one (.bool !b))
         | _=>.fail
       | none=>.fail
     | _=>.fail
   | _,_=>.fail
 | .unOp .not _ x=>vOp x λa=>match a with
   | .v false [.dat (.bool b)]=>put N o.dst (one (.bool !b))
   | _=>.fail
 | .unOp .neg _ x=>vOp x λa=>match a with
   | .v false [.dat (.int k n)]=>put N o.dst (one (.int k (k.wrap (0-n))))
   | _=>.fail
 | .convert s t x=>match T s,T t with
   | some _,some { k:=.int k,.. }=>vOp x λa=>match a with
     | .v false [.dat (.int _ n)]=>put N o.dst (one (.int k (k.wrap n)))
     | _=>.fail
   | some { k:=.str,.. },some { k:=.slice e,.. }=>match T e with
     | some { k:=.int .u8,.. }=>vOp x λa=>match a with
       | .v false [.dat (.str b)]=>put N o.dst (one (.sl (Cr b.data.toList)))
       | _=>.fail
     | _=>.fail
   | some { k:=.slice e,.. },some { k:=.str,.. }=>match T e with
     | some { k:=.int .u8,.. }=>vOp x λa=>match a with
       | .v false [.dat (.sl xs)]=>.must (∀x∈xs,∃b:UInt8,x=[.int .u8 (b.toNat:Int)]) (put N o.dst (one (.str (strOf xs))))
       | .v false [.nil]=>put N o.dst (one (.str ByteArray.empty))
       | .v false [.row i ver]=>.getH i λo'=>match o'.2 with
         | .row _ _ xs _=>if o'.1=ver then .must (∀x∈xs,∃b:UInt8,x=[.int .u8 (b.toNat:Int)]) (put N o.dst (one (.str (strOf xs)))) else .fail
         | _=>.fail
       | _=>.fail
     | _=>.fail
   | _,_=>.fail
 | .nilCheck x=>vOp x λa=>match a with
   | .v false [.bp i ver off]=>.getH i λq=>match q.2 with
     | .box _ _=>if q.1=ver then put N o.dst (.v false [.bp i ver off]) else .fail
     | _=>.fail
   | .v false [.rp i ver j off]=>.getH i λq=>match q.2 with
     | .row _ _ _ _=>if q.1=ver then put N o.dst (.v false [.rp i ver j off]) else .fail
     | _=>.fail
   | .v false [.dat (.ptr ds)]=>put N o.dst (.v false [.dat (.ptr ds)])
   | .v false [.dat (.fn f ds)]=>put N o.dst (.v false [.dat (.fn f ds)])
   | .v false [.clo f cs]=>put N o.dst (.v false [.clo f cs])
   | _=>.fail
 | .slice t x lo hi none=>match T t with
   | some { k:=.slice e,.. }=>match T e with
     | some te=>vOp x λa=>Zu lo λl=>Zu hi λh=>match a,l,h with
       | .v false [.dat (.sl xs)],some (.v false [.dat (.int _ i)]),none=>.must (0<=i/\i.toNat<=xs.length /\ ∀x∈xs,x.length=te.size) (put N o.dst (one (.sl (xs.drop i.toNat))))
       | .v false [.dat (.sl xs)],none,some (.v false [.dat (.int _ j)])=>.must (0<=j/\j.toNat<=xs.length /\ ∀x∈xs,x.length=te.size) (put N o.dst (one (.sl (xs.take j.toNat))))
       | .v false [.dat (.sl xs)],some (.v false [.dat (.int _ i)]),some (.v false [.dat (.int _ j)])=>.must (0<=i/\i<=j/\j.toNat<=xs.length /\ ∀x∈xs,x.length=te.size) (put N o.dst (one (.sl ((xs.take j.toNat).drop i.toNat))))
       | .v false [.row j ver],some (.v false [.dat (.int _ x)]),none=>My N o.dst te.size j ver x.toNat (λn=>n) λn=>0<=x/\x.toNat<=n
       | .v false [.row j ver],none,some (.v false [.dat (.int _ y)])=>My N o.dst te.size j ver 0 (λ_=>y.toNat) λn=>0<=y/\y.toNat<=n
       | .v false [.row j ver],some (.v false [.dat (.int _ x)]),some (.v false [.dat (.int _ y)])=>My N o.dst te.size j ver x.toNat (λ_=>y.toNat) λn=>0<=x/\x<=y/\y.toNat<=n
       | _,_,_=>.fail
     | none=>.fail
   | _=>.fail
 | .makeFunc (.func f) first captured=>if first.size=0 then (MU captured.toList λcs=>put N o.dst (.v false [match cs with | []=>.dat (.fn f []) | _=>.clo f cs])) else .fail
 | .extract x i=>vOp x λa=>match a with
   | .tup vs=>match vs[i]? with
     | some (ag,cs)=>put N o.dst (.v ag cs)
     | none=>.fail
   | _=>.fail
 | .call { callee:=.builtin .len,args:=as,argTypes:=ts }=>match as.toList,ts.toList with
   | [x],[t]=>match T t with
     | some { k:=.slice _,.. }=>vOp x λa=>lenOf a λn=>put N o.dst (one (.int .i64 n))
     | some { k:=.str,.. }=>vOp x λa=>match a with
       | .v false [.dat (.str s)]=>put N o.dst (one (.int .i64 s.size))
       | _=>.fail
     | _=>.fail
   | _,_=>.fail
 | .call { callee:=.builtin .min,args:=as,.. }=>match as.toList with
   | [x,y]=>vOp x λa=>vOp y λb=>match a,b with
     | .v false [.dat (.int k m)],.v false [.dat (.int _ n)]=>put N o.dst (one (.int k (if n<m then n else m)))
     | _,_=>.fail
   | _=>.fail
 | .call { callee:=.builtin .max,args:=as,.. }=>match as.toList with
   | [x,y]=>vOp x λa=>vOp y λb=>match a,b with
     | .v false [.dat (.int k m)],.v false [.dat (.int _ n)]=>put N o.dst (one (.int k (if n>m then n else m)))
     | _,_=>.fail
   | [x,y,z]=>vOp x λa=>vOp y λb=>vOp z λc=>match a,b,c with
     | .v false [.dat (.int k m)],.v false [.dat (.int _ n)],.v false [.dat (.int _ q)]=>put N o.dst (one (.int k (if q>(if n>m then n else m) then q else (if n>m then n else m))))
     | _,_,_=>.fail
   | _=>.fail
 | .call { callee:=.builtin .append,args:=as,argTypes:=ts }=>match as.toList,ts.toList with
   | [s,x],[t,t']=>if t=t' then (match T t with
     | some { k:=.slice e,.. }=>match T e with
       | some ti=>vOp s λa=>vOp x λb=>Ep N o.dst e ti.size ti.bytes a b
       | none=>.fail
     | _=>.fail) else (match T t,T t' with
     | some { k:=.slice e,.. },some { k:=.str,.. }=>match T e with
       | some { k:=.int .u8,size:=1,bytes:=1,zero:=[.dat (.int .u8 0)],.. }=>vOp s λa=>vOp x λb=>NU N o.dst e a b
       | _=>.fail
     | _,_=>.fail)
   | _,_=>.fail
 | .call { callee:=.builtin .clear,args:=as,argTypes:=ts }=>match as.toList,ts.toList with
   | [x],[t]=>match T t with
     | some { k:=.slice e,.. }=>match T e with
       | some ti=>vOp x λv=>QA o.dst e ti.size v
       | none=>.fail
     | _=>.fail
   | _,_=>.fail
 | .call { callee:=.value (.func f),args:=as,.. }=>EA as.toList λavs=>.call f avs λrs=>Kp N o.dst as.toList avs rs
 | .call { callee:=.value (.tmp t),args:=as,.. }=>EA as.toList λavs=>.getT t λv=>match v with
   | .v false [.dat (.fn f caps)]=>.call f (avs++caps.map λc=>(false,[c])) λrs=>if AJ rs=true then .fail else Cc N o.dst rs
   | .v false [.clo f caps]=>DG caps λds=>.call f (avs++ds.map λc=>(false,[c])) λrs=>if AJ rs=true then .fail else Cc N o.dst rs
   | _=>.fail
 | _=>.fail
def evG (T:N3) (N:Nat) (ops:Array Oper) (o:Oper):Prog:=
 match o.guard with
 | none=>AL T N o
 | some (j,want)=>match (ops[j]?).bind (·.dst) with
   | some t=>.getT t λv=>match v with
     | .v false [.dat (.bool b)]=>if b=want then AL T N o else put N o.dst .undef
     | .undef=>put N o.dst .undef
     | _=>.fail
   | none=>.fail
def sO (P:Program) (T:N3) (N:Nat) (ops:Array Oper):List Oper->St->(St->Prop)->Prop
 | [],s,K=>K s
 | o::rest,s,K=>ex P (evG T N ops o) s λs'=>sO P T N ops rest s' K
theorem F4 {P:Program} : ∀(p:Prog) {s:St} {K K':St->Prop},(∀s,K s->K' s)->ex P p s K->ex P p s K'
 | .done,_,_,_,h,hh=>h _ hh
 | .fail,_,_,_,_,hh=>hh
 | .getT t k,s,_,_,h,hh=>F4 (k (s.t t)) h hh
 | .Gu t v k,s,_,_,h,hh=>F4 k h hh
 | .getH i k,s,_,_,h,hh=>F4 (k (s.h i)) h hh
 | .fH i x k,s,_,_,h,hh=>F4 k h hh
 | .call f args k,s,_,_,h,⟨rs,hc,hh⟩=>⟨rs,hc,F4 (k rs) h hh⟩
 | .must p k,s,_,_,h,⟨hp,hh⟩=>⟨hp,F4 k h hh⟩
end Go.Sh
namespace Go.Sh
open Go.RowKit
abbrev Heap:=Nat->Nat×CT
structure Gh where
 val:Nat->Value
 fp:Nat->List Nat
 S:Nat->Prop
 Q:QF
def Bj:Value->Option Nat
 | .pointer (some a)=>some a.block
 | .slice (some a) _ _=>some a.block
 | _=>none
def Ig (g:Gh) (h:Heap) (c:Nat×Nat×Nat) (v:Value):Prop:=
 c.2.1<=(h c.1).1/\((h c.1).1=c.2.1 -> ∀t cs,(h c.1).2 = .box t cs -> ∃b,g.val c.1 = .pointer (some ⟨b,0,none⟩)/\v = .pointer (some ⟨b,c.2.2,none⟩))
def De (g:Gh) (h:Heap):List (Nat×Nat×Nat)->List Value->Prop
 | [],vs=>vs=[]
 | c::cs,vs=>∃v vs',vs=v::vs'/\Ig g h c v/\De g h cs vs'
def Ae (g:Gh) (h:Heap) (w:World):SC->Value->Prop
 | .dat d,v=>∃F,Rep w d v F /\ ∀b∈F,g.S b
 | .nil,v=>v = .slice none 0 0
 | .row i ver,v=>v.oneCell'=true/\ver<=(h i).1/\((h i).1=ver -> ∀e sz xs dp,(h i).2 = .row e sz xs dp->v=g.val i)
 | .bp i ver off,v=>v.oneCell'=true/\Ig g h (i,ver,off) v
 | .rp i ver j off,v=>v.oneCell'=true/\ver<=(h i).1/\((h i).1=ver -> ∀e sz xs dp,(h i).2 = .row e sz xs dp -> ∃b n c,g.val i = .slice (some ⟨b,0,none⟩) n c/\v = .pointer (some ⟨b,j*sz+off,none⟩))
 | .clo f caps,v=>∃vs,v = .func (.func f) #[] vs.toArray/\De g h caps vs
 | .old B d u,v=>∃F,Rep w d v F/\(∀b∈F,g.S b/\b<B) /\ ∀x,u=some x->v=x
 | .part i ver lo n,v=>v.oneCell'=true/\ver<=(h i).1/\((h i).1=ver -> ∀e sz xs dp,(h i).2 = .row e sz xs dp -> ∃ad c,v = .slice ad n c/\n<=c/\(n=0 \/ ∃b m c',g.val i = .slice (some ⟨b,0,none⟩) m c'/\lo+n<=m/\ad=some ⟨b,lo*sz,none⟩)/\(lo=0 -> ∃m,g.val i = .slice ad m c/\n<=m))
 | .exa W d x,v=>v=x /\ ∃F,Rep W d x F /\ ∀b∈F,g.S b/\w.heap[b]? = W.heap[b]?
def aT (g:Gh) (h:Heap) (w:World):List SC->List Value->Prop
 | [],vs=>vs=[]
 | c::cs,vs=>∃v vs',vs=v::vs'/\Ae g h w c v/\aT g h w cs vs'
def F7 (g:Gh) (h:Heap) (w:World) (x:Bool×List SC) (v:Value):Prop:=
 match x with
 | (true,cs)=>∃vs,v = .agg vs/\aT g h w cs vs.toList
 | (false,cs)=>aT g h w cs [v]
def Dn (g:Gh) (h:Heap) (w:World):List (Bool×List SC)->List Value->Prop
 | [],vs=>vs=[]
 | c::cs,vs=>∃v vs',vs=v::vs'/\F7 g h w c v/\Dn g h w cs vs'
def uN (g:Gh) (h:Heap) (w:World):SV->Value->Prop
 | .unk,_=>True
 | .undef,v=>v=undef
 | .v ag cs,v=>F7 g h w (ag,cs) v
 | .tup xs,v=>∃vs,v = .tuple vs/\Dn g h w xs vs.toList
def Cq (base:Nat) (g:Gh) (h:Heap) (w:World) (i:Nat):CT->Prop
 | .none=>True
 | .box t cells=>∃b vals,g.val i = .pointer (some ⟨b,0,none⟩)/\g.Q.fb<=b/\w.heap[b]? = some (.cells vals t (0,0))/\aT g h w cells vals.toList
 | .row e sz xs dp=>∃cells,w.ownsRow base e sz (g.val i) xs.length cells/\(∀x∈xs,x.length=sz)/\dB g.Q.L dp w e xs cells (g.fp i)/\(∀b∈g.fp i,g.S b)/\(dp=true->Ac base w (g.fp i))
 | .pin j ver u=>g.val i=undef/\ver<=(h j).1/\((h j).1=ver -> ∀e sz xs dp,(h j).2 = .row e sz xs dp->g.val j=u)
def live (h:Heap) (i:Nat):Prop:=(h i).2 ≠ .none
def iV (h:Heap) (i:Nat):Prop:=∃e sz xs,(h i).2 = .row e sz xs true
structure Inv (base:Nat) (g:Gh) (h:Heap) (w:World) (pool:List Nat):Prop where
 base_le:base<=w.heap.size
 S_old : ∀b,g.S b->b<base->g.Q b
 S_lt : ∀b,g.S b->b<w.heap.size
 obj : ∀i,Cq base g h w i (h i).2
 mtb : ∀i b,live h i->Bj (g.val i)=some b -> ¬g.S b
 inj : ∀i j b,i≠j->live h i->live h j->Bj (g.val i)=some b->Bj (g.val j)≠some b
 dis : ∀i j,i≠j->iV h i->iV h j -> ∀b∈g.fp i,b∉g.fp j
 pool_own:Ac base w pool
 pool_S : ∀b∈pool,g.S b
 pool_dis : ∀i,iV h i -> ∀b∈g.fp i,b∉pool
 fb:g.Q.fb<=base
theorem YI.AH {w w':World} {b:Nat} (h:YI w b) (hb:w'.heap[b]? = w.heap[b]?):YI w' b:=by obtain ⟨c,e,hh⟩:=h;exact ⟨c,e,hb.trans hh⟩
theorem YI.lt {w:World} {b:Nat} (h:YI w b):b<w.heap.size:=by obtain ⟨c,e,hh⟩:=h;exact (Array.getElem?_eq_some_iff.1 hh).1
theorem Ac.AH {base:Nat} {w w':World} {F:List Nat} (h:Ac base w F) (hb : ∀b∈F,w'.heap[b]? = w.heap[b]?):Ac base w' F:=
 ⟨h.1,λb hm=>⟨(h.2 b hm).1,(h.2 b hm).2.AH (hb b hm)⟩⟩
theorem Ac.nil (base:Nat) (w:World):Ac base w []:=⟨List.nodup_nil,λb hb=>by simp at hb⟩
structure kL (g g':Gh) (h h':Heap) (w w':World):Prop where
 S : ∀b,g.S b->g'.S b
 Sw : ∀b,g.S b->w'.heap[b]? = w.heap[b]?
 ver : ∀i,(h i).1<=(h' i).1
 row : ∀i e sz xs dp,(h' i).1=(h i).1->(h' i).2 = .row e sz xs dp->g'.val i=g.val i /\ ∃xs0 dp0,(h i).2 = .row e sz xs0 dp0
 box : ∀i t cs,(h' i).1=(h i).1->(h' i).2 = .box t cs->g'.val i=g.val i /\ ∃cs0,(h i).2 = .box t cs0
 Q:g'.Q=g.Q
section
variable {g g':Gh} {h h':Heap} {w w':World}
theorem Ig.sN (T:kL g g' h h' w w') {c:Nat×Nat×Nat} {v:Value} (hc:Ig g h c v):Ig g' h' c v:=by
 refine ⟨Nat.le_trans hc.1 (T.ver _),λhv t cs hb => ?_⟩
 have h1:=T.ver c.1
 have h2:(h' c.1).1=(h c.1).1:=by have:=hc.1;omega
 obtain ⟨h3,cs0,h4⟩:=T.box _ _ _ h2 hb
 obtain ⟨b,h5,h6⟩:=hc.2 qb t cs0 h4
 exact ⟨b,h3.trans h5,h6⟩
theorem De.sN (T:kL g g' h h' w w') : ∀ {cs:List (Nat×Nat×Nat)} {vs:List Value},De g h cs vs->De g' h' cs vs
 | [],vs,hc=>hc
 | c::cs,vs,hc=>by obtain ⟨v,vs',rfl,h1,h2⟩:=hc;exact ⟨v,vs',rfl,h1.sN T,De.sN T h2⟩
theorem Ae.sN (T:kL g g' h h' w w') {c:SC} {v:Value} (hc:Ae g h w c v):Ae g' h' w' c v:=by
 cases c with
 | dat d =>
  obtain ⟨F,h1,h2⟩:=hc
  exact ⟨F,Rep.AH d v F h1 λb hb=>T.Sw b (h2 b hb),λb hb=>T.S b (h2 b hb)⟩
 | nil=>exact hc
 | row i ver =>
  obtain ⟨h0,h1,h2⟩:=hc
  refine ⟨h0,Nat.le_trans h1 (T.ver i),λhv e sz xs dp hr => ?_⟩
  have h3:=T.ver i
  have h4:(h' i).1=(h i).1:=by omega
  obtain ⟨h5,xs0,dp0,h6⟩:=T.row _ _ _ _ _ h4 hr
  rw [h5]
  exact h2 qb _ _ _ _ h6
 | bp i ver off=>exact ⟨hc.1,hc.2.sN T⟩
 | rp i ver j off =>
  obtain ⟨h0,h1,h2⟩:=hc
  refine ⟨h0,Nat.le_trans h1 (T.ver i),λhv e sz xs dp hr => ?_⟩
  have h3:=T.ver i
  have h4:(h' i).1=(h i).1:=by omega
  obtain ⟨h5,xs0,dp0,h6⟩:=T.row _ _ _ _ _ h4 hr
  rw [h5]
  exact h2 qb _ _ _ _ h6
 | clo f caps =>
  obtain ⟨vs,h1,h2⟩:=hc
  exact ⟨vs,h1,h2.sN T⟩
 | old B d u =>
  obtain ⟨F,h1,h2,h3⟩:=hc
  exact ⟨F,Rep.AH d v F h1 λb hb=>T.Sw b (h2 b hb).1,λb hb=>⟨T.S b (h2 b hb).1,(h2 b hb).2⟩,h3⟩
 | part i ver lo n =>
  obtain ⟨h0,h1,h2⟩:=hc
  refine ⟨h0,Nat.le_trans h1 (T.ver i),λhv e sz xs dp hr => ?_⟩
  have h3:=T.ver i
  have h4:(h' i).1=(h i).1:=by omega
  obtain ⟨h5,xs0,dp0,h6⟩:=T.row _ _ _ _ _ h4 hr
  rw [h5]
  exact h2 qb _ _ _ _ h6
 | exa W d x =>
  obtain ⟨h0,F,h1,h2⟩:=hc
  exact ⟨h0,F,h1,λb hb=>⟨T.S b (h2 b hb).1,(T.Sw b (h2 b hb).1).trans (h2 b hb).2⟩⟩
theorem aT.sN (T:kL g g' h h' w w') : ∀ {cs:List SC} {vs:List Value},aT g h w cs vs->aT g' h' w' cs vs
 | [],vs,hc=>hc
 | c::cs,vs,hc=>by obtain ⟨v,vs',rfl,h1,h2⟩:=hc;exact ⟨v,vs',rfl,h1.sN T,aT.sN T h2⟩
theorem F7.sN (T:kL g g' h h' w w') {x:Bool×List SC} {v:Value} (hc:F7 g h w x v):F7 g' h' w' x v:=by obtain ⟨b,cs⟩:=x;cases b;(exact aT.sN T hc);·obtain ⟨vs,h1,h2⟩:=hc;exact ⟨vs,h1,aT.sN T h2⟩
theorem Dn.sN (T:kL g g' h h' w w') : ∀ {cs:List (Bool×List SC)} {vs:List Value},Dn g h w cs vs->Dn g' h' w' cs vs
 | [],vs,hc=>hc
 | c::cs,vs,hc=>by obtain ⟨v,vs',rfl,h1,h2⟩:=hc;exact ⟨v,vs',rfl,h1.sN T,Dn.sN T h2⟩
theorem uN.sN (T:kL g g' h h' w w') {x:SV} {v:Value} (hc:uN g h w x v):uN g' h' w' x v:=by
 cases x with
 | unk=>trivial
 | undef=>exact hc
 | v ag cs=>exact F7.sN T hc
 | tup xs=>obtain ⟨vs,h1,h2⟩:=hc;exact ⟨vs,h1,Dn.sN T h2⟩
end
theorem kL.refl (g:Gh) (h:Heap) (w:World):kL g g h h w w:=
 ⟨λ_ hb=>hb,λ_ _=>rfl,λ_=>Nat.le_refl _,λi e sz xs dp _ hr=>⟨rfl,xs,dp,hr⟩,λi t cs _ hb=>⟨rfl,cs,hb⟩,rfl⟩
theorem aT.length {g:Gh} {h:Heap} {w:World} : ∀ {cs:List SC} {vs:List Value},aT g h w cs vs->vs.length=cs.length
 | [],vs,hc=>by rw [hc];rfl
 | c::cs,vs,hc=>by obtain ⟨v,vs',rfl,h1,h2⟩:=hc;simp [aT.length h2]
theorem aT.append {g:Gh} {h:Heap} {w:World} : ∀ {cs ds:List SC} {vs us:List Value},aT g h w cs vs->aT g h w ds us->aT g h w (cs++ds) (vs++us)
 | [],ds,vs,us,hc,hd=>by rw [hc];exact hd
 | c::cs,ds,vs,us,hc,hd=>by obtain ⟨v,vs',rfl,h1,h2⟩:=hc;exact ⟨v,vs'++us,rfl,h1,aT.append h2 hd⟩
theorem aT.take {g:Gh} {h:Heap} {w:World} : ∀(n:Nat) {cs:List SC} {vs:List Value},aT g h w cs vs->aT g h w (cs.take n) (vs.take n)
 | 0,cs,vs,hc=>by simp [aT]
 | n+1,[],vs,hc=>by rw [hc];simp [aT]
 | n+1,c::cs,vs,hc=>by obtain ⟨v,vs',rfl,h1,h2⟩:=hc;exact ⟨v,vs'.take n,rfl,h1,aT.take n h2⟩
theorem aT.drop {g:Gh} {h:Heap} {w:World} : ∀(n:Nat) {cs:List SC} {vs:List Value},aT g h w cs vs->aT g h w (cs.drop n) (vs.drop n)
 | 0,cs,vs,hc=>by simpa using hc
 | n+1,[],vs,hc=>by rw [hc];simp [aT]
 | n+1,c::cs,vs,hc=>by obtain ⟨v,vs',rfl,h1,h2⟩:=hc;exact aT.drop n h2
theorem Ae.one {g:Gh} {h:Heap} {w:World} {c:SC} {v:Value} (hc:Ae g h w c v):v.oneCell'=true:=by
 cases c with
 | dat d=>obtain ⟨F,h1,_⟩:=hc;exact h1.one
 | nil=>rw [hc];rfl
 | row i ver=>exact hc.1
 | bp i ver off=>exact hc.1
 | rp i ver j off=>exact hc.1
 | clo f caps=>obtain ⟨vs,h1,_⟩:=hc;rw [h1];rfl
 | old B d u=>obtain ⟨F,h1,_⟩:=hc;exact h1.one
 | part i ver lo n=>exact hc.1
 | exa W d x=>obtain ⟨rfl,F,h1,_⟩:=hc;exact h1.one
theorem aT.one {g:Gh} {h:Heap} {w:World} : ∀ {cs:List SC} {vs:List Value},aT g h w cs vs -> ∀u∈vs,u.oneCell'=true
 | [],vs,hc=>by rw [hc];simp
 | c::cs,vs,hc=>by obtain ⟨v,vs',rfl,h1,h2⟩:=hc;intro u hu;rcases List.mem_cons.1 hu with rfl | hu;(exact h1.one);·exact aT.one h2 u hu
theorem aT.GA {g:Gh} {h:Heap} {w:World} : ∀ {ds:List D} {vs:List Value} {F:List Nat},aJ w ds vs F->(∀b∈F,g.S b)->aT g h w (ds.map .dat) vs
 | [],vs,F,hr,_=>by simp only [aJ] at hr;exact hr.1
 | d::ds,vs,F,hr,hF=>by simp only [aJ] at hr;obtain ⟨v,vs',F1,F2,rfl,rfl,h3,h4⟩:=hr;exact ⟨v,vs',rfl,⟨F1,h3,λb hb=>hF b (by simp [hb])⟩,aT.GA h4 λb hb=>hF b (by simp [hb])⟩
theorem pN {w:World} {base:Nat} {e:TypeId} {sz n:Nat} {v:Value} {xs:List Value} (h:w.ownsRow base e sz v n xs):Bj v=v.ownBlock:=by rcases h.2 with ⟨rfl,_⟩ | ⟨gg,cap,cur,rfl,_⟩<;>rfl
theorem Inv.EP {base:Nat} {g:Gh} {h:Heap} {w:World} {pool:List Nat} (I:Inv base g h w pool) {i b:Nat} (hl:live h i) (hb:Bj (g.val i)=some b):g.Q.fb<=b/\YI w b:=by
 have ho:=I.obj i
 unfold live at hl
 revert ho hl
 cases hh:(h i).2 with
 | none=>intro hl _;exact absurd rfl hl
 | box t cells =>
  rintro _ ⟨b',vals,h1,h2,h3,_⟩
  rw [h1] at hb
  simp [Bj] at hb
  subst hb
  exact ⟨h2,vals,t,h3⟩
 | pin j ver u =>
  rintro _ ⟨h1,_⟩
  rw [h1] at hb;simp [undef,Bj] at hb
 | row e sz xs dp =>
  rintro _ ⟨cells,h1,_⟩
  rcases h1.2 with ⟨h2,_⟩ | ⟨gg,cap,cur,h2,h3,h4,_⟩
  ·rw [h2] at hb;simp [Bj] at hb
  ·rw [h2] at hb;simp [Bj] at hb;subst hb;exact ⟨Nat.le_trans I.fb h3,cur,e,h4⟩
theorem kL.grow {g:Gh} {h:Heap} {w w':World} (hS : ∀b,g.S b->b<w.heap.size) (hb : ∀b,b<w.heap.size->w'.heap[b]? = w.heap[b]?):kL g g h h w w':=
 ⟨λ_ x=>x,λb x=>hb b (hS b x),λ_=>Nat.le_refl _,λi e sz xs dp _ hr=>⟨rfl,xs,dp,hr⟩,λi t cs _ hx=>⟨rfl,cs,hx⟩,rfl⟩
theorem Inv.grow {base:Nat} {g:Gh} {h:Heap} {w w':World} {pool:List Nat} (I:Inv base g h w pool) (hs:w.heap.size<=w'.heap.size) (hb : ∀b,b<w.heap.size->w'.heap[b]? = w.heap[b]?):Inv base g h w' pool:=by
 have T:kL g g h h w w':=kL.grow I.S_lt hb
 refine ⟨Nat.le_trans I.base_le hs,I.S_old,λb x=>Nat.lt_of_lt_of_le (I.S_lt b x) hs,λi => ?_,I.mtb,I.inj,I.dis,I.pool_own.AH λb x=>hb b (I.S_lt b (I.pool_S b x)),I.pool_S,I.pool_dis,I.fb⟩
 have ho:=I.obj i
 have hl:=@Inv.EP base g h w pool I i
 revert ho hl
 unfold live
 cases hh:(h i).2 with
 | none=>intros;trivial
 | box t cells =>
  rintro ⟨b',vals,h1,h2,h3,h4⟩ _
  exact ⟨b',vals,h1,h2,(hb _ (Array.getElem?_eq_some_iff.1 h3).1).trans h3,h4.sN T⟩
 | pin j ver u=>intro h1 _;exact h1
 | row e sz xs dp =>
  rintro ⟨cells,h1,h2,h3,h4,h5⟩ _
  refine ⟨cells,⟨h1.1,?_⟩,h2,h3.AH λb x=>hb b (I.S_lt b (h4 b x)),h4,λhd=>(h5 hd).AH λb x=>hb b (I.S_lt b (h4 b x))⟩
  rcases h1.2 with h6 | ⟨gg,cap,cur,h6,h7,h8,h9⟩
  ·exact .inl h6
  ·exact .inr ⟨gg,cap,cur,h6,h7,(hb _ (Array.getElem?_eq_some_iff.1 h8).1).trans h8,h9⟩
def sB (h:Heap) (i:Nat) (x:Nat×CT):Heap:=λj=>if j=i then x else h j
theorem bM (h:Heap) (i:Nat) (x:Nat×CT):sB h i x i=x:=by simp [sB]
theorem fO (h:Heap) (i j:Nat) (x:Nat×CT) (hne:j≠i):sB h i x j=h j:=by simp [sB,hne]
def E8 {α:Type} (f:Nat->α) (i:Nat) (x:α):Nat->α:=λj=>if j=i then x else f j
theorem dS {α:Type} (f:Nat->α) (i:Nat) (x:α):E8 f i x i=x:=by simp [E8]
theorem B7 {α:Type} (f:Nat->α) (i j:Nat) (x:α) (hne:j≠i):E8 f i x j=f j:=by simp [E8,hne]
theorem kL.drop {g:Gh} {h:Heap} {w:World} (i:Nat) (S':Nat->Prop) (hS : ∀b,g.S b->S' b):kL g { g with S:=S' } h (sB h i ((h i).1,.none)) w w:=by refine ⟨hS,λ_ _=>rfl,λj => ?_,λj e sz xs dp _ hr => ?_,λj t cs _ hx => ?_,rfl⟩;(by_cases hj:j=i;(subst hj;rw [bM];exact Nat.le_refl _);·rw [fO _ _ _ _ hj];exact Nat.le_refl _);(by_cases hj:j=i;(subst hj;rw [bM] at hr;cases hr);·rw [fO _ _ _ _ hj] at hr;exact ⟨rfl,xs,dp,hr⟩);·by_cases hj:j=i;(subst hj;rw [bM] at hx;cases hx);·rw [fO _ _ _ _ hj] at hx;exact ⟨rfl,cs,hx⟩
theorem Aa {h:Heap} {i j:Nat} {n:Nat} (hl:live (sB h i (n,.none)) j):j≠i/\live h j:=by unfold live at *;by_cases hj:j=i;(subst hj;rw [bM] at hl;exact absurd rfl hl);·rw [fO _ _ _ _ hj] at hl;exact ⟨hj,hl⟩
theorem Bb {h:Heap} {i j:Nat} {n:Nat} (hl:iV (sB h i (n,.none)) j):j≠i/\iV h j:=by unfold iV at *;by_cases hj:j=i;(subst hj;rw [bM] at hl;obtain ⟨_,_,_,hl⟩:=hl;cases hl);·rw [fO _ _ _ _ hj] at hl;exact ⟨hj,hl⟩
theorem H9 {h:Heap} {i:Nat} (hd:iV h i):live h i:=by obtain ⟨_,_,_,hd⟩:=hd;unfold live;rw [hd];simp
theorem Cq.sN {base:Nat} {g g':Gh} {h h':Heap} {w w':World} {i:Nat} {o:CT} (T:kL g g' h h' w w') (hv:g'.val i=g.val i) (hf:g'.fp i=g.fp i)
  (hbl : ∀b,Bj (g.val i)=some b->w'.heap[b]? = w.heap[b]?) (ho:Cq base g h w i o):Cq base g' h' w' i o:=by
 cases o with
 | none=>trivial
 | box t cells =>
  obtain ⟨b,vals,h1,h2,h3,h4⟩:=ho
  exact ⟨b,vals,hv.trans h1,by rw [T.Q];exact h2,(hbl b (by rw [h1];rfl)).trans h3,h4.sN T⟩
 | pin j ver u =>
  obtain ⟨h0,h1,h2⟩:=ho
  refine ⟨hv.trans h0,Nat.le_trans h1 (T.ver j),λhe e sz xs dp hr => ?_⟩
  have h3:=T.ver j
  have h4:(h' j).1=(h j).1:=by omega
  obtain ⟨h5,xs0,dp0,h6⟩:=T.row _ _ _ _ _ h4 hr
  rw [h5]
  exact h2 qb _ _ _ _ h6
 | row e sz xs dp =>
  obtain ⟨cells,h1,h2,h3,h4,h5⟩:=ho
  refine ⟨cells,⟨h1.1,?_⟩,h2,?_,?_,?_⟩
  ·rw [hv];rcases h1.2 with h6 | ⟨gg,cap,cur,h6,h7,h8,h9⟩;(exact .inl h6);·exact .inr ⟨gg,cap,cur,h6,h7,(hbl gg (by rw [h6];rfl)).trans h8,h9⟩
  ·rw [hf,T.Q];exact h3.AH λb x=>T.Sw b (h4 b x)
  ·rw [hf];exact λb x=>T.S b (h4 b x)
  ·rw [hf];exact λhd=>(h5 hd).AH λb x=>T.Sw b (h4 b x)
theorem Inv.drop {base:Nat} {g:Gh} {h:Heap} {w:World} {pool:List Nat} (I:Inv base g h w pool) (i:Nat):Inv base g (sB h i ((h i).1,.none)) w pool:=by
 have T:kL g g h (sB h i ((h i).1,.none)) w w:=kL.drop i g.S λ_ x=>x
 refine ⟨I.base_le,I.S_old,I.S_lt,λj => ?_,λj b hl=>I.mtb j b (Aa hl).2,λj k b hne hl hk=>I.inj j k b hne (Aa hl).2 (Aa hk).2,
  λj k hne hd he=>I.dis j k hne (Bb hd).2 (Bb he).2,I.pool_own,I.pool_S,λj hd=>I.pool_dis j (Bb hd).2,I.fb⟩
 by_cases hj:j=i
 ·subst hj;rw [bM];trivial
 ·rw [fO _ _ _ _ hj];exact Cq.sN T rfl rfl (λ_ _=>rfl) (I.obj j)
theorem Inv.take {base:Nat} {g:Gh} {h:Heap} {w:World} {pool:List Nat} (I:Inv base g h w pool) {i:Nat} {e:TypeId} {sz:Nat} {xs:List (List D)} {dp:Bool} (hi:(h i).2 = .row e sz xs dp) :
  ∃S' F,(∀b,g.S b->S' b)/\(∀b,S' b->g.S b\/Bj (g.val i)=some b)/\Rep w (.sl xs) (g.val i) F/\(dp=true->Cx g.Q.L w (.sl xs) (some (e,sz)) (g.val i) F)/\F=(g.val i).ownBlock.toList++g.fp i/\(∀b∈F,S' b)/\(dp=true->(∀b∈F,b∉pool)) /\
   Inv base { g with S:=S' } (sB h i ((h i).1,.none)) w (if dp then pool++F else pool):=by
 have ho:=I.obj i
 rw [hi] at ho
 obtain ⟨cells,h1,h2,h3,h4,h5⟩:=ho
 have hlive:live h i:=by unfold live;rw [hi];simp
 rcases h1.2 with ⟨hv,hn⟩ | ⟨gg,cap,cur,hv,hb,hh,hnc,hcm,hcs,htk⟩
 ·-- nil: nothing to own
  have hx:xs=[]:=List.eq_nil_of_length_eq_zero hn
  subst hx
  have I':=I.drop i
  have hG:g.fp i=[]/\cells=[]:=by have:=h3.rep;simp only [aV] at this;exact ⟨this.2,this.1⟩
  refine ⟨g.S,[],λ_ x=>x,λ_ x=>.inl x,?_,λ_ => ?_,by rw [hv,hG.1];rfl,qd,qd,?_⟩
  ·simp only [Rep];exact ⟨none,0,0,hv,rfl,Nat.le_refl _,.inl qd⟩
  ·simp only [Cx];exact ⟨[],[],by rw [hv];exact World.ownsRow_nil w 0 e sz,qd,by rw [hv];rfl,by simp [jW]⟩
  ·have:(if dp then pool++[] else pool)=pool:=by cases dp<;>simp
   rw [this];exact I'
 ·have hgg:gg<w.heap.size:=(Array.getElem?_eq_some_iff.1 hh).1
  have hom:Bj (g.val i)=some gg:=by rw [hv];rfl
  have hnS : ¬g.S gg:=I.mtb i gg hlive hom
  let S':Nat->Prop:=λb=>g.S b\/b=gg
  have T:kL g { g with S:=S' } h (sB h i ((h i).1,.none)) w w:=kL.drop i S' λ_ x=>.inl x
  ·refine ⟨S',gg::g.fp i,λ_ x=>.inl x,(by rintro b (x | rfl);exact .inl x;exact .inr hom),?_,λhd => ?_,by rw [hv];rfl,?_,?_,?_⟩
   ·simp only [Rep];refine ⟨_,_,cap,hv,rfl,hnc,.inr ⟨gg,0,cells,sz,g.fp i,rfl,hgg,rfl,?_,h1.1,h2,h3.rep⟩⟩;intro j u hu;have:=h1.cells (g:=gg) (by rw [hv];rfl) j u hu;rw [Addr.add_lit] at this;exact this
   ·simp only [Cx]
    have h3':jW g.Q.L w xs e cells (g.fp i):=by have:=h3;unfold dB at this;rw [if_pos hd] at this;exact this
    exact ⟨cells,g.fp i,⟨h1.1,by rcases h1.2 with h6 | ⟨g1,c1,u1,h6,h7,h8⟩;exact .inl h6;exact .inr ⟨g1,c1,u1,h6,Nat.zero_le _,h8⟩⟩,h2,by rw [hv];rfl,h3'⟩
   ·intro b hb';rcases List.mem_cons.1 hb' with rfl | hb';(exact .inr rfl);·exact .inl (h4 b hb')
   ·intro hd b hb';rcases List.mem_cons.1 hb' with rfl | hb';(exact λhp=>hnS (I.pool_S _ hp));·exact I.pool_dis i ⟨e,sz,xs,by rw [hi,hd]⟩ b hb'
   ·have hobj : ∀j,Cq base { g with S:=S' } (sB h i ((h i).1,.none)) w j (sB h i ((h i).1,.none) j).2:=by
     intro j
     by_cases hj:j=i
     ·subst hj;rw [bM];trivial
     ·rw [fO _ _ _ _ hj];exact Cq.sN T rfl rfl (λ_ _=>rfl) (I.obj j)
    have hmut : ∀j b,live (sB h i ((h i).1,.none)) j->Bj (g.val j)=some b -> ¬S' b:=by intro j b hl hb' hS;obtain ⟨hne,hl⟩:=Aa hl;rcases hS with hS | rfl;(exact I.mtb j b hl hb' hS);·exact I.inj j i _ hne hl hlive hb' hom
    have hSold : ∀b,S' b->b<base->g.Q b:=by rintro b (hS | rfl) hlt;(exact I.S_old b hS hlt);·omega
    have hSlt : ∀b,S' b->b<w.heap.size:=by intro b hS;rcases hS with hS | rfl;(exact I.S_lt b hS);·exact hgg
    cases dp with
    | false =>
     exact ⟨I.base_le,hSold,hSlt,hobj,hmut,λj k b hne hl hk=>I.inj j k b hne (Aa hl).2 (Aa hk).2,
      λj k hne hd he=>I.dis j k hne (Bb hd).2 (Bb he).2,I.pool_own,λb x=>.inl (I.pool_S b x),λj hd=>I.pool_dis j (Bb hd).2,I.fb⟩
    | true =>
     have hdi:iV h i:=⟨e,sz,xs,hi⟩
     have hown:=h5 rfl
     refine ⟨I.base_le,hSold,hSlt,hobj,hmut,λj k b hne hl hk=>I.inj j k b hne (Aa hl).2 (Aa hk).2,
      λj k hne hd he=>I.dis j k hne (Bb hd).2 (Bb he).2,⟨?_,?_⟩,?_,?_,I.fb⟩
     ·simp only [if_true];rw [List.nodup_append];refine ⟨I.pool_own.1,List.nodup_cons.2 ⟨λhm=>hnS (h4 _ hm),hown.1⟩,?_⟩;rintro a ha b hb' rfl;rcases List.mem_cons.1 hb' with rfl | hb';(exact hnS (I.pool_S _ ha));·exact I.pool_dis i hdi _ hb' ha
     ·simp only [if_true];intro b hm;rcases List.mem_append.1 hm with hm | hm;(exact I.pool_own.2 b hm);·rcases List.mem_cons.1 hm with rfl | hm;(exact ⟨hb,cur,e,hh⟩);·exact hown.2 b hm
     ·simp only [if_true];intro b hm;rcases List.mem_append.1 hm with hm | hm;(exact .inl (I.pool_S b hm));·rcases List.mem_cons.1 hm with rfl | hm;(exact .inr rfl);·exact .inl (h4 b hm)
     ·simp only [if_true];intro j hd b hm hm';obtain ⟨hne,hd⟩:=Bb hd;rcases List.mem_append.1 hm' with hm' | hm';(exact I.pool_dis j hd b hm hm');·rcases List.mem_cons.1 hm' with rfl | hm';(have ho:=I.obj j;obtain ⟨e',sz',xs',hj⟩:=hd;rw [hj] at ho;obtain ⟨_,_,_,_,h4',_⟩:=ho;exact hnS (h4' _ hm));·exact I.dis j i hne hd hdi b hm hm'
end Go.Sh
namespace Go.Sh
open Go.RowKit
def aAX:Value->Option SC
 | .int k n=>some (.dat (.int k n))
 | .bool b=>some (.dat (.bool b))
 | .string s=>some (.dat (.str s))
 | .slice none 0 0=>some .nil
 | _=>none
def NB:List Value->Option (List SC)
 | []=>some []
 | v::vs=>match aAX v,NB vs with
  | some c,some cs=>some (c::cs)
  | _,_=>none
def VB:TypeDesc->Bool
 | .struct _ | .array _ _=>true
 | _=>false
def Ju (P:Program) (t:TypeId):Bool:=match P.underlying t with | some d=>VB d | none=>false
def Pv (P:Program):TypeDesc->Option TK
 | .struct fields=>match fields.toList.mapM (λf=>(P.info? f.type).map λi=>(f.offset,i.size)) with
  | some pl=>if fields.toList.all (λf=>(P.underlying f.type).isSome)=true then some (.struct ((pl.zip (fields.toList.map λf=>Ju P f.type)).map λx=>(x.1.1,x.1.2,x.2))) else none
  | none=>none
 | .array n e=>some (.arr e n)
 | .slice e=>some (.slice e)
 | .int k=>some (.int k)
 | .bool=>some .bool
 | .string=>some .str
 | _=>some .other
def D1 (P:Program) (f:TypeId->Option (List LK)):Nat->List Field->Option (List LK)
 | _,[]=>some []
 | off, x :: xs => if x.offset = off /\ x.name ≠ "_" /\ (P.info? x.type).isSome = true then (match f x.type, D1 P f (off + P.cellsOf x.type) xs with
   | some a,some b=>if a.length=P.cellsOf x.type then some (a++b) else none
   | _,_=>none) else none
def E1 (P:Program):Nat->TypeId->Option (List LK)
 | 0,_=>none
 | n+1,t=>match P.underlying t with
  | some (.int _)=>some [.int]
  | some .bool=>some [.bool]
  | some .string=>some [.str]
  | some (.struct fs)=>if P.stoodInHeld t=false then D1 P (E1 P n) 0 fs.toList else none
  | _=>none
def Zc (P:Program) (t:TypeId):List LK:=if Ju P t=true/\P.eqGuardType P.depth t=false then (E1 P 8 t).getD [] else []
def fN (P:Program) (t:TypeId):Option TI:=
 match P.info? t,P.underlying t with
 | some i,some d=>match i.zero,Pv P d with
  | some z,some k=>match NB z.cells.toList with
   | some zs=>if z.cells.size=i.size/\(VB d=true\/i.size=1) then some { k:=k,size:=i.size,bytes:=i.bytes,zero:=zs,cmp:=Zc P t,sl:=slP P t } else none
   | none=>none
  | _,_=>none
 | _,_=>none
structure TOk (P:Program) (t:TypeId) (ti:TI):Prop where
 ok : ∃i d z,P.info? t=some i/\P.underlying t=some d/\i.zero=some z/\Pv P d=some ti.k/\NB z.cells.toList=some ti.zero/\z.cells.size=i.size/\i.size=ti.size/\i.bytes=ti.bytes/\(VB d=true\/i.size=1)
 cmp:ti.cmp=Zc P t
 sl:ti.sl=slP P t
theorem dP {P:Program} {t:TypeId} {ti:TI} (h:fN P t=some ti):TOk P t ti:=by unfold fN at h;split at h;(rename_i i d hi hd;split at h;(rename_i z k hz hk;split at h;(rename_i zs hzs;split at h;(rename_i hs;simp at h;subst h;exact ⟨⟨i,d,z,hi,hd,hz,hk,hzs,hs.1,rfl,rfl,hs.2⟩,rfl,rfl⟩);·cases h);·cases h);·cases h);·cases h
theorem VE {v:Value} {c:SC} (h:aAX v=some c) (g:Gh) (hp:Heap) (w:World):Ae g hp w c v:=by
 unfold aAX at h
 split at h<;>cases h
 ·exact ⟨[],by simp [Rep],qd⟩
 ·exact ⟨[],by simp [Rep],qd⟩
 ·exact ⟨[],by simp [Rep],qd⟩
 ·rfl
theorem Eh : ∀ {vs:List Value} {cs:List SC},NB vs=some cs -> ∀(g:Gh) (hp:Heap) (w:World),aT g hp w cs vs
 | [],cs,h,g,hp,w=>by simp [NB] at h;subst h;rfl
 | v::vs,cs,h,g,hp,w=>by simp only [NB] at h;split at h;(rename_i c cs' hc hcs;cases h;exact ⟨v,vs,rfl,VE hc g hp w,Eh hcs g hp w⟩);·cases h
theorem UP (v:Value) (g:Gh) (hp:Heap) (w:World):uN g hp w (cst v) v:=by unfold cst;split;(exact ⟨_,[],rfl,⟨[],by simp [Rep],qd⟩,rfl⟩);(exact ⟨_,[],rfl,⟨[],by simp [Rep],qd⟩,rfl⟩);(exact ⟨_,[],rfl,⟨[],by simp [Rep],qd⟩,rfl⟩);(exact ⟨_,[],rfl,rfl,rfl⟩);·trivial
def Mw (l:Option Nat) (h:Heap) (g:Gh):Prop:=∀b,l=some b->1<=(h 7059000).1 /\ ∀t cs,h 7059000=(1,.box t cs)->g.val 7059000 = .pointer (some ⟨b,0,none⟩)
theorem Mw.sN {g g':Gh} {h h':Heap} {w w':World} {l:Option Nat} (T:kL g g' h h' w w') (hl:Mw l h g):Mw l h' g':=λb hb=>by
 obtain ⟨h1,h2⟩:=hl b hb
 have h3:=T.ver 7059000
 refine ⟨qb,λt cs hh => ?_⟩
 have h4:(h' 7059000).1=1:=by rw [hh]
 obtain ⟨h5,cs0,h6⟩:=T.box 7059000 t cs qb (by rw [hh])
 rw [h5]
 refine h2 t cs0 ?_
 have h7:(h 7059000).1=1:=by omega
 rw [<-h7,<-h6]
structure mJ (P:Program) (base:Nat) (w0:W0) (N:Nat) (g:Gh) (s:St) (a:Act) (w:World) (pool:List Nat):Prop where
 defers:a.defers=[]
 size:a.tmps.size=N
 below:Below w0.Q.fb w0.w w
 q:(∀b,g.Q b->w0.Q b)/\g.Q.fb=w0.Q.fb/\Mw w0.Q.lent s.h g
 AH : ∀b,w0.K b->g.S b/\w.heap[b]? = w0.w.heap[b]?
 inv:Inv base g s.h w pool
 tmp : ∀t,uN g s.h w (s.t t) (a.tmps.getD t undef)
 lab:g.Q.L=w0.Q.L/\(w0.Q.L=slP P\/w0.Q.L=Sx)
 frm : ∀i,uN g s.h w (s.fr i) (w0.fv i)
def Rel (P:Program) (base:Nat) (w0:W0) (N:Nat) (s:St) (a:Act) (w:World):Prop:=∃g,mJ P base w0 N g s a w []
section
variable {P:Program} {base N:Nat} {w0:W0} {w:World} {g:Gh} {s:St} {a:Act} {pool:List Nat} {K:St->Prop}
theorem bX (R:mJ P base w0 N g s a w pool) {x:Operand} {k:SV->Prog} (h:ex P (vOp x k) s K) : ∃sv,uN g s.h w sv (a.eval x)/\ex P (k sv) s K:=by
 cases x with
 | tmp t=>exact ⟨s.t t,R.tmp t,h⟩
 | const c=>exact ⟨cst c,UP c g s.h w,h⟩
 | func f=>exact ⟨.v false [.dat (.fn f [])],⟨_,[],rfl,⟨[],by simp only [Rep];exact ⟨[],rfl,by simp [aJ]⟩,qd⟩,rfl⟩,h⟩
 | global gl=>exact h.elim
theorem QO {a:Act} {N d t:Nat} {v:Value} (hs:a.tmps.size=N) (hd:d<N):(a.put (some d) v).tmps.getD t undef=if t=d then v else a.tmps.getD t undef:=by
 simp only [Act.put,Array.getD_eq_getD_getElem?,Array.getElem?_setIfInBounds]
 by_cases h:d=t
 ·subst h;simp [hs,hd]
 ·have h' : ¬t=d:=λe=>h e.symm
  simp [h,h']
theorem B1 (R:mJ P base w0 N g s a w pool) {dst:Option Tmp} {sv:SV} {v:Value} (hv:uN g s.h w sv v) (h:ex P (put N dst sv) s K) : ∃s',K s'/\mJ P base w0 N g s' (a.put dst v) w pool:=by
 cases dst with
 | none=>exact ⟨s,h,R⟩
 | some d =>
  unfold put at h
  simp only at h
  split at h
  ·rename_i hd;refine ⟨s.Gu d sv,h,⟨R.defers,by simp [Act.put,R.size],R.below,R.q,R.AH,R.inv,λt => ?_,R.lab,R.frm⟩⟩;rw [QO R.size hd,St.JE];by_cases ht:t=d;(simp only [ht,if_true];exact hv);·simp only [ht,if_false];exact R.tmp t
  ·exact h.elim
theorem Inv.forget {h:Heap} (I:Inv base g h w pool):Inv base g h w []:=
 ⟨I.base_le,I.S_old,I.S_lt,I.obj,I.mtb,I.inj,I.dis,Ac.nil _ _,qd,λ_ _ _ _=>by simp,I.fb⟩
theorem mJ.forget (R:mJ P base w0 N g s a w pool):mJ P base w0 N g s a w []:=⟨R.defers,R.size,R.below,R.q,R.AH,R.inv.forget,R.tmp,R.lab,R.frm⟩
theorem mJ.fbb (R:mJ P base w0 N g s a w pool):w0.Q.fb<=base:=R.q.2.1 ▸ R.inv.fb
theorem mJ.bel (R:mJ P base w0 N g s a w pool) {w':World} (h:Below base w w'):Below w0.Q.fb w0.w w':=R.below.trans (h.mono R.fbb)
theorem mJ.sN {g':Gh} {s':St} {w':World} {pool':List Nat} (R:mJ P base w0 N g s a w pool) (T:kL g g' s.h s'.h w w') (ht:s'.t=s.t) (hb:Below w0.Q.fb w0.w w') (hI:Inv base g' s'.h w' pool') (hfr:s'.fr=s.fr:=by rfl):mJ P base w0 N g' s' a w' pool':=
 ⟨R.defers,R.size,hb,⟨by rw [T.Q];exact R.q.1,by rw [T.Q];exact R.q.2.1,R.q.2.2.sN T⟩,λb hb=>⟨T.S b (R.AH b hb).1,(T.Sw b (R.AH b hb).1).trans (R.AH b hb).2⟩,hI,λt=>by rw [ht];exact (R.tmp t).sN T,by rw [T.Q];exact R.lab,λi=>by rw [hfr];exact (R.frm i).sN T⟩
theorem Iy {d:D} {v:Value} {F:List Nat} (h:Rep w d v F) (hf:d.flat=true):F=[]:=by cases d<;>simp [D.flat] at hf<;>simp only [Rep] at h<;>exact h.2
theorem Cx.flat {L:TL} {w:World} {d:D} {t:Option (TypeId×Nat)} {v:Value} {F:List Nat} (h:Rep w d v F) (hf:d.flat=true):Cx L w d t v F:=by cases d<;>simp [D.flat] at hf<;>simp only [Rep] at h<;>simp only [Cx]<;>exact h
theorem bT.flat {L:TL} {w:World} : ∀ {ds:List D} {ts:Lb} {vs:List Value} {F:List Nat},aJ w ds vs F->ds.all D.flat=true->bT L w ds ts vs F
 | [],ts,vs,F,h,_=>by simp only [aJ] at h;simp only [bT];exact h
 | d::ds,ts,vs,F,h,hf=>by simp only [List.all_cons,qM] at hf;simp only [aJ] at h;obtain ⟨v,vs',F1,F2,h1,h2,h3,h4⟩:=h;simp only [bT];exact ⟨v,vs',F1,F2,h1,h2,Cx.flat h3 hf.1,bT.flat h4 hf.2⟩
theorem jW.flat {L:TL} {w:World} : ∀ {xs:List (List D)} {e:TypeId} {vs:List Value} {F:List Nat},aV w xs vs F->(∀x∈xs,x.all D.flat=true)->jW L w xs e vs F
 | [],e,vs,F,h,_=>by simp only [aV] at h;simp only [jW];exact h
 | x::xs,e,vs,F,h,hf=>by simp only [aV] at h;obtain ⟨v1,v2,F1,F2,h1,h2,h3,h4⟩:=h;simp only [jW];exact ⟨v1,v2,F1,F2,h1,h2,bT.flat h3 (hf x qd),jW.flat h4 λy hy=>hf y (by simp [hy])⟩
theorem dB.flat {L:TL} {m:Bool} {w:World} {xs:List (List D)} {e:TypeId} {vs:List Value} {F:List Nat} (h:aV w xs vs F) (hf : ∀x∈xs,x.all D.flat=true):dB L m w e xs vs F:=by
 cases m with
 | true=>exact jW.flat h hf
 | false=>exact h
theorem jW.toL (R:mJ P base w0 N g s a w pool) {xs:List (List D)} {e:TypeId} {vs:List Value} {F:List Nat} (h:jW (slP P) w xs e vs F):jW g.Q.L w xs e vs F:=by rw [R.lab.1];rcases R.lab.2 with hl | hl;(rw [hl];exact h);·rw [hl];exact jW.PC h.rep
theorem bT.toL (R:mJ P base w0 N g s a w pool) {te:TI} {e:TypeId} (hte:fN P e=some te) (off:Nat) {ds:List D} {vs:List Value} {F:List Nat} (h:bT g.Q.L w ds (te.sl.drop off) vs F):bT g.Q.L w ds ((g.Q.L e).drop off) vs F:=by
 rcases R.lab.2 with hl | hl
 ·have:g.Q.L e=te.sl:=by rw [R.lab.1,hl];exact (dP hte).sl.symm
  rw [this];exact h
 ·have:g.Q.L e=[]:=by rw [R.lab.1,hl];rfl
  rw [this,List.drop_nil];exact bT.none h.rep
theorem Ec : ∀ {cs:List SC} {ts:Lb} {vs:List Value} {k:List D->Bool->Prog} {g:Gh} {s:St} {pool:List Nat},mJ P base w0 N g s a w pool->aT g s.h w cs vs->ex P (Bw cs ts k) s K ->
  ∃g' s' ds b F pool',ex P (k ds b) s' K/\mJ P base w0 N g' s' a w pool'/\kL g g' s.h s'.h w w/\s'.t=s.t/\aJ w ds vs F/\(∀x∈F,g'.S x)/\(b=true->pool'=pool++F/\bT g.Q.L w ds ts vs F)
 | [],ts,vs,k,g,s,pool,R,hc,h=>⟨g,s,[],true,[],pool,h,R,kL.refl _ _ _,rfl,by simp only [aJ];exact ⟨hc,trivial⟩,qd,λ_=>⟨qd,by simp only [bT];exact ⟨hc,trivial⟩⟩⟩
 | .dat d::cs,ts,vs,k,g,s,pool,R,hc,h=>by obtain ⟨v,vs',rfl,⟨F1,h1,h2⟩,h3⟩:=hc;obtain ⟨g',s',ds,b,F,pool',h4,h5,h6,h6t,h7,h8,h9⟩:=Ec R h3 h;refine ⟨g',s',d::ds,d.flat&&b,F1++F,pool',h4,h5,h6,h6t,?_,?_,?_⟩;(simp only [aJ];exact ⟨v,vs',F1,F,rfl,rfl,h1,h7⟩);(intro x hx;rcases List.mem_append.1 hx with hx | hx;(exact h6.S x (h2 x hx));·exact h8 x hx);·intro hb;simp at hb;have e0:=Iy h1 hb.1;subst e0;refine ⟨by rw [List.nil_append];exact (h9 hb.2).1,?_⟩;simp only [bT];exact ⟨v,vs',[],F,rfl,rfl,Cx.flat h1 hb.1,(h9 hb.2).2⟩
 | .nil::cs,ts,vs,k,g,s,pool,R,hc,h=>by
  obtain ⟨v,vs',rfl,h1,h3⟩:=hc
  obtain ⟨g',s',ds,b,F,pool',h4,h5,h6,h6t,h7,h8,h9⟩:=Ec R h3 h
  refine ⟨g',s',.sl []::ds,_,F,pool',h4,h5,h6,h6t,?_,h8,λhb => ?_⟩
  ·simp only [aJ];refine ⟨v,vs',[],F,rfl,rfl,?_,h7⟩;simp only [Rep];exact ⟨none,0,0,h1,rfl,Nat.le_refl _,.inl qd⟩
  ·refine ⟨(h9 hb).1,?_⟩
   simp only [bT]
   refine ⟨v,vs',[],F,rfl,rfl,?_,(h9 hb).2⟩
   cases lab ts with
   | none=>simp only [Cx,Rep];exact ⟨none,0,0,h1,rfl,Nat.le_refl _,.inl qd⟩
   | some t=>simp only [Cx];exact ⟨[],[],by rw [h1];exact World.ownsRow_nil w 0 t.1 t.2,qd,by rw [h1];rfl,by simp [jW]⟩
 | .row i ver::cs,ts,vs,k,g,s,pool,R,hc,h=>by
  obtain ⟨v,vs',rfl,⟨h0,h1,h2⟩,h3⟩:=hc
  simp only [Bw,ex] at h
  split at h
  ·rename_i e sz xs dp ho
   split at h
   ·rename_i hv
    have hval:=h2 hv e sz xs dp ho
    obtain ⟨S',F1,hS,_,hr,hst,_,hF,hn,hI⟩:=R.inv.take ho
    have T:kL g { g with S:=S' } s.h (sB s.h i ((s.h i).1,.none)) w w:=kL.drop i S' hS
    rw [hv] at T hI
    have R':mJ P base w0 N { g with S:=S' } (s.fH i (ver,.none)) a w (if dp then pool++F1 else pool):=R.sN T rfl R.below hI
    obtain ⟨g',s',ds,b,F,pool',h4,h5,h6,h6t,h7,h8,h9⟩:=Ec R' (h3.sN T) h
    refine ⟨g',s',.sl xs::ds,_,F1++F,pool',h4,h5,?_,h6t,?_,?_,?_⟩
    ·exact ⟨λb x=>h6.S b (hS b x),λb x=>rfl,λj=>Nat.le_trans (T.ver j) (h6.ver j),
      λj e sz xs dp hj hr=>by have v1:=T.ver j;have v2:=h6.ver j;obtain ⟨e1,x1,d1,r1⟩:=h6.row j e sz xs dp (by simp only [St.fH] at *;unfold sB at *;omega) hr;obtain ⟨e2,x2,d2,r2⟩:=T.row j e sz x1 d1 (by simp only [St.fH] at *;unfold sB at *;omega) r1;exact ⟨e1.trans e2,x2,d2,r2⟩,
      λj t cs hj hr=>by have v1:=T.ver j;have v2:=h6.ver j;obtain ⟨e1,x1,r1⟩:=h6.box j t cs (by simp only [St.fH] at *;unfold sB at *;omega) hr;obtain ⟨e2,x2,r2⟩:=T.box j t x1 (by simp only [St.fH] at *;unfold sB at *;omega) r1;exact ⟨e1.trans e2,x2,r2⟩,h6.Q.trans T.Q⟩
    ·simp only [aJ];exact ⟨v,vs',F1,F,rfl,rfl,hval ▸ hr,h7⟩
    ·intro x hx;rcases List.mem_append.1 hx with hx | hx;(exact h6.S x (hF x hx));·exact h8 x hx
    ·intro hb;split at hb;(rename_i hl;simp at hb;refine ⟨by rw [(h9 hb.2).1,hb.1];simp,?_⟩;simp only [bT];exact ⟨v,vs',F1,F,rfl,rfl,by rcases hl with hl | hl;rw [hl,hval];exact Cx.none hr;rw [hl,hval];exact hst hb.1,(h9 hb.2).2⟩);·cases hb
   ·exact h.elim
  ·exact h.elim
 | .bp _ _ _::_,_,_,_,_,_,_,_,_,h=>h.elim
 | .rp _ _ _ _::_,_,_,_,_,_,_,_,_,h=>h.elim
 | .clo _ _::_,_,_,_,_,_,_,_,_,h=>h.elim
 | .old _ _ _::_,_,_,_,_,_,_,_,_,h=>h.elim
 | .part _ _ _ _::_,_,_,_,_,_,_,_,_,h=>h.elim
 | .exa _ _ _::_,_,_,_,_,_,_,_,_,h=>h.elim
theorem NA {L:TL} {dp:Bool} {e:TypeId} {xs:List (List D)} {cells:List Value} {G:List Nat} {sz lo n:Nat} (hr:dB L dp w e xs cells G) (hx : ∀x∈xs,x.length=sz) (hln:n=0\/lo+n<=xs.length) :
  ∃c1 c2 c3 F1 F2 F3,cells=c1++(c2++c3)/\G=F1++(F2++F3)/\(lo<=xs.length->c1.length=lo*sz)/\c2.length=n*sz/\dB L dp w e (xs.take lo) c1 F1/\dB L dp w e ((xs.drop lo).take n) c2 F2/\dB L dp w e (xs.drop (lo+n)) c3 F3:=by
 have hs:xs=xs.take lo++((xs.drop lo).take n++xs.drop (lo+n)):=by rw [<-List.drop_drop,List.take_append_drop,List.take_append_drop]
 rw [hs] at hr
 obtain ⟨c1,v2,F1,G2,rfl,rfl,r1,r2⟩:=dB.split hr
 obtain ⟨c2,c3,F2,F3,rfl,rfl,r3,r4⟩:=dB.split r2
 refine ⟨c1,c2,c3,F1,F2,F3,rfl,rfl,?_,?_,r1,r3,r4⟩
 ·intro h;·rw [aV.length r1.rep λx hx'=>hx x (List.mem_of_mem_take hx'),qT,Nat.min_eq_left qb]
 ·rw [aV.length r3.rep λx hx'=>hx x (List.mem_of_mem_drop (List.mem_of_mem_take hx')),qT,qU];congr 1;rcases hln with h | h<;>omega
theorem T9 {b off:Nat} {c1 c2 c3:List Value} (h:BX w b off (c1++(c2++c3))):BX w b (off+c1.length) c2:=by intro j u hu;rw [Nat.add_assoc];refine h (c1.length+j) u ?_;rw [List.getElem?_append_right qb,Nat.add_sub_cancel_left];have hj:j<c2.length:=(List.getElem?_eq_some_iff.1 hu).1;rw [List.getElem?_append_left hj];exact hu
theorem JJ {e:TypeId} {sz n:Nat} {v:Value} {xs ys:List Value} (h:w.ownsRow base e sz v n xs) (k:w.ownsRow base e sz v n ys):xs=ys:=by rcases h.2 with ⟨e1,e0⟩ | ⟨gg,cap,cur,e1,e2,e3,e4,e5,e6,e7⟩;(have a1:=h.1;have a2:=k.1;rw [e0] at a1 a2;rw [List.eq_nil_of_length_eq_zero (by omega:xs.length=0),List.eq_nil_of_length_eq_zero (by omega:ys.length=0)]);·rcases k.2 with ⟨f1,_⟩ | ⟨gg',cap',cur',f1,f2,f3,f4,f5,f6,f7⟩;(rw [e1] at f1;cases f1);·rw [e1] at f1;cases f1;rw [e3] at f3;cases f3;exact e7.symm.trans f7
theorem Kl (I:Inv base g s.h w pool) {i ver lo n:Nat} {v:Value} {e:TypeId} {sz:Nat} {xs:List (List D)} {dp:Bool} (hc:Ae g s.h w (.part i ver lo n) v) (hv:(s.h i).1=ver) (ho:(s.h i).2 = .row e sz xs dp) :
  ∃ad c,v = .slice ad n c/\n<=c/\(n=0\/lo+n<=xs.length)/\(n=0 \/ ∃b cells,ad=some ⟨b,lo*sz,none⟩/\b<w.heap.size/\w.ownsRow base e sz (g.val i) xs.length cells/\BX w b 0 cells)/\(lo=0 -> ∃m,g.val i = .slice ad m c/\n<=m):=by
 obtain ⟨h0,h1,h2⟩:=hc
 obtain ⟨ad,c,rfl,k2,k3,k4⟩:=h2 hv e sz xs dp ho
 have hob:=I.obj i
 rw [ho] at hob
 obtain ⟨cells,p1,p2,p3,p4,p5⟩:=hob
 refine ⟨ad,c,rfl,k2,?_,?_,k4⟩
 ·rcases k3 with k3 | ⟨b,m,c',k5,k6,k7⟩;(exact .inl k3);·right;rcases p1.2 with ⟨e1,_⟩ | ⟨gg,cap,cur,e1,_⟩;(rw [k5] at e1;cases e1);·rw [k5] at e1;cases e1;exact k6
 ·rcases k3 with k3 | ⟨b,m,c',k5,k6,k7⟩;(exact .inl k3);·right;rw [k5] at p1;rcases p1.2 with ⟨e1,_⟩ | ⟨gg,cap,cur,e1,e2,e3,e4,e5,e6,e7⟩;(cases e1);·cases e1;refine ⟨_,cells,k7,(Array.getElem?_eq_some_iff.1 e3).1,by rw [k5];exact p1,λj u hu => ?_⟩;have hj:j<cells.length:=(List.getElem?_eq_some_iff.1 hu).1;rw [Nat.zero_add,p1.cellAt j (by rw [<-p1.1];exact hj)];exact hu
theorem FV (I:Inv base g s.h w pool) {i:Nat} {e:TypeId} {sz:Nat} {xs:List (List D)} {dp:Bool} (ho:(s.h i).2 = .row e sz xs dp) : ∃F,Rep w (.sl xs) (g.val i) F:=by obtain ⟨_,F,_,_,hr,_⟩:=I.take ho;exact ⟨F,hr⟩
theorem Fw (I:Inv base g s.h w pool) : ∀ {cs:List SC} {vs:List Value} {k:List D->Prog},aT g s.h w cs vs->ex P (Eg cs k) s K -> ∃ds F,aJ w ds vs F/\ex P (k ds) s K
 | [],vs,k,hc,h=>⟨[],[],by simp only [aJ];exact ⟨hc,trivial⟩,h⟩
 | .dat d::cs,vs,k,hc,h=>by obtain ⟨v,vs',rfl,⟨F1,h1,h2⟩,h3⟩:=hc;obtain ⟨ds,F,h4,h5⟩:=Fw I h3 h;exact ⟨d::ds,F1++F,by simp only [aJ];exact ⟨v,vs',F1,F,rfl,rfl,h1,h4⟩,h5⟩
 | .old B d u::cs,vs,k,hc,h=>by obtain ⟨v,vs',rfl,⟨F1,h1,h2,_⟩,h3⟩:=hc;obtain ⟨ds,F,h4,h5⟩:=Fw I h3 h;exact ⟨d::ds,F1++F,by simp only [aJ];exact ⟨v,vs',F1,F,rfl,rfl,h1,h4⟩,h5⟩
 | .nil::cs,vs,k,hc,h=>by obtain ⟨v,vs',rfl,h1,h3⟩:=hc;obtain ⟨ds,F,h4,h5⟩:=Fw I h3 h;refine ⟨.sl []::ds,F,?_,h5⟩;simp only [aJ];refine ⟨v,vs',[],F,rfl,rfl,?_,h4⟩;simp only [Rep];exact ⟨none,0,0,h1,rfl,Nat.le_refl _,.inl qd⟩
 | .row i ver::cs,vs,k,hc,h=>by obtain ⟨v,vs',rfl,⟨h0,h1,h2⟩,h3⟩:=hc;simp only [Eg,ex] at h;split at h;(rename_i e sz xs dp ho;split at h;(rename_i hv;have hval:=h2 hv e sz xs dp ho;obtain ⟨F1,hr⟩:=FV I ho;obtain ⟨ds,F,h4,h5⟩:=Fw I h3 h;exact ⟨.sl xs::ds,F1++F,by simp only [aJ];exact ⟨v,vs',F1,F,rfl,rfl,hval ▸ hr,h4⟩,h5⟩);·exact h.elim);·exact h.elim
 | .bp _ _ _::_,_,_,_,h=>h.elim
 | .rp _ _ _ _::_,_,_,_,h=>h.elim
 | .clo _ _::_,_,_,_,h=>h.elim
 | .part _ _ _ _::_,_,_,_,h=>h.elim
 | .exa _ _ _::_,_,_,_,h=>h.elim
theorem Kz (I:Inv base g s.h w pool) {i ver off:Nat} {v:Value} {k:List D->Prog} (hc:Ig g s.h (i,ver,off) v) (h:ex P (FX i ver off k) s K) :
  ∃ds F,Rep w (.ptr ds) v F/\ex P (k ds) s K:=by
 simp only [FX,ex] at h
 split at h
 ·rename_i t cells ho
  split at h
  ·rename_i hv
   obtain ⟨b,h1,h2⟩:=hc.2 hv t cells ho
   have hob:=I.obj i
   rw [ho] at hob
   obtain ⟨b',vals,h3,h4,h5,h6⟩:=hob
   have hbb:b'=b:=by rw [h1] at h3;simp at h3;exact h3.symm
   subst hbb
   obtain ⟨ds,F,h7,h8⟩:=Fw I (h6.drop off) h
   refine ⟨ds,b'::F,?_,h8⟩
   simp only [Rep]
   refine ⟨b',off,vals.toList.drop off,F,h2,(Array.getElem?_eq_some_iff.1 h5).1,rfl,?_,h7⟩
   intro j u hu
   rw [cell_of_row w b' _ vals t (0,0) h5]
   simpa using hu
  ·exact h.elim
 ·exact h.elim
theorem Fv (I:Inv base g s.h w pool) : ∀ {cs:List (Nat×Nat×Nat)} {vs:List Value} {k:List D->Prog},De g s.h cs vs->ex P (DG cs k) s K -> ∃ds F,aJ w ds vs F/\ex P (k ds) s K
 | [],vs,k,hc,h=>⟨[],[],by simp only [aJ];exact ⟨hc,trivial⟩,h⟩
 | (i,ver,off)::cs,vs,k,hc,h=>by obtain ⟨v,vs',rfl,h1,h3⟩:=hc;obtain ⟨ds,F,h4,h5⟩:=Kz I h1 h;obtain ⟨es,G,h6,h7⟩:=Fv I h3 h5;exact ⟨.ptr ds::es,F++G,by simp only [aJ];exact ⟨v,vs',F,G,rfl,rfl,h4,h6⟩,h7⟩
theorem A9 (I:Inv base g s.h w pool) : ∀ {cs:List SC} {vs:List Value} {k:List D->Prog},aT g s.h w cs vs->ex P (Bt cs k) s K -> ∃ds F,aJ w ds vs F/\ex P (k ds) s K
 | [],vs,k,hc,h=>⟨[],[],by simp only [aJ];exact ⟨hc,trivial⟩,h⟩
 | .dat d::cs,vs,k,hc,h=>by obtain ⟨v,vs',rfl,⟨F1,h1,h2⟩,h3⟩:=hc;obtain ⟨ds,F,h4,h5⟩:=A9 I h3 h;exact ⟨d::ds,F1++F,by simp only [aJ];exact ⟨v,vs',F1,F,rfl,rfl,h1,h4⟩,h5⟩
 | .nil::cs,vs,k,hc,h=>by obtain ⟨v,vs',rfl,h1,h3⟩:=hc;obtain ⟨ds,F,h4,h5⟩:=A9 I h3 h;refine ⟨.sl []::ds,F,?_,h5⟩;simp only [aJ];refine ⟨v,vs',[],F,rfl,rfl,?_,h4⟩;simp only [Rep];exact ⟨none,0,0,h1,rfl,Nat.le_refl _,.inl qd⟩
 | .row i ver::cs,vs,k,hc,h=>by obtain ⟨v,vs',rfl,⟨h0,h1,h2⟩,h3⟩:=hc;simp only [Bt,ex] at h;split at h;(rename_i e sz xs dp ho;split at h;(rename_i hv;have hval:=h2 hv e sz xs dp ho;obtain ⟨F1,hr⟩:=FV I ho;obtain ⟨ds,F,h4,h5⟩:=A9 I h3 h;exact ⟨.sl xs::ds,F1++F,by simp only [aJ];exact ⟨v,vs',F1,F,rfl,rfl,hval ▸ hr,h4⟩,h5⟩);·exact h.elim);·exact h.elim
 | .bp i ver off::cs,vs,k,hc,h=>by obtain ⟨v,vs',rfl,⟨h0,h1⟩,h3⟩:=hc;obtain ⟨ds,F,h4,h5⟩:=Kz I h1 h;obtain ⟨es,G,h6,h7⟩:=A9 I h3 h5;exact ⟨.ptr ds::es,F++G,by simp only [aJ];exact ⟨v,vs',F,G,rfl,rfl,h4,h6⟩,h7⟩
 | .rp _ _ _ _::_,_,_,_,h=>h.elim
 | .clo f caps::cs,vs,k,hc,h=>by obtain ⟨v,vs',rfl,⟨us,h0,h1⟩,h3⟩:=hc;obtain ⟨ds,F,h4,h5⟩:=Fv I h1 h;obtain ⟨es,G,h6,h7⟩:=A9 I h3 h5;refine ⟨.fn f ds::es,F++G,?_,h7⟩;simp only [aJ];refine ⟨v,vs',F,G,rfl,rfl,?_,h6⟩;simp only [Rep];exact ⟨us,h0,h4⟩
 | .old B d u::cs,vs,k,hc,h=>by obtain ⟨v,vs',rfl,⟨F1,h1,h2,_⟩,h3⟩:=hc;obtain ⟨ds,F,h4,h5⟩:=A9 I h3 h;exact ⟨d::ds,F1++F,by simp only [aJ];exact ⟨v,vs',F1,F,rfl,rfl,h1,h4⟩,h5⟩
 | .exa W d x::cs,vs,k,hc,h=>by obtain ⟨v,vs',rfl,⟨rfl,F1,h1,h2⟩,h3⟩:=hc;obtain ⟨ds,F,h4,h5⟩:=A9 I h3 h;exact ⟨d::ds,F1++F,by simp only [aJ];exact ⟨v,vs',F1,F,rfl,rfl,Rep.AH _ _ _ h1 λb hb=>(h2 b hb).2,h4⟩,h5⟩
 | .part i ver lo n::cs,vs,k,hc,h=>by obtain ⟨v,vs',rfl,hp,h3⟩:=hc;simp only [Bt,ex] at h;split at h;(rename_i e sz xs dp ho;split at h;(rename_i hv;obtain ⟨ad,c,rfl,q1,q2,q3,_⟩:=Kl I hp hv ho;have hob:=I.obj i;rw [ho] at hob;obtain ⟨cells,p1,p2,p3,p4,p5⟩:=hob;obtain ⟨c1,c2,c3,F1,F2,F3,rfl,hG,m1,m2,m3,m4,m5⟩:=NA (lo:=lo) (n:=n) p3 p2 q2;obtain ⟨ds,F,h4,h5⟩:=A9 I h3 h;rcases q3 with q3 | ⟨b,cells',q3,q4,q5,q6⟩;(refine ⟨.sl ((xs.drop lo).take n)::ds,[]++F,?_,h5⟩;simp only [aJ];refine ⟨_,vs',[],F,rfl,rfl,?_,h4⟩;simp only [Rep];exact ⟨ad,n,c,rfl,by rw [q3];simp,q1,.inl ⟨q3,trivial⟩⟩);·have hcc:cells'=c1++(c2++c3):=JJ q5 p1;subst hcc;refine ⟨.sl ((xs.drop lo).take n)::ds,(b::F2)++F,?_,h5⟩;simp only [aJ];refine ⟨_,vs',b::F2,F,rfl,rfl,?_,h4⟩;simp only [Rep];by_cases hn:n=0;(refine ⟨ad,n,c,rfl,by rw [hn];simp,q1,.inr ⟨b,lo*sz,c2,sz,F2,q3,q4,rfl,?_,m2,λx hx=>p2 x (List.mem_of_mem_drop (List.mem_of_mem_take hx)),m4.rep⟩⟩;have:c2=[]:=List.eq_nil_of_length_eq_zero (by rw [m2,hn];simp);subst this;intro j u hu;simp at hu);·have hlo:lo+n<=xs.length:=q2.resolve_left hn;refine ⟨ad,n,c,rfl,by rw [qT,qU];omega,q1,.inr ⟨b,lo*sz,c2,sz,F2,q3,q4,rfl,?_,m2,λx hx=>p2 x (List.mem_of_mem_drop (List.mem_of_mem_take hx)),m4.rep⟩⟩;have:=T9 q6;rw [m1 qb,Nat.zero_add] at this;exact this);·exact h.elim);·exact h.elim
theorem Du (R:mJ P base w0 N g s a w pool) : ∀ {xs:List Operand} {k:List (Bool×List D)->Prog},ex P (EA xs k) s K -> ∃as F,xJ w (xs.map a.eval) as F/\ex P (k as) s K
 | [],k,h=>⟨[],[],rfl,h⟩
 | x::xs,k,h=>by
  obtain ⟨sv,h1,h2⟩:=bX R h
  cases sv with
  | v ag cs =>
   simp only at h2
   cases ag with
   | false =>
    obtain ⟨ds,F,h3,h4⟩:=A9 R.inv h1 h2
    obtain ⟨as,Fa,h5,h6⟩:=Du R h4
    refine ⟨(false,ds)::as,_,⟨F,Fa,rfl,?_,h5⟩,h6⟩
    have hl:=h3.length
    match ds,h3,hl with
    | [d],h3,_ =>
     simp only [aJ] at h3
     obtain ⟨v,vs',F1,F2,e1,rfl,h7,_,rfl⟩:=h3
     simp at e1
     rw [qW]
     exact ⟨d,rfl,e1.1 ▸ h7⟩
   | true =>
    obtain ⟨vs,hv,hc⟩:=h1
    obtain ⟨ds,F,h3,h4⟩:=A9 R.inv hc h2
    obtain ⟨as,Fa,h5,h6⟩:=Du R h4
    exact ⟨(true,ds)::as,_,⟨F,Fa,rfl,⟨vs,hv,h3⟩,h5⟩,h6⟩
  | unk=>exact h2.elim
  | undef=>exact h2.elim
  | tup vs=>exact h2.elim
theorem R0 {j vj:Nat} {e:TypeId} {sz:Nat} {xs:List (List D)} {dp:Bool} (R:mJ P base w0 N g s a w []) (h2:s.h j=(vj,.row e sz xs dp)) :
  ∃g',mJ P base w0 N g' (s.fH j (vj,.none)) a w []/\kL g g' s.h (s.fH j (vj,.none)).h w w /\ ∀v,Ae g s.h w (.row j vj) v -> ∃F,Rep w (.sl xs) v F /\ ∀b∈F,g'.S b:=by
 have hj1:(s.h j).1=vj:=by rw [h2]
 have hj2:(s.h j).2 = .row e sz xs dp:=by rw [h2]
 obtain ⟨S',F,hS,_,hrep,_,_,hF,_,I1⟩:=R.inv.take hj2
 have T1:=kL.drop (g:=g) (h:=s.h) (w:=w) j S' hS
 rw [hj1] at I1 T1
 refine ⟨_,R.sN T1 rfl R.below I1.forget,T1,?_⟩
 rintro v ⟨h0,_,hv⟩
 have e1:v=g.val j:=hv hj1 e sz xs dp hj2
 subst e1
 exact ⟨F,hrep,hF⟩
theorem kL.id (g:Gh) (h:Heap) (w:World):kL g g h h w w:=kL.refl g h w
theorem Ei : ∀ {cs:List SC} {vs:List Value} {k:List D->Prog} {g:Gh} {s:St},mJ P base w0 N g s a w []->aT g s.h w cs vs->ex P (IF cs k) s K ->
  ∃g' s' ds F,mJ P base w0 N g' s' a w []/\(∀b,g.S b->g'.S b)/\aJ w ds vs F/\(∀b∈F,g'.S b)/\ex P (k ds) s' K
 | [],vs,k,g,s,R,hc,h=>⟨g,s,[],[],R,λ_ x=>x,by simp only [aJ];exact ⟨hc,trivial⟩,qd,h⟩
 | .dat d::cs,vs,k,g,s,R,hc,h=>by obtain ⟨v,vs',rfl,⟨F1,h1,h2⟩,h3⟩:=hc;obtain ⟨g',s',ds,F,R',hS,h4,h5,h6⟩:=Ei R h3 h;refine ⟨g',s',d::ds,F1++F,R',hS,by simp only [aJ];exact ⟨v,vs',F1,F,rfl,rfl,h1,h4⟩,λb hb => ?_,h6⟩;rcases List.mem_append.1 hb with hb | hb;(exact hS b (h2 b hb));·exact h5 b hb
 | .nil::cs,vs,k,g,s,R,hc,h=>by obtain ⟨v,vs',rfl,h1,h3⟩:=hc;obtain ⟨g',s',ds,F,R',hS,h4,h5,h6⟩:=Ei R h3 h;refine ⟨g',s',.sl []::ds,F,R',hS,?_,h5,h6⟩;simp only [aJ];refine ⟨v,vs',[],F,rfl,rfl,?_,h4⟩;simp only [Rep];exact ⟨none,0,0,h1,rfl,Nat.le_refl _,.inl qd⟩
 | .old B d u::cs,vs,k,g,s,R,hc,h=>by obtain ⟨v,vs',rfl,⟨F1,h1,h2,_⟩,h3⟩:=hc;obtain ⟨g',s',ds,F,R',hS,h4,h5,h6⟩:=Ei R h3 h;refine ⟨g',s',d::ds,F1++F,R',hS,by simp only [aJ];exact ⟨v,vs',F1,F,rfl,rfl,h1,h4⟩,λb hb => ?_,h6⟩;rcases List.mem_append.1 hb with hb | hb;(exact hS b (h2 b hb).1);·exact h5 b hb
 | .row i ver::cs,vs,k,g,s,R,hc,h=>by
  obtain ⟨v,vs',rfl,h1,h3⟩:=hc
  simp only [IF,ex] at h
  split at h
  ·rename_i e sz xs dp ho
   split at h
   ·rename_i hv
    simp only [ex] at h
    have h2:s.h i=(ver,.row e sz xs dp):=by rw [<-hv,<-ho]
    obtain ⟨g1,R1,T1,hf⟩:=R0 R h2
    obtain ⟨F1,k1,k2⟩:=hf v h1
    obtain ⟨g',s',ds,F,R',hS,h4,h5,h6⟩:=Ei R1 (h3.sN T1) h
    refine ⟨g',s',.sl xs::ds,F1++F,R',λb x=>hS b (T1.S b x),by simp only [aJ];exact ⟨v,vs',F1,F,rfl,rfl,k1,h4⟩,λb hb => ?_,h6⟩
    rcases List.mem_append.1 hb with hb | hb
    ·exact hS b (k2 b hb)
    ·exact h5 b hb
   ·exact h.elim
  ·exact h.elim
 | .bp _ _ _::_,_,_,_,_,_,_,h=>h.elim
 | .rp _ _ _ _::_,_,_,_,_,_,_,h=>h.elim
 | .clo _ _::_,_,_,_,_,_,_,h=>h.elim
 | .part _ _ _ _::_,_,_,_,_,_,_,h=>h.elim
 | .exa _ _ _::_,_,_,_,_,_,_,h=>h.elim
theorem Gj : ∀ {xs:List Operand} {k:List (Bool×List D)->Prog} {g:Gh} {s:St},mJ P base w0 N g s a w []->ex P (K0 xs k) s K ->
  ∃g' s' as F,mJ P base w0 N g' s' a w []/\(∀b,g.S b->g'.S b)/\xJ w (xs.map a.eval) as F/\(∀b∈F,g'.S b)/\ex P (k as) s' K
 | [],k,g,s,R,h=>⟨g,s,[],[],R,λ_ x=>x,rfl,qd,h⟩
 | x::xs,k,g,s,R,h=>by
  obtain ⟨sv,h1,h2⟩:=bX R h
  cases sv with
  | v ag cs =>
   simp only at h2
   cases ag with
   | false =>
    obtain ⟨g1,s1,ds,F,R1,hS1,h3,h3b,h4⟩:=Ei R h1 h2
    obtain ⟨g2,s2,as,Fa,R2,hS2,h5,h5b,h6⟩:=Gj R1 h4
    refine ⟨g2,s2,(false,ds)::as,_,R2,λb x=>hS2 b (hS1 b x),⟨F,Fa,rfl,?_,h5⟩,?_,h6⟩
    ·have hl:=h3.length
     match ds,h3,hl with
     | [d],h3,_ =>
      simp only [aJ] at h3
      obtain ⟨v,vs',F1,F2,e1,rfl,h7,_,rfl⟩:=h3
      simp at e1
      rw [qW]
      exact ⟨d,rfl,e1.1 ▸ h7⟩
    ·intro b hb;rcases List.mem_append.1 hb with hb | hb;(exact hS2 b (h3b b hb));·exact h5b b hb
   | true =>
    obtain ⟨vs,hv,hc⟩:=h1
    obtain ⟨g1,s1,ds,F,R1,hS1,h3,h3b,h4⟩:=Ei R hc h2
    obtain ⟨g2,s2,as,Fa,R2,hS2,h5,h5b,h6⟩:=Gj R1 h4
    refine ⟨g2,s2,(true,ds)::as,_,R2,λb x=>hS2 b (hS1 b x),⟨F,Fa,rfl,⟨vs,hv,h3⟩,h5⟩,?_,h6⟩
    intro b hb
    rcases List.mem_append.1 hb with hb | hb
    ·exact hS2 b (h3b b hb)
    ·exact h5b b hb
  | unk=>exact h2.elim
  | undef=>exact h2.elim
  | tup vs=>exact h2.elim
end
end Go.Sh
namespace Go.Sh
open Go.RowKit
theorem kL.trans {g1 g2 g3:Gh} {h1 h2 h3:Heap} {w1 w2 w3:World} (A:kL g1 g2 h1 h2 w1 w2) (B:kL g2 g3 h2 h3 w2 w3):kL g1 g3 h1 h3 w1 w3:=
 ⟨λb x=>B.S b (A.S b x),λb x=>(B.Sw b (A.S b x)).trans (A.Sw b x),λj=>Nat.le_trans (A.ver j) (B.ver j),
  λj e sz xs dp hj hr=>by have v1:=A.ver j;have v2:=B.ver j;obtain ⟨e1,x1,d1,r1⟩:=B.row j e sz xs dp qb hr;obtain ⟨e2,x2,d2,r2⟩:=A.row j e sz x1 d1 qb r1;exact ⟨e1.trans e2,x2,d2,r2⟩,
  λj t cs hj hr=>by have v1:=A.ver j;have v2:=B.ver j;obtain ⟨e1,x1,r1⟩:=B.box j t cs qb hr;obtain ⟨e2,x2,r2⟩:=A.box j t x1 qb r1;exact ⟨e1.trans e2,x2,r2⟩,B.Q.trans A.Q⟩
def Mb (g:Gh) (i:Nat) (v:Value) (F:List Nat):Gh:={ g with val:=E8 g.val i v,fp:=E8 g.fp i F }
theorem kL.create {g:Gh} {h:Heap} {w:World} (i:Nat) (v:Value) (F:List Nat) (o:CT):kL g (Mb g i v F) h (sB h i ((h i).1+1,o)) w w:=by refine ⟨λ_ x=>x,λ_ _=>rfl,λj => ?_,λj e sz xs dp hj hr => ?_,λj t cs hj hx => ?_,rfl⟩;(by_cases hj:j=i;(subst hj;rw [bM];exact Nat.le_succ _);·rw [fO _ _ _ _ hj];exact Nat.le_refl _);(by_cases hji:j=i;(subst hji;rw [bM] at hj;simp at hj);·rw [fO _ _ _ _ hji] at hr;exact ⟨B7 _ _ _ _ hji,xs,dp,hr⟩);·by_cases hji:j=i;(subst hji;rw [bM] at hj;simp at hj);·rw [fO _ _ _ _ hji] at hx;exact ⟨B7 _ _ _ _ hji,cs,hx⟩
theorem ED {h:Heap} {i j:Nat} {x:Nat×CT} (hl:live (sB h i x) j):j=i\/(j≠i/\live h j):=by by_cases hj:j=i;(exact .inl hj);·unfold live at *;rw [fO _ _ _ _ hj] at hl;exact .inr ⟨hj,hl⟩
theorem Dx {h:Heap} {i j:Nat} {x:Nat×CT} (hl:iV (sB h i x) j):j=i\/(j≠i/\iV h j):=by by_cases hj:j=i;(exact .inl hj);·unfold iV at *;rw [fO _ _ _ _ hj] at hl;exact .inr ⟨hj,hl⟩
section
variable {base:Nat} {g:Gh} {h:Heap} {w:World} {pool:List Nat}
def D3 (g:Gh) (h:Heap) (b:Nat):Prop:=¬g.S b /\ ∀j,live h j->Bj (g.val j)≠some b
theorem Inv.OX (I:Inv base g h w pool) {i:Nat} {v:Value} {F:List Nat} {o:CT} {pool':List Nat}
  (ho:Cq base (Mb g i v F) (sB h i ((h i).1+1,o)) w i o) (hfree : ∀b,Bj v=some b->D3 g h b)
  (hpl : ∀b∈pool',b∈pool) (hpn:pool'.Nodup)
  (hd:(∃e sz xs,o = .row e sz xs true) -> ∀b∈F,b∈pool/\b∉pool') :
  Inv base (Mb g i v F) (sB h i ((h i).1+1,o)) w pool':=by
 have T:=kL.create (g:=g) (h:=h) (w:=w) i v F o
 have vi:(Mb g i v F).val i=v:=dS _ _ _
 have vn : ∀j,j≠i->(Mb g i v F).val j=g.val j:=λj hj=>B7 _ _ _ _ hj
 have fi:(Mb g i v F).fp i=F:=dS _ _ _
 have fn : ∀j,j≠i->(Mb g i v F).fp j=g.fp j:=λj hj=>B7 _ _ _ _ hj
 have hdi:iV (sB h i ((h i).1+1,o)) i -> ∃e sz xs,o = .row e sz xs true:=by rintro ⟨e,sz,xs,hh⟩;rw [bM] at hh;exact ⟨e,sz,xs,hh⟩
 refine ⟨I.base_le,I.S_old,I.S_lt,λj => ?_,λj b hl hb => ?_,λj k b hne hl hk hb hb' => ?_,λj k hne hj hk b hb hb' => ?_,
  ⟨hpn,λb hb=>I.pool_own.2 b (hpl b hb)⟩,λb hb=>I.pool_S b (hpl b hb),λj hj b hb hb' => ?_,I.fb⟩
 ·by_cases hj:j=i;(subst hj;rw [bM];exact ho);·rw [fO _ _ _ _ hj];exact Cq.sN T (vn j hj) (fn j hj) (λ_ _=>rfl) (I.obj j)
 ·rcases ED hl with rfl | ⟨hj,hl⟩;(rw [vi] at hb;exact (hfree b hb).1);·rw [vn j hj] at hb;exact I.mtb j b hl hb
 ·rcases ED hl with rfl | ⟨hj,hl1⟩;(rcases ED hk with rfl | ⟨hk',hk1⟩;(exact hne rfl);·rw [vi] at hb;rw [vn k hk'] at hb';exact (hfree b hb).2 k hk1 hb');·rw [vn j hj] at hb;rcases ED hk with rfl | ⟨hk',hk1⟩;(rw [vi] at hb';exact (hfree b hb').2 j hl1 hb);·rw [vn k hk'] at hb';exact I.inj j k b hne hl1 hk1 hb hb'
 ·rcases Dx hj with rfl | ⟨hj',hj'd⟩;(rcases Dx hk with rfl | ⟨hk',hk'd⟩;(exact hne rfl);·rw [fi] at hb;rw [fn k hk'] at hb';exact I.pool_dis k hk'd b hb' (hd (hdi hj) b hb).1);·rw [fn j hj'] at hb;rcases Dx hk with rfl | ⟨hk',hk'd⟩;(rw [fi] at hb';exact I.pool_dis j hj'd b hb (hd (hdi hk) b hb').1);·rw [fn k hk'] at hb';exact I.dis j k hne hj'd hk'd b hb hb'
 ·rcases Dx hj with rfl | ⟨hj',hj'd⟩;(rw [fi] at hb;exact (hd (hdi hj) b hb).2 hb');·rw [fn j hj'] at hb;exact I.pool_dis j hj'd b hb (hpl b hb')
theorem Inv.O4 (I:Inv base g h w pool) {i b:Nat} {vals:Array Value} {t:TypeId} {cells:List SC} (hb:base<=b) (hf:D3 g h b) (hw:w.heap[b]? = some (.cells vals t (0,0)))
  (hc:aT g h w cells vals.toList):Inv base (Mb g i (.pointer (some ⟨b,0,none⟩)) []) (sB h i ((h i).1+1,.box t cells)) w pool:=
 I.OX ⟨b,vals,dS _ _ _,Nat.le_trans I.fb hb,hw,hc.sN (kL.create i _ _ _)⟩ (λb' hb'=>by simp [Bj] at hb';subst hb';exact hf) (λ_ x=>x) I.pool_own.1 (by rintro ⟨_,_,_,h⟩;cases h)
theorem Inv.Dc (I:Inv base g h w pool) {i:Nat} {v:Value} {e:TypeId} {sz:Nat} {xs:List (List D)} {dp:Bool} {cells:List Value} {F:List Nat} {pool':List Nat} (ho:w.ownsRow base e sz v xs.length cells)
  (hx : ∀x∈xs,x.length=sz) (hr:dB g.Q.L dp w e xs cells F) (hF : ∀b∈F,g.S b) (hf : ∀b,Bj v=some b->D3 g h b)
  (hpl : ∀b∈pool',b∈pool) (hpn:pool'.Nodup) (hd:dp=true->F.Nodup /\ ∀b∈F,b∈pool/\b∉pool') :
  Inv base (Mb g i v F) (sB h i ((h i).1+1,.row e sz xs dp)) w pool':=by
 have vi:(Mb g i v F).val i=v:=dS _ _ _
 have fi:(Mb g i v F).fp i=F:=dS _ _ _
 refine I.OX ⟨cells,by rw [vi];exact ho,hx,by rw [fi];exact hr,by rw [fi];exact hF,λhdp=>by rw [fi];exact ⟨(hd hdp).1,λb hb=>I.pool_own.2 b ((hd hdp).2 b hb).1⟩⟩ hf hpl hpn ?_
 rintro ⟨e',sz',xs',hh⟩
 cases hh
 exact (hd rfl).2
theorem Inv.aAi (I:Inv base g h w pool) {G:List Nat} (hG:Ac base w G) (hf : ∀b∈G,D3 g h b):Inv base { g with S:=λb=>g.S b\/b∈G } h w (pool++G):=by
 have T:kL g { g with S:=λb=>g.S b\/b∈G } h h w w:=
  ⟨λ_ x=>.inl x,λ_ _=>rfl,λ_=>Nat.le_refl _,λi e sz xs dp _ hr=>⟨rfl,xs,dp,hr⟩,λi t cs _ hx=>⟨rfl,cs,hx⟩,rfl⟩
 have hin : ∀i,iV h i -> ∀b∈g.fp i,g.S b:=by rintro i ⟨e,sz,xs,hh⟩ b hb;have:=I.obj i;rw [hh] at this;obtain ⟨_,_,_,_,h4,_⟩:=this;exact h4 b hb
 refine ⟨I.base_le,λb x hlt=>x.elim (λx=>I.S_old b x hlt) (λx=>absurd (hG.2 b x).1 qb),?_,λj=>Cq.sN T rfl rfl (λ_ _=>rfl) (I.obj j),?_,I.inj,I.dis,⟨?_,?_⟩,?_,?_,I.fb⟩
 ·rintro b (hb | hb);(exact I.S_lt b hb);·exact (hG.2 b hb).2.lt
 ·rintro j b hl hb (hS | hS);(exact I.mtb j b hl hb hS);·exact (hf b hS).2 j hl hb
 ·rw [List.nodup_append];refine ⟨I.pool_own.1,hG.1,?_⟩;rintro x hx y hy rfl;exact (hf x hy).1 (I.pool_S x hx)
 ·intro b hb;rcases List.mem_append.1 hb with hb | hb;(exact I.pool_own.2 b hb);·exact hG.2 b hb
 ·intro b hb;rcases List.mem_append.1 hb with hb | hb;(exact .inl (I.pool_S b hb));·exact .inr hb
 ·intro i hd b hb hb';rcases List.mem_append.1 hb' with hb' | hb';(exact I.pool_dis i hd b hb hb');·exact (hf b hb').1 (hin i hd b hb)
theorem Inv.ZZ (I:Inv base g h w pool) {X:Nat->Prop} (hX : ∀b,X b->(g.S b\/base<=b)/\b<w.heap.size) (hf : ∀b,X b -> ¬g.S b->D3 g h b):Inv base { g with S:=λb=>g.S b\/X b } h w pool:=by
 have T:kL g { g with S:=λb=>g.S b\/X b } h h w w:=
  ⟨λ_ x=>.inl x,λ_ _=>rfl,λ_=>Nat.le_refl _,λi e sz xs dp _ hr=>⟨rfl,xs,dp,hr⟩,λi t cs _ hx=>⟨rfl,cs,hx⟩,rfl⟩
 refine ⟨I.base_le,λb x hlt=>x.elim (λx=>I.S_old b x hlt) (λx=>(hX b x).1.elim (λy=>I.S_old b y hlt) (λy=>absurd y qb)),?_,λj=>Cq.sN T rfl rfl (λ_ _=>rfl) (I.obj j),?_,I.inj,I.dis,I.pool_own,λb hb=>.inl (I.pool_S b hb),I.pool_dis,I.fb⟩
 ·rintro b (hb | hb);(exact I.S_lt b hb);·exact (hX b hb).2
 ·rintro j b hl hb (hS | hS);(exact I.mtb j b hl hb hS);·by_cases hs:g.S b;(exact I.mtb j b hl hb hs);·exact (hf b hS hs).2 j hl hb
theorem kL.ZZ (g:Gh) (h:Heap) (w:World) (X:Nat->Prop):kL g { g with S:=λb=>g.S b\/X b } h h w w:=
 ⟨λ_ x=>.inl x,λ_ _=>rfl,λ_=>Nat.le_refl _,λi e sz xs dp _ hr=>⟨rfl,xs,dp,hr⟩,λi t cs _ hx=>⟨rfl,cs,hx⟩,rfl⟩
theorem kL.aAi (g:Gh) (h:Heap) (w:World) (G:List Nat):kL g { g with S:=λb=>g.S b\/b∈G } h h w w:=
 ⟨λ_ x=>.inl x,λ_ _=>rfl,λ_=>Nat.le_refl _,λi e sz xs dp _ hr=>⟨rfl,xs,dp,hr⟩,λi t cs _ hx=>⟨rfl,cs,hx⟩,rfl⟩
end
theorem OO {w:World} {b b':Nat} {e:TypeId} {sz n:Nat} {v:Value} {xs:List Value} (h:w.ownsRow b e sz v n xs) (hb:b'<=b):w.ownsRow b' e sz v n xs:=by refine ⟨h.1,?_⟩;rcases h.2 with h1 | ⟨gg,cap,cur,h1,h2,h3⟩;(exact .inl h1);·exact .inr ⟨gg,cap,cur,h1,Nat.le_trans hb h2,h3⟩
section
variable {P:Program} {base N:Nat} {w0:W0} {w:World} {a:Act} {K:St->Prop}
theorem Pw (s:St) (i:Nat) (x:Nat×CT):(s.fH i x).h=sB s.h i x:=rfl
theorem AB {base1 d:Nat} {X:Nat->Prop} (hbb:base<=base1) : ∀ {rs:List RC} {vs:List Value} {F:List Nat} {j:Nat} {k:List SC->Prog} {g:Gh} {s:St} {pool:List Nat},
  mJ P base w0 N g s a w pool->pX (slP P) base1 w X vs rs F->Ac base w F->(∀b∈F,D3 g s.h b)->(rs.any RC.isAny=true -> ∀b,X b->g.S b)->ex P (xD d j rs k) s K ->
  ∃g' s' cs,ex P (k cs) s' K/\mJ P base w0 N g' s' a w pool/\aT g' s'.h w cs vs/\kL g g' s.h s'.h w w/\s'.t=s.t/\(∀b,b∉F->D3 g s.h b->D3 g' s'.h b)
 | [],vs,F,j,k,g,s,pool,R,hr,hF,hf,hX,h=>by
  cases vs with
  | nil=>exact ⟨g,s,[],h,R,rfl,kL.refl _ _ _,rfl,λ_ _ x=>x⟩
  | cons v vs=>simp [pX] at hr
 | .any x::rs,vs,F,j,k,g,s,pool,R,hr,hF,hf,hX,h=>by
  cases vs with
  | nil=>simp [pX] at hr
  | cons v vs =>
   simp only [pX] at hr
   obtain ⟨⟨G,hG1,hG2⟩,hr2⟩:=hr
   obtain ⟨g',s',cs,h1,h2,h3,h4,h5,h6⟩:=AB hbb R hr2 hF hf (λ_=>hX (by simp [RC.isAny])) h
   exact ⟨g',s',.dat x::cs,h1,h2,⟨v,vs,rfl,Ae.sN h4 ⟨G,hG1,λb hb=>hX (by simp [RC.isAny]) b (hG2 b hb)⟩,h3⟩,h4,h5,h6⟩
 | .ro x::rs,vs,F,j,k,g,s,pool,R,hr,hF,hf,hX,h=>by
  cases vs with
  | nil=>simp [pX] at hr
  | cons v vs =>
   simp only [pX] at hr
   obtain ⟨g',s',cs,h1,h2,h3,h4,h5,h6⟩:=AB hbb R hr.2 hF hf (λhh=>hX (by simp [hh])) h
   exact ⟨g',s',.dat x::cs,h1,h2,⟨v,vs,rfl,⟨[],Rep.AH _ _ _ hr.1 qd,qd⟩,h3⟩,h4,h5,h6⟩
 | .own e sz xs::rs,vs,F,j,k,g,s,pool,R,hr,hF,hf,hX,h=>by
  cases vs with
  | nil=>simp [pX] at hr
  | cons v vs =>
   simp only [pX] at hr
   obtain ⟨cells,G,F',ho,hx,hrr,rfl,hr'⟩:=hr
   simp only [xD,ex] at h
   have hnd:=hF.1
   rw [List.nodup_append,List.nodup_append] at hnd
   obtain ⟨nd1,⟨nd2,nd3,nd4⟩,nd5⟩:=hnd
   have hGown:Ac base w G:=⟨nd2,λb hb=>hF.2 b (by simp [hb])⟩
   have I1:=R.inv.aAi hGown λb hb=>hf b (by simp [hb])
   have T1:=kL.aAi g s.h w G
   let g1:Gh:={ g with S:=λb=>g.S b\/b∈G }
   have hob:Bj v=v.ownBlock:=pN ho
   have hfree1 : ∀b,Bj v=some b->D3 g1 s.h b:=by
    intro b hb
    rw [hob] at hb
    have hm:b∈v.ownBlock.toList:=by rw [hb];simp
    have hfr:=hf b (by rw [qP];exact .inl hm)
    refine ⟨?_,hfr.2⟩
    rintro (hS | hS)
    ·exact hfr.1 hS
    ·exact nd5 b hm b (by simp [hS]) rfl
   have I2:=I1.Dc (i:=rid d j) (dp:=true) (pool':=pool) (OO ho hbb) hx (by show jW g.Q.L w xs e cells G;exact jW.toL R hrr) (λb hb=>.inr hb) hfree1 (λb hb=>by simp [hb]) R.inv.pool_own.1
    (λ_=>⟨nd2,λb hb=>⟨by simp [hb],λhp=>(hf b (by simp [hb])).1 (R.inv.pool_S b hp)⟩⟩)
   have T2:=kL.create (g:=g1) (h:=s.h) (w:=w) (rid d j) v G (.row e sz xs true)
   have T12:=T1.trans T2
   have R2:mJ P base w0 N (Mb g1 (rid d j) v G) (s.fH (rid d j) ((s.h (rid d j)).1+1,.row e sz xs true)) a w pool:=R.sN T12 rfl R.below I2
   have keepFree : ∀b,b∉v.ownBlock.toList->b∉G->D3 g s.h b->D3 (Mb g1 (rid d j) v G) (sB s.h (rid d j) ((s.h (rid d j)).1+1,.row e sz xs true)) b:=by intro b hb1 hb2 hfr;refine ⟨?_,λj' hl => ?_⟩;(rintro (hS | hS);(exact hfr.1 hS);·exact hb2 hS);·rcases ED hl with rfl | ⟨hj,hl⟩;(show Bj (E8 g1.val _ v _)≠some b;rw [dS,hob];intro hh;exact hb1 (by rw [hh];simp));·show Bj (E8 g1.val _ v _)≠some b;rw [B7 _ _ _ _ hj];exact hfr.2 j' hl
   have hF':Ac base w F':=⟨nd3,λb hb=>hF.2 b (by simp [hb])⟩
   obtain ⟨g',s',cs,h1,h2,h3,h4,h5,h6⟩:=AB hbb R2 hr' hF'
    (λb hb=>keepFree b (λhm=>nd5 b hm b (by simp [hb]) rfl) (λhm=>nd4 b hm b hb rfl) (hf b (by simp [hb]))) (λhh b hb=>T12.S b (hX (by simp [hh]) b hb)) h
   refine ⟨g',s',.row (rid d j) ((s.h (rid d j)).1+1)::cs,h1,h2,⟨v,vs,rfl,?_,h3⟩,T12.trans h4,h5.trans rfl,λb hb hfr=>h6 b (λhm=>hb (by simp [hm])) (keepFree b (λhm=>hb (by rw [qP];exact .inl hm)) (λhm=>hb (by simp [hm])) hfr)⟩
   refine Ae.sN h4 ?_
   refine ⟨?_,?_,?_⟩
   ·rcases ho.2 with ⟨rfl,_⟩ | ⟨gg,cap,cur,rfl,_⟩<;>rfl
   ·show _<=(sB s.h (rid d j) _ (rid d j)).1;rw [bM];exact Nat.le_refl _
   ·intro _ e' sz' xs' dp' _;show v=E8 g1.val _ v _;rw [dS]
theorem Jv {base1 d:Nat} {X:Nat->Prop} (hbb:base<=base1) : ∀ {rs:List (Bool×List RC)} {vs:List Value} {F:List Nat} {j:Nat} {k:List (Bool×List SC)->Prog} {g:Gh} {s:St} {pool:List Nat},
  mJ P base w0 N g s a w pool->CI (slP P) base1 w X vs rs F->Ac base w F->(∀b∈F,D3 g s.h b)->(AJ rs=true -> ∀b,X b->g.S b)->ex P (CY d j rs k) s K ->
  ∃g' s' cs,ex P (k cs) s' K/\mJ P base w0 N g' s' a w pool/\Dn g' s'.h w cs vs/\kL g g' s.h s'.h w w/\s'.t=s.t
 | [],vs,F,j,k,g,s,pool,R,hr,hF,hf,hX,h=>by
  cases vs with
  | nil=>exact ⟨g,s,[],h,R,rfl,kL.refl _ _ _,rfl⟩
  | cons v vs=>simp [CI] at hr
 | (ag,r)::rs,vs,F,j,k,g,s,pool,R,hr,hF,hf,hX,h=>by
  cases vs with
  | nil=>simp [CI] at hr
  | cons v vs =>
   simp only [CI] at hr
   obtain ⟨F1,F2,rfl,h1,h2⟩:=hr
   have hnd:=hF.1
   rw [List.nodup_append] at hnd
   obtain ⟨nd1,nd2,nd3⟩:=hnd
   have hF1:Ac base w F1:=⟨nd1,λb hb=>hF.2 b (by simp [hb])⟩
   have hF2:Ac base w F2:=⟨nd2,λb hb=>hF.2 b (by simp [hb])⟩
   have key : ∃us,pX (slP P) base1 w X us r F1 /\ ∀(g':Gh) (h':Heap) (cs:List SC),aT g' h' w cs us->F7 g' h' w (ag,cs) v:=by
    cases ag with
    | false=>exact ⟨[v],h1,λg' h' cs hc=>hc⟩
    | true=>obtain ⟨us,rfl,hc⟩:=h1;exact ⟨us.toList,hc,λg' h' cs hc=>⟨us,rfl,hc⟩⟩
   obtain ⟨us,hu,hback⟩:=key
   obtain ⟨g1,s1,cs,k1,k2,k3,k4,k5,k6⟩:=AB hbb R hu hF1 (λb hb=>hf b (by simp [hb])) (λhh=>hX (by simp only [AJ,List.any_cons,hh,Bool.true_or])) h
   obtain ⟨g2,s2,vs2,m1,m2,m3,m4,m5⟩:=Jv hbb k2 h2 hF2 (λb hb=>k6 b (λhm=>nd3 b hm b hb rfl) (hf b (by simp [hb]))) (λhh b hb=>k4.S b (hX (by simp only [AJ,List.any_cons] at hh ⊢;rw [hh,Bool.or_true]) b hb)) k1
   exact ⟨g2,s2,(ag,cs)::vs2,m1,m2,⟨v,vs,rfl,F7.sN m4 (hback _ _ _ k3),m3⟩,k4.trans m4,m5.trans k5⟩
theorem GQ {base1:Nat} (hbb:base<=base1) {rs:List (Bool×List RC)} {v:Value} {g:Gh} {s:St} {pool:List Nat} {dst:Option Tmp}
  {X:Nat->Prop} {F:List Nat} (R:mJ P base w0 N g s a w pool) (hF:Ac base1 w F) (hv:QI (slP P) base1 w X v rs F) (hff : ∀b∈F,D3 g s.h b) (hX:AJ rs=true -> ∀b,X b->g.S b) (h:ex P (Cc N dst rs) s K) :
  ∃g' s',K s'/\mJ P base w0 N g' s' (a.put dst v) w pool:=by
 have hF':Ac base w F:=⟨hF.1,λb hb=>⟨Nat.le_trans hbb (hF.2 b hb).1,(hF.2 b hb).2⟩⟩
 cases dst with
 | none=>exact ⟨g,s,h,R⟩
 | some d =>
  have many : ∀rs',rs'=rs->(∃vs,v = .tuple vs/\CI (slP P) base1 w X vs.toList rs' F)->ex P (CY d 0 rs' λvs=>put N (some d) (.tup vs)) s K -> ∃g' s',K s'/\mJ P base w0 N g' s' (a.put (some d) v) w pool:=by rintro rs' rfl ⟨vs,rfl,hv2⟩ hk;obtain ⟨g1,s1,cs,k1,k2,k3,_⟩:=Jv hbb R hv2 hF' hff hX hk;obtain ⟨s2,m1,m2⟩:=B1 k2 (sv:=.tup cs) (v:=.tuple vs) ⟨vs,rfl,k3⟩ k1;exact ⟨g1,s2,m1,m2⟩
  match rs,hv,h with
  | [(false,r)],hv,h =>
   obtain ⟨g1,s1,cs,k1,k2,k3,_⟩:=AB hbb R hv hF' hff (λhh=>hX (by simp only [AJ,List.any_cons,hh,Bool.true_or])) h
   obtain ⟨s2,m1,m2⟩:=B1 k2 (sv:=.v false cs) (v:=v) k3 k1
   exact ⟨g1,s2,m1,m2⟩
  | [(true,r)],hv,h =>
   obtain ⟨us,rfl,hc⟩:=hv
   obtain ⟨g1,s1,cs,k1,k2,k3,_⟩:=AB hbb R hc hF' hff (λhh=>hX (by simp only [AJ,List.any_cons,hh,Bool.true_or])) h
   obtain ⟨s2,m1,m2⟩:=B1 k2 (sv:=.v true cs) (v:=.agg us) ⟨us,rfl,k3⟩ k1
   exact ⟨g1,s2,m1,m2⟩
  | [],hv,h=>exact many _ rfl hv h
  | r1::r2::rs,hv,h=>exact many _ rfl hv h
theorem Nx {g:Gh} {s:St} {f:FuncId} {vs:Array Value} {as:List (Bool×List D)} {rs:List (Bool×List RC)} {dst:Option Tmp} {R':Ending->World->Prop} {Fa:List Nat}
  (R:mJ P base w0 N g s a w []) (ha:xJ w vs.toList as Fa) (hs:AJ rs=true -> ∀b∈Fa,g.S b) (hc:NZ P f as rs) (h:ex P (Cc N dst rs) s K)
  (hnext : ∀v w',(∃s',K s'/\Rel P base w0 N s' (a.put dst v) w')->R' (.returned v) w'):Calls P f vs w R':=by
 refine (hc.2 w vs Fa ha).mono λe w' hh => ?_
 obtain ⟨v,rfl,hr,hb⟩:=hh
 refine hnext v w' ?_
 have I':=R.inv.grow hb.size hb.block
 have T:kL g g s.h s.h w w':=kL.grow R.inv.S_lt hb.block
 have R1:mJ P base w0 N g s a w' []:=R.sN T rfl (R.bel (hb.mono R.inv.base_le)) I'
 have hfr : ∀b,w.heap.size<=b->D3 g s.h b:=λb hle =>
  ⟨λhS=>absurd (R.inv.S_lt b hS) qb,λj hl hb'=>absurd (R.inv.EP hl hb').2.lt qb⟩
 obtain ⟨F,X,hF,hX,hA,hv⟩:=hr
 cases han:AJ rs with
 | false =>
  obtain ⟨g',s',k1,k2⟩:=GQ R.inv.base_le R1 hF hv (λb hb'=>hfr b (hF.2 b hb').1) (λhh=>by rw [han] at hh;cases hh) h
  exact ⟨s',k1,g',k2⟩
 | true =>
  have hFn:=hA han
  subst hFn
  have hs':=hs han
  have hX1 : ∀b,X b->(g.S b\/base<=b)/\b<w'.heap.size:=λb hb'=>⟨(hX b hb').1.elim (λx=>.inl (hs' b x)) (λx=>.inr (Nat.le_trans R.inv.base_le x)),(hX b hb').2⟩
  have hX2 : ∀b,X b -> ¬g.S b->D3 g s.h b:=λb hb' hn=>(hX b hb').1.elim (λx=>absurd (hs' b x) hn) (λx=>hfr b x)
  have I2:=I'.ZZ hX1 hX2
  have R2:mJ P base w0 N { g with S:=λb=>g.S b\/X b } s a w' []:=R1.sN (kL.ZZ g s.h w' X) rfl R1.below I2
  obtain ⟨g',s',k1,k2⟩:=GQ R.inv.base_le R2 hF hv qd (λ_ b hb'=>.inr hb') h
  exact ⟨s',k1,g',k2⟩
end
end Go.Sh
