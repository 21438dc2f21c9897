/-
  Helper text. No conditions.
-/
import Derived.Below
import Derived.Laws.OwnMore
import Derived.Laws.Rows
import Derived.Orders
import Derived.WalkKit
import Derived.Laws.MakeOwn
import Derived.Laws.CopyRow
set_option linter.all false
namespace Go.Sh
open Go.RowKit
theorem qI{a b:Prop}(x:a)(y:b):a/\b:=⟨x,y⟩
theorem jg{p:Prop}(h:p:=by simp +decide only[LN,F,reduceIte,Nat.reduceAdd,qB,qC,EN, *,-h];rfl):p:=h
theorem jh{p:Prop}(h:p:=by(simp +decide only[F,reduceIte,Nat.reduceAdd,qB,qC,EN, *,-h];rfl)):p:=h
theorem ji{p:Prop}(h:p:=by simp only[Array.size_append,Array.size_replicate];omega):p:=h
theorem jk{p:Prop}(h:p:=by simp +decide only[Hg,F,E,L,reduceIte,EN,TB, *]):p:=h
theorem jl{p:Prop}(h:p:=by simp only[Rep];exact⟨[],rfl,by simp[aM]⟩):p:=h
theorem jm{p:Prop}(h:p:=by simp only[St.fL]at*;unfold pZ at*;omega):p:=h
theorem jo{p:Prop}(h:p:=by rw[bO (by omega) (by omega)];simp;omega):p:=h
theorem jq{p:Prop}(h:p:=by exact Int.le_of_lt (Int.pow_pos (by decide))):p:=h
theorem jr{p:Prop}(h:p:=by simp only[qE,qV,qW,qJ,qK];omega):p:=h
theorem js{p:Prop}(h:p:=by simp only[qE,qJ,qK,qV,qW];omega):p:=h
theorem jt{p:Prop}(h:p:=by simp only[M.aE.sz];omega):p:=h
theorem ju{p:Prop}(h:p:=by simp only[qE,qJ,qK];omega):p:=h
theorem jv{p:Prop}(h:p:=by simp only[qV,qJ,qK];omega):p:=h
theorem jw{p:Prop}(h:p:=by simp only[qJ,qK,qV];omega):p:=h
theorem jx{p:Prop}(h:p:=by rw[jY,qM,qL,qL,qL];omega):p:=h
theorem jy{p:Prop}(h:p:=by simp only[Rep,and_self]):p:=h
theorem jz{p:Prop}(h:p:=by simp only[qJ,qK];omega):p:=h
theorem wA{p:Prop}(h:p:=by simp[Act.eval,Act.put]):p:=h
theorem wB{p:Prop}(h:p:=by simp only[qK,qV];omega):p:=h
theorem wC{p:Prop}(h:p:=by(try dsimp only);omega):p:=h
theorem wD{p:Prop}(h:p:=by unfold maxLen;omega):p:=h
theorem wE{p:Prop}(h:p:=by simp[maxLen];omega):p:=h
theorem wF{p:Prop}(h:p:=by rw[aC9];simp):p:=h
theorem wG{p:Prop}(h:p:=by unfold aJ;omega):p:=h
theorem wH{p:Prop}(h:p:=by dsimp only;omega):p:=h
theorem wI{p:Prop}(h:p:=by have:=h.sz;omega):p:=h
theorem wJ{p:Prop}(h:p:=by unfold inI;simp):p:=h
theorem wK{p:Prop}(h:p:=by simp[aM]):p:=h
theorem wL{p:Prop}(h:p:=by decide +kernel):p:=h
theorem wM{p:Prop}(h:p:=by simpa using h):p:=h
theorem wN{p:Prop}(h:p:=by simp[Hk]):p:=h
theorem wO{p:Prop}(h:p:=by rw[qV];omega):p:=h
theorem wP{p:Prop}(h:p:=by rw[qL];omega):p:=h
theorem wQ{p:Prop}(h:p:=by rw[qW];omega):p:=h
theorem wR{p:Prop}(h:p:=by simp[VL]):p:=h
theorem wS{p:Prop}(h:p:=by rw[qE];omega):p:=h
theorem wT{p:Prop}(h:p:=by simp[Lt]):p:=h
theorem wU{p:Prop}(h:p:=by simp[nQ]):p:=h
theorem wV{p:Prop}(h:p:=by simp;omega):p:=h
theorem wW{p:Prop}(h:p:=by simp[Rep]):p:=h
theorem wX{p:Prop}(h:p:=by simp_all):p:=h
theorem wY{p:Prop}(h:p:=by simp[h]):p:=h
theorem wZ{p:Prop}(h:p:=by simp[e]):p:=h
theorem wa{p:Prop}(h:p:=by grind):p:=h
theorem wb{p:Prop}(h:p:=by simp):p:=h
theorem wc{p:Prop}(h:p:=by rfl):p:=h
theorem we{p:Prop}(h:p:=by decide):p:=h
theorem wg{p:Prop}(h:p:=by omega):p:=h
theorem qA:type_of%@Option.bind_some:=@Option.bind_some
theorem qB:type_of%@Bool.not_true:=@Bool.not_true
theorem qC:type_of%@Bool.not_false:=@Bool.not_false
theorem qD:type_of%@Bool.false_eq_true:=@Bool.false_eq_true
theorem qE:type_of%@List.length_append:=@List.length_append
theorem qF:type_of%@List.getElem?_eq_getElem:=@List.getElem?_eq_getElem
theorem qG:type_of%@List.getElem_mem:=@List.getElem_mem
theorem qH:type_of%@Int.toNat_natCast:=@Int.toNat_natCast
theorem qJ:type_of%@List.length_cons:=@List.length_cons
theorem qK:type_of%@List.length_nil:=@List.length_nil
theorem qL:type_of%@decide_eq_true_eq:=@decide_eq_true_eq
theorem qM:type_of%@Bool.and_eq_true:=@Bool.and_eq_true
theorem qN:type_of%@List.length_set:=@List.length_set
theorem qO:type_of%@List.not_mem_nil:=@List.not_mem_nil
theorem qP:type_of%@List.mem_append:=@List.mem_append
theorem qQ:type_of%@List.mem_singleton:=@List.mem_singleton
theorem qR:type_of%@List.all_eq_true:=@List.all_eq_true
theorem qS:type_of%@List.mem_range:=@List.mem_range
theorem qT:type_of%@List.append_assoc:=@List.append_assoc
theorem qU:type_of%@List.length_map:=@List.length_map
theorem qV:type_of%@List.length_take:=@List.length_take
theorem qW:type_of%@List.length_drop:=@List.length_drop
theorem qX:type_of%@List.drop_eq_getElem_cons:=@List.drop_eq_getElem_cons
theorem qY:type_of%@List.append_nil:=@List.append_nil
theorem qZ:type_of%@List.getElem?_eq_none:=@List.getElem?_eq_none
theorem qa:type_of%@List.drop_length:=@List.drop_length
theorem qb:type_of%@Prod.mk.injEq:=@Prod.mk.injEq
theorem qc:type_of%@Option.some.injEq:=@Option.some.injEq
theorem qd:type_of%@Option.some.inj:=@Option.some.inj
theorem qe:type_of%@List.getElem?_eq_some_iff:=@List.getElem?_eq_some_iff
theorem qf:type_of%@Option.any_some:=@Option.any_some
theorem qg:type_of%@Nat.le_refl:=@Nat.le_refl
theorem qh:type_of%@Nat.le_trans:=@Nat.le_trans
theorem qi:type_of%@Result.andThen_ok:=@Result.andThen_ok
theorem qj:type_of%@Nat.mul_le_mul_right:=@Nat.mul_le_mul_right
theorem qk:type_of%@List.mem_of_mem_take:=@List.mem_of_mem_take
theorem ql:type_of%@List.eq_nil_of_length_eq_zero:=@List.eq_nil_of_length_eq_zero
theorem qm:type_of%@Array.getElem?_eq_some_iff:=@Array.getElem?_eq_some_iff
theorem qn:type_of%@Array.length_toList:=@Array.length_toList
theorem qo:type_of%@List.take_append_drop:=@List.take_append_drop
theorem qp:type_of%@Nat.zero_add:=@Nat.zero_add
theorem qq:type_of%@List.mem_cons:=@List.mem_cons
theorem qs:type_of%@Sem.run_bind:=@Sem.run_bind
theorem qt:type_of%@List.nodup_append:=@List.nodup_append
theorem qu:type_of%@Sem.run_pure:=@Sem.run_pure
theorem qv:type_of%@List.mem_of_mem_drop:=@List.mem_of_mem_drop
theorem qw:type_of%@Nat.lt_of_lt_of_le:=@Nat.lt_of_lt_of_le
theorem qx:type_of%@List.mem_map:=@List.mem_map
theorem qy:type_of%@List.getElem?_append_left:=@List.getElem?_append_left
theorem qz:type_of%@List.getElem?_append_right:=@List.getElem?_append_right
theorem jA:type_of%@Nat.add_assoc:=@Nat.add_assoc
theorem jB:type_of%@List.length_replicate:=@List.length_replicate
theorem jC:type_of%@List.mem_filter:=@List.mem_filter
theorem jD:type_of%@List.mem_of_getElem?:=@List.mem_of_getElem?
theorem jE:type_of%@List.mem_or_eq_of_mem_set:=@List.mem_or_eq_of_mem_set
theorem jF:type_of%@if_pos:=@if_pos
theorem jG:type_of%@if_neg:=@if_neg
theorem jH:type_of%@if_false:=@if_false
theorem jI:type_of%@if_true:=@if_true
theorem jJ:type_of%@List.map_cons:=@List.map_cons
theorem jK:type_of%@List.map_nil:=@List.map_nil
theorem jL:type_of%@List.map_append:=@List.map_append
theorem jM:type_of%@Bool.and_true:=@Bool.and_true
theorem jN:type_of%@Array.getD_eq_getD_getElem?:=@Array.getD_eq_getD_getElem?
theorem jO:type_of%@Nat.sub_zero:=@Nat.sub_zero
theorem jP:type_of%@List.nil_append:=@List.nil_append
theorem jQ:type_of%@List.cons_append:=@List.cons_append
theorem jR:type_of%@Bool.eq_iff_iff:=@Bool.eq_iff_iff
theorem jS:type_of%@Nat.lt_or_ge:=@Nat.lt_or_ge
theorem jT:type_of%@Int.toNat_of_nonneg:=@Int.toNat_of_nonneg
theorem jU:type_of%@Nat.le_add_right:=@Nat.le_add_right
theorem jV:type_of%@Int.eq_ofNat_of_zero_le:=@Int.eq_ofNat_of_zero_le
theorem jW:type_of%@Nat.min_eq_left:=@Nat.min_eq_left
theorem jX:type_of%@List.take_append_of_le_length:=@List.take_append_of_le_length
theorem jY:type_of%@Bool.or_eq_true:=@Bool.or_eq_true
theorem jZ:type_of%@List.size_toArray:=@List.size_toArray
theorem ja:type_of%@Bool.false_or:=@Bool.false_or
theorem jb:type_of%@List.nodup_nil:=@List.nodup_nil
theorem jc:type_of%@decide_true:=@decide_true
theorem jd:type_of%@decide_false:=@decide_false
theorem je:type_of%@UInt8.lt_iff_toNat_lt:=@UInt8.lt_iff_toNat_lt
theorem jf:type_of%@List.take_of_length_le:=@List.take_of_length_le
inductive D where
 |int (k:IntKind) (n:Int)
 |bool (b:Bool)
 |str (s:ByteArray)
 |sl (xs:List (List D))
 |ptr (cs:List D)
 |fn (f:FuncId) (cs:List D)
 |opq
 |val (u:Value)
def Ee(w:World)(g off:Nat)(cells:List Value):Prop:=
 ∀j u,cells[j]? =some u->w.cell? ⟨g,off+j,none⟩=some u
mutual
def Rep(w:World):D->Value->List Nat->Prop
 | .int k n,v,F=>v=.int k n/\F=[]
 | .bool b,v,F=>v=.bool b/\F=[]
 | .str s,v,F=>v=.string s/\F=[]
 | .sl I,v,F=>∃a n c,v=.slice a n c/\n=I.length/\n<=c/\
   ((n=0/\F=[]) \/∃g j cells sz G,a=some ⟨g,j,none⟩/\g<w.heap.size/\F=g::G/\Ee w g j cells/\
    cells.length=n*sz/\(∀x∈I,x.length=sz)/\bC w I cells G)
 | .ptr C,v,F=>∃g j cells G,v=.pointer (some ⟨g,j,none⟩)/\g<w.heap.size/\F=g::G/\Ee w g j cells/\aM w C cells G
 | .fn f C,v,F=>∃caps,v=.func (.func f) #[] caps.toArray/\aM w C caps F
 | .opq,v,F=>v.oneCell'=true/\F=[]
 | .val u,v,F=>(v=u/\v.oneCell'=true)/\F=[]
def aM(w:World):List D->List Value->List Nat->Prop
 |[],C,F=>C=[]/\F=[]
 |d::ds,C,F=>∃v j I J,C=v::j/\F=I++J/\Rep w d v I/\aM w ds j J
def bC(w:World):List (List D)->List Value->List Nat->Prop
 |[],j,F=>j=[]/\F=[]
 |x::xs,j,F=>∃J U C I,j=J++U/\F=C++I/\aM w x J C/\bC w xs U I
end
theorem Ee.B8{w w':World}{g off:Nat}{cells:List Value}(h:Ee w g off cells)(hb:w'.heap[g]? =w.heap[g]?):Ee w' g off cells:=
 λj u C=>(World.cell?_of_block (w:=w) (a:=⟨g,off+j,none⟩) hb).trans (h j u C)
theorem P5{w w':World}{g:Nat}(j:g<w.heap.size)(hb:w'.heap[g]? =w.heap[g]?):g<w'.heap.size:=by rcases jS g w'.heap.size with h|h;(exact h);·rw[Array.getElem?_eq_none h,Array.getElem?_eq_getElem j]at hb;cases hb
mutual
theorem Rep.B8{w w':World}:∀(d:D) (v:Value) (F:List Nat),Rep w d v F->(∀b∈F,w'.heap[b]? =w.heap[b]?)->Rep w' d v F
 | .int k n,v,F,h,_=>by simpa[Rep]using h
 | .bool b,v,F,h,_=>by simpa[Rep]using h
 | .str s,v,F,h,_=>by simpa[Rep]using h
 | .sl xs,v,F,h,hb=>by simp only[Rep]at h⊢;obtain⟨a,n,c,h1,h2,h3,h4⟩:=h;refine⟨a,n,c,h1,h2,h3,?_⟩;rcases h4 with h4|⟨g,j,cells,sz,G,ha,J,rfl,U,hc,hx,C⟩;(exact .inl h4);·exact .inr ⟨g,j,cells,sz,G,ha,P5 J (hb g wb),rfl,U.B8 (hb g wb),hc,hx,bC.B8 xs cells G C λb hm=>hb b (by simp[hm])⟩
 | .ptr I,v,F,h,hb=>by simp only[Rep]at h⊢;obtain⟨g,j,cells,G,h1,J,rfl,U,C⟩:=h;exact⟨g,j,cells,G,h1,P5 J (hb g wb),rfl,U.B8 (hb g wb),aM.B8 I cells G C λb hm=>hb b (by simp[hm])⟩
 | .fn f I,v,F,h,hb=>by simp only[Rep]at h⊢;obtain⟨caps,h1,C⟩:=h;exact⟨caps,h1,aM.B8 I caps F C hb⟩
 | .opq,v,F,h,_=>by simpa[Rep]using h
 | .val u,v,F,h,_=>by simpa[Rep]using h
theorem aM.B8{w w':World}:∀(ds:List D) (vs:List Value) (F:List Nat),aM w ds vs F->(∀b∈F,w'.heap[b]? =w.heap[b]?)->aM w' ds vs F
 |[],vs,F,h,_=>by simpa[aM]using h
 |d::ds,vs,F,h,hb=>by simp only[aM]at h⊢;obtain⟨v,j,I,J,h1,rfl,h3,h4⟩:=h;exact⟨v,j,I,J,h1,rfl,Rep.B8 d v I h3 λb C=>hb b (by simp[C]),aM.B8 ds j J h4 λb C=>hb b (by simp[C])⟩
theorem bC.B8{w w':World}:∀(xs:List (List D)) (vs:List Value) (F:List Nat),bC w xs vs F->(∀b∈F,w'.heap[b]? =w.heap[b]?)->bC w' xs vs F
 |[],vs,F,h,_=>by simpa[bC]using h
 |x::xs,vs,F,h,hb=>by simp only[bC]at h⊢;obtain⟨J,U,C,I,h1,rfl,h3,h4⟩:=h;exact⟨J,U,C,I,h1,rfl,aM.B8 x J C h3 λb j=>hb b (by simp[j]),bC.B8 xs U I h4 λb j=>hb b (by simp[j])⟩
end
mutual
theorem Rep.lt{w:World}:∀(d:D) (v:Value) (F:List Nat),Rep w d v F->∀b∈F,b<w.heap.size
 | .int k n,v,F,h=>by simp only[Rep]at h;simp[h.2]
 | .bool b,v,F,h=>by simp only[Rep]at h;simp[h.2]
 | .str s,v,F,h=>by simp only[Rep]at h;simp[h.2]
 | .sl xs,v,F,h=>by simp only[Rep]at h;obtain⟨a,n,c,h1,h2,h3,h4⟩:=h;rcases h4 with⟨_,rfl⟩|⟨g,J,cells,sz,G,ha,I,rfl,U,hc,hx,j⟩;(simp);·intro b hb;rcases qq.1 hb with rfl|hb;(exact I);·exact bC.lt xs cells G j b hb
 | .ptr C,v,F,h=>by simp only[Rep]at h;obtain⟨g,J,cells,G,h1,I,rfl,U,j⟩:=h;intro b hb;rcases qq.1 hb with rfl|hb;(exact I);·exact aM.lt C cells G j b hb
 | .fn f C,v,F,h=>by simp only[Rep]at h;obtain⟨caps,h1,j⟩:=h;exact aM.lt C caps F j
 | .opq,v,F,h=>by simp only[Rep]at h;simp[h.2]
 | .val u,v,F,h=>by simp only[Rep]at h;simp[h.2]
theorem aM.lt{w:World}:∀(ds:List D) (vs:List Value) (F:List Nat),aM w ds vs F->∀b∈F,b<w.heap.size
 |[],vs,F,h=>by simp only[aM]at h;simp[h.2]
 |d::ds,vs,F,h=>by simp only[aM]at h;obtain⟨v,j,C,I,h1,rfl,h3,h4⟩:=h;intro b hb;rcases qP.1 hb with hb|hb;(exact Rep.lt d v C h3 b hb);·exact aM.lt ds j I h4 b hb
theorem bC.lt{w:World}:∀(xs:List (List D)) (vs:List Value) (F:List Nat),bC w xs vs F->∀b∈F,b<w.heap.size
 |[],vs,F,h=>by simp only[bC]at h;simp[h.2]
 |x::xs,vs,F,h=>by simp only[bC]at h;obtain⟨I,J,j,C,h1,rfl,h3,h4⟩:=h;intro b hb;rcases qP.1 hb with hb|hb;(exact aM.lt x I j h3 b hb);·exact bC.lt xs J C h4 b hb
end
theorem Rep.one{w:World}{d:D}{v:Value}{F:List Nat}(h:Rep w d v F):v.oneCell'=true:=by
 cases d<;>simp only[Rep]at h
 ·rw[h.1];rfl
 ·rw[h.1];rfl
 ·rw[h.1];rfl
 ·obtain⟨a,n,c,rfl,_⟩:=h;rfl
 ·obtain⟨g,j,cells,G,rfl,_⟩:=h;rfl
 ·obtain⟨caps,rfl,_⟩:=h;rfl
 ·exact h.1
 ·exact h.1.2
theorem aM.length{w:World}:∀{ds:List D} {vs:List Value} {F:List Nat},aM w ds vs F->vs.length=ds.length
 |[],vs,F,h=>by simp only[aM]at h;simp[h.1]
 |d::ds,vs,F,h=>by simp only[aM]at h;obtain⟨v,j,C,I,rfl,rfl,h3,h4⟩:=h;simp[aM.length h4]
theorem aM.one{w:World}:∀{ds:List D} {vs:List Value} {F:List Nat},aM w ds vs F->∀u∈vs,u.oneCell'=true
 |[],vs,F,h=>by simp only[aM]at h;simp[h.1]
 |d::ds,vs,F,h=>by simp only[aM]at h;obtain⟨v,C,I,J,rfl,rfl,h3,h4⟩:=h;intro u j;rcases qq.1 j with rfl|j;(exact h3.one);·exact aM.one h4 u j
theorem bC.one{w:World}:∀{xs:List (List D)} {vs:List Value} {F:List Nat},bC w xs vs F->∀u∈vs,u.oneCell'=true
 |[],vs,F,h=>by simp only[bC]at h;simp[h.1]
 |x::xs,vs,F,h=>by simp only[bC]at h;obtain⟨J,U,C,I,rfl,rfl,h3,h4⟩:=h;intro u j;rcases qP.1 j with j|j;(exact h3.one u j);·exact bC.one h4 u j
theorem aM.at_{w:World}:∀{ds:List D} {vs:List Value} {F:List Nat},aM w ds vs F->∀(j:Nat) (d:D),ds[j]? =some d->
  ∃v I,vs[j]? =some v/\Rep w d v I/\∀b∈I,b∈F
 |[],vs,F,_,j,d,C=>by simp at C
 |d0::ds,vs,F,h,j,d,C=>by
  simp only[aM]at h
  obtain⟨v,vs',J,F2,rfl,rfl,h3,h4⟩:=h
  cases j with
  |zero=>
   simp at C
   subst C
   exact⟨v,J,wb,h3,λb hb=>by simp[hb]⟩
  |succ j=>
   simp at C
   obtain⟨u,I,hu,hr,U⟩:=aM.at_ h4 j d C
   exact⟨u,I,by simpa using hu,hr,λb hb=>by simp[U b hb]⟩
theorem aM.append{w:World}:∀{ds es:List D} {vs j:List Value} {F G:List Nat},aM w ds vs F->aM w es j G->aM w (ds++es) (vs++j) (F++G)
 |[],es,vs,j,F,G,h,k=>by simp only[aM]at h;simpa[h.1,h.2]using k
 |d::ds,es,vs,j,F,G,h,k=>by simp only[aM]at h;obtain⟨v,C,I,J,rfl,rfl,h3,h4⟩:=h;simp only[jQ,aM];exact⟨v,C++j,I,J++G,rfl,wb,h3,aM.append h4 k⟩
theorem bC.append{w:World}:∀{xs ys:List (List D)} {vs j:List Value} {F G:List Nat},bC w xs vs F->bC w ys j G->bC w (xs++ys) (vs++j) (F++G)
 |[],ys,vs,j,F,G,h,k=>by simp only[bC]at h;simpa[h.1,h.2]using k
 |x::xs,ys,vs,j,F,G,h,k=>by simp only[bC]at h;obtain⟨J,U,C,I,rfl,rfl,h3,h4⟩:=h;simp only[jQ,bC];exact⟨J,U++j,C,I++G,wb,wb,h3,bC.append h4 k⟩
theorem bC.split{w:World}:∀{xs ys:List (List D)} {vs:List Value} {F:List Nat},bC w (xs++ys) vs F->
  ∃C J j I,vs=C++J/\F=j++I/\bC w xs C j/\bC w ys J I
 |[],ys,vs,F,h=>⟨[],vs,[],F,rfl,rfl,by simp[bC],h⟩
 |x::xs,ys,vs,F,h=>by simp only[jQ,bC]at h;obtain⟨C,J,j,I,rfl,rfl,h3,h4⟩:=h;obtain⟨u1,u2,U,G2,rfl,rfl,h5,h6⟩:=bC.split h4;exact⟨C++u1,u2,j++U,G2,wb,wb,by simp only[bC];exact⟨C,u1,j,U,rfl,rfl,h3,h5⟩,h6⟩
theorem bC.length{w:World}{sz:Nat}:∀{xs:List (List D)} {vs:List Value} {F:List Nat},bC w xs vs F->(∀x∈xs,x.length=sz)->vs.length=xs.length*sz
 |[],vs,F,h,_=>by simp only[bC]at h;simp[h.1]
 |x::xs,vs,F,h,j=>by
  simp only[bC]at h
  obtain⟨U,v2,I,J,rfl,rfl,h3,h4⟩:=h
  have h5:=bC.length h4 λy C=>j y (by simp[C])
  have h6:=h3.length
  have h7:=j x wb
  simp only[qE,qJ,h5,h6,h7,Nat.add_mul]
  omega
theorem bC.at_{w:World}{sz:Nat}{xs:List (List D)}{vs:List Value}{F:List Nat}(h:bC w xs vs F)(hx:∀x∈xs,x.length=sz){i:Nat}{x:List D}(hi:xs[i]? =some x):
  ∃j v2 v3 C I F3,vs=j++(v2++v3)/\F=C++(I++F3)/\j.length=i*sz/\bC w (xs.take i) j C/\aM w x v2 I/\bC w (xs.drop (i+1)) v3 F3:=by
 have J:i<xs.length:=(qe.1 hi).1
 have U:xs=xs.take i++(x::xs.drop (i+1)):=by have:xs[i]=x:=(qe.1 hi).2;rw[<-this,<-qX J,qo]
 rw[U]at h
 obtain⟨j,v2,C,I,rfl,rfl,h3,h4⟩:=bC.split h
 simp only[bC]at h4
 obtain⟨u1,u2,G1,G2,rfl,rfl,h5,h6⟩:=h4
 refine⟨j,u1,u2,C,G1,G2,rfl,rfl,?_,h3,h5,h6⟩
 have:=bC.length h3 λy hy=>hx y (qk hy)
 rw[this,qV,jW wg]
abbrev Lb:=List (Option (TypeId×Nat))
abbrev TL:=TypeId->Lb
def lab:Lb->Option (TypeId×Nat)
 |[]=>none
 |x::_=>x
mutual
def E4(L:TL)(w:World):D->Option (TypeId×Nat)->Value->List Nat->Prop
 | .int k n,_,v,F=>v=.int k n/\F=[]
 | .bool b,_,v,F=>v=.bool b/\F=[]
 | .str s,_,v,F=>v=.string s/\F=[]
 | .sl j,none,v,F=>Rep w (.sl j) v F
 | .sl j,some t,v,F=>∃cells G,w.ownsRow 0 t.1 t.2 v j.length cells/\(∀x∈j,x.length=t.2)/\F=v.ownBlock.toList++G/\nQ L w j t.1 cells G
 | .ptr C,_,v,F=>Rep w (.ptr C) v F
 | .fn f C,_,v,F=>Rep w (.fn f C) v F
 | .opq,_,v,F=>v.oneCell'=true/\F=[]
 | .val u,_,v,F=>(v=u/\v.oneCell'=true)/\F=[]
def cM(L:TL)(w:World):List D->Lb->List Value->List Nat->Prop
 |[],_,C,F=>C=[]/\F=[]
 |d::ds,ts,C,F=>∃v j I J,C=v::j/\F=I++J/\E4 L w d (lab ts) v I/\cM L w ds ts.tail j J
def nQ(L:TL)(w:World):List (List D)->TypeId->List Value->List Nat->Prop
 |[],_,j,F=>j=[]/\F=[]
 |x::xs,e,j,F=>∃J U C I,j=J++U/\F=C++I/\cM L w x (L e) J C/\nQ L w xs e U I
end
theorem Pg{w:World}{base:Nat}{e:TypeId}{sz n g cap:Nat}{cells:List Value}(h:w.ownsRow base e sz (.slice (some ⟨g,0,none⟩) n cap) n cells):Ee w g 0 cells:=by intro j u C;have:=h.cells (g:=g) rfl j u C;rw[Addr.add_lit]at this;exact this
theorem Tm{w w':World}{base n:Nat}{e:TypeId}{sz:Nat}{v:Value}{cells:List Value}(h:w.ownsRow base e sz v n cells)(hb:∀b∈v.ownBlock.toList,w'.heap[b]? =w.heap[b]?):w'.ownsRow base e sz v n cells:=by refine⟨h.1,?_⟩;rcases h.2 with h6|⟨C,cap,j,h6,h7,h8,h9⟩;(exact .inl h6);·exact .inr ⟨C,cap,j,h6,h7,(hb C (by rw[h6];simp[Value.ownBlock])).trans h8,h9⟩
mutual
theorem E4.rep{L:TL}{w:World}:∀(d:D) (t:Option (TypeId×Nat)) (v:Value) (F:List Nat),E4 L w d t v F->Rep w d v F
 | .int k n,t,v,F,h=>by simp only[E4]at h;simp only[Rep];exact h
 | .bool b,t,v,F,h=>by simp only[E4]at h;simp only[Rep];exact h
 | .str s,t,v,F,h=>by simp only[E4]at h;simp only[Rep];exact h
 | .sl C,none,v,F,h=>by simp only[E4]at h;exact h
 | .sl C,some (e,sz),v,F,h=>by simp only[E4]at h;obtain⟨cells,G,h1,h2,rfl,h3⟩:=h;have h4:=nQ.rep C e cells G h3;have j:=h1;rcases h1.2 with⟨rfl,h6⟩|⟨U,cap,J,rfl,h7,h8,h9,aa,ae,af⟩;(have hx:C=[]:=ql h6;subst hx;simp only[bC]at h4;simp only[Rep];exact⟨none,0,0,rfl,rfl,qg _,.inl ⟨rfl,by rw[h4.2];rfl⟩⟩);·simp only[Rep];exact⟨_,_,cap,rfl,rfl,h9,.inr ⟨U,0,cells,sz,G,rfl,(qm.1 h8).1,rfl,Pg j,h1.1,h2,h4⟩⟩
 | .ptr I,t,v,F,h=>by simp only[E4]at h;exact h
 | .fn f I,t,v,F,h=>by simp only[E4]at h;exact h
 | .opq,t,v,F,h=>by simp only[E4]at h;simp only[Rep];exact h
 | .val u,t,v,F,h=>by simp only[E4]at h;simp only[Rep];exact h
theorem cM.rep{L:TL}{w:World}:∀(ds:List D) (ts:Lb) (vs:List Value) (F:List Nat),cM L w ds ts vs F->aM w ds vs F
 |[],ts,vs,F,h=>by simp only[cM]at h;simp only[aM];exact h
 |d::ds,ts,vs,F,h=>by simp only[cM]at h;obtain⟨v,j,C,I,h1,h2,h3,h4⟩:=h;simp only[aM];exact⟨v,j,C,I,h1,h2,E4.rep d _ v C h3,cM.rep ds _ j I h4⟩
theorem nQ.rep{L:TL}{w:World}:∀(xs:List (List D)) (e:TypeId) (vs:List Value) (F:List Nat),nQ L w xs e vs F->bC w xs vs F
 |[],e,vs,F,h=>by simp only[nQ]at h;simp only[bC];exact h
 |x::xs,e,vs,F,h=>by simp only[nQ]at h;obtain⟨I,J,j,C,h1,h2,h3,h4⟩:=h;simp only[bC];exact⟨I,J,j,C,h1,h2,cM.rep x _ I j h3,nQ.rep xs e J C h4⟩
end
mutual
theorem E4.B8{L:TL}{w w':World}:∀(d:D) (t:Option (TypeId×Nat)) (v:Value) (F:List Nat),E4 L w d t v F->(∀b∈F,w'.heap[b]? =w.heap[b]?)->E4 L w' d t v F
 | .int k n,t,v,F,h,_=>by simpa[E4]using h
 | .bool b,t,v,F,h,_=>by simpa[E4]using h
 | .str s,t,v,F,h,_=>by simpa[E4]using h
 | .sl C,none,v,F,h,hb=>by simp only[E4]at h⊢;exact Rep.B8 _ _ _ h hb
 | .sl C,some (e,sz),v,F,h,hb=>by simp only[E4]at h⊢;obtain⟨cells,G,h1,h2,rfl,h3⟩:=h;exact⟨cells,G,Tm h1 λb j=>hb b (List.mem_append_left _ j),h2,rfl,nQ.B8 C e cells G h3 λb j=>hb b (List.mem_append_right _ j)⟩
 | .ptr I,t,v,F,h,hb=>by simp only[E4]at h⊢;exact Rep.B8 _ _ _ h hb
 | .fn f I,t,v,F,h,hb=>by simp only[E4]at h⊢;exact Rep.B8 _ _ _ h hb
 | .opq,t,v,F,h,_=>by simpa[E4]using h
 | .val u,t,v,F,h,_=>by simpa[E4]using h
theorem cM.B8{L:TL}{w w':World}:∀(ds:List D) (ts:Lb) (vs:List Value) (F:List Nat),cM L w ds ts vs F->(∀b∈F,w'.heap[b]? =w.heap[b]?)->cM L w' ds ts vs F
 |[],ts,vs,F,h,hb=>by simpa[cM]using h
 |d::ds,ts,vs,F,h,hb=>by simp only[cM]at h⊢;obtain⟨v,j,I,J,h1,rfl,h3,h4⟩:=h;exact⟨v,j,I,J,h1,rfl,E4.B8 d _ v I h3 λb C=>hb b (by simp[C]),cM.B8 ds _ j J h4 λb C=>hb b (by simp[C])⟩
theorem nQ.B8{L:TL}{w w':World}:∀(xs:List (List D)) (e:TypeId) (vs:List Value) (F:List Nat),nQ L w xs e vs F->(∀b∈F,w'.heap[b]? =w.heap[b]?)->nQ L w' xs e vs F
 |[],e,vs,F,h,hb=>by simpa[nQ]using h
 |x::xs,e,vs,F,h,hb=>by simp only[nQ]at h⊢;obtain⟨J,U,C,I,h1,rfl,h3,h4⟩:=h;exact⟨J,U,C,I,h1,rfl,cM.B8 x _ J C h3 λb j=>hb b (by simp[j]),nQ.B8 xs e U I h4 λb j=>hb b (by simp[j])⟩
end
theorem cM.append{L:TL}{w:World}:∀{ds es:List D} {ts:Lb} {vs j:List Value} {F G:List Nat},cM L w ds ts vs F->cM L w es (ts.drop ds.length) j G->cM L w (ds++es) ts (vs++j) (F++G)
 |[],es,ts,vs,j,F,G,h,k=>by simp only[cM]at h;simpa[h.1,h.2]using k
 |d::ds,es,ts,vs,j,F,G,h,k=>by simp only[cM]at h;obtain⟨v,C,I,J,rfl,rfl,h3,h4⟩:=h;simp only[jQ,cM];refine⟨v,C++j,I,J++G,rfl,wb,h3,cM.append h4 ?_⟩;rw[List.drop_tail];exact k
theorem cM.split{L:TL}{w:World}:∀{ds es:List D} {ts:Lb} {vs:List Value} {F:List Nat},cM L w (ds++es) ts vs F->∃j C,F=j++C/\cM L w ds ts (vs.take ds.length) j/\cM L w es (ts.drop ds.length) (vs.drop ds.length) C
 |[],es,ts,vs,F,h=>⟨[],F,rfl,by simp[cM],wM⟩
 |d::ds,es,ts,vs,F,h=>by simp only[jQ,cM]at h;obtain⟨v,I,j,C,rfl,rfl,h3,h4⟩:=h;obtain⟨J,G2,rfl,k1,U⟩:=cM.split h4;refine⟨j++J,G2,wb,?_,by rw[List.drop_tail]at U;simpa using U⟩;simp only[qJ,List.take_succ_cons,cM];exact⟨v,I.take ds.length,j,J,rfl,rfl,h3,k1⟩
theorem nQ.append{L:TL}{w:World}:∀{xs ys:List (List D)} {e:TypeId} {vs j:List Value} {F G:List Nat},nQ L w xs e vs F->nQ L w ys e j G->nQ L w (xs++ys) e (vs++j) (F++G)
 |[],ys,e,vs,j,F,G,h,k=>by simp only[nQ]at h;simpa[h.1,h.2]using k
 |x::xs,ys,e,vs,j,F,G,h,k=>by simp only[nQ]at h;obtain⟨J,U,C,I,rfl,rfl,h3,h4⟩:=h;simp only[jQ,nQ];exact⟨J,U++j,C,I++G,wb,wb,h3,nQ.append h4 k⟩
theorem nQ.split{L:TL}{w:World}:∀{xs ys:List (List D)} {e:TypeId} {vs:List Value} {F:List Nat},nQ L w (xs++ys) e vs F->
  ∃C J j I,vs=C++J/\F=j++I/\nQ L w xs e C j/\nQ L w ys e J I
 |[],ys,e,vs,F,h=>⟨[],vs,[],F,rfl,rfl,wU,h⟩
 |x::xs,ys,e,vs,F,h=>by simp only[jQ,nQ]at h;obtain⟨C,J,j,I,rfl,rfl,h3,h4⟩:=h;obtain⟨u1,u2,U,G2,rfl,rfl,h5,h6⟩:=nQ.split h4;exact⟨C++u1,u2,j++U,G2,wb,wb,by simp only[nQ];exact⟨C,u1,j,U,rfl,rfl,h3,h5⟩,h6⟩
def WX:TL:=λ_=>[]
theorem E4.none{L:TL}{w:World}{d:D}{v:Value}{F:List Nat}(h:Rep w d v F):E4 L w d none v F:=by cases d<;>simp only[E4]<;>(try simp only[Rep]at h)<;>exact h
theorem cM.none{L:TL}{w:World}:∀{ds:List D} {vs:List Value} {F:List Nat},aM w ds vs F->cM L w ds [] vs F
 |[],vs,F,h=>by simp only[aM]at h;simp only[cM];exact h
 |d::ds,vs,F,h=>by simp only[aM]at h;obtain⟨v,j,C,I,h1,h2,h3,h4⟩:=h;simp only[cM];exact⟨v,j,C,I,h1,h2,E4.none h3,cM.none h4⟩
theorem nQ.TU{w:World}:∀{xs:List (List D)} {e:TypeId} {vs:List Value} {F:List Nat},bC w xs vs F->nQ WX w xs e vs F
 |[],e,vs,F,h=>by simp only[bC]at h;simp only[nQ];exact h
 |x::xs,e,vs,F,h=>by simp only[bC]at h;obtain⟨I,J,j,C,h1,h2,h3,h4⟩:=h;simp only[nQ];exact⟨I,J,j,C,h1,h2,cM.none h3,nQ.TU h4⟩
def Bf(L:TL)(m:Bool)(w:World)(ts:Lb)(ds:List D)(vs:List Value)(F:List Nat):Prop:=if m=true then cM L w ds ts vs F else aM w ds vs F
def dR(L:TL)(m:Bool)(w:World)(e:TypeId)(xs:List (List D))(vs:List Value)(F:List Nat):Prop:=if m=true then nQ L w xs e vs F else bC w xs vs F
theorem dR.WX{m:Bool}{w:World}{xs:List (List D)}{e:TypeId}{vs:List Value}{F:List Nat}(h:bC w xs vs F):dR WX m w e xs vs F:=by unfold dR;split;(exact nQ.TU h);·exact h
section
variable {L:TL}{m n:Bool}{w w':World}{ts:Lb}{e:TypeId}{ds es:List D}{xs ys:List (List D)}{vs us:List Value}{F G:List Nat}
theorem Bf.rep(h:Bf L m w ts ds vs F):aM w ds vs F:=by unfold Bf at h;split at h;(exact h.rep);·exact h
theorem dR.rep(h:dR L m w e xs vs F):bC w xs vs F:=by unfold dR at h;split at h;(exact h.rep);·exact h
theorem Bf.TU(h:Bf L m w ts ds vs F)(j:n=true->m=true):Bf L n w ts ds vs F:=by unfold Bf;split;(rename_i C;unfold Bf at h;rw[jF (j C)]at h;exact h);·exact h.rep
theorem dR.TU(h:dR L m w e xs vs F)(j:n=true->m=true):dR L n w e xs vs F:=by unfold dR;split;(rename_i C;unfold dR at h;rw[jF (j C)]at h;exact h);·exact h.rep
theorem Bf.B8(h:Bf L m w ts ds vs F)(hb:∀b∈F,w'.heap[b]? =w.heap[b]?):Bf L m w' ts ds vs F:=by
 cases m with
 |true=>exact cM.B8 _ _ _ _ h hb
 |false=>exact aM.B8 _ _ _ h hb
theorem dR.B8(h:dR L m w e xs vs F)(hb:∀b∈F,w'.heap[b]? =w.heap[b]?):dR L m w' e xs vs F:=by
 cases m with
 |true=>exact nQ.B8 _ _ _ _ h hb
 |false=>exact bC.B8 _ _ _ h hb
theorem dR.append(h:dR L m w e xs vs F)(k:dR L m w e ys us G):dR L m w e (xs++ys) (vs++us) (F++G):=by
 cases m with
 |true=>exact nQ.append h k
 |false=>exact bC.append h k
theorem dR.split(h:dR L m w e (xs++ys) vs F):∃I J j C,vs=I++J/\F=j++C/\dR L m w e xs I j/\dR L m w e ys J C:=by
 cases m with
 |true=>exact nQ.split h
 |false=>exact bC.split h
theorem dR.nil:dR L m w e [] [] []:=by
 cases m with
 |true=>simp[dR,nQ]
 |false=>simp[dR,bC]
theorem dR.one{x:List D}(h:Bf L m w (L e) x vs F):dR L m w e [x] vs F:=by
 cases m with
 |true=>simp only[dR,jI,nQ];exact⟨vs,[],F,[],wb,wb,h,rfl,rfl⟩
 |false=>simp only[dR,qD,jH,bC];exact⟨vs,[],F,[],wb,wb,h,rfl,rfl⟩
theorem dR.aKE{x:List D}(h:dR L m w e [x] vs F):Bf L m w (L e) x vs F:=by
 cases m with
 |true=>
  simp only[dR,jI,nQ]at h
  obtain⟨I,J,j,C,rfl,rfl,h3,rfl,rfl⟩:=h
  simpa[Bf]using h3
 |false=>
  simp only[dR,qD,jH,bC]at h
  obtain⟨I,J,j,C,rfl,rfl,h3,rfl,rfl⟩:=h
  simpa[Bf]using h3
theorem Bf.append(h:Bf L m w ts ds vs F)(k:Bf L m w (ts.drop ds.length) es us G):Bf L m w ts (ds++es) (vs++us) (F++G):=by
 cases m with
 |true=>exact cM.append h k
 |false=>exact aM.append h k
theorem dR.at_{sz:Nat}(h:dR L m w e xs vs F)(hx:∀x∈xs,x.length=sz){i:Nat}{x:List D}(hi:xs[i]? =some x):
  ∃j v2 v3 C I F3,vs=j++(v2++v3)/\F=C++(I++F3)/\j.length=i*sz/\dR L m w e (xs.take i) j C/\Bf L m w (L e) x v2 I/\dR L m w e (xs.drop (i+1)) v3 F3:=by
 have J:i<xs.length:=(qe.1 hi).1
 have U:xs=xs.take i++([x]++xs.drop (i+1)):=by have:xs[i]=x:=(qe.1 hi).2;rw[<-this,List.singleton_append,<-qX J,qo]
 rw[U]at h
 obtain⟨j,v2,C,I,rfl,rfl,h3,h4⟩:=dR.split h
 obtain⟨u1,u2,G1,G2,rfl,rfl,h5,h6⟩:=dR.split h4
 refine⟨j,u1,u2,C,G1,G2,rfl,rfl,?_,h3,h5.aKE,h6⟩
 have:=bC.length h3.rep λy hy=>hx y (qk hy)
 rw[this,qV,jW wg]
end
def D.flat:D->Bool
 | .int _ _| .bool _| .str _| .opq=>true
 |_=>false
inductive SC where
 |dat (d:D)
 |nil
 |row (id ver:Nat)
 |bp (id ver off:Nat)
 |rp (id ver i off:Nat)
 |clo (f:FuncId) (caps:List (Nat×Nat×Nat))
 |old (B:Nat) (d:D) (u:Option Value)
 |part (id ver lo n:Nat)
 |exa (W:World) (d:D) (x:Value)
inductive SV where
 |unk
 |undef
 |v (ag:Bool) (cs:List SC)
 |tup (vs:List (Bool×List SC))
inductive E7 where
 |none
 |box (t:TypeId) (cells:List SC)
 |row (e:TypeId) (sz:Nat) (xs:List (List D)) (deep:Bool)
 |pin (i ver:Nat) (u:Value)
structure St where
 t:Nat->SV
 h:Nat->Nat×E7
 fr:Nat->SV:=λ_=>.unk
def St.Ix(s:St)(t:Nat)(v:SV):St:={ s with t:=λi=>if i=t then v else s.t i }
def St.fL(s:St)(i:Nat)(x:Nat×E7):St:={ s with h:=λj=>if j=i then x else s.h j }
theorem St.M9(s:St)(t:Nat)(v:SV)(i:Nat):(s.Ix t v).t i=if i=t then v else s.t i:=rfl
theorem St.XT(s:St)(t:Nat)(v:SV)(i:Nat):(s.Ix t v).h i=s.h i:=rfl
theorem St.OY(s:St)(t:Nat)(v:Nat×E7)(i:Nat):(s.fL t v).h i=if i=t then v else s.h i:=rfl
theorem St.YV(s:St)(t:Nat)(v:Nat×E7)(i:Nat):(s.fL t v).t i=s.t i:=rfl
structure QF where
 p:Nat->Prop
 fb:Nat
 lent:Option Nat
 L:TL
instance:CoeFun QF λ_=>Nat->Prop:=⟨QF.p⟩
structure W0 where
 w:World
 Q:QF
 K:Nat->Prop
 fv:Nat->Value
def noK:Nat->Prop:=λ_=>False
def Ui:Nat->Value:=λ_=>undef
def VC(P:Program):Nat->TypeId->Lb
 |0,_=>[]
 |n+1,t=>match P.underlying t with
  |some (.struct j)=>j.toList.flatMap λf=>VC P n f.type
  |some (.array k e)=>(List.replicate k (VC P n e)).flatten
  |some (.slice e)=>[some (e,P.cellsOf e)]
  |_=>[none]
def slP(P:Program):TL:=λt=>if(VC P 8 t).all Option.isNone=true then[]else VC P 8 t
inductive Ed where
 |del (e:TypeId) (sz:Nat)
 |ins (e:TypeId) (sz bytes:Nat)
 |turn (e:TypeId) (sz:Nat) (ys:List (List D))
 |pass
 |sel (c k sz:Nat)
 |lend (t:TypeId) (es:List D)
 |newb (t:TypeId) (es:List D)
inductive RC where
 |any (d:D)
 |ro (d:D)
 |own (e:TypeId) (sz:Nat) (xs:List (List D))
 |edit (q:Ed)
def RC.isAny:RC->Bool
 | .any _=>true
 | .edit _=>true
 |_=>false
def CM(j:List (Bool×List RC)):Bool:=j.any λr=>r.2.any RC.isAny
theorem SO(d:D):RC.isAny (.any d)=true:=rfl
theorem VI(d:D):RC.isAny (.ro d)=false:=rfl
theorem WG(q:Ed):RC.isAny (.edit q)=true:=rfl
theorem WS(t:TypeId)(es:List D):RC.isAny (.edit (.lend t es))=true:=rfl
theorem TF(e:TypeId)(sz:Nat)(xs:List (List D)):RC.isAny (.own e sz xs)=false:=rfl
def aCk(w:World)(b:Nat):Prop:=∃j e,w.heap[b]? =some (.cells j e (0,0))
def Vs(w:World)(v:Value)(x:Bool×List D)(F:List Nat):Prop:=
 match x with
 |(true,ds)=>∃j,v=.agg j/\aM w ds j.toList F
 |(false,ds)=>∃d,ds=[d]/\Rep w d v F
def AU(w:World):List Value->List (Bool×List D)->List Nat->Prop
 |[],[],F=>F=[]
 |v::I,x::J,F=>∃j C,F=j++C/\Vs w v x j/\AU w I J C
 |_,_,_=>False
def tX(L:TL)(base:Nat)(w:World)(X:Nat->Prop):List Value->List RC->List Nat->Prop
 |[],[],F=>F=[]
 |v::C,.any d::j,F=>(∃G,Rep w d v G/\∀b∈G,X b)/\tX L base w X C j F
 |v::C,.ro d::j,F=>Rep w d v []/\tX L base w X C j F
 |v::C,.own e sz I::j,F=>∃cells G J,w.ownsRow base e sz v I.length cells/\(∀x∈I,x.length=sz)/\nQ L w I e cells G/\
   F=v.ownBlock.toList++(G++J)/\tX L base w X C j J
 |_,_,_=>False
def Pb(L:TL)(base:Nat)(w:World)(X:Nat->Prop)(v:Value)(r:Bool×List RC)(F:List Nat):Prop:=
 match r with
 |(true,j)=>∃C,v=.agg C/\tX L base w X C.toList j F
 |(false,j)=>tX L base w X [v] j F
def Fl(L:TL)(base:Nat)(w:World)(X:Nat->Prop):List Value->List (Bool×List RC)->List Nat->Prop
 |[],[],F=>F=[]
 |v::J,r::I,F=>∃j C,F=j++C/\Pb L base w X v r j/\Fl L base w X J I C
 |_,_,_=>False
def Ck(base:Nat)(w:World)(F:List Nat):Prop:=F.Nodup/\∀b∈F,base<=b/\aCk w b
def U7(L:TL)(base:Nat)(w:World)(X:Nat->Prop)(v:Value)(j:List (Bool×List RC))(F:List Nat):Prop:=
 match j with
 |[r]=>Pb L base w X v r F
 |j=>∃C,v=.tuple C/\Fl L base w X C.toList j F
def M7(L:TL)(base:Nat)(w:World)(v:Value)(j:List (Bool×List RC))(Q:Nat->Prop):Prop:=
 ∃F X,Ck base w F/\(∀b,X b->(Q b\/base<=b)/\b<w.heap.size)/\(CM j=true->F=[])/\U7 L base w X v j F
def Ms (P : Program) (f : FuncId) : Prop := ∃ fn c, P.funcs[f]? = some fn /\ fn.body = some c /\ (fn.name == "runtime.NumGoroutine") = false
def V0(base:Nat)(e:TypeId)(sz:Nat)(w:World)(v:Value)(n:Nat)(cells:List Value)(ed:Ending)(w':World):Prop:=
 ∃j,ed=.returned j/\w'.ownsRow base e sz j n cells/\w.grownBy w' v.ownBlock/\(j.ownBlock=v.ownBlock \/∃b,w.heap.size<=b/\j.ownBlock=some b)
def aJh(P:Program)(f:FuncId)(args:List (Bool×List D)):Ed->Prop
 | .del e sz=>∀(base:Nat) (w:World) (v:Value) (n:Nat) (cells:List Value) (i j:Nat),base<=w.heap.size->w.ownsRow base e sz v n cells->i<=j->j<=n->(∀u∈cells,u.oneCell'=true)->
   Calls P f #[v,.int .i64 i,.int .i64 j] w (V0 base e sz w v (i+(n-j)) (cells.take (i*sz)++cells.drop (j*sz)))
 | .ins e sz bytes=>∀(base:Nat) (w:World) (v I:Value) (n m:Nat) (cells cells2:List Value) (i:Nat),base<=w.heap.size->w.ownsRow base e sz v n cells->w.ownsRow base e sz I m cells2->
   (∀b,v.ownBlock=some b->I.ownBlock≠some b)->i<=n->0<m->(n+m)*bytes<=140737488355328->(∀u∈cells,u.oneCell'=true)->(∀u∈cells2,u.oneCell'=true)->
   Calls P f #[v,.int .i64 i,I] w (V0 base e sz w v (n+m) (cells.take (i*sz)++(cells2++cells.drop (i*sz))))
 | .turn e sz ys=>∃U g caps,args=[(false,[.sl U]),(false,[.fn g caps])]/\(∀x∈U,x.all D.flat=true)/\((∀y∈ys,y.length=sz)/\∀y∈ys,y.all D.flat=true)/\∀(base:Nat) (w:World) (v fv:Value) (cells:List Value) (F2:List Nat),base<=w.heap.size->w.ownsRow base e sz v U.length cells->
   (∀x∈U,x.length=sz)->bC w U cells []->Rep w (.fn g caps) fv F2->(∀b,v.ownBlock=some b->b∉F2)->
   Calls P f #[v,fv] w λed C=>∃J cells',ed=.returned J/\C.ownsRow base e sz J ys.length cells'/\bC C ys cells' []/\w.grownBy C v.ownBlock/\(J.ownBlock=v.ownBlock\/J.ownBlock=none \/∃b,w.heap.size<=b/\J.ownBlock=some b)
 | .pass=>∀(w:World) (v1 I:Value) (F:List Nat),AU w [v1,I] args F->Calls P f #[v1,I] w λe C=>e=.returned (.tuple #[I,.bool true])/\Below w.heap.size w C
 | .sel c k sz=>∀(w:World) (vs:Array Value) (F:List Nat),AU w vs.toList args F->Calls P f vs w λe C=>Below w.heap.size w C/\∃us:Array Value,us.size=sz/\e=.returned (.tuple #[.agg us,.bool true])/\
   ∃cs rest b o n cap,vs.toList=.agg cs::rest/\cs.toList[c]? =some (.slice (some ⟨b,o,none⟩) n cap)/\Ee w b (o+k*sz) us.toList
 | .lend _ _=>False
 | .newb t es=>∀(w:World) (vs:Array Value) (F:List Nat),AU w vs.toList args F->Calls P f vs w λe C=>Below w.heap.size w C/\∃b vals G,e=.returned (.pointer (some ⟨b,0,none⟩))/\w.heap.size<=b/\
   C.heap[b]? =some (.cells vals t (0,0))/\aM C es vals.toList G/\b∉G/\∀x∈G,(x∈F\/w.heap.size<=x)/\x<C.heap.size
def aET(P:Program)(f:FuncId)(args:List (Bool×List D))(t:TypeId)(es:List D)(U:List (Bool×List RC)):Prop:=
 CM U=false/\es.all D.flat=true/\∃d0 ds rest,args=(false,[.ptr (d0::ds)])::rest/\ds.all D.flat=true/\es.length=ds.length/\
  ∀(w:World) (b:Nat) (vals:Array Value) (I:Value) (j vs:List Value) (J F:List Nat),w.heap[b]? =some (.cells vals t (0,0))->vals.toList=I::j->Rep w d0 I J->aM w ds j []->b∉J->
   AU w vs rest F->b∉F->Calls P f (.pointer (some ⟨b,0,none⟩)::vs).toArray w λe C=>∃v us,e=.returned v/\M7 (slP P) w.heap.size C v U (λx=>x<w.heap.size)/\w.grownBy C (some b)/\
    C.heap[b]? =some (.cells (I::us).toArray t (0,0))/\aM C es us []
def R9(P:Program)(f:FuncId)(args:List (Bool×List D))(C:List (Bool×List RC)):Prop:=
 Ms P f/\∀(w:World) (vs:Array Value) (F:List Nat),AU w vs.toList args F->Calls P f vs w λe j=>∃v,e=.returned v/\M7 (slP P) w.heap.size j v C (λb=>b∈F)/\Below w.heap.size w j
def lE(P:Program)(f:FuncId)(args:List (Bool×List D))(C:List (Bool×List RC)):Prop:=
 R9 P f args C\/(∃q,C=[(false,[.edit q])]/\Ms P f/\aJh P f args q) \/∃t es j,C=(false,[.edit (.lend t es)])::j/\Ms P f/\aET P f args t es j
theorem lE.body{P:Program}{f:FuncId}{args:List (Bool×List D)}{j:List (Bool×List RC)}(h:lE P f args j):Ms P f:=by rcases h with h|⟨q,_,h,_⟩|⟨t,es,C,_,h,_⟩;(exact h.1);(exact h);·exact h
theorem lE.old{P:Program}{f:FuncId}{args:List (Bool×List D)}{j:List (Bool×List RC)}(h:lE P f args j)(C:CM j=false):R9 P f args j:=by rcases h with h|⟨q,rfl,_⟩|⟨t,es,I,rfl,_⟩;(exact h);(simp[CM,RC.isAny]at C);·simp[CM,RC.isAny]at C
inductive TK where
 |struct (fs:List (Nat×Nat×Bool))
 |arr (e:TypeId) (n:Nat)
 |slice (e:TypeId)
 |int (k:IntKind)
 |bool
 |str
 |other
inductive LK where
 |int
 |bool
 |str
structure TI where
 k:TK
 size:Nat
 bytes:Nat
 zero:List SC
 cmp:List LK:=[]
 sl:Lb:=[]
def TI.agg(j:TI):Bool:=match j.k with| .struct _=>true| .arr _ _=>true|_=>false
abbrev Sb:=TypeId->Option TI
inductive Prog where
 |done
 |fail
 |getT (t:Nat) (k:SV->Prog)
 |Ix (t:Nat) (v:SV) (k:Prog)
 |getH (i:Nat) (k:Nat×E7->Prog)
 |fL (i:Nat) (x:Nat×E7) (k:Prog)
 |call (f:FuncId) (args:List (Bool×List D)) (k:List (Bool×List RC)->Prog)
 |must (p:Prop) (k:Prog)
inductive Loc where
 |t (i:Nat)
 |h (i:Nat)
 |f (i:Nat)
 deriving DecidableEq
def ex(P:Program):Prog->St->(St->Prop)->Prop
 | .done,s,K=>K s
 | .fail,_,_=>False
 | .getT t k,s,K=>ex P (k (s.t t)) s K
 | .Ix t v k,s,K=>ex P k (s.Ix t v) K
 | .getH i k,s,K=>ex P (k (s.h i)) s K
 | .fL i x k,s,K=>ex P k (s.fL i x) K
 | .call f args k,s,K=>∃j,lE P f args j/\ex P (k j) s K
 | .must p k,s,K=>p/\ex P k s K
def cst:Value->SV
 | .int k n=>.v false [.dat (.int k n)]
 | .bool b=>.v false [.dat (.bool b)]
 | .string s=>.v false [.dat (.str s)]
 | .slice none 0 0=>.v false [.nil]
 |_=>.unk
def vOp(x:Operand)(k:SV->Prog):Prog:=
 match x with
 | .tmp t=>.getT t k
 | .const c=>k (cst c)
 | .func f=>k (.v false [.dat (.fn f [])])
 | .global _=>.fail
def aDd(x:Option Operand)(k:Option SV->Prog):Prog:=
 match x with
 |some x=>vOp x λv=>k (some v)
 |none=>k none
def put(N:Nat)(j:Option Tmp)(v:SV):Prog:=
 match j with
 |some d=>if d<N then .Ix d v .done else .fail
 |none=>.done
def rid(d j:Nat):Nat:=100000*(j+1)+d
def DD:List SC->Lb->(List D->Bool->Prog)->Prog
 |[],_,k=>k [] true
 | .dat d::j,ts,k=>DD j ts.tail λds b=>k (d::ds) (d.flat&&b)
 | .nil::j,ts,k=>DD j ts.tail λds b=>k (.sl []::ds) b
 | .row i ver::j,ts,k=>.getH i λo=>
   match o.2 with
   | .row e sz C deep=>if o.1=ver then .fL i (ver,.none) (DD j ts.tail λds b=>k (.sl C::ds) (if lab ts=none\/lab ts=some (e,sz)then deep&&b else false))else .fail
   |_=>.fail
 |_::_,_,_=>.fail
def Ht:List SC->(List D->Prog)->Prog
 |[],k=>k []
 | .dat d::j,k=>Ht j λds=>k (d::ds)
 | .nil::j,k=>Ht j λds=>k (.sl []::ds)
 | .old _ d _::j,k=>Ht j λds=>k (d::ds)
 | .row i ver::j,k=>.getH i λo=>
   match o.2 with
   | .row _ _ C _=>if o.1=ver then Ht j λds=>k (.sl C::ds)else .fail
   |_=>.fail
 |_::_,_=>.fail
def Ju(i ver off:Nat)(k:List D->Prog):Prog:=
 .getH i λo=>
  match o.2 with
  | .box _ cells=>if o.1=ver then Ht (cells.drop off) k else .fail
  |_=>.fail
def GI:List (Nat×Nat×Nat)->(List D->Prog)->Prog
 |[],k=>k []
 |(i,ver,j)::C,k=>Ju i ver j λds=>GI C λes=>k (.ptr ds::es)
def DB:List SC->(List D->Prog)->Prog
 |[],k=>k []
 | .dat d::j,k=>DB j λds=>k (d::ds)
 | .nil::j,k=>DB j λds=>k (.sl []::ds)
 | .row i ver::j,k=>.getH i λo=>
   match o.2 with
   | .row _ _ I _=>if o.1=ver then DB j λds=>k (.sl I::ds)else .fail
   |_=>.fail
 | .bp i ver C::j,k=>Ju i ver C λds=>DB j λes=>k (.ptr ds::es)
 | .clo f caps::j,k=>GI caps λds=>DB j λes=>k (.fn f ds::es)
 | .old _ d _::j,k=>DB j λds=>k (d::ds)
 | .part i ver J n::j,k=>.getH i λo=>
   match o.2 with
   | .row _ _ I _=>if o.1=ver then DB j λds=>k (.sl ((I.drop J).take n)::ds)else .fail
   |_=>.fail
 | .exa _ d _::j,k=>DB j λds=>k (d::ds)
 |_::_,_=>.fail
def HR:List Operand->(List (Bool×List D)->Prog)->Prog
 |[],k=>k []
 |x::I,k=>vOp x λv=>
   match v with
   | .v j C=>DB C λds=>HR I λas=>k ((j,ds)::as)
   |_=>.fail
def AL(d:Nat):Nat->List RC->(List SC->Prog)->Prog
 |_,[],k=>k []
 |j,.any x::I,k=>AL d (j+1) I λC=>k (.dat x::C)
 |j,.ro x::I,k=>AL d (j+1) I λC=>k (.dat x::C)
 |_,.edit _::_,_=>.fail
 |j,.own e sz J::I,k=>.getH (rid d j) λo=>.fL (rid d j) (o.1+1,.row e sz J true) (AL d (j+1) I λC=>k (.row (rid d j) (o.1+1)::C))
def FF(d:Nat):Nat->List (Bool×List RC)->(List (Bool×List SC)->Prog)->Prog
 |_,[],k=>k []
 |j,(C,r)::J,k=>AL d j r λI=>FF d (j+r.length) J λU=>k ((C,I)::U)
def EF(N:Nat)(j:Option Tmp)(C:List (Bool×List RC)):Prog:=
 match j with
 |none=>.done
 |some d=>
  match C with
  |[(I,r)]=>AL d 0 r λJ=>put N (some d) (.v I J)
  |C=>FF d 0 C λU=>put N (some d) (.tup U)
def Mm:List SC->(List D->Prog)->Prog
 |[],k=>k []
 | .dat d::j,k=>Mm j λds=>k (d::ds)
 | .nil::j,k=>Mm j λds=>k (.sl []::ds)
 | .old _ d _::j,k=>Mm j λds=>k (d::ds)
 | .row i ver::j,k=>.getH i λo=>
   match o.2 with
   | .row _ _ C _=>if o.1=ver then .fL i (ver,.none) (Mm j λds=>k (.sl C::ds))else .fail
   |_=>.fail
 |_::_,_=>.fail
def OR:List Operand->(List (Bool×List D)->Prog)->Prog
 |[],k=>k []
 |x::I,k=>vOp x λv=>
   match v with
   | .v j C=>Mm C λds=>OR I λas=>k ((j,ds)::as)
   |_=>.fail
def Ch(N:Nat)(C:Option Tmp)(xs:List Operand)(avs:List (Bool×List D))(q:Ed):Prog:=
 match q,xs with
 | .del e sz,[a,b,c]=>vOp a λJ=>vOp b λU=>vOp c λvc=>match J,U,vc with
   | .v false [.row i ver],.v false [.dat (.int .i64 x)],.v false [.dat (.int .i64 y)]=>.getH i λo=>match o.2 with
     | .row e' sz' I deep=>if o.1=ver/\e'=e/\sz'=sz then .must (0<=x/\x<=y/\y.toNat<=I.length)
       (.fL i (ver+1,.row e sz (I.take x.toNat++I.drop y.toNat) deep) (put N C (.v false [.row i (ver+1)])))else .fail
     |_=>.fail
   |_,_,_=>.fail
 | .ins e sz bytes,[a,b,c]=>vOp a λJ=>vOp b λU=>vOp c λvc=>match J,U,vc with
   | .v false [.row i ver],.v false [.dat (.int .i64 x)],.v false [.row j ver2]=>.getH i λo=>match o.2 with
     | .row e' sz' I deep=>if o.1=ver/\e'=e/\sz'=sz then .fL i (ver,.none) (.getH j λp=>match p.2 with
       | .row e'' sz'' ys b=>if p.1=ver2/\e''=e/\sz''=sz then .fL j (ver2,.none) (.must (0<=x/\x.toNat<=I.length/\0<ys.length/\(I.length+ys.length)*bytes<=140737488355328)
         (.fL i (ver+1,.row e sz (I.take x.toNat++(ys++I.drop x.toNat)) (deep&&b)) (put N C (.v false [.row i (ver+1)]))))else .fail
       |_=>.fail)else .fail
     |_=>.fail
   |_,_,_=>.fail
 | .turn e sz ys,[a,b]=>vOp a λJ=>vOp b λU=>match J,U with
   | .v false [.row i ver],.v false [c]=>.getH i λo=>match o.2 with
     | .row e' sz' I deep=>if o.1=ver/\e'=e/\sz'=sz then .fL i (ver,.none) (DB [c] λds=>.must (avs=[(false,[.sl I]),(false,ds)])
       (.fL i (ver+1,.row e sz ys deep) (put N C (.v false [.row i (ver+1)]))))else .fail
     |_=>.fail
   |_,_=>.fail
 | .pass,[_,b]=>vOp b λU=>match U with
   | .v ag cs=>put N C (.tup [(ag,cs),(false,[.dat (.bool true)])])
   |_=>.fail
 | .sel c k sz,a::_=>vOp a λJ=>match J with
   | .v true cs=>match cs[c]? with
     |some (.row i ver)=>.getH i λo=>match o.2 with
       | .row _ sz' I _=>if o.1=ver/\sz'=sz then(match I[k]? with
         |some y=>put N C (.tup [(true,y.map .dat),(false,[.dat (.bool true)])])
         |none=>.fail)else .fail
       |_=>.fail
     |_=>.fail
   |_=>.fail
 | .newb t es,xs=>match C with
   |some d=>OR xs λas=>.must (as=avs) (.getH d λp=>.fL d (p.1+1,.box t (es.map .dat)) (put N (some d) (.v false [.bp d (p.1+1) 0])))
   |none=>.fail
 |_,_=>.fail
def Sm:List Operand->(List (Bool×List D)->Prog)->Prog
 |[],k=>k []
 |x::I,k=>vOp x λv=>
   match v with
   | .v j C=>Ht C λds=>Sm I λas=>k ((j,ds)::as)
   |_=>.fail
def Tv(N:Nat)(C:Option Tmp)(t:TypeId)(es:List D)(U:List (Bool×List RC))(xs:List Operand)(j:List (Bool×List D)):Prog:=
 match xs with
 |[]=>.fail
 |a::J=>vOp a λva=>match va with
   | .v false [.bp i ver 0]=>.getH i λo=>match o.2 with
     | .box t' (I::cells)=>if o.1=ver/\t'=t then Ht [I] λd0=>Ht cells λds=>.must (cells=ds.map .dat) (Sm J λas=>.must (j=(false,[.ptr (d0++ds)])::as)
       (.fL i (ver,.box t (I::es.map .dat)) (EF N C U)))else .fail
     |_=>.fail
   |_=>.fail
def RC.ed:RC->Option Ed
 | .edit q=>some q
 | .any _=>none
 | .ro _=>none
 | .own _ _ _=>none
def TT:List (Bool×List RC)->Option Ed
 |[]=>none
 |(_,[])::_=>none
 |(_,r::_)::_=>r.ed
def H0(N:Nat)(C:Option Tmp)(xs:List Operand)(j:List (Bool×List D))(I:List (Bool×List RC)):Option Ed->Prog
 |some (.lend t es)=>Tv N C t es I.tail xs j
 |some (.del e sz)=>Ch N C xs j (.del e sz)
 |some (.ins e sz b)=>Ch N C xs j (.ins e sz b)
 |some (.turn e sz J)=>Ch N C xs j (.turn e sz J)
 |some .pass=>Ch N C xs j .pass
 |some (.sel c k sz)=>Ch N C xs j (.sel c k sz)
 |some (.newb t es)=>Ch N C xs j (.newb t es)
 |none=>OR xs λas=>.must (as=j) (EF N C I)
def N3(N:Nat)(j:Option Tmp)(xs:List Operand)(I:List (Bool×List D))(C:List (Bool×List RC)):Prog:=
 if CM C=true then H0 N j xs I C (TT C)else EF N j C
def E2(place:Nat->Option (Nat×Nat)):List SC->List (Nat×Operand)->(List SC->Prog)->Prog
 |cells,[],k=>k cells
 |cells,(i,x)::rest,k=>vOp x λv=>
   match v,place i with
   | .v _ C,some (j,sz)=>if C.length=sz/\j+sz<=cells.length then E2 place (cells.take j++(C++cells.drop (j+sz))) rest k else .fail
   |_,_=>.fail
def rows(sz:Nat):Nat->List D->List (List D)
 |0,_=>[]
 |n+1,ds=>ds.take sz::rows sz n (ds.drop sz)
def one(d:D):SV:=.v false [.dat d]
def Ac(op:BinOp)(k:IntKind)(a b:Int):Option D:=
 match op with
 | .add=>some (.int k (k.wrap (a+b)))
 | .sub=>some (.int k (k.wrap (a-b)))
 | .mul=>some (.int k (k.wrap (a*b)))
 | .eql=>some (.bool (a==b))
 | .neq=>some (.bool (a !=b))
 | .lss=>some (.bool (decide (a<b)))
 | .leq=>some (.bool (decide (a<=b)))
 | .gtr=>some (.bool (decide (a>b)))
 | .geq=>some (.bool (decide (a>=b)))
 | .quo=>if b=0 then none else some (.int k (k.wrap (a.tdiv b)))
 | .rem=>if b=0 then none else some (.int k (a.tmod b))
 | .shl=>if b<0 then none else some (.int k (k.wrap (a*2^(min b.toNat k.bits))))
 | .shr=>if b<0 then none else some (.int k (a.fdiv (2^(min b.toNat k.bits))))
 | .and=>some (.int k (k.wrap (BitVec.ofInt k.bits a&&&BitVec.ofInt k.bits b).toNat))
 | .or=>some (.int k (k.wrap (BitVec.ofInt k.bits a|||BitVec.ofInt k.bits b).toNat))
 | .xor=>some (.int k (k.wrap (BitVec.ofInt k.bits a ^^^ BitVec.ofInt k.bits b).toNat))
 | .andNot=>some (.int k (k.wrap (BitVec.ofInt k.bits a &&& ~~~ BitVec.ofInt k.bits b).toNat))
def E1(l:List UInt8):List (List D):=l.map λb=>[.int .u8 (b.toNat:Int)]
def byteOf:List D->UInt8
 |[.int _ n]=>UInt8.ofNat n.toNat
 |_=>0
def strOf(xs:List (List D)):ByteArray:=⟨(xs.map byteOf).toArray⟩
def J8(op:BinOp)(x y:ByteArray):Option D:=
 match op with
 | .eql=>some (.bool (x.toList==y.toList))
 | .neq=>some (.bool !(x.toList==y.toList))
 | .lss=>some (.bool (Op.bytesLess x.toList y.toList))
 | .leq=>some (.bool (Op.bytesLess x.toList y.toList||x.toList==y.toList))
 | .gtr=>some (.bool !(Op.bytesLess x.toList y.toList||x.toList==y.toList))
 | .geq=>some (.bool !(Op.bytesLess x.toList y.toList))
 |_=>none
def lenOf(v:SV)(k:Nat->Prog):Prog:=
 match v with
 | .v false [.dat (.sl j)]=>k j.length
 | .v false [.old _ (.sl j) _]=>k j.length
 | .v false [.nil]=>k 0
 | .v false [.row i ver]=>.getH i λo=>match o.2 with
   | .row _ _ j _=>if o.1=ver then k j.length else .fail
   |_=>.fail
 | .v false [.part i ver _ n]=>.getH i λo=>match o.2 with
   | .row _ _ _ _=>if o.1=ver then k n else .fail
   |_=>.fail
 |_=>.fail
def cellAt(W:World)(p:Value)(j:Nat):Value:=
 match p with
 | .pointer (some ⟨b,C,_⟩)=>(W.cell? ⟨b,C+j,none⟩).getD undef
 |_=>undef
def aEu(v:Value)(i j:Nat):Value:=
 match v with
 | .slice (some ⟨b,C,_⟩) _ _=>.pointer (some ⟨b,C+i*j,none⟩)
 |_=>undef
def aFo(W:World)(p:Value):Nat->List D->List SC
 |_,[]=>[]
 |j,d::ds=>.exa W d (cellAt W p j)::aFo W p (j+1) ds
def Nm:List D->Option Value
 |[]=>none
 | .val u::_=>some u
 | .int _ _::_=>none
 | .bool _::_=>none
 | .str _::_=>none
 | .sl _::_=>none
 | .ptr _::_=>none
 | .fn _ _::_=>none
 | .opq::_=>none
def OP(N:Nat)(J:Option Tmp)(C:TI)(p:SV):Prog:=
 match p with
 | .v false [.bp i ver I]=>.getH i λo=>match o.2 with
   | .box _ cells=>if o.1=ver/\I+C.size<=cells.length then put N J (.v C.agg ((cells.drop I).take C.size))else .fail
   |_=>.fail
 | .v false [.dat (.ptr ds)]=>if C.size<=ds.length then put N J (.v C.agg ((ds.take C.size).map .dat))else .fail
 | .v false [.rp i ver j I]=>.getH i λo=>match o.2 with
   | .row _ _ xs _=>if o.1=ver then(match xs[j]? with
     |some x=>if I+C.size<=x.length then(match Nm ((x.drop I).take C.size)with
       |some u=>.getH 7058000 λp=>match p.2 with
         | .pin U ver' u'=>.must (u'=u/\C.agg=false) (.getH U λq=>match q.2 with
           | .row _ _ _ _=>if q.1=ver' then put N J (.v false [.row U ver'])else .fail
           |_=>.fail)
         |_=>.fail
       |none=>put N J (.v C.agg (((x.drop I).take C.size).map .dat)))else .fail
     |none=>.fail)else .fail
   |_=>.fail
 | .v false [.exa W (.ptr ds) p]=>if C.size<=ds.length then put N J (.v C.agg ((aFo W p 0 ds).take C.size))else .fail
 |_=>.fail
def Ox(T:Sb)(I:TI)(p v:SV):Prog:=
 match p,v with
 | .v false [.bp i ver C],.v _ J=>.getH i λo=>match o.2 with
   | .box t cells=>if o.1=ver/\J.length=I.size/\C+I.size<=cells.length then .fL i (ver,.box t (cells.take C++(J++cells.drop (C+I.size)))) .done else .fail
   |_=>.fail
 | .v false [.rp i ver j C],.v _ J=>.getH i λo0=>match o0.2 with
   | .row U _ _ _=>match T U with
    |some te=>DD J (te.sl.drop C) λds b=>.getH i λo=>match o.2 with
     | .row e sz xs deep=>if o.1=ver/\J.length=I.size/\e=U then(match xs[j]? with
       |some x=>if C+I.size<=x.length then .fL i (ver,.row e sz (xs.set j (x.take C++(ds++x.drop (C+I.size)))) (deep&&b)) .done else .fail
       |none=>.fail)else .fail
     |_=>.fail
    |none=>.fail
   |_=>.fail
 |_,_=>.fail
def ME(N:Nat)(C:Option Tmp)(off:Nat)(p:SV):Prog:=
 match p with
 | .v false [.bp i ver o]=>.getH i λq=>match q.2 with
   | .box _ _=>if q.1=ver then put N C (.v false [.bp i ver (o+off)])else .fail
   |_=>.fail
 | .v false [.rp i ver j o]=>.getH i λq=>match q.2 with
   | .row _ _ _ _=>if q.1=ver then put N C (.v false [.rp i ver j (o+off)])else .fail
   |_=>.fail
 | .v false [.dat (.ptr ds)]=>if off<=ds.length then put N C (.v false [.dat (.ptr (ds.drop off))])else .fail
 |_=>.fail
def Dn(N:Nat)(I:Option Tmp)(C:Nat)(x U:SV):Prog:=
 match x,U with
 | .v false [.dat (.sl J)],.v false [.dat (.int _ i)]=>.must (0<=i) (match J[i.toNat]? with
   |some e=>if e.length=C then put N I (.v false [.dat (.ptr e)])else .fail
   |none=>.fail)
 | .v false [.old _ (.sl J) _],.v false [.dat (.int _ i)]=>.must (0<=i) (match J[i.toNat]? with
   |some e=>if e.length=C then put N I (.v false [.dat (.ptr e)])else .fail
   |none=>.fail)
 | .v false [.row j ver],.v false [.dat (.int _ i)]=>.getH j λo=>match o.2 with
   | .row _ sz J _=>if o.1=ver/\sz=C then .must (0<=i/\i.toNat<J.length) (put N I (.v false [.rp j ver i.toNat 0]))else .fail
   |_=>.fail
 | .v false [.exa W (.sl J) v],.v false [.dat (.int _ i)]=>.must (0<=i) (match J[i.toNat]? with
   |some e=>if e.length=C then put N I (.v false [.exa W (.ptr e) (aEu v i.toNat C)])else .fail
   |none=>.fail)
 |_,_=>.fail
def NK(sz lo n:Nat)(xs:List (List D)):List (List D):=xs.take lo++(List.replicate n (List.replicate sz .opq)++xs.drop (lo+n))
def EO(C:TypeId)(x:SV)(k:List (List D)->Bool->Prog):Prog:=
 match x with
 | .v false [.dat (.sl j)]=>k j (j.all λy=>y.all D.flat)
 | .v false [.nil]=>k [] true
 | .v false [.row i ver]=>.getH i λo=>match o.2 with
   | .row e _ j deep=>if o.1=ver then .fL i (ver,.none) (k j (if e=C then deep else false))else .fail
   |_=>.fail
 | .v false [.part i ver I n]=>.getH i λo=>match o.2 with
   | .row e sz j deep=>if o.1=ver then .fL i (ver,.row e sz (NK sz I n j) deep) (k ((j.drop I).take n) (if e=C then deep else false))else .fail
   |_=>.fail
 |_=>.fail
def Qp(N:Nat)(j:Option Tmp)(C i ver l:Nat)(h:Nat->Nat)(p:Nat->Prop):Prog:=
 .getH i λq=>match q.2 with
  | .row _ sz I _=>if q.1=ver/\sz=C then .must (p I.length) (put N j (.v false [.part i ver l (h I.length-l)]))else .fail
  |_=>.fail
def HF(N:Nat)(C:Option Tmp)(e:TypeId)(sz bytes:Nat)(s x:SV):Prog:=
 match C with
 |none=>.fail
 |some d=>
 match s with
 | .v false [.row i ver]=>.getH i λo=>match o.2 with
   | .row U sz' J deep=>if o.1=ver/\U=e/\sz'=sz then
     .fL i (ver,.none) (EO e x λj b=>.must ((∀y∈j,y.length=sz)/\(J.length+j.length)*bytes<=140737488355328/\0<sz/\0<bytes) (.fL i (ver+1,.row e sz (J++j) (deep&&b)) (put N C (.v false [.row i (ver+1)]))))else .fail
   |_=>.fail
 | .v false [.part i ver 0 n]=>.getH i λp=>match p.2 with
   | .row _ _ I _=>EO e x λj b=>.getH i λo=>match o.2 with
     | .row U sz' J deep=>if o.1=ver/\U=e/\sz'=sz then
       .must (J.take n=I.take n/\(∀y∈j,y.length=sz)/\(n+j.length)*bytes<=140737488355328/\0<sz/\0<bytes) (.fL i (ver+1,.row e sz (I.take n++j) (deep&&b)) (put N C (.v false [.row i (ver+1)])))else .fail
     |_=>.fail
   |_=>.fail
 | .v false [.nil]=>EO e x λj b=>.must ((∀y∈j,y.length=sz)/\j.length*bytes<=140737488355328/\0<sz/\0<bytes) (.getH (rid d 0) λo=>.fL (rid d 0) (o.1+1,.row e sz j b) (put N C (.v false [.row (rid d 0) (o.1+1)])))
 |_=>.fail
def UY(j:Option Tmp)(e:TypeId)(sz:Nat)(v:SV):Prog:=
 match j,v with
 |none,.v false [.part i ver I n]=>.getH i λp=>match p.2 with
   | .row J sz' C deep=>if p.1=ver/\J=e/\sz'=sz then .must ((if deep=true then C.all (λy=>y.all D.flat)else true)=true/\I+n=C.length)
     (.fL i (ver,.row e sz (C.take I++List.replicate n (List.replicate sz .opq)) deep) .done)else .fail
   |_=>.fail
 |_,_=>.fail
def RZ(N:Nat)(j:Option Tmp)(e:TypeId)(s x:SV):Prog:=
 match s,x with
 | .v false [.row i ver],.v false [.dat (.str b)]=>.getH i λo=>match o.2 with
   | .row I 1 C deep=>if o.1=ver/\I=e then
     .must (C.length+b.size<=140737488355328) (.fL i (ver+1,.row e 1 (C++E1 b.data.toList) deep) (put N j (.v false [.row i (ver+1)])))else .fail
   |_=>.fail
 |_,_=>.fail
def QP:List Operand->(List (Nat×Nat×Nat)->Prog)->Prog
 |[],k=>k []
 |x::I,k=>vOp x λv=>match v with
   | .v false [.bp i ver j]=>QP I λC=>k ((i,ver,j)::C)
   |_=>.fail
def Dp:List LK->List SC->List SC->Option Bool
 |[],[],[]=>some true
 | .int::ls,.dat (.int k a)::j,.dat (.int I b)::C=>if k=I then(Dp ls j C).map ((a==b) && ·)else none
 | .bool::ls,.dat (.bool a)::j,.dat (.bool b)::C=>(Dp ls j C).map ((a==b) && ·)
 | .str::ls,.dat (.str a)::j,.dat (.str b)::C=>(Dp ls j C).map ((a.toList==b.toList) && ·)
 |_,_,_=>none
def CN(T:Sb)(N:Nat)(o:Oper):Prog:=
 match o.op with
 | .move x| .assign x=>vOp x λv=>put N o.dst v
 | .pick c a b=>vOp c λv=>match v with
   | .v false [.dat (.bool t)]=>if t=true then vOp a λv=>put N o.dst v else vOp b λv=>put N o.dst v
   |_=>.fail
 | .alloc t=>match o.dst,T t with
   |some d,some C=>.getH d λp=>.fL d (p.1+1,.box t C.zero) (put N (some d) (.v false [.bp d (p.1+1) 0]))
   |_,_=>.fail
 | .box t x=>match o.dst with
   |some d=>vOp x λv=>match v with
     | .v _ J=>.getH d λp=>.fL d (p.1+1,.box t J) (put N (some d) (.v false [.bp d (p.1+1) 0]))
     |_=>.fail
   |none=>.fail
 | .build t parts=>match T t with
   |some { k:=.struct fs,zero:=z,.. }=>E2 (λi=>(fs[i]?).map λf=>(f.1,f.2.1)) z parts.toList λJ=>put N o.dst (.v true J)
   |some { k:=.arr e _,zero:=z,.. }=>match T e,parts.toList with
     |some _,[]=>put N o.dst (.v true z)
     |_,_=>.fail
   |_=>.fail
 | .buildSlice t len parts=>match o.dst,T t with
   |some d,some { k:=.slice e,.. }=>match T e with
     |some C=>if len*C.size<=16777216/\0<C.size/\(C.sl=[]\/C.sl.length=C.size)then
       E2 (λi=>some (i*C.size,C.size)) ((List.replicate len C.zero).flatten) parts.toList λJ=>DD J ((List.replicate len C.sl).flatten) λds b=>
        .getH (rid d 0) λp=>.fL (rid d 0) (p.1+1,.row e C.size (rows C.size len ds) b) (put N (some d) (.v false [.row (rid d 0) (p.1+1)]))else .fail
     |none=>.fail
   |_,_=>.fail
 | .makeSlice t l c=>match o.dst,T t with
   |some d,some { k:=.slice e,.. }=>match T e with
     |some C=>vOp l λvl=>vOp c λvc=>match vl,vc with
       | .v false [.dat (.int _ n)],.v false [.dat (.int _ m)]=>.must (n=m/\0<=n/\n.toNat*C.bytes<=140737488355328/\n<=9223372036854775807/\0<C.size) (DD C.zero C.sl λz b=>
         .getH (rid d 0) λp=>.fL (rid d 0) (p.1+1,.row e C.size (List.replicate n.toNat z) b) (put N (some d) (.v false [.row (rid d 0) (p.1+1)])))
       |_,_=>.fail
     |none=>.fail
   |_,_=>.fail
 | .load t x=>match T t with
   |some C=>vOp x λp=>OP N o.dst C p
   |none=>.fail
 | .store t x y=>match o.dst,T t with
   |none,some C=>vOp x λp=>vOp y λv=>Ox T C p v
   |_,_=>.fail
 | .fieldAddr s x f=>match T s with
   |some { k:=.struct fs,.. }=>match fs[f]? with
     |some (I,sz,_)=>if 0<sz then vOp x λp=>ME N o.dst I p else .fail
     |none=>.fail
   |_=>.fail
 | .field s x f=>match T s with
   |some { k:=.struct fs,.. }=>match fs[f]? with
     |some (I,sz,ag)=>vOp x λp=>match p with
       | .v true J=>if I+sz<=J.length/\(ag=true\/sz=1)then put N o.dst (.v ag ((J.drop I).take sz))else .fail
       |_=>.fail
     |none=>.fail
   |_=>.fail
 | .indexAddr t x ix=>match T t with
   |some { k:=.slice e,.. }=>match T e with
     |some C=>vOp x λa=>vOp ix λi=>Dn N o.dst C.size a i
     |none=>.fail
   |some { k:=.arr e n,.. }=>match T e with
     |some C=>vOp x λa=>vOp ix λi=>match a,i with
       | .v false [.bp j ver I],.v false [.dat (.int _ m)]=>.getH j λq=>match q.2 with
         | .box _ _=>if q.1=ver then .must (0<=m/\m.toNat<n) (put N o.dst (.v false [.bp j ver (I+m.toNat*C.size)]))else .fail
         |_=>.fail
       |_,_=>.fail
     |none=>.fail
   |_=>.fail
 | .index t x ix=>match T t with
   |some { k:=.str,.. }=>vOp x λa=>vOp ix λi=>match a,i with
     | .v false [.dat (.str s)],.v false [.dat (.int _ n)]=>.must (0<=n) (match s[n.toNat]? with
       |some b=>put N o.dst (one (.int .u8 b.toNat))
       |none=>.fail)
     |_,_=>.fail
   |_=>.fail
 | .binOp op t x y _=>vOp x λa=>vOp y λb=>match a,b with
   | .v false [.dat (.int k m)],.v false [.dat (.int k' n)]=>if k=k'\/op=.shr\/op=.shl then(match Ac op k m n with
     |some d=>put N o.dst (one d)
     |none=>.fail)else .fail
   | .v false [.dat (.str m)],.v false [.dat (.str n)]=>if op=.add then .must (m.size+n.size<=9223372036854775807) (put N o.dst (one (.str (m++n))))else(match J8 op m n with
     |some d=>put N o.dst (one d)
     |none=>.fail)
   | .v false [.dat (.bool m)],.v false [.dat (.bool n)]=>match op,T t with
     | .eql,some { k:=.bool,.. }=>put N o.dst (one (.bool (m==n)))
     | .neq,some { k:=.bool,.. }=>put N o.dst (one (.bool !(m==n)))
     |_,_=>.fail
   | .v true J,.v true ds=>match T t with
     |some { cmp:=l::ls,.. }=>match Dp (l::ls) J ds with
       |some b=>match op with
         | .eql=>put N o.dst (one (.bool b))
         | .neq=>put N o.dst (one (.bool !b))
         |_=>.fail
       |none=>.fail
     |_=>.fail
   |_,_=>.fail
 | .unOp .not _ x=>vOp x λa=>match a with
   | .v false [.dat (.bool b)]=>put N o.dst (one (.bool !b))
   |_=>.fail
 | .unOp .neg _ x=>vOp x λa=>match a with
   | .v false [.dat (.int k n)]=>put N o.dst (one (.int k (k.wrap (0-n))))
   |_=>.fail
 | .convert s t x=>match T s,T t with
   |some _,some { k:=.int k,.. }=>vOp x λa=>match a with
     | .v false [.dat (.int _ n)]=>put N o.dst (one (.int k (k.wrap n)))
     |_=>.fail
   |some { k:=.str,.. },some { k:=.slice e,.. }=>match T e with
     |some { k:=.int .u8,.. }=>vOp x λa=>match a with
       | .v false [.dat (.str b)]=>put N o.dst (one (.sl (E1 b.data.toList)))
       |_=>.fail
     |_=>.fail
   |some { k:=.slice e,.. },some { k:=.str,.. }=>match T e with
     |some { k:=.int .u8,.. }=>vOp x λa=>match a with
       | .v false [.dat (.sl U)]=>.must (∀x∈U,∃b:UInt8,x=[.int .u8 (b.toNat:Int)]) (put N o.dst (one (.str (strOf U))))
       | .v false [.nil]=>put N o.dst (one (.str ByteArray.empty))
       | .v false [.row i ver]=>.getH i λo'=>match o'.2 with
         | .row _ _ U _=>if o'.1=ver then .must (∀x∈U,∃b:UInt8,x=[.int .u8 (b.toNat:Int)]) (put N o.dst (one (.str (strOf U))))else .fail
         |_=>.fail
       |_=>.fail
     |_=>.fail
   |_,_=>.fail
 | .nilCheck x=>vOp x λa=>match a with
   | .v false [.bp i ver I]=>.getH i λq=>match q.2 with
     | .box _ _=>if q.1=ver then put N o.dst (.v false [.bp i ver I])else .fail
     |_=>.fail
   | .v false [.rp i ver j I]=>.getH i λq=>match q.2 with
     | .row _ _ _ _=>if q.1=ver then put N o.dst (.v false [.rp i ver j I])else .fail
     |_=>.fail
   | .v false [.dat (.ptr ds)]=>put N o.dst (.v false [.dat (.ptr ds)])
   | .v false [.dat (.fn f ds)]=>put N o.dst (.v false [.dat (.fn f ds)])
   | .v false [.clo f J]=>put N o.dst (.v false [.clo f J])
   |_=>.fail
 | .slice t x lo hi none=>match T t with
   |some { k:=.slice e,.. }=>match T e with
     |some te=>vOp x λa=>aDd lo λl=>aDd hi λh=>match a,l,h with
       | .v false [.dat (.sl U)],some (.v false [.dat (.int _ i)]),none=>.must (0<=i/\i.toNat<=U.length/\∀x∈U,x.length=te.size) (put N o.dst (one (.sl (U.drop i.toNat))))
       | .v false [.dat (.sl U)],none,some (.v false [.dat (.int _ j)])=>.must (0<=j/\j.toNat<=U.length/\∀x∈U,x.length=te.size) (put N o.dst (one (.sl (U.take j.toNat))))
       | .v false [.dat (.sl U)],some (.v false [.dat (.int _ i)]),some (.v false [.dat (.int _ j)])=>.must (0<=i/\i<=j/\j.toNat<=U.length/\∀x∈U,x.length=te.size) (put N o.dst (one (.sl ((U.take j.toNat).drop i.toNat))))
       | .v false [.row j ver],some (.v false [.dat (.int _ x)]),none=>Qp N o.dst te.size j ver x.toNat (λn=>n) λn=>0<=x/\x.toNat<=n
       | .v false [.row j ver],none,some (.v false [.dat (.int _ y)])=>Qp N o.dst te.size j ver 0 (λ_=>y.toNat) λn=>0<=y/\y.toNat<=n
       | .v false [.row j ver],some (.v false [.dat (.int _ x)]),some (.v false [.dat (.int _ y)])=>Qp N o.dst te.size j ver x.toNat (λ_=>y.toNat) λn=>0<=x/\x<=y/\y.toNat<=n
       |_,_,_=>.fail
     |none=>.fail
   |_=>.fail
 | .makeFunc (.func f) first captured=>if first.size=0 then QP captured.toList λJ=>put N o.dst (.v false [match J with|[]=>.dat (.fn f [])|_=>.clo f J])else .fail
 | .extract x i=>vOp x λa=>match a with
   | .tup vs=>match vs[i]? with
     |some (ag,J)=>put N o.dst (.v ag J)
     |none=>.fail
   |_=>.fail
 | .call { callee:=.builtin .len,args:=as,argTypes:=ts }=>match as.toList,ts.toList with
   |[x],[t]=>match T t with
     |some { k:=.slice _,.. }=>vOp x λa=>lenOf a λn=>put N o.dst (one (.int .i64 n))
     |some { k:=.str,.. }=>vOp x λa=>match a with
       | .v false [.dat (.str s)]=>put N o.dst (one (.int .i64 s.size))
       |_=>.fail
     |_=>.fail
   |_,_=>.fail
 | .call { callee:=.builtin .min,args:=as,.. }=>match as.toList with
   |[x,y]=>vOp x λa=>vOp y λb=>match a,b with
     | .v false [.dat (.int k m)],.v false [.dat (.int _ n)]=>put N o.dst (one (.int k (if n<m then n else m)))
     |_,_=>.fail
   |_=>.fail
 | .call { callee:=.builtin .max,args:=as,.. }=>match as.toList with
   |[x,y]=>vOp x λa=>vOp y λb=>match a,b with
     | .v false [.dat (.int k m)],.v false [.dat (.int _ n)]=>put N o.dst (one (.int k (if n>m then n else m)))
     |_,_=>.fail
   |[x,y,z]=>vOp x λa=>vOp y λb=>vOp z λc=>match a,b,c with
     | .v false [.dat (.int k m)],.v false [.dat (.int _ n)],.v false [.dat (.int _ q)]=>put N o.dst (one (.int k (if q>(if n>m then n else m)then q else if n>m then n else m)))
     |_,_,_=>.fail
   |_=>.fail
 | .call { callee:=.builtin .append,args:=as,argTypes:=ts }=>match as.toList,ts.toList with
   |[s,x],[t,t']=>if t=t' then(match T t with
     |some { k:=.slice e,.. }=>match T e with
       |some C=>vOp s λa=>vOp x λb=>HF N o.dst e C.size C.bytes a b
       |none=>.fail
     |_=>.fail)else(match T t,T t' with
     |some { k:=.slice e,.. },some { k:=.str,.. }=>match T e with
       |some { k:=.int .u8,size:=1,bytes:=1,zero:=[.dat (.int .u8 0)],.. }=>vOp s λa=>vOp x λb=>RZ N o.dst e a b
       |_=>.fail
     |_,_=>.fail)
   |_,_=>.fail
 | .call { callee:=.builtin .clear,args:=as,argTypes:=ts }=>match as.toList,ts.toList with
   |[x],[t]=>match T t with
     |some { k:=.slice e,.. }=>match T e with
       |some C=>vOp x λv=>UY o.dst e C.size v
       |none=>.fail
     |_=>.fail
   |_,_=>.fail
 | .call { callee:=.value (.func f),args:=as,.. }=>HR as.toList λavs=>.call f avs λrs=>N3 N o.dst as.toList avs rs
 | .call { callee:=.value (.tmp t),args:=as,.. }=>HR as.toList λavs=>.getT t λv=>match v with
   | .v false [.dat (.fn f caps)]=>.call f (avs++caps.map λc=>(false,[c])) λrs=>if CM rs=true then .fail else EF N o.dst rs
   | .v false [.clo f caps]=>GI caps λds=>.call f (avs++ds.map λc=>(false,[c])) λrs=>if CM rs=true then .fail else EF N o.dst rs
   |_=>.fail
 |_=>.fail
def evG(T:Sb)(N:Nat)(ops:Array Oper)(o:Oper):Prog:=
 match o.guard with
 |none=>CN T N o
 |some (j,want)=>match(ops[j]?).bind (·.dst)with
   |some t=>.getT t λv=>match v with
     | .v false [.dat (.bool b)]=>if b=want then CN T N o else put N o.dst .undef
     | .undef=>put N o.dst .undef
     |_=>.fail
   |none=>.fail
def tQ(P:Program)(T:Sb)(N:Nat)(ops:Array Oper):List Oper->St->(St->Prop)->Prop
 |[],s,K=>K s
 |o::rest,s,K=>ex P (evG T N ops o) s λj=>tQ P T N ops rest j K
theorem Jy{P:Program}:∀(p:Prog) {s:St} {K K':St->Prop},(∀s,K s->K' s)->ex P p s K->ex P p s K'
 | .done,_,_,_,h,j=>h _ j
 | .fail,_,_,_,_,j=>j
 | .getT t k,s,_,_,h,j=>Jy (k (s.t t)) h j
 | .Ix t v k,s,_,_,h,j=>Jy k h j
 | .getH i k,s,_,_,h,j=>Jy (k (s.h i)) h j
 | .fL i x k,s,_,_,h,j=>Jy k h j
 | .call f args k,s,_,_,h,⟨C,hc,j⟩=>⟨C,hc,Jy (k C) h j⟩
 | .must p k,s,_,_,h,⟨I,j⟩=>⟨I,Jy k h j⟩
abbrev Heap:=Nat->Nat×E7
structure Gh where
 val:Nat->Value
 fp:Nat->List Nat
 S:Nat->Prop
 Q:QF
def Ds:Value->Option Nat
 | .pointer (some a)=>some a.block
 | .slice (some a) _ _=>some a.block
 |_=>none
def L2(g:Gh)(h:Heap)(c:Nat×Nat×Nat)(v:Value):Prop:=
 c.2.1<=(h c.1).1/\((h c.1).1=c.2.1->∀t j,(h c.1).2=.box t j->∃b,g.val c.1=.pointer (some ⟨b,0,none⟩)/\v=.pointer (some ⟨b,c.2.2,none⟩))
def FZ(g:Gh)(h:Heap):List (Nat×Nat×Nat)->List Value->Prop
 |[],C=>C=[]
 |c::I,C=>∃v j,C=v::j/\L2 g h c v/\FZ g h I j
def B3(g:Gh)(h:Heap)(w:World):SC->Value->Prop
 | .dat d,v=>∃F,Rep w d v F/\∀b∈F,g.S b
 | .nil,v=>v=.slice none 0 0
 | .row i ver,v=>v.oneCell'=true/\ver<=(h i).1/\((h i).1=ver->∀e sz J I,(h i).2=.row e sz J I->v=g.val i)
 | .bp i ver C,v=>v.oneCell'=true/\L2 g h (i,ver,C) v
 | .rp i ver j C,v=>v.oneCell'=true/\ver<=(h i).1/\((h i).1=ver->∀e sz J I,(h i).2=.row e sz J I->∃b n c,g.val i=.slice (some ⟨b,0,none⟩) n c/\v=.pointer (some ⟨b,j*sz+C,none⟩))
 | .clo f caps,v=>∃vs,v=.func (.func f) #[] vs.toArray/\FZ g h caps vs
 | .old B d u,v=>∃F,Rep w d v F/\(∀b∈F,g.S b/\b<B)/\∀x,u=some x->v=x
 | .part i ver lo n,v=>v.oneCell'=true/\ver<=(h i).1/\((h i).1=ver->∀e sz J I,(h i).2=.row e sz J I->∃U c,v=.slice U n c/\n<=c/\(n=0 \/∃b m c',g.val i=.slice (some ⟨b,0,none⟩) m c'/\lo+n<=m/\U=some ⟨b,lo*sz,none⟩)/\(lo=0->∃m,g.val i=.slice U m c/\n<=m))
 | .exa W d x,v=>v=x/\∃F,Rep W d x F/\∀b∈F,g.S b/\w.heap[b]? =W.heap[b]?
def aU(g:Gh)(h:Heap)(w:World):List SC->List Value->Prop
 |[],C=>C=[]
 |c::I,C=>∃v j,C=v::j/\B3 g h w c v/\aU g h w I j
def JB(g:Gh)(h:Heap)(w:World)(x:Bool×List SC)(v:Value):Prop:=
 match x with
 |(true,j)=>∃C,v=.agg C/\aU g h w j C.toList
 |(false,j)=>aU g h w j [v]
def Gg(g:Gh)(h:Heap)(w:World):List (Bool×List SC)->List Value->Prop
 |[],C=>C=[]
 |c::I,C=>∃v j,C=v::j/\JB g h w c v/\Gg g h w I j
def yM(g:Gh)(h:Heap)(w:World):SV->Value->Prop
 | .unk,_=>True
 | .undef,v=>v=undef
 | .v C I,v=>JB g h w (C,I) v
 | .tup J,v=>∃j,v=.tuple j/\Gg g h w J j.toList
def DQ(base:Nat)(g:Gh)(h:Heap)(w:World)(i:Nat):E7->Prop
 | .none=>True
 | .box t cells=>∃b vals,g.val i=.pointer (some ⟨b,0,none⟩)/\g.Q.fb<=b/\w.heap[b]? =some (.cells vals t (0,0))/\aU g h w cells vals.toList
 | .row e sz C I=>∃cells,w.ownsRow base e sz (g.val i) C.length cells/\(∀x∈C,x.length=sz)/\dR g.Q.L I w e C cells (g.fp i)/\(∀b∈g.fp i,g.S b)/\(I=true->Ck base w (g.fp i))
 | .pin j ver u=>g.val i=undef/\ver<=(h j).1/\((h j).1=ver->∀e sz C I,(h j).2=.row e sz C I->g.val j=u)
def live(h:Heap)(i:Nat):Prop:=(h i).2≠ .none
def kB(h:Heap)(i:Nat):Prop:=∃e sz j,(h i).2=.row e sz j true
structure Inv (base:Nat) (g:Gh) (h:Heap) (w:World) (pool:List Nat):Prop where
 base_le:base<=w.heap.size
 S_old:∀b,g.S b->b<base->g.Q b
 S_lt:∀b,g.S b->b<w.heap.size
 obj:∀i,DQ base g h w i (h i).2
 mtb:∀i b,live h i->Ds (g.val i)=some b->¬g.S b
 inj:∀i j b,i≠j->live h i->live h j->Ds (g.val i)=some b->Ds (g.val j)≠some b
 dis:∀i j,i≠j->kB h i->kB h j->∀b∈g.fp i,b∉g.fp j
 pool_own:Ck base w pool
 pool_S:∀b∈pool,g.S b
 pool_dis:∀i,kB h i->∀b∈g.fp i,b∉pool
 fb:g.Q.fb<=base
theorem aCk.B8{w w':World}{b:Nat}(h:aCk w b)(hb:w'.heap[b]? =w.heap[b]?):aCk w' b:=by obtain⟨c,e,j⟩:=h;exact⟨c,e,hb.trans j⟩
theorem aCk.lt{w:World}{b:Nat}(h:aCk w b):b<w.heap.size:=by obtain⟨c,e,j⟩:=h;exact(qm.1 j).1
theorem Ck.B8{base:Nat}{w w':World}{F:List Nat}(h:Ck base w F)(hb:∀b∈F,w'.heap[b]? =w.heap[b]?):Ck base w' F:=
 ⟨h.1,λb j=>⟨(h.2 b j).1,(h.2 b j).2.B8 (hb b j)⟩⟩
theorem Ck.nil(base:Nat)(w:World):Ck base w []:=⟨jb,λb hb=>by simp at hb⟩
structure mA (g g':Gh) (h h':Heap) (w w':World):Prop where
 S:∀b,g.S b->g'.S b
 Sw:∀b,g.S b->w'.heap[b]? =w.heap[b]?
 ver:∀i,(h i).1<=(h' i).1
 row:∀i e sz xs dp,(h' i).1=(h i).1->(h' i).2=.row e sz xs dp->g'.val i=g.val i/\∃xs0 dp0,(h i).2=.row e sz xs0 dp0
 box:∀i t cs,(h' i).1=(h i).1->(h' i).2=.box t cs->g'.val i=g.val i/\∃cs0,(h i).2=.box t cs0
 Q:g'.Q=g.Q
section
variable {g g':Gh}{h h':Heap}{w w':World}
theorem L2.turn(T:mA g g' h h' w w'){c:Nat×Nat×Nat}{v:Value}(hc:L2 g h c v):L2 g' h' c v:=by
 refine⟨qh hc.1 (T.ver _),λI t C hb=> ?_⟩
 have h1:=T.ver c.1
 have h2:(h' c.1).1=(h c.1).1:=by have:=hc.1;omega
 obtain⟨h3,j,h4⟩:=T.box _ _ _ h2 hb
 obtain⟨b,h5,h6⟩:=hc.2 wg t j h4
 exact⟨b,h3.trans h5,h6⟩
theorem FZ.turn(T:mA g g' h h' w w'):∀{cs:List (Nat×Nat×Nat)} {vs:List Value},FZ g h cs vs->FZ g' h' cs vs
 |[],vs,hc=>hc
 |c::cs,vs,hc=>by obtain⟨v,j,rfl,h1,h2⟩:=hc;exact⟨v,j,rfl,h1.turn T,FZ.turn T h2⟩
theorem B3.turn(T:mA g g' h h' w w'){c:SC}{v:Value}(hc:B3 g h w c v):B3 g' h' w' c v:=by
 cases c with
 |dat d=>
  obtain⟨F,h1,h2⟩:=hc
  exact⟨F,Rep.B8 d v F h1 λb hb=>T.Sw b (h2 b hb),λb hb=>T.S b (h2 b hb)⟩
 |nil=>exact hc
 |row i ver=>
  obtain⟨C,h1,h2⟩:=hc
  refine⟨C,qh h1 (T.ver i),λhv e sz xs dp J=> ?_⟩
  have h3:=T.ver i
  have h4:(h' i).1=(h i).1:=by omega
  obtain⟨h5,U,I,h6⟩:=T.row _ _ _ _ _ h4 J
  rw[h5]
  exact h2 wg _ _ _ _ h6
 |bp i ver off=>exact⟨hc.1,hc.2.turn T⟩
 |rp i ver j off=>
  obtain⟨C,h1,h2⟩:=hc
  refine⟨C,qh h1 (T.ver i),λhv e sz xs dp J=> ?_⟩
  have h3:=T.ver i
  have h4:(h' i).1=(h i).1:=by omega
  obtain⟨h5,U,I,h6⟩:=T.row _ _ _ _ _ h4 J
  rw[h5]
  exact h2 wg _ _ _ _ h6
 |clo f caps=>
  obtain⟨vs,h1,h2⟩:=hc
  exact⟨vs,h1,h2.turn T⟩
 |old B d u=>
  obtain⟨F,h1,h2,h3⟩:=hc
  exact⟨F,Rep.B8 d v F h1 λb hb=>T.Sw b (h2 b hb).1,λb hb=>⟨T.S b (h2 b hb).1,(h2 b hb).2⟩,h3⟩
 |part i ver lo n=>
  obtain⟨C,h1,h2⟩:=hc
  refine⟨C,qh h1 (T.ver i),λhv e sz xs dp J=> ?_⟩
  have h3:=T.ver i
  have h4:(h' i).1=(h i).1:=by omega
  obtain⟨h5,U,I,h6⟩:=T.row _ _ _ _ _ h4 J
  rw[h5]
  exact h2 wg _ _ _ _ h6
 |exa W d x=>
  obtain⟨C,F,h1,h2⟩:=hc
  exact⟨C,F,h1,λb hb=>⟨T.S b (h2 b hb).1,(T.Sw b (h2 b hb).1).trans (h2 b hb).2⟩⟩
theorem aU.turn(T:mA g g' h h' w w'):∀{cs:List SC} {vs:List Value},aU g h w cs vs->aU g' h' w' cs vs
 |[],vs,hc=>hc
 |c::cs,vs,hc=>by obtain⟨v,j,rfl,h1,h2⟩:=hc;exact⟨v,j,rfl,h1.turn T,aU.turn T h2⟩
theorem JB.turn(T:mA g g' h h' w w'){x:Bool×List SC}{v:Value}(hc:JB g h w x v):JB g' h' w' x v:=by obtain⟨b,C⟩:=x;cases b;(exact aU.turn T hc);·obtain⟨j,h1,h2⟩:=hc;exact⟨j,h1,aU.turn T h2⟩
theorem Gg.turn(T:mA g g' h h' w w'):∀{cs:List (Bool×List SC)} {vs:List Value},Gg g h w cs vs->Gg g' h' w' cs vs
 |[],vs,hc=>hc
 |c::cs,vs,hc=>by obtain⟨v,j,rfl,h1,h2⟩:=hc;exact⟨v,j,rfl,h1.turn T,Gg.turn T h2⟩
theorem yM.turn(T:mA g g' h h' w w'){x:SV}{v:Value}(hc:yM g h w x v):yM g' h' w' x v:=by
 cases x with
 |unk=>trivial
 |undef=>exact hc
 |v C I=>exact JB.turn T hc
 |tup J=>obtain⟨j,h1,h2⟩:=hc;exact⟨j,h1,Gg.turn T h2⟩
end
theorem mA.refl(g:Gh)(h:Heap)(w:World):mA g g h h w w:=
 ⟨λ_ hb=>hb,λ_ _=>rfl,λ_=>qg _,λi e sz J C _ I=>⟨rfl,J,C,I⟩,λi t j _ hb=>⟨rfl,j,hb⟩,rfl⟩
theorem aU.length{g:Gh}{h:Heap}{w:World}:∀{cs:List SC} {vs:List Value},aU g h w cs vs->vs.length=cs.length
 |[],vs,hc=>by rw[hc];rfl
 |c::cs,vs,hc=>by obtain⟨v,j,rfl,h1,h2⟩:=hc;simp[aU.length h2]
theorem aU.append{g:Gh}{h:Heap}{w:World}:∀{cs ds:List SC} {vs j:List Value},aU g h w cs vs->aU g h w ds j->aU g h w (cs++ds) (vs++j)
 |[],ds,vs,j,hc,C=>by rw[hc];exact C
 |c::cs,ds,vs,j,hc,C=>by obtain⟨v,I,rfl,h1,h2⟩:=hc;exact⟨v,I++j,rfl,h1,aU.append h2 C⟩
theorem aU.take{g:Gh}{h:Heap}{w:World}:∀(n:Nat) {cs:List SC} {vs:List Value},aU g h w cs vs->aU g h w (cs.take n) (vs.take n)
 |0,cs,vs,hc=>by simp[aU]
 |n+1,[],vs,hc=>by rw[hc];simp[aU]
 |n+1,c::cs,vs,hc=>by obtain⟨v,j,rfl,h1,h2⟩:=hc;exact⟨v,j.take n,rfl,h1,aU.take n h2⟩
theorem aU.drop{g:Gh}{h:Heap}{w:World}:∀(n:Nat) {cs:List SC} {vs:List Value},aU g h w cs vs->aU g h w (cs.drop n) (vs.drop n)
 |0,cs,vs,hc=>by simpa using hc
 |n+1,[],vs,hc=>by rw[hc];simp[aU]
 |n+1,c::cs,vs,hc=>by obtain⟨v,j,rfl,h1,h2⟩:=hc;exact aU.drop n h2
theorem B3.one{g:Gh}{h:Heap}{w:World}{c:SC}{v:Value}(hc:B3 g h w c v):v.oneCell'=true:=by
 cases c with
 |dat d=>obtain⟨F,h1,_⟩:=hc;exact h1.one
 |nil=>rw[hc];rfl
 |row i ver=>exact hc.1
 |bp i ver C=>exact hc.1
 |rp i ver j C=>exact hc.1
 |clo f caps=>obtain⟨J,h1,_⟩:=hc;rw[h1];rfl
 |old B d u=>obtain⟨F,h1,_⟩:=hc;exact h1.one
 |part i ver I n=>exact hc.1
 |exa W d x=>obtain⟨rfl,F,h1,_⟩:=hc;exact h1.one
theorem aU.one{g:Gh}{h:Heap}{w:World}:∀{cs:List SC} {vs:List Value},aU g h w cs vs->∀u∈vs,u.oneCell'=true
 |[],vs,hc=>by rw[hc];simp
 |c::cs,vs,hc=>by obtain⟨v,C,rfl,h1,h2⟩:=hc;intro u j;rcases qq.1 j with rfl|j;(exact h1.one);·exact aU.one h2 u j
theorem aU.J7{g:Gh}{h:Heap}{w:World}:∀{ds:List D} {vs:List Value} {F:List Nat},aM w ds vs F->(∀b∈F,g.S b)->aU g h w (ds.map .dat) vs
 |[],vs,F,j,_=>by simp only[aM]at j;exact j.1
 |d::ds,vs,F,j,I=>by simp only[aM]at j;obtain⟨v,C,J,U,rfl,rfl,h3,h4⟩:=j;exact⟨v,C,rfl,⟨J,h3,λb hb=>I b (by simp[hb])⟩,aU.J7 h4 λb hb=>I b (by simp[hb])⟩
theorem tE{w:World}{base:Nat}{e:TypeId}{sz n:Nat}{v:Value}{xs:List Value}(h:w.ownsRow base e sz v n xs):Ds v=v.ownBlock:=by rcases h.2 with⟨rfl,_⟩|⟨gg,cap,cur,rfl,_⟩<;>rfl
theorem Inv.H5{base:Nat}{g:Gh}{h:Heap}{w:World}{pool:List Nat}(I:Inv base g h w pool){i b:Nat}(C:live h i)(hb:Ds (g.val i)=some b):g.Q.fb<=b/\aCk w b:=by
 have U:=I.obj i
 unfold live at C
 revert U C
 cases hh:(h i).2 with
 |none=>intro C _;exact absurd rfl C
 |box t cells=>
  rintro _ ⟨b',vals,h1,h2,h3,_⟩
  rw[h1]at hb
  simp[Ds]at hb
  subst hb
  exact⟨h2,vals,t,h3⟩
 |pin j ver u=>
  rintro _ ⟨h1,_⟩
  rw[h1]at hb;simp[undef,Ds]at hb
 |row e sz xs dp=>
  rintro _ ⟨cells,h1,_⟩
  rcases h1.2 with⟨h2,_⟩|⟨gg,cap,J,h2,h3,h4,_⟩
  ·rw[h2]at hb;simp[Ds]at hb
  ·rw[h2]at hb;simp[Ds]at hb;subst hb;exact⟨qh I.fb h3,J,e,h4⟩
theorem mA.grow{g:Gh}{h:Heap}{w w':World}(I:∀b,g.S b->b<w.heap.size)(hb:∀b,b<w.heap.size->w'.heap[b]? =w.heap[b]?):mA g g h h w w':=
 ⟨λ_ x=>x,λb x=>hb b (I b x),λ_=>qg _,λi e sz xs C _ J=>⟨rfl,xs,C,J⟩,λi t j _ U=>⟨rfl,j,U⟩,rfl⟩
theorem Inv.grow{base:Nat}{g:Gh}{h:Heap}{w w':World}{pool:List Nat}(I:Inv base g h w pool)(J:w.heap.size<=w'.heap.size)(hb:∀b,b<w.heap.size->w'.heap[b]? =w.heap[b]?):Inv base g h w' pool:=by
 have T:mA g g h h w w':=mA.grow I.S_lt hb
 refine⟨qh I.base_le J,I.S_old,λb x=>qw (I.S_lt b x) J,λi=> ?_,I.mtb,I.inj,I.dis,I.pool_own.B8 λb x=>hb b (I.S_lt b (I.pool_S b x)),I.pool_S,I.pool_dis,I.fb⟩
 have ho:=I.obj i
 have hl:=@Inv.H5 base g h w pool I i
 revert ho hl
 unfold live
 cases hh:(h i).2 with
 |none=>intros;trivial
 |box t cells=>
  rintro⟨b',vals,h1,h2,h3,h4⟩ _
  exact⟨b',vals,h1,h2,(hb _ (qm.1 h3).1).trans h3,h4.turn T⟩
 |pin j ver u=>intro h1 _;exact h1
 |row e sz xs dp=>
  rintro⟨cells,h1,h2,h3,h4,h5⟩ _
  refine⟨cells,⟨h1.1,?_⟩,h2,h3.B8 λb x=>hb b (I.S_lt b (h4 b x)),h4,λhd=>(h5 hd).B8 λb x=>hb b (I.S_lt b (h4 b x))⟩
  rcases h1.2 with h6|⟨U,cap,C,h6,h7,h8,h9⟩
  ·exact .inl h6
  ·exact .inr ⟨U,cap,C,h6,h7,(hb _ (qm.1 h8).1).trans h8,h9⟩
def pZ(h:Heap)(i:Nat)(x:Nat×E7):Heap:=λj=>if j=i then x else h j
theorem bR(h:Heap)(i:Nat)(x:Nat×E7):pZ h i x i=x:=by simp[pZ]
theorem eE(h:Heap)(i j:Nat)(x:Nat×E7)(C:j≠i):pZ h i x j=h j:=by simp[pZ,C]
def Iw{α:Type}(f:Nat->α)(i:Nat)(x:α):Nat->α:=λj=>if j=i then x else f j
theorem eM{α:Type}(f:Nat->α)(i:Nat)(x:α):Iw f i x i=x:=by simp[Iw]
theorem Ex{α:Type}(f:Nat->α)(i j:Nat)(x:α)(C:j≠i):Iw f i x j=f j:=by simp[Iw,C]
theorem mA.drop{g:Gh}{h:Heap}{w:World}(i:Nat)(U:Nat->Prop)(hS:∀b,g.S b->U b):mA g { g with S:=U } h (pZ h i ((h i).1,.none)) w w:=by refine⟨hS,λ_ _=>rfl,λj=> ?_,λj e sz xs dp _ I=> ?_,λj t cs _ J=> ?_,rfl⟩;(by_cases C:j=i;(subst C;rw[bR];exact qg _);·rw[eE _ _ _ _ C];exact qg _);(by_cases C:j=i;(subst C;rw[bR]at I;cases I);·rw[eE _ _ _ _ C]at I;exact⟨rfl,xs,dp,I⟩);·by_cases C:j=i;(subst C;rw[bR]at J;cases J);·rw[eE _ _ _ _ C]at J;exact⟨rfl,cs,J⟩
theorem Ci{h:Heap}{i j:Nat}{n:Nat}(C:live (pZ h i (n,.none)) j):j≠i/\live h j:=by unfold live at*;by_cases hj:j=i;(subst hj;rw[bR]at C;exact absurd rfl C);·rw[eE _ _ _ _ hj]at C;exact⟨hj,C⟩
theorem De{h:Heap}{i j:Nat}{n:Nat}(C:kB (pZ h i (n,.none)) j):j≠i/\kB h j:=by unfold kB at*;by_cases hj:j=i;(subst hj;rw[bR]at C;obtain⟨_,_,_,C⟩:=C;cases C);·rw[eE _ _ _ _ hj]at C;exact⟨hj,C⟩
theorem LX{h:Heap}{i:Nat}(j:kB h i):live h i:=by obtain⟨_,_,_,j⟩:=j;unfold live;rw[j];simp
theorem DQ.turn{base:Nat}{g g':Gh}{h J:Heap}{w w':World}{i:Nat}{o:E7}(T:mA g g' h J w w')(hv:g'.val i=g.val i)(U:g'.fp i=g.fp i)
  (C:∀b,Ds (g.val i)=some b->w'.heap[b]? =w.heap[b]?)(ho:DQ base g h w i o):DQ base g' J w' i o:=by
 cases o with
 |none=>trivial
 |box t cells=>
  obtain⟨b,vals,h1,h2,h3,h4⟩:=ho
  exact⟨b,vals,hv.trans h1,by rw[T.Q];exact h2,(C b (by rw[h1];rfl)).trans h3,h4.turn T⟩
 |pin j ver u=>
  obtain⟨h0,h1,h2⟩:=ho
  refine⟨hv.trans h0,qh h1 (T.ver j),λhe e sz xs dp hr=> ?_⟩
  have h3:=T.ver j
  have h4:(J j).1=(h j).1:=by omega
  obtain⟨h5,xs0,dp0,h6⟩:=T.row _ _ _ _ _ h4 hr
  rw[h5]
  exact h2 wg _ _ _ _ h6
 |row e sz xs dp=>
  obtain⟨cells,h1,h2,h3,h4,h5⟩:=ho
  refine⟨cells,⟨h1.1,?_⟩,h2,?_,?_,?_⟩
  ·rw[hv];rcases h1.2 with h6|⟨gg,cap,I,h6,h7,h8,h9⟩;(exact .inl h6);·exact .inr ⟨gg,cap,I,h6,h7,(C gg (by rw[h6];rfl)).trans h8,h9⟩
  ·rw[U,T.Q];exact h3.B8 λb x=>T.Sw b (h4 b x)
  ·rw[U];exact λb x=>T.S b (h4 b x)
  ·rw[U];exact λhd=>(h5 hd).B8 λb x=>T.Sw b (h4 b x)
theorem Inv.drop{base:Nat}{g:Gh}{h:Heap}{w:World}{pool:List Nat}(I:Inv base g h w pool)(i:Nat):Inv base g (pZ h i ((h i).1,.none)) w pool:=by
 have T:mA g g h (pZ h i ((h i).1,.none)) w w:=mA.drop i g.S λ_ x=>x
 refine⟨I.base_le,I.S_old,I.S_lt,λj=> ?_,λj b U=>I.mtb j b (Ci U).2,λj k b C U hk=>I.inj j k b C (Ci U).2 (Ci hk).2,
  λj k C J he=>I.dis j k C (De J).2 (De he).2,I.pool_own,I.pool_S,λj J=>I.pool_dis j (De J).2,I.fb⟩
 by_cases hj:j=i
 ·subst hj;rw[bR];trivial
 ·rw[eE _ _ _ _ hj];exact DQ.turn T rfl rfl (λ_ _=>rfl) (I.obj j)
theorem Inv.take {base:Nat} {g:Gh} {h:Heap} {w:World} {pool:List Nat} (I:Inv base g h w pool) {i:Nat} {e:TypeId} {sz:Nat} {xs:List (List D)} {dp:Bool} (hi:(h i).2 = .row e sz xs dp) :
  ∃S' F,(∀b,g.S b->S' b)/\(∀b,S' b->g.S b\/Ds (g.val i)=some b)/\Rep w (.sl xs) (g.val i) F/\(dp=true->E4 g.Q.L w (.sl xs) (some (e,sz)) (g.val i) F)/\F=(g.val i).ownBlock.toList++g.fp i/\(∀b∈F,S' b)/\(dp=true->(∀b∈F,b∉pool)) /\
   Inv base { g with S:=S' } (pZ h i ((h i).1,.none)) w (if dp then pool++F else pool):=by
 have ho:=I.obj i
 rw [hi] at ho
 obtain ⟨cells,h1,h2,h3,h4,h5⟩:=ho
 have hlive:live h i:=by unfold live;rw [hi];simp
 rcases h1.2 with ⟨hv,hn⟩ | ⟨gg,cap,cur,hv,hb,hh,hnc,hcm,hcs,htk⟩
 ·-- nil: nothing to own
  have hx:xs=[]:=ql hn
  subst hx
  have I':=I.drop i
  have hG:g.fp i=[]/\cells=[]:=by have:=h3.rep;simp only [bC] at this;exact ⟨this.2,this.1⟩
  refine ⟨g.S,[],λ_ x=>x,λ_ x=>.inl x,?_,λ_ => ?_,by rw [hv,hG.1];rfl,wb,wb,?_⟩
  ·simp only [Rep];exact ⟨none,0,0,hv,rfl,qg _,.inl wb⟩
  ·simp only [E4];exact ⟨[],[],by rw [hv];exact World.ownsRow_nil w 0 e sz,wb,by rw [hv];rfl,wU⟩
  ·have:(if dp then pool++[] else pool)=pool:=by cases dp<;>simp
   rw [this];exact I'
 ·have hgg:gg<w.heap.size:=(qm.1 hh).1
  have hom:Ds (g.val i)=some gg:=by rw [hv];rfl
  have hnS : ¬g.S gg:=I.mtb i gg hlive hom
  let S':Nat->Prop:=λb=>g.S b\/b=gg
  have T:mA g { g with S:=S' } h (pZ h i ((h i).1,.none)) w w:=mA.drop i S' λ_ x=>.inl x
  ·refine ⟨S',gg::g.fp i,λ_ x=>.inl x,(by rintro b (x | rfl);exact .inl x;exact .inr hom),?_,λhd => ?_,by rw [hv];rfl,?_,?_,?_⟩
   ·simp only [Rep];refine ⟨_,_,cap,hv,rfl,hnc,.inr ⟨gg,0,cells,sz,g.fp i,rfl,hgg,rfl,?_,h1.1,h2,h3.rep⟩⟩;intro j u hu;have:=h1.cells (g:=gg) (by rw [hv];rfl) j u hu;rw [Addr.add_lit] at this;exact this
   ·simp only [E4]
    have h3':nQ g.Q.L w xs e cells (g.fp i):=by have:=h3;unfold dR at this;rw [jF hd] at this;exact this
    exact ⟨cells,g.fp i,⟨h1.1,by rcases h1.2 with h6 | ⟨g1,c1,u1,h6,h7,h8⟩;exact .inl h6;exact .inr ⟨g1,c1,u1,h6,Nat.zero_le _,h8⟩⟩,h2,by rw [hv];rfl,h3'⟩
   ·intro b C;rcases qq.1 C with rfl | C;(exact .inr rfl);·exact .inl (h4 b C)
   ·intro hd b C;rcases qq.1 C with rfl | C;(exact λhp=>hnS (I.pool_S _ hp));·exact I.pool_dis i ⟨e,sz,xs,by rw [hi,hd]⟩ b C
   ·have hobj : ∀j,DQ base { g with S:=S' } (pZ h i ((h i).1,.none)) w j (pZ h i ((h i).1,.none) j).2:=by
     intro j
     by_cases hj:j=i
     ·subst hj;rw [bR];trivial
     ·rw [eE _ _ _ _ hj];exact DQ.turn T rfl rfl (λ_ _=>rfl) (I.obj j)
    have hmut : ∀j b,live (pZ h i ((h i).1,.none)) j->Ds (g.val j)=some b -> ¬S' b:=by intro j b hl C hS;obtain ⟨J,hl⟩:=Ci hl;rcases hS with hS | rfl;(exact I.mtb j b hl C hS);·exact I.inj j i _ J hl hlive C hom
    have hSold : ∀b,S' b->b<base->g.Q b:=by rintro b (hS | rfl) hlt;(exact I.S_old b hS hlt);·omega
    have hSlt : ∀b,S' b->b<w.heap.size:=by intro b hS;rcases hS with hS | rfl;(exact I.S_lt b hS);·exact hgg
    cases dp with
    | false =>
     exact ⟨I.base_le,hSold,hSlt,hobj,hmut,λj k b J hl hk=>I.inj j k b J (Ci hl).2 (Ci hk).2,
      λj k J hd he=>I.dis j k J (De hd).2 (De he).2,I.pool_own,λb x=>.inl (I.pool_S b x),λj hd=>I.pool_dis j (De hd).2,I.fb⟩
    | true =>
     have hdi:kB h i:=⟨e,sz,xs,hi⟩
     have hown:=h5 rfl
     refine ⟨I.base_le,hSold,hSlt,hobj,hmut,λj k b J hl hk=>I.inj j k b J (Ci hl).2 (Ci hk).2,
      λj k J hd he=>I.dis j k J (De hd).2 (De he).2,⟨?_,?_⟩,?_,?_,I.fb⟩
     ·simp only [jI];rw [qt];refine ⟨I.pool_own.1,List.nodup_cons.2 ⟨λU=>hnS (h4 _ U),hown.1⟩,?_⟩;rintro a ha b C rfl;rcases qq.1 C with rfl | C;(exact hnS (I.pool_S _ ha));·exact I.pool_dis i hdi _ C ha
     ·simp only [jI];intro b U;rcases qP.1 U with U | U;(exact I.pool_own.2 b U);·rcases qq.1 U with rfl | U;(exact ⟨hb,cur,e,hh⟩);·exact hown.2 b U
     ·simp only [jI];intro b U;rcases qP.1 U with U | U;(exact .inl (I.pool_S b U));·rcases qq.1 U with rfl | U;(exact .inr rfl);·exact .inl (h4 b U)
     ·simp only [jI];intro j hd b U hm';obtain ⟨J,hd⟩:=De hd;rcases qP.1 hm' with hm' | hm';(exact I.pool_dis j hd b U hm');·rcases qq.1 hm' with rfl | hm';(have ho:=I.obj j;obtain ⟨e',sz',xs',hj⟩:=hd;rw [hj] at ho;obtain ⟨_,_,_,_,h4',_⟩:=ho;exact hnS (h4' _ U));·exact I.dis j i J hd hdi b U hm'
def aEo:Value->Option SC
 | .int k n=>some (.dat (.int k n))
 | .bool b=>some (.dat (.bool b))
 | .string s=>some (.dat (.str s))
 | .slice none 0 0=>some .nil
 |_=>none
def Ru:List Value->Option (List SC)
 |[]=>some []
 |v::C=>match aEo v,Ru C with
  |some c,some j=>some (c::j)
  |_,_=>none
def ZS:TypeDesc->Bool
 | .struct _| .array _ _=>true
 |_=>false
def MZ(P:Program)(t:TypeId):Bool:=match P.underlying t with|some d=>ZS d|none=>false
def TN(P:Program):TypeDesc->Option TK
 | .struct fields=>match fields.toList.mapM (λf=>(P.info? f.type).map λi=>(f.offset,i.size))with
  |some pl=>if fields.toList.all (λf=>(P.underlying f.type).isSome)=true then some (.struct ((pl.zip (fields.toList.map λf=>MZ P f.type)).map λx=>(x.1.1,x.1.2,x.2)))else none
  |none=>none
 | .array n e=>some (.arr e n)
 | .slice e=>some (.slice e)
 | .int k=>some (.int k)
 | .bool=>some .bool
 | .string=>some .str
 |_=>some .other
def Ha (P:Program) (f:TypeId->Option (List LK)):Nat->List Field->Option (List LK)
 | _,[]=>some []
 | off, x :: xs => if x.offset = off /\ x.name ≠ "_" /\ (P.info? x.type).isSome = true then (match f x.type, Ha P f (off + P.cellsOf x.type) xs with
   | some a,some b=>if a.length=P.cellsOf x.type then some (a++b) else none
   | _,_=>none) else none
def Ik(P:Program):Nat->TypeId->Option (List LK)
 |0,_=>none
 |n+1,t=>match P.underlying t with
  |some (.int _)=>some [.int]
  |some .bool=>some [.bool]
  |some .string=>some [.str]
  |some (.struct j)=>if P.stoodInHeld t=false then Ha P (Ik P n) 0 j.toList else none
  |_=>none
def aDG(P:Program)(t:TypeId):List LK:=if MZ P t=true/\P.eqGuardType P.depth t=false then(Ik P 8 t).getD []else[]
def fM(P:Program)(t:TypeId):Option TI:=
 match P.info? t,P.underlying t with
 |some i,some d=>match i.zero,TN P d with
  |some z,some k=>match Ru z.cells.toList with
   |some j=>if z.cells.size=i.size/\(ZS d=true\/i.size=1)then some { k:=k,size:=i.size,bytes:=i.bytes,zero:=j,cmp:=aDG P t,sl:=slP P t }else none
   |none=>none
  |_,_=>none
 |_,_=>none
structure TOk (P:Program) (t:TypeId) (ti:TI):Prop where
 ok:∃i d z,P.info? t=some i/\P.underlying t=some d/\i.zero=some z/\TN P d=some ti.k/\Ru z.cells.toList=some ti.zero/\z.cells.size=i.size/\i.size=ti.size/\i.bytes=ti.bytes/\(ZS d=true\/i.size=1)
 cmp:ti.cmp=aDG P t
 sl:ti.sl=slP P t
theorem eH{P:Program}{t:TypeId}{I:TI}(h:fM P t=some I):TOk P t I:=by unfold fM at h;split at h;(rename_i i d U J;split at h;(rename_i z k hz hk;split at h;(rename_i zs j;split at h;(rename_i C;simp at h;subst h;exact⟨⟨i,d,z,U,J,hz,hk,j,C.1,rfl,rfl,C.2⟩,rfl,rfl⟩);·cases h);·cases h);·cases h);·cases h
theorem ZU{v:Value}{c:SC}(h:aEo v=some c)(g:Gh)(j:Heap)(w:World):B3 g j w c v:=by
 unfold aEo at h
 split at h<;>cases h
 ·exact⟨[],wW,wb⟩
 ·exact⟨[],wW,wb⟩
 ·exact⟨[],wW,wb⟩
 ·rfl
theorem Hv:∀{vs:List Value} {cs:List SC},Ru vs=some cs->∀(g:Gh) (j:Heap) (w:World),aU g j w cs vs
 |[],cs,h,g,j,w=>by simp[Ru]at h;subst h;rfl
 |v::vs,cs,h,g,j,w=>by simp only[Ru]at h;split at h;(rename_i c I hc C;cases h;exact⟨v,vs,rfl,ZU hc g j w,Hv C g j w⟩);·cases h
theorem Zc(v:Value)(g:Gh)(j:Heap)(w:World):yM g j w (cst v) v:=by unfold cst;split;(exact⟨_,[],rfl,⟨[],wW,wb⟩,rfl⟩);(exact⟨_,[],rfl,⟨[],wW,wb⟩,rfl⟩);(exact⟨_,[],rfl,⟨[],wW,wb⟩,rfl⟩);(exact⟨_,[],rfl,rfl,rfl⟩);·trivial
def Qj(l:Option Nat)(h:Heap)(g:Gh):Prop:=∀b,l=some b->1<=(h 7059000).1/\∀t j,h 7059000=(1,.box t j)->g.val 7059000=.pointer (some ⟨b,0,none⟩)
theorem Qj.turn{g g':Gh}{h C:Heap}{w w':World}{l:Option Nat}(T:mA g g' h C w w')(U:Qj l h g):Qj l C g':=λb hb=>by
 obtain⟨h1,h2⟩:=U b hb
 have h3:=T.ver 7059000
 refine⟨wg,λt J I=> ?_⟩
 have h4:(C 7059000).1=1:=by rw[I]
 obtain⟨h5,j,h6⟩:=T.box 7059000 t J wg (by rw[I])
 rw[h5]
 refine h2 t j ?_
 have h7:(h 7059000).1=1:=by omega
 rw[<-h7,<-h6]
structure nV (P:Program) (base:Nat) (w0:W0) (N:Nat) (g:Gh) (s:St) (a:Act) (w:World) (pool:List Nat):Prop where
 defers:a.defers=[]
 size:a.tmps.size=N
 below:Below w0.Q.fb w0.w w
 q:(∀b,g.Q b->w0.Q b)/\g.Q.fb=w0.Q.fb/\Qj w0.Q.lent s.h g
 B8:∀b,w0.K b->g.S b/\w.heap[b]? =w0.w.heap[b]?
 inv:Inv base g s.h w pool
 tmp:∀t,yM g s.h w (s.t t) (a.tmps.getD t undef)
 lab:g.Q.L=w0.Q.L/\(w0.Q.L=slP P\/w0.Q.L=WX)
 frm:∀i,yM g s.h w (s.fr i) (w0.fv i)
def Rel(P:Program)(base:Nat)(j:W0)(N:Nat)(s:St)(a:Act)(w:World):Prop:=∃g,nV P base j N g s a w []
section
variable {P:Program}{base N:Nat}{w0:W0}{w:World}{g:Gh}{s:St}{a:Act}{pool:List Nat}{K:St->Prop}
theorem cN(R:nV P base w0 N g s a w pool){x:Operand}{k:SV->Prog}(h:ex P (vOp x k) s K):∃j,yM g s.h w j (a.eval x)/\ex P (k j) s K:=by
 cases x with
 |tmp t=>exact⟨s.t t,R.tmp t,h⟩
 |const c=>exact⟨cst c,Zc c g s.h w,h⟩
 |func f=>exact⟨.v false [.dat (.fn f [])],⟨_,[],rfl,⟨[],jl,wb⟩,rfl⟩,h⟩
 |global C=>exact h.elim
theorem Vd{a:Act}{N d t:Nat}{v:Value}(I:a.tmps.size=N)(C:d<N):(a.put (some d) v).tmps.getD t undef=if t=d then v else a.tmps.getD t undef:=by
 simp only[Act.put,jN,Array.getElem?_setIfInBounds]
 by_cases h:d=t
 ·subst h;simp[I,C]
 ·have j:¬t=d:=λe=>h e.symm
  simp[h,j]
theorem Eo(R:nV P base w0 N g s a w pool){j:Option Tmp}{sv:SV}{v:Value}(J:yM g s.h w sv v)(h:ex P (put N j sv) s K):∃C,K C/\nV P base w0 N g C (a.put j v) w pool:=by
 cases j with
 |none=>exact⟨s,h,R⟩
 |some d=>
  unfold put at h
  simp only at h
  split at h
  ·rename_i I;refine⟨s.Ix d sv,h,⟨R.defers,by simp[Act.put,R.size],R.below,R.q,R.B8,R.inv,λt=> ?_,R.lab,R.frm⟩⟩;rw[Vd R.size I,St.M9];by_cases ht:t=d;(simp only[ht,jI];exact J);·simp only[ht,jH];exact R.tmp t
  ·exact h.elim
theorem Inv.forget{h:Heap}(I:Inv base g h w pool):Inv base g h w []:=
 ⟨I.base_le,I.S_old,I.S_lt,I.obj,I.mtb,I.inj,I.dis,Ck.nil _ _,wb,λ_ _ _ _=>by simp,I.fb⟩
theorem nV.forget(R:nV P base w0 N g s a w pool):nV P base w0 N g s a w []:=⟨R.defers,R.size,R.below,R.q,R.B8,R.inv.forget,R.tmp,R.lab,R.frm⟩
theorem nV.fbb(R:nV P base w0 N g s a w pool):w0.Q.fb<=base:=R.q.2.1 ▸ R.inv.fb
theorem nV.bel(R:nV P base w0 N g s a w pool){w':World}(h:Below base w w'):Below w0.Q.fb w0.w w':=R.below.trans (h.mono R.fbb)
theorem nV.turn{g':Gh}{s':St}{w':World}{pool':List Nat}(R:nV P base w0 N g s a w pool)(T:mA g g' s.h s'.h w w')(ht:s'.t=s.t)(hb:Below w0.Q.fb w0.w w')(hI:Inv base g' s'.h w' pool')(hfr:s'.fr=s.fr:=by rfl):nV P base w0 N g' s' a w' pool':=
 ⟨R.defers,R.size,hb,⟨by rw[T.Q];exact R.q.1,by rw[T.Q];exact R.q.2.1,R.q.2.2.turn T⟩,λb hb=>⟨T.S b (R.B8 b hb).1,(T.Sw b (R.B8 b hb).1).trans (R.B8 b hb).2⟩,hI,λt=>by rw[ht];exact(R.tmp t).turn T,by rw[T.Q];exact R.lab,λi=>by rw[hfr];exact(R.frm i).turn T⟩
theorem Mg{d:D}{v:Value}{F:List Nat}(h:Rep w d v F)(j:d.flat=true):F=[]:=by cases d<;>simp[D.flat]at j<;>simp only[Rep]at h<;>exact h.2
theorem E4.flat{L:TL}{w:World}{d:D}{t:Option (TypeId×Nat)}{v:Value}{F:List Nat}(h:Rep w d v F)(j:d.flat=true):E4 L w d t v F:=by cases d<;>simp[D.flat]at j<;>simp only[Rep]at h<;>simp only[E4]<;>exact h
theorem cM.flat{L:TL}{w:World}:∀{ds:List D} {ts:Lb} {vs:List Value} {F:List Nat},aM w ds vs F->ds.all D.flat=true->cM L w ds ts vs F
 |[],ts,vs,F,h,_=>by simp only[aM]at h;simp only[cM];exact h
 |d::ds,ts,vs,F,h,j=>by simp only[List.all_cons,qM]at j;simp only[aM]at h;obtain⟨v,C,I,J,h1,h2,h3,h4⟩:=h;simp only[cM];exact⟨v,C,I,J,h1,h2,E4.flat h3 j.1,cM.flat h4 j.2⟩
theorem nQ.flat{L:TL}{w:World}:∀{xs:List (List D)} {e:TypeId} {vs:List Value} {F:List Nat},bC w xs vs F->(∀x∈xs,x.all D.flat=true)->nQ L w xs e vs F
 |[],e,vs,F,h,_=>by simp only[bC]at h;simp only[nQ];exact h
 |x::xs,e,vs,F,h,j=>by simp only[bC]at h;obtain⟨U,v2,C,I,h1,h2,h3,h4⟩:=h;simp only[nQ];exact⟨U,v2,C,I,h1,h2,cM.flat h3 (j x wb),nQ.flat h4 λy J=>j y (by simp[J])⟩
theorem dR.flat{L:TL}{m:Bool}{w:World}{xs:List (List D)}{e:TypeId}{vs:List Value}{F:List Nat}(h:bC w xs vs F)(j:∀x∈xs,x.all D.flat=true):dR L m w e xs vs F:=by
 cases m with
 |true=>exact nQ.flat h j
 |false=>exact h
theorem nQ.toL(R:nV P base w0 N g s a w pool){xs:List (List D)}{e:TypeId}{vs:List Value}{F:List Nat}(h:nQ (slP P) w xs e vs F):nQ g.Q.L w xs e vs F:=by rw[R.lab.1];rcases R.lab.2 with hl|hl;(rw[hl];exact h);·rw[hl];exact nQ.TU h.rep
theorem cM.toL(R:nV P base w0 N g s a w pool){C:TI}{e:TypeId}(j:fM P e=some C)(off:Nat){ds:List D}{vs:List Value}{F:List Nat}(h:cM g.Q.L w ds (C.sl.drop off) vs F):cM g.Q.L w ds ((g.Q.L e).drop off) vs F:=by
 rcases R.lab.2 with hl|hl
 ·have:g.Q.L e=C.sl:=by rw[R.lab.1,hl];exact(eH j).sl.symm
  rw[this];exact h
 ·have:g.Q.L e=[]:=by rw[R.lab.1,hl];rfl
  rw[this,List.drop_nil];exact cM.none h.rep
theorem Hr:∀{cs:List SC} {ts:Lb} {vs:List Value} {k:List D->Bool->Prog} {g:Gh} {s:St} {pool:List Nat},nV P base w0 N g s a w pool->aU g s.h w cs vs->ex P (DD cs ts k) s K->
  ∃g' U ds b F pool',ex P (k ds b) U K/\nV P base w0 N g' U a w pool'/\mA g g' s.h U.h w w/\U.t=s.t/\aM w ds vs F/\(∀x∈F,g'.S x)/\(b=true->pool'=pool++F/\cM g.Q.L w ds ts vs F)
 |[],ts,vs,k,g,s,pool,R,hc,h=>⟨g,s,[],true,[],pool,h,R,mA.refl _ _ _,rfl,by simp only[aM];exact⟨hc,trivial⟩,wb,λ_=>⟨wb,by simp only[cM];exact⟨hc,trivial⟩⟩⟩
 | .dat d::cs,ts,vs,k,g,s,pool,R,hc,h=>by obtain⟨v,C,rfl,⟨F1,h1,h2⟩,h3⟩:=hc;obtain⟨g',U,ds,b,F,pool',h4,h5,h6,I,h7,h8,h9⟩:=Hr R h3 h;refine⟨g',U,d::ds,d.flat&&b,F1++F,pool',h4,h5,h6,I,?_,?_,?_⟩;(simp only[aM];exact⟨v,C,F1,F,rfl,rfl,h1,h7⟩);(intro x J;rcases qP.1 J with J|J;(exact h6.S x (h2 x J));·exact h8 x J);·intro hb;simp at hb;have e0:=Mg h1 hb.1;subst e0;refine⟨by rw[jP];exact(h9 hb.2).1,?_⟩;simp only[cM];exact⟨v,C,[],F,rfl,rfl,E4.flat h1 hb.1,(h9 hb.2).2⟩
 | .nil::cs,ts,vs,k,g,s,pool,R,hc,h=>by
  obtain⟨v,C,rfl,h1,h3⟩:=hc
  obtain⟨g',U,ds,b,F,pool',h4,h5,h6,I,h7,h8,h9⟩:=Hr R h3 h
  refine⟨g',U,.sl []::ds,_,F,pool',h4,h5,h6,I,?_,h8,λhb=> ?_⟩
  ·simp only[aM];refine⟨v,C,[],F,rfl,rfl,?_,h7⟩;simp only[Rep];exact⟨none,0,0,h1,rfl,qg _,.inl wb⟩
  ·refine⟨(h9 hb).1,?_⟩
   simp only[cM]
   refine⟨v,C,[],F,rfl,rfl,?_,(h9 hb).2⟩
   cases lab ts with
   |none=>simp only[E4,Rep];exact⟨none,0,0,h1,rfl,qg _,.inl wb⟩
   |some t=>simp only[E4];exact⟨[],[],by rw[h1];exact World.ownsRow_nil w 0 t.1 t.2,wb,by rw[h1];rfl,wU⟩
 | .row i ver::cs,ts,vs,k,g,s,pool,R,hc,h=>by
  obtain⟨v,C,rfl,⟨h0,h1,h2⟩,h3⟩:=hc
  simp only[DD,ex]at h
  split at h
  ·rename_i e sz xs dp ho
   split at h
   ·rename_i hv
    have hval:=h2 hv e sz xs dp ho
    obtain⟨S',F1,hS,_,hr,hst,_,hF,hn,hI⟩:=R.inv.take ho
    have T:mA g { g with S:=S' } s.h (pZ s.h i ((s.h i).1,.none)) w w:=mA.drop i S' hS
    rw[hv]at T hI
    have R':nV P base w0 N { g with S:=S' } (s.fL i (ver,.none)) a w (if dp then pool++F1 else pool):=R.turn T rfl R.below hI
    obtain⟨g',U,ds,b,F,pool',h4,h5,h6,I,h7,h8,h9⟩:=Hr R' (h3.turn T) h
    refine⟨g',U,.sl xs::ds,_,F1++F,pool',h4,h5,?_,I,?_,?_,?_⟩
    ·exact⟨λb x=>h6.S b (hS b x),λb x=>rfl,λj=>qh (T.ver j) (h6.ver j),
      λj e sz xs dp hj hr=>by have v1:=T.ver j;have v2:=h6.ver j;obtain⟨e1,x1,d1,r1⟩:=h6.row j e sz xs dp jm hr;obtain⟨e2,x2,d2,r2⟩:=T.row j e sz x1 d1 jm r1;exact⟨e1.trans e2,x2,d2,r2⟩,
      λj t cs hj hr=>by have v1:=T.ver j;have v2:=h6.ver j;obtain⟨e1,x1,r1⟩:=h6.box j t cs jm hr;obtain⟨e2,x2,r2⟩:=T.box j t x1 jm r1;exact⟨e1.trans e2,x2,r2⟩,h6.Q.trans T.Q⟩
    ·simp only[aM];exact⟨v,C,F1,F,rfl,rfl,hval ▸ hr,h7⟩
    ·intro x J;rcases qP.1 J with J|J;(exact h6.S x (hF x J));·exact h8 x J
    ·intro hb;split at hb;(rename_i hl;simp at hb;refine⟨by rw[(h9 hb.2).1,hb.1];simp,?_⟩;simp only[cM];exact⟨v,C,F1,F,rfl,rfl,by rcases hl with hl|hl;rw[hl,hval];exact E4.none hr;rw[hl,hval];exact hst hb.1,(h9 hb.2).2⟩);·cases hb
   ·exact h.elim
  ·exact h.elim
 | .bp _ _ _::_,_,_,_,_,_,_,_,_,h=>h.elim
 | .rp _ _ _ _::_,_,_,_,_,_,_,_,_,h=>h.elim
 | .clo _ _::_,_,_,_,_,_,_,_,_,h=>h.elim
 | .old _ _ _::_,_,_,_,_,_,_,_,_,h=>h.elim
 | .part _ _ _ _::_,_,_,_,_,_,_,_,_,h=>h.elim
 | .exa _ _ _::_,_,_,_,_,_,_,_,_,h=>h.elim
theorem Rt{L:TL}{dp:Bool}{e:TypeId}{xs:List (List D)}{cells:List Value}{G:List Nat}{sz lo n:Nat}(hr:dR L dp w e xs cells G)(hx:∀x∈xs,x.length=sz)(hln:n=0\/lo+n<=xs.length):
  ∃C I c3 J U F3,cells=C++(I++c3)/\G=J++(U++F3)/\(lo<=xs.length->C.length=lo*sz)/\I.length=n*sz/\dR L dp w e (xs.take lo) C J/\dR L dp w e ((xs.drop lo).take n) I U/\dR L dp w e (xs.drop (lo+n)) c3 F3:=by
 have hs:xs=xs.take lo++((xs.drop lo).take n++xs.drop (lo+n)):=by rw[<-List.drop_drop,qo,qo]
 rw[hs]at hr
 obtain⟨C,v2,J,G2,rfl,rfl,r1,r2⟩:=dR.split hr
 obtain⟨I,c3,U,F3,rfl,rfl,r3,r4⟩:=dR.split r2
 refine⟨C,I,c3,J,U,F3,rfl,rfl,?_,?_,r1,r3,r4⟩
 ·intro h;·rw[bC.length r1.rep λx j=>hx x (qk j),qV,jW wg]
 ·rw[bC.length r3.rep λx j=>hx x (qv (qk j)),qV,qW];congr 1;rcases hln with h|h<;>omega
theorem Yw{b off:Nat}{c1 c2 c3:List Value}(h:Ee w b off (c1++(c2++c3))):Ee w b (off+c1.length) c2:=by intro j u C;rw[jA];refine h (c1.length+j) u ?_;rw[qz wg,Nat.add_sub_cancel_left];have I:j<c2.length:=(qe.1 C).1;rw[qy I];exact C
theorem Ng{e:TypeId}{sz n:Nat}{v:Value}{xs ys:List Value}(h:w.ownsRow base e sz v n xs)(k:w.ownsRow base e sz v n ys):xs=ys:=by rcases h.2 with⟨e1,J⟩|⟨gg,cap,I,e1,e2,e3,e4,e5,e6,e7⟩;(have j:=h.1;have C:=k.1;rw[J]at j C;rw[ql (by omega:xs.length=0),ql (by omega:ys.length=0)]);·rcases k.2 with⟨f1,_⟩|⟨U,cap',cur',f1,f2,f3,f4,f5,f6,f7⟩;(rw[e1]at f1;cases f1);·rw[e1]at f1;cases f1;rw[e3]at f3;cases f3;exact e7.symm.trans f7
theorem N0(I:Inv base g s.h w pool){i ver lo n:Nat}{v:Value}{e:TypeId}{sz:Nat}{xs:List (List D)}{dp:Bool}(hc:B3 g s.h w (.part i ver lo n) v)(hv:(s.h i).1=ver)(ho:(s.h i).2=.row e sz xs dp):
  ∃U c,v=.slice U n c/\n<=c/\(n=0\/lo+n<=xs.length)/\(n=0 \/∃b cells,U=some ⟨b,lo*sz,none⟩/\b<w.heap.size/\w.ownsRow base e sz (g.val i) xs.length cells/\Ee w b 0 cells)/\(lo=0->∃m,g.val i=.slice U m c/\n<=m):=by
 obtain⟨h0,h1,h2⟩:=hc
 obtain⟨U,c,rfl,k2,C,k4⟩:=h2 hv e sz xs dp ho
 have hob:=I.obj i
 rw[ho]at hob
 obtain⟨cells,J,p2,p3,p4,p5⟩:=hob
 refine⟨U,c,rfl,k2,?_,?_,k4⟩
 ·rcases C with C|⟨b,m,c',k5,k6,k7⟩;(exact .inl C);·right;rcases J.2 with⟨e1,_⟩|⟨gg,cap,cur,e1,_⟩;(rw[k5]at e1;cases e1);·rw[k5]at e1;cases e1;exact k6
 ·rcases C with C|⟨b,m,c',k5,k6,k7⟩;(exact .inl C);·right;rw[k5]at J;rcases J.2 with⟨e1,_⟩|⟨gg,cap,cur,e1,e2,e3,e4,e5,e6,e7⟩;(cases e1);·cases e1;refine⟨_,cells,k7,(qm.1 e3).1,by rw[k5];exact J,λj u hu=> ?_⟩;have hj:j<cells.length:=(qe.1 hu).1;rw[qp,J.cellAt j (by rw[<-J.1];exact hj)];exact hu
theorem Js(I:Inv base g s.h w pool){i:Nat}{e:TypeId}{sz:Nat}{xs:List (List D)}{dp:Bool}(j:(s.h i).2=.row e sz xs dp):∃F,Rep w (.sl xs) (g.val i) F:=by obtain⟨_,F,_,_,C,_⟩:=I.take j;exact⟨F,C⟩
theorem IQ(I:Inv base g s.h w pool):∀{cs:List SC} {vs:List Value} {k:List D->Prog},aU g s.h w cs vs->ex P (Ht cs k) s K->∃ds F,aM w ds vs F/\ex P (k ds) s K
 |[],vs,k,hc,h=>⟨[],[],by simp only[aM];exact⟨hc,trivial⟩,h⟩
 | .dat d::cs,vs,k,hc,h=>by obtain⟨v,j,rfl,⟨C,h1,h2⟩,h3⟩:=hc;obtain⟨ds,F,h4,h5⟩:=IQ I h3 h;exact⟨d::ds,C++F,by simp only[aM];exact⟨v,j,C,F,rfl,rfl,h1,h4⟩,h5⟩
 | .old B d u::cs,vs,k,hc,h=>by obtain⟨v,j,rfl,⟨C,h1,h2,_⟩,h3⟩:=hc;obtain⟨ds,F,h4,h5⟩:=IQ I h3 h;exact⟨d::ds,C++F,by simp only[aM];exact⟨v,j,C,F,rfl,rfl,h1,h4⟩,h5⟩
 | .nil::cs,vs,k,hc,h=>by obtain⟨v,j,rfl,h1,h3⟩:=hc;obtain⟨ds,F,h4,h5⟩:=IQ I h3 h;refine⟨.sl []::ds,F,?_,h5⟩;simp only[aM];refine⟨v,j,[],F,rfl,rfl,?_,h4⟩;simp only[Rep];exact⟨none,0,0,h1,rfl,qg _,.inl wb⟩
 | .row i ver::cs,vs,k,hc,h=>by obtain⟨v,j,rfl,⟨h0,h1,h2⟩,h3⟩:=hc;simp only[Ht,ex]at h;split at h;(rename_i e sz U dp J;split at h;(rename_i hv;have hval:=h2 hv e sz U dp J;obtain⟨C,hr⟩:=Js I J;obtain⟨ds,F,h4,h5⟩:=IQ I h3 h;exact⟨.sl U::ds,C++F,by simp only[aM];exact⟨v,j,C,F,rfl,rfl,hval ▸ hr,h4⟩,h5⟩);·exact h.elim);·exact h.elim
 | .bp _ _ _::_,_,_,_,h=>h.elim
 | .rp _ _ _ _::_,_,_,_,h=>h.elim
 | .clo _ _::_,_,_,_,h=>h.elim
 | .part _ _ _ _::_,_,_,_,h=>h.elim
 | .exa _ _ _::_,_,_,_,h=>h.elim
theorem Oi(I:Inv base g s.h w pool){i ver off:Nat}{v:Value}{k:List D->Prog}(hc:L2 g s.h (i,ver,off) v)(h:ex P (Ju i ver off k) s K):
  ∃ds F,Rep w (.ptr ds) v F/\ex P (k ds) s K:=by
 simp only[Ju,ex]at h
 split at h
 ·rename_i t cells ho
  split at h
  ·rename_i hv
   obtain⟨b,h1,h2⟩:=hc.2 hv t cells ho
   have C:=I.obj i
   rw[ho]at C
   obtain⟨J,vals,h3,h4,h5,h6⟩:=C
   have U:J=b:=by rw[h1]at h3;simp at h3;exact h3.symm
   subst U
   obtain⟨ds,F,h7,h8⟩:=IQ I (h6.drop off) h
   refine⟨ds,J::F,?_,h8⟩
   simp only[Rep]
   refine⟨J,off,vals.toList.drop off,F,h2,(qm.1 h5).1,rfl,?_,h7⟩
   intro j u hu
   rw[cell_of_row w J _ vals t (0,0) h5]
   simpa using hu
  ·exact h.elim
 ·exact h.elim
theorem IP(I:Inv base g s.h w pool):∀{cs:List (Nat×Nat×Nat)} {vs:List Value} {k:List D->Prog},FZ g s.h cs vs->ex P (GI cs k) s K->∃ds F,aM w ds vs F/\ex P (k ds) s K
 |[],vs,k,hc,h=>⟨[],[],by simp only[aM];exact⟨hc,trivial⟩,h⟩
 |(i,ver,C)::cs,vs,k,hc,h=>by obtain⟨v,j,rfl,h1,h3⟩:=hc;obtain⟨ds,F,h4,h5⟩:=Oi I h1 h;obtain⟨es,G,h6,h7⟩:=IP I h3 h5;exact⟨.ptr ds::es,F++G,by simp only[aM];exact⟨v,j,F,G,rfl,rfl,h4,h6⟩,h7⟩
theorem Da(I:Inv base g s.h w pool):∀{cs:List SC} {vs:List Value} {k:List D->Prog},aU g s.h w cs vs->ex P (DB cs k) s K->∃ds F,aM w ds vs F/\ex P (k ds) s K
 |[],vs,k,hc,h=>⟨[],[],by simp only[aM];exact⟨hc,trivial⟩,h⟩
 | .dat d::cs,vs,k,hc,h=>by obtain⟨v,C,rfl,⟨J,h1,h2⟩,h3⟩:=hc;obtain⟨ds,F,h4,h5⟩:=Da I h3 h;exact⟨d::ds,J++F,by simp only[aM];exact⟨v,C,J,F,rfl,rfl,h1,h4⟩,h5⟩
 | .nil::cs,vs,k,hc,h=>by obtain⟨v,C,rfl,h1,h3⟩:=hc;obtain⟨ds,F,h4,h5⟩:=Da I h3 h;refine⟨.sl []::ds,F,?_,h5⟩;simp only[aM];refine⟨v,C,[],F,rfl,rfl,?_,h4⟩;simp only[Rep];exact⟨none,0,0,h1,rfl,qg _,.inl wb⟩
 | .row i ver::cs,vs,k,hc,h=>by obtain⟨v,C,rfl,⟨h0,h1,h2⟩,h3⟩:=hc;simp only[DB,ex]at h;split at h;(rename_i e sz xs dp ho;split at h;(rename_i hv;have hval:=h2 hv e sz xs dp ho;obtain⟨J,hr⟩:=Js I ho;obtain⟨ds,F,h4,h5⟩:=Da I h3 h;exact⟨.sl xs::ds,J++F,by simp only[aM];exact⟨v,C,J,F,rfl,rfl,hval ▸ hr,h4⟩,h5⟩);·exact h.elim);·exact h.elim
 | .bp i ver off::cs,vs,k,hc,h=>by obtain⟨v,C,rfl,⟨h0,h1⟩,h3⟩:=hc;obtain⟨ds,F,h4,h5⟩:=Oi I h1 h;obtain⟨es,G,h6,h7⟩:=Da I h3 h5;exact⟨.ptr ds::es,F++G,by simp only[aM];exact⟨v,C,F,G,rfl,rfl,h4,h6⟩,h7⟩
 | .rp _ _ _ _::_,_,_,_,h=>h.elim
 | .clo f caps::cs,vs,k,hc,h=>by obtain⟨v,C,rfl,⟨us,h0,h1⟩,h3⟩:=hc;obtain⟨ds,F,h4,h5⟩:=IP I h1 h;obtain⟨es,G,h6,h7⟩:=Da I h3 h5;refine⟨.fn f ds::es,F++G,?_,h7⟩;simp only[aM];refine⟨v,C,F,G,rfl,rfl,?_,h6⟩;simp only[Rep];exact⟨us,h0,h4⟩
 | .old B d u::cs,vs,k,hc,h=>by obtain⟨v,C,rfl,⟨J,h1,h2,_⟩,h3⟩:=hc;obtain⟨ds,F,h4,h5⟩:=Da I h3 h;exact⟨d::ds,J++F,by simp only[aM];exact⟨v,C,J,F,rfl,rfl,h1,h4⟩,h5⟩
 | .exa W d x::cs,vs,k,hc,h=>by obtain⟨v,C,rfl,⟨rfl,J,h1,h2⟩,h3⟩:=hc;obtain⟨ds,F,h4,h5⟩:=Da I h3 h;exact⟨d::ds,J++F,by simp only[aM];exact⟨v,C,J,F,rfl,rfl,Rep.B8 _ _ _ h1 λb hb=>(h2 b hb).2,h4⟩,h5⟩
 | .part i ver lo n::cs,vs,k,hc,h=>by obtain⟨v,C,rfl,hp,h3⟩:=hc;simp only[DB,ex]at h;split at h;(rename_i e sz xs dp ho;split at h;(rename_i hv;obtain⟨ad,c,rfl,q1,q2,U,_⟩:=N0 I hp hv ho;have hob:=I.obj i;rw[ho]at hob;obtain⟨cells,p1,p2,p3,p4,p5⟩:=hob;obtain⟨c1,c2,c3,J,F2,F3,rfl,hG,m1,m2,m3,m4,m5⟩:=Rt (lo:=lo) (n:=n) p3 p2 q2;obtain⟨ds,F,h4,h5⟩:=Da I h3 h;rcases U with U|⟨b,cells',U,q4,q5,q6⟩;(refine⟨.sl ((xs.drop lo).take n)::ds,[]++F,?_,h5⟩;simp only[aM];refine⟨_,C,[],F,rfl,rfl,?_,h4⟩;simp only[Rep];exact⟨ad,n,c,rfl,by rw[U];simp,q1,.inl ⟨U,trivial⟩⟩);·have hcc:cells'=c1++(c2++c3):=Ng q5 p1;subst hcc;refine⟨.sl ((xs.drop lo).take n)::ds,(b::F2)++F,?_,h5⟩;simp only[aM];refine⟨_,C,b::F2,F,rfl,rfl,?_,h4⟩;simp only[Rep];by_cases hn:n=0;(refine⟨ad,n,c,rfl,by rw[hn];simp,q1,.inr ⟨b,lo*sz,c2,sz,F2,U,q4,rfl,?_,m2,λx hx=>p2 x (qv (qk hx)),m4.rep⟩⟩;have:c2=[]:=ql (by rw[m2,hn];simp);subst this;intro j u hu;simp at hu);·have hlo:lo+n<=xs.length:=q2.resolve_left hn;refine⟨ad,n,c,rfl,by rw[qV,qW];omega,q1,.inr ⟨b,lo*sz,c2,sz,F2,U,q4,rfl,?_,m2,λx hx=>p2 x (qv (qk hx)),m4.rep⟩⟩;have:=Yw q6;rw[m1 wg,qp]at this;exact this);·exact h.elim);·exact h.elim
theorem Gv(R:nV P base w0 N g s a w pool):∀{xs:List Operand} {k:List (Bool×List D)->Prog},ex P (HR xs k) s K->∃as F,AU w (xs.map a.eval) as F/\ex P (k as) s K
 |[],k,h=>⟨[],[],rfl,h⟩
 |x::xs,k,h=>by
  obtain⟨sv,h1,h2⟩:=cN R h
  cases sv with
  |v I cs=>
   simp only at h2
   cases I with
   |false=>
    obtain⟨ds,F,h3,h4⟩:=Da R.inv h1 h2
    obtain⟨as,j,h5,h6⟩:=Gv R h4
    refine⟨(false,ds)::as,_,⟨F,j,rfl,?_,h5⟩,h6⟩
    have J:=h3.length
    match ds,h3,J with
    |[d],h3,_=>
     simp only[aM]at h3
     obtain⟨v,vs',F1,F2,e1,rfl,h7,_,rfl⟩:=h3
     simp at e1
     rw[qY]
     exact⟨d,rfl,e1.1 ▸ h7⟩
   |true=>
    obtain⟨C,U,hc⟩:=h1
    obtain⟨ds,F,h3,h4⟩:=Da R.inv hc h2
    obtain⟨as,j,h5,h6⟩:=Gv R h4
    exact⟨(true,ds)::as,_,⟨F,j,rfl,⟨C,U,h3⟩,h5⟩,h6⟩
  |unk=>exact h2.elim
  |undef=>exact h2.elim
  |tup C=>exact h2.elim
theorem Wx{j vj:Nat}{e:TypeId}{sz:Nat}{xs:List (List D)}{dp:Bool}(R:nV P base w0 N g s a w [])(h2:s.h j=(vj,.row e sz xs dp)):
  ∃U,nV P base w0 N U (s.fL j (vj,.none)) a w []/\mA g U s.h (s.fL j (vj,.none)).h w w/\∀v,B3 g s.h w (.row j vj) v->∃F,Rep w (.sl xs) v F/\∀b∈F,U.S b:=by
 have C:(s.h j).1=vj:=by rw[h2]
 have I:(s.h j).2=.row e sz xs dp:=by rw[h2]
 obtain⟨S',F,hS,_,hrep,_,_,hF,_,I1⟩:=R.inv.take I
 have J:=mA.drop (g:=g) (h:=s.h) (w:=w) j S' hS
 rw[C]at I1 J
 refine⟨_,R.turn J rfl R.below I1.forget,J,?_⟩
 rintro v ⟨h0,_,hv⟩
 have e1:v=g.val j:=hv C e sz xs dp I
 subst e1
 exact⟨F,hrep,hF⟩
theorem mA.id(g:Gh)(h:Heap)(w:World):mA g g h h w w:=mA.refl g h w
theorem Hy:∀{cs:List SC} {vs:List Value} {k:List D->Prog} {g:Gh} {s:St},nV P base w0 N g s a w []->aU g s.h w cs vs->ex P (Mm cs k) s K->
  ∃C J ds F,nV P base w0 N C J a w []/\(∀b,g.S b->C.S b)/\aM w ds vs F/\(∀b∈F,C.S b)/\ex P (k ds) J K
 |[],vs,k,g,s,R,hc,h=>⟨g,s,[],[],R,λ_ x=>x,by simp only[aM];exact⟨hc,trivial⟩,wb,h⟩
 | .dat d::cs,vs,k,g,s,R,hc,h=>by obtain⟨v,j,rfl,⟨U,h1,h2⟩,h3⟩:=hc;obtain⟨C,J,ds,F,R',I,h4,h5,h6⟩:=Hy R h3 h;refine⟨C,J,d::ds,U++F,R',I,by simp only[aM];exact⟨v,j,U,F,rfl,rfl,h1,h4⟩,λb hb=> ?_,h6⟩;rcases qP.1 hb with hb|hb;(exact I b (h2 b hb));·exact h5 b hb
 | .nil::cs,vs,k,g,s,R,hc,h=>by obtain⟨v,j,rfl,h1,h3⟩:=hc;obtain⟨C,J,ds,F,R',I,h4,h5,h6⟩:=Hy R h3 h;refine⟨C,J,.sl []::ds,F,R',I,?_,h5,h6⟩;simp only[aM];refine⟨v,j,[],F,rfl,rfl,?_,h4⟩;simp only[Rep];exact⟨none,0,0,h1,rfl,qg _,.inl wb⟩
 | .old B d u::cs,vs,k,g,s,R,hc,h=>by obtain⟨v,j,rfl,⟨U,h1,h2,_⟩,h3⟩:=hc;obtain⟨C,J,ds,F,R',I,h4,h5,h6⟩:=Hy R h3 h;refine⟨C,J,d::ds,U++F,R',I,by simp only[aM];exact⟨v,j,U,F,rfl,rfl,h1,h4⟩,λb hb=> ?_,h6⟩;rcases qP.1 hb with hb|hb;(exact I b (h2 b hb).1);·exact h5 b hb
 | .row i ver::cs,vs,k,g,s,R,hc,h=>by
  obtain⟨v,j,rfl,h1,h3⟩:=hc
  simp only[Mm,ex]at h
  split at h
  ·rename_i e sz xs dp ho
   split at h
   ·rename_i hv
    simp only[ex]at h
    have h2:s.h i=(ver,.row e sz xs dp):=by rw[<-hv,<-ho]
    obtain⟨g1,R1,T1,hf⟩:=Wx R h2
    obtain⟨U,k1,k2⟩:=hf v h1
    obtain⟨C,J,ds,F,R',I,h4,h5,h6⟩:=Hy R1 (h3.turn T1) h
    refine⟨C,J,.sl xs::ds,U++F,R',λb x=>I b (T1.S b x),by simp only[aM];exact⟨v,j,U,F,rfl,rfl,k1,h4⟩,λb hb=> ?_,h6⟩
    rcases qP.1 hb with hb|hb
    ·exact I b (k2 b hb)
    ·exact h5 b hb
   ·exact h.elim
  ·exact h.elim
 | .bp _ _ _::_,_,_,_,_,_,_,h=>h.elim
 | .rp _ _ _ _::_,_,_,_,_,_,_,h=>h.elim
 | .clo _ _::_,_,_,_,_,_,_,h=>h.elim
 | .part _ _ _ _::_,_,_,_,_,_,_,h=>h.elim
 | .exa _ _ _::_,_,_,_,_,_,_,h=>h.elim
theorem JR:∀{xs:List Operand} {k:List (Bool×List D)->Prog} {g:Gh} {s:St},nV P base w0 N g s a w []->ex P (OR xs k) s K->
  ∃g' s' as F,nV P base w0 N g' s' a w []/\(∀b,g.S b->g'.S b)/\AU w (xs.map a.eval) as F/\(∀b∈F,g'.S b)/\ex P (k as) s' K
 |[],k,g,s,R,h=>⟨g,s,[],[],R,λ_ x=>x,rfl,wb,h⟩
 |x::xs,k,g,s,R,h=>by
  obtain⟨sv,h1,h2⟩:=cN R h
  cases sv with
  |v ag cs=>
   simp only at h2
   cases ag with
   |false=>
    obtain⟨g1,s1,ds,F,R1,J,h3,C,h4⟩:=Hy R h1 h2
    obtain⟨g2,s2,as,U,R2,j,h5,I,h6⟩:=JR R1 h4
    refine⟨g2,s2,(false,ds)::as,_,R2,λb x=>j b (J b x),⟨F,U,rfl,?_,h5⟩,?_,h6⟩
    ·have hl:=h3.length
     match ds,h3,hl with
     |[d],h3,_=>
      simp only[aM]at h3
      obtain⟨v,vs',F1,F2,e1,rfl,h7,_,rfl⟩:=h3
      simp at e1
      rw[qY]
      exact⟨d,rfl,e1.1 ▸ h7⟩
    ·intro b hb;rcases qP.1 hb with hb|hb;(exact j b (C b hb));·exact I b hb
   |true=>
    obtain⟨vs,hv,hc⟩:=h1
    obtain⟨g1,s1,ds,F,R1,J,h3,C,h4⟩:=Hy R hc h2
    obtain⟨g2,s2,as,U,R2,j,h5,I,h6⟩:=JR R1 h4
    refine⟨g2,s2,(true,ds)::as,_,R2,λb x=>j b (J b x),⟨F,U,rfl,⟨vs,hv,h3⟩,h5⟩,?_,h6⟩
    intro b hb
    rcases qP.1 hb with hb|hb
    ·exact j b (C b hb)
    ·exact I b hb
  |unk=>exact h2.elim
  |undef=>exact h2.elim
  |tup vs=>exact h2.elim
end
theorem mA.trans{U g2 g3:Gh}{h1 h2 h3:Heap}{w1 w2 w3:World}(A:mA U g2 h1 h2 w1 w2)(B:mA g2 g3 h2 h3 w2 w3):mA U g3 h1 h3 w1 w3:=
 ⟨λb x=>B.S b (A.S b x),λb x=>(B.Sw b (A.S b x)).trans (A.Sw b x),λj=>qh (A.ver j) (B.ver j),
  λj e sz xs dp hj C=>by have v1:=A.ver j;have v2:=B.ver j;obtain⟨e1,x1,d1,I⟩:=B.row j e sz xs dp wg C;obtain⟨e2,x2,d2,J⟩:=A.row j e sz x1 d1 wg I;exact⟨e1.trans e2,x2,d2,J⟩,
  λj t cs hj C=>by have v1:=A.ver j;have v2:=B.ver j;obtain⟨e1,x1,I⟩:=B.box j t cs wg C;obtain⟨e2,x2,J⟩:=A.box j t x1 wg I;exact⟨e1.trans e2,x2,J⟩,B.Q.trans A.Q⟩
def PZ(g:Gh)(i:Nat)(v:Value)(F:List Nat):Gh:={ g with val:=Iw g.val i v,fp:=Iw g.fp i F }
theorem mA.create{g:Gh}{h:Heap}{w:World}(i:Nat)(v:Value)(F:List Nat)(o:E7):mA g (PZ g i v F) h (pZ h i ((h i).1+1,o)) w w:=by refine⟨λ_ x=>x,λ_ _=>rfl,λj=> ?_,λj e sz xs dp I J=> ?_,λj t cs I U=> ?_,rfl⟩;(by_cases I:j=i;(subst I;rw[bR];exact Nat.le_succ _);·rw[eE _ _ _ _ I];exact qg _);(by_cases C:j=i;(subst C;rw[bR]at I;simp at I);·rw[eE _ _ _ _ C]at J;exact⟨Ex _ _ _ _ C,xs,dp,J⟩);·by_cases C:j=i;(subst C;rw[bR]at I;simp at I);·rw[eE _ _ _ _ C]at U;exact⟨Ex _ _ _ _ C,cs,U⟩
theorem HT{h:Heap}{i j:Nat}{x:Nat×E7}(C:live (pZ h i x) j):j=i\/(j≠i/\live h j):=by by_cases hj:j=i;(exact .inl hj);·unfold live at*;rw[eE _ _ _ _ hj]at C;exact .inr ⟨hj,C⟩
theorem Gx{h:Heap}{i j:Nat}{x:Nat×E7}(C:kB (pZ h i x) j):j=i\/(j≠i/\kB h j):=by by_cases hj:j=i;(exact .inl hj);·unfold kB at*;rw[eE _ _ _ _ hj]at C;exact .inr ⟨hj,C⟩
section
variable {base:Nat}{g:Gh}{h:Heap}{w:World}{pool:List Nat}
def Hc(g:Gh)(h:Heap)(b:Nat):Prop:=¬g.S b/\∀j,live h j->Ds (g.val j)≠some b
theorem Inv.Td(I:Inv base g h w pool){i:Nat}{v:Value}{F:List Nat}{o:E7}{pool':List Nat}
  (ho:DQ base (PZ g i v F) (pZ h i ((h i).1+1,o)) w i o)(hfree:∀b,Ds v=some b->Hc g h b)
  (hpl:∀b∈pool',b∈pool)(hpn:pool'.Nodup)
  (hd:(∃e sz xs,o=.row e sz xs true)->∀b∈F,b∈pool/\b∉pool'):
  Inv base (PZ g i v F) (pZ h i ((h i).1+1,o)) w pool':=by
 have T:=mA.create (g:=g) (h:=h) (w:=w) i v F o
 have vi:(PZ g i v F).val i=v:=eM _ _ _
 have vn:∀j,j≠i->(PZ g i v F).val j=g.val j:=λj J=>Ex _ _ _ _ J
 have fi:(PZ g i v F).fp i=F:=eM _ _ _
 have fn:∀j,j≠i->(PZ g i v F).fp j=g.fp j:=λj J=>Ex _ _ _ _ J
 have hdi:kB (pZ h i ((h i).1+1,o)) i->∃e sz xs,o=.row e sz xs true:=by rintro⟨e,sz,xs,hh⟩;rw[bR]at hh;exact⟨e,sz,xs,hh⟩
 refine⟨I.base_le,I.S_old,I.S_lt,λj=> ?_,λj b hl hb=> ?_,λj k b hne hl hk hb C=> ?_,λj k hne J hk b hb C=> ?_,
  ⟨hpn,λb hb=>I.pool_own.2 b (hpl b hb)⟩,λb hb=>I.pool_S b (hpl b hb),λj J b hb C=> ?_,I.fb⟩
 ·by_cases J:j=i;(subst J;rw[bR];exact ho);·rw[eE _ _ _ _ J];exact DQ.turn T (vn j J) (fn j J) (λ_ _=>rfl) (I.obj j)
 ·rcases HT hl with rfl|⟨J,hl⟩;(rw[vi]at hb;exact(hfree b hb).1);·rw[vn j J]at hb;exact I.mtb j b hl hb
 ·rcases HT hl with rfl|⟨J,hl1⟩;(rcases HT hk with rfl|⟨U,hk1⟩;(exact hne rfl);·rw[vi]at hb;rw[vn k U]at C;exact(hfree b hb).2 k hk1 C);·rw[vn j J]at hb;rcases HT hk with rfl|⟨U,hk1⟩;(rw[vi]at C;exact(hfree b C).2 j hl1 hb);·rw[vn k U]at C;exact I.inj j k b hne hl1 hk1 hb C
 ·rcases Gx J with rfl|⟨hj',hj'd⟩;(rcases Gx hk with rfl|⟨U,hk'd⟩;(exact hne rfl);·rw[fi]at hb;rw[fn k U]at C;exact I.pool_dis k hk'd b C (hd (hdi J) b hb).1);·rw[fn j hj']at hb;rcases Gx hk with rfl|⟨U,hk'd⟩;(rw[fi]at C;exact I.pool_dis j hj'd b hb (hd (hdi hk) b C).1);·rw[fn k U]at C;exact I.dis j k hne hj'd hk'd b hb C
 ·rcases Gx J with rfl|⟨hj',hj'd⟩;(rw[fi]at hb;exact(hd (hdi J) b hb).2 C);·rw[fn j hj']at hb;exact I.pool_dis j hj'd b hb (hpl b C)
theorem Inv.Tj(I:Inv base g h w pool){i b:Nat}{vals:Array Value}{t:TypeId}{cells:List SC}(hb:base<=b)(C:Hc g h b)(J:w.heap[b]? =some (.cells vals t (0,0)))
  (hc:aU g h w cells vals.toList):Inv base (PZ g i (.pointer (some ⟨b,0,none⟩)) []) (pZ h i ((h i).1+1,.box t cells)) w pool:=
 I.Td ⟨b,vals,eM _ _ _,qh I.fb hb,J,hc.turn (mA.create i _ _ _)⟩ (λU j=>by simp[Ds]at j;subst j;exact C) (λ_ x=>x) I.pool_own.1 (by rintro⟨_,_,_,h⟩;cases h)
theorem Inv.FY(I:Inv base g h w pool){i:Nat}{v:Value}{e:TypeId}{sz:Nat}{xs:List (List D)}{dp:Bool}{cells:List Value}{F:List Nat}{pool':List Nat}(ho:w.ownsRow base e sz v xs.length cells)
  (hx:∀x∈xs,x.length=sz)(hr:dR g.Q.L dp w e xs cells F)(hF:∀b∈F,g.S b)(hf:∀b,Ds v=some b->Hc g h b)
  (U:∀b∈pool',b∈pool)(hpn:pool'.Nodup)(J:dp=true->F.Nodup/\∀b∈F,b∈pool/\b∉pool'):
  Inv base (PZ g i v F) (pZ h i ((h i).1+1,.row e sz xs dp)) w pool':=by
 have vi:(PZ g i v F).val i=v:=eM _ _ _
 have C:(PZ g i v F).fp i=F:=eM _ _ _
 refine I.Td ⟨cells,by rw[vi];exact ho,hx,by rw[C];exact hr,by rw[C];exact hF,λj=>by rw[C];exact⟨(J j).1,λb hb=>I.pool_own.2 b ((J j).2 b hb).1⟩⟩ hf U hpn ?_
 rintro⟨e',sz',xs',hh⟩
 cases hh
 exact(J rfl).2
theorem Inv.aE0(I:Inv base g h w pool){G:List Nat}(J:Ck base w G)(U:∀b∈G,Hc g h b):Inv base { g with S:=λb=>g.S b\/b∈G } h w (pool++G):=by
 have T:mA g { g with S:=λb=>g.S b\/b∈G } h h w w:=
  ⟨λ_ x=>.inl x,λ_ _=>rfl,λ_=>qg _,λi e sz xs dp _ hr=>⟨rfl,xs,dp,hr⟩,λi t cs _ hx=>⟨rfl,cs,hx⟩,rfl⟩
 have hin:∀i,kB h i->∀b∈g.fp i,g.S b:=by rintro i ⟨e,sz,xs,hh⟩ b hb;have:=I.obj i;rw[hh]at this;obtain⟨_,_,_,_,h4,_⟩:=this;exact h4 b hb
 refine⟨I.base_le,λb x hlt=>x.elim (λx=>I.S_old b x hlt) (λx=>absurd (J.2 b x).1 wg),?_,λj=>DQ.turn T rfl rfl (λ_ _=>rfl) (I.obj j),?_,I.inj,I.dis,⟨?_,?_⟩,?_,?_,I.fb⟩
 ·rintro b (hb|hb);(exact I.S_lt b hb);·exact(J.2 b hb).2.lt
 ·rintro j b hl hb (hS|hS);(exact I.mtb j b hl hb hS);·exact(U b hS).2 j hl hb
 ·rw[qt];refine⟨I.pool_own.1,J.1,?_⟩;rintro x hx y hy rfl;exact(U x hy).1 (I.pool_S x hx)
 ·intro b hb;rcases qP.1 hb with hb|hb;(exact I.pool_own.2 b hb);·exact J.2 b hb
 ·intro b hb;rcases qP.1 hb with hb|hb;(exact .inl (I.pool_S b hb));·exact .inr hb
 ·intro i hd b hb C;rcases qP.1 C with C|C;(exact I.pool_dis i hd b hb C);·exact(U b C).1 (hin i hd b hb)
theorem Inv.aEA(I:Inv base g h w pool){X:Nat->Prop}(J:∀b,X b->(g.S b\/base<=b)/\b<w.heap.size)(hf:∀b,X b->¬g.S b->Hc g h b):Inv base { g with S:=λb=>g.S b\/X b } h w pool:=by
 have T:mA g { g with S:=λb=>g.S b\/X b } h h w w:=
  ⟨λ_ x=>.inl x,λ_ _=>rfl,λ_=>qg _,λi e sz xs dp _ hr=>⟨rfl,xs,dp,hr⟩,λi t U _ hx=>⟨rfl,U,hx⟩,rfl⟩
 refine⟨I.base_le,λb x C=>x.elim (λx=>I.S_old b x C) (λx=>(J b x).1.elim (λy=>I.S_old b y C) (λy=>absurd y wg)),?_,λj=>DQ.turn T rfl rfl (λ_ _=>rfl) (I.obj j),?_,I.inj,I.dis,I.pool_own,λb hb=>.inl (I.pool_S b hb),I.pool_dis,I.fb⟩
 ·rintro b (hb|hb);(exact I.S_lt b hb);·exact(J b hb).2
 ·rintro j b hl hb (hS|hS);(exact I.mtb j b hl hb hS);·by_cases hs:g.S b;(exact I.mtb j b hl hb hs);·exact(hf b hS hs).2 j hl hb
theorem mA.aEA(g:Gh)(h:Heap)(w:World)(X:Nat->Prop):mA g { g with S:=λb=>g.S b\/X b } h h w w:=
 ⟨λ_ x=>.inl x,λ_ _=>rfl,λ_=>qg _,λi e sz U C _ I=>⟨rfl,U,C,I⟩,λi t j _ J=>⟨rfl,j,J⟩,rfl⟩
theorem mA.aE0(g:Gh)(h:Heap)(w:World)(G:List Nat):mA g { g with S:=λb=>g.S b\/b∈G } h h w w:=
 ⟨λ_ x=>.inl x,λ_ _=>rfl,λ_=>qg _,λi e sz U C _ I=>⟨rfl,U,C,I⟩,λi t j _ J=>⟨rfl,j,J⟩,rfl⟩
end
theorem S4{w:World}{b C:Nat}{e:TypeId}{sz n:Nat}{v:Value}{xs:List Value}(h:w.ownsRow b e sz v n xs)(hb:C<=b):w.ownsRow C e sz v n xs:=by refine⟨h.1,?_⟩;rcases h.2 with h1|⟨I,cap,j,h1,h2,h3⟩;(exact .inl h1);·exact .inr ⟨I,cap,j,h1,qh hb h2,h3⟩
section
variable {P:Program}{base N:Nat}{w0:W0}{w:World}{a:Act}{K:St->Prop}
theorem TO(s:St)(i:Nat)(x:Nat×E7):(s.fL i x).h=pZ s.h i x:=rfl
theorem CE{base1 d:Nat}{X:Nat->Prop}(hbb:base<=base1):∀{rs:List RC} {vs:List Value} {F:List Nat} {j:Nat} {k:List SC->Prog} {g:Gh} {s:St} {pool:List Nat},
  nV P base w0 N g s a w pool->tX (slP P) base1 w X vs rs F->Ck base w F->(∀b∈F,Hc g s.h b)->(rs.any RC.isAny=true->∀b,X b->g.S b)->ex P (AL d j rs k) s K->
  ∃g' U cs,ex P (k cs) U K/\nV P base w0 N g' U a w pool/\aU g' U.h w cs vs/\mA g g' s.h U.h w w/\U.t=s.t/\(∀b,b∉F->Hc g s.h b->Hc g' U.h b)
 |[],vs,F,j,k,g,s,pool,R,I,hF,hf,hX,h=>by
  cases vs with
  |nil=>exact⟨g,s,[],h,R,rfl,mA.refl _ _ _,rfl,λ_ _ x=>x⟩
  |cons v vs=>simp[tX]at I
 | .any x::rs,vs,F,j,k,g,s,pool,R,I,hF,hf,hX,h=>by
  cases vs with
  |nil=>simp[tX]at I
  |cons v vs=>
   simp only[tX]at I
   obtain⟨⟨G,hG1,hG2⟩,hr2⟩:=I
   obtain⟨g',U,cs,h1,h2,h3,h4,h5,h6⟩:=CE hbb R hr2 hF hf (λ_=>hX (by simp[RC.isAny])) h
   exact⟨g',U,.dat x::cs,h1,h2,⟨v,vs,rfl,B3.turn h4 ⟨G,hG1,λb hb=>hX (by simp[RC.isAny]) b (hG2 b hb)⟩,h3⟩,h4,h5,h6⟩
 | .ro x::rs,vs,F,j,k,g,s,pool,R,I,hF,hf,hX,h=>by
  cases vs with
  |nil=>simp[tX]at I
  |cons v vs=>
   simp only[tX]at I
   obtain⟨g',U,cs,h1,h2,h3,h4,h5,h6⟩:=CE hbb R I.2 hF hf (λhh=>hX (by simp[hh])) h
   exact⟨g',U,.dat x::cs,h1,h2,⟨v,vs,rfl,⟨[],Rep.B8 _ _ _ I.1 wb,wb⟩,h3⟩,h4,h5,h6⟩
 | .own e sz xs::rs,vs,F,j,k,g,s,pool,R,I,hF,hf,hX,h=>by
  cases vs with
  |nil=>simp[tX]at I
  |cons v vs=>
   simp only[tX]at I
   obtain⟨cells,G,F',ho,hx,hrr,rfl,hr'⟩:=I
   simp only[AL,ex]at h
   have hnd:=hF.1
   rw[qt,qt]at hnd
   obtain⟨nd1,⟨nd2,nd3,nd4⟩,nd5⟩:=hnd
   have hGown:Ck base w G:=⟨nd2,λb hb=>hF.2 b (by simp[hb])⟩
   have I1:=R.inv.aE0 hGown λb hb=>hf b (by simp[hb])
   have T1:=mA.aE0 g s.h w G
   let g1:Gh:={ g with S:=λb=>g.S b\/b∈G }
   have hob:Ds v=v.ownBlock:=tE ho
   have hfree1:∀b,Ds v=some b->Hc g1 s.h b:=by
    intro b hb
    rw[hob]at hb
    have J:b∈v.ownBlock.toList:=by rw[hb];simp
    have C:=hf b (by rw[qP];exact .inl J)
    refine⟨?_,C.2⟩
    rintro(hS|hS)
    ·exact C.1 hS
    ·exact nd5 b J b (by simp[hS]) rfl
   have I2:=I1.FY (i:=rid d j) (dp:=true) (pool':=pool) (S4 ho hbb) hx (by show nQ g.Q.L w xs e cells G;exact nQ.toL R hrr) (λb hb=>.inr hb) hfree1 (λb hb=>by simp[hb]) R.inv.pool_own.1
    (λ_=>⟨nd2,λb hb=>⟨by simp[hb],λhp=>(hf b (by simp[hb])).1 (R.inv.pool_S b hp)⟩⟩)
   have T2:=mA.create (g:=g1) (h:=s.h) (w:=w) (rid d j) v G (.row e sz xs true)
   have T12:=T1.trans T2
   have R2:nV P base w0 N (PZ g1 (rid d j) v G) (s.fL (rid d j) ((s.h (rid d j)).1+1,.row e sz xs true)) a w pool:=R.turn T12 rfl R.below I2
   have keepFree:∀b,b∉v.ownBlock.toList->b∉G->Hc g s.h b->Hc (PZ g1 (rid d j) v G) (pZ s.h (rid d j) ((s.h (rid d j)).1+1,.row e sz xs true)) b:=by intro b hb1 hb2 C;refine⟨?_,λj' hl=> ?_⟩;(rintro(hS|hS);(exact C.1 hS);·exact hb2 hS);·rcases HT hl with rfl|⟨hj,hl⟩;(show Ds (Iw g1.val _ v _)≠some b;rw[eM,hob];intro hh;exact hb1 (by rw[hh];simp));·show Ds (Iw g1.val _ v _)≠some b;rw[Ex _ _ _ _ hj];exact C.2 j' hl
   have hF':Ck base w F':=⟨nd3,λb hb=>hF.2 b (by simp[hb])⟩
   obtain⟨g',U,cs,h1,h2,h3,h4,h5,h6⟩:=CE hbb R2 hr' hF'
    (λb hb=>keepFree b (λJ=>nd5 b J b (by simp[hb]) rfl) (λJ=>nd4 b J b hb rfl) (hf b (by simp[hb]))) (λhh b hb=>T12.S b (hX (by simp[hh]) b hb)) h
   refine⟨g',U,.row (rid d j) ((s.h (rid d j)).1+1)::cs,h1,h2,⟨v,vs,rfl,?_,h3⟩,T12.trans h4,h5.trans rfl,λb hb C=>h6 b (λJ=>hb (by simp[J])) (keepFree b (λJ=>hb (by rw[qP];exact .inl J)) (λJ=>hb (by simp[J])) C)⟩
   refine B3.turn h4 ?_
   refine⟨?_,?_,?_⟩
   ·rcases ho.2 with⟨rfl,_⟩|⟨gg,cap,cur,rfl,_⟩<;>rfl
   ·show _<=(pZ s.h (rid d j) _ (rid d j)).1;rw[bR];exact qg _
   ·intro _ e' sz' xs' dp' _;show v=Iw g1.val _ v _;rw[eM]
theorem M0{base1 d:Nat}{X:Nat->Prop}(I:base<=base1):∀{rs:List (Bool×List RC)} {vs:List Value} {F:List Nat} {j:Nat} {k:List (Bool×List SC)->Prog} {g:Gh} {s:St} {pool:List Nat},
  nV P base w0 N g s a w pool->Fl (slP P) base1 w X vs rs F->Ck base w F->(∀b∈F,Hc g s.h b)->(CM rs=true->∀b,X b->g.S b)->ex P (FF d j rs k) s K->
  ∃g' s' cs,ex P (k cs) s' K/\nV P base w0 N g' s' a w pool/\Gg g' s'.h w cs vs/\mA g g' s.h s'.h w w/\s'.t=s.t
 |[],vs,F,j,k,g,s,pool,R,U,hF,hf,hX,h=>by
  cases vs with
  |nil=>exact⟨g,s,[],h,R,rfl,mA.refl _ _ _,rfl⟩
  |cons v vs=>simp[Fl]at U
 |(ag,r)::rs,vs,F,j,k,g,s,pool,R,U,hF,hf,hX,h=>by
  cases vs with
  |nil=>simp[Fl]at U
  |cons v vs=>
   simp only[Fl]at U
   obtain⟨F1,F2,rfl,h1,h2⟩:=U
   have J:=hF.1
   rw[qt]at J
   obtain⟨nd1,nd2,nd3⟩:=J
   have hF1:Ck base w F1:=⟨nd1,λb hb=>hF.2 b (by simp[hb])⟩
   have hF2:Ck base w F2:=⟨nd2,λb hb=>hF.2 b (by simp[hb])⟩
   have key:∃C,tX (slP P) base1 w X C r F1/\∀(g':Gh) (h':Heap) (cs:List SC),aU g' h' w cs C->JB g' h' w (ag,cs) v:=by
    cases ag with
    |false=>exact⟨[v],h1,λg' h' cs hc=>hc⟩
    |true=>obtain⟨C,rfl,hc⟩:=h1;exact⟨C.toList,hc,λg' h' cs hc=>⟨C,rfl,hc⟩⟩
   obtain⟨C,hu,hback⟩:=key
   obtain⟨g1,s1,cs,k1,k2,k3,k4,k5,k6⟩:=CE I R hu hF1 (λb hb=>hf b (by simp[hb])) (λhh=>hX (by simp only[CM,List.any_cons,hh,Bool.true_or])) h
   obtain⟨g2,s2,vs2,m1,m2,m3,m4,m5⟩:=M0 I k2 h2 hF2 (λb hb=>k6 b (λhm=>nd3 b hm b hb rfl) (hf b (by simp[hb]))) (λhh b hb=>k4.S b (hX (by simp only[CM,List.any_cons]at hh⊢;rw[hh,Bool.or_true]) b hb)) k1
   exact⟨g2,s2,(ag,cs)::vs2,m1,m2,⟨v,vs,rfl,JB.turn m4 (hback _ _ _ k3),m3⟩,k4.trans m4,m5.trans k5⟩
theorem Kp{base1:Nat}(j:base<=base1){rs:List (Bool×List RC)}{v:Value}{g:Gh}{s:St}{pool:List Nat}{J:Option Tmp}
  {X:Nat->Prop}{F:List Nat}(R:nV P base w0 N g s a w pool)(hF:Ck base1 w F)(C:U7 (slP P) base1 w X v rs F)(hff:∀b∈F,Hc g s.h b)(hX:CM rs=true->∀b,X b->g.S b)(h:ex P (EF N J rs) s K):
  ∃g' s',K s'/\nV P base w0 N g' s' (a.put J v) w pool:=by
 have U:Ck base w F:=⟨hF.1,λb hb=>⟨qh j (hF.2 b hb).1,(hF.2 b hb).2⟩⟩
 cases J with
 |none=>exact⟨g,s,h,R⟩
 |some d=>
  have many:∀I,I=rs->(∃vs,v=.tuple vs/\Fl (slP P) base1 w X vs.toList I F)->ex P (FF d 0 I λvs=>put N (some d) (.tup vs)) s K->∃g' s',K s'/\nV P base w0 N g' s' (a.put (some d) v) w pool:=by rintro I rfl ⟨vs,rfl,hv2⟩ hk;obtain⟨g1,s1,cs,k1,k2,k3,_⟩:=M0 j R hv2 U hff hX hk;obtain⟨s2,m1,m2⟩:=Eo k2 (sv:=.tup cs) (v:=.tuple vs) ⟨vs,rfl,k3⟩ k1;exact⟨g1,s2,m1,m2⟩
  match rs,C,h with
  |[(false,r)],C,h=>
   obtain⟨g1,s1,cs,k1,k2,k3,_⟩:=CE j R C U hff (λhh=>hX (by simp only[CM,List.any_cons,hh,Bool.true_or])) h
   obtain⟨s2,m1,m2⟩:=Eo k2 (sv:=.v false cs) (v:=v) k3 k1
   exact⟨g1,s2,m1,m2⟩
  |[(true,r)],C,h=>
   obtain⟨us,rfl,hc⟩:=C
   obtain⟨g1,s1,cs,k1,k2,k3,_⟩:=CE j R hc U hff (λhh=>hX (by simp only[CM,List.any_cons,hh,Bool.true_or])) h
   obtain⟨s2,m1,m2⟩:=Eo k2 (sv:=.v true cs) (v:=.agg us) ⟨us,rfl,k3⟩ k1
   exact⟨g1,s2,m1,m2⟩
  |[],C,h=>exact many _ rfl C h
  |r1::r2::rs,C,h=>exact many _ rfl C h
theorem Rm{g:Gh}{s:St}{f:FuncId}{vs:Array Value}{as:List (Bool×List D)}{rs:List (Bool×List RC)}{I:Option Tmp}{R':Ending->World->Prop}{Fa:List Nat}
  (R:nV P base w0 N g s a w [])(ha:AU w vs.toList as Fa)(hs:CM rs=true->∀b∈Fa,g.S b)(hc:R9 P f as rs)(h:ex P (EF N I rs) s K)
  (hnext:∀v w',(∃s',K s'/\Rel P base w0 N s' (a.put I v) w')->R' (.returned v) w'):Calls P f vs w R':=by
 refine(hc.2 w vs Fa ha).mono λe w' hh=> ?_
 obtain⟨v,rfl,hr,hb⟩:=hh
 refine hnext v w' ?_
 have I':=R.inv.grow hb.size hb.block
 have T:mA g g s.h s.h w w':=mA.grow R.inv.S_lt hb.block
 have R1:nV P base w0 N g s a w' []:=R.turn T rfl (R.bel (hb.mono R.inv.base_le)) I'
 have J:∀b,w.heap.size<=b->Hc g s.h b:=λb hle=>
  ⟨λhS=>absurd (R.inv.S_lt b hS) wg,λj hl C=>absurd (R.inv.H5 hl C).2.lt wg⟩
 obtain⟨F,X,hF,hX,hA,hv⟩:=hr
 cases han:CM rs with
 |false=>
  obtain⟨g',s',k1,k2⟩:=Kp R.inv.base_le R1 hF hv (λb C=>J b (hF.2 b C).1) (λhh=>by rw[han]at hh;cases hh) h
  exact⟨s',k1,g',k2⟩
 |true=>
  have hFn:=hA han
  subst hFn
  have U:=hs han
  have hX1:∀b,X b->(g.S b\/base<=b)/\b<w'.heap.size:=λb C=>⟨(hX b C).1.elim (λx=>.inl (U b x)) (λx=>.inr (qh R.inv.base_le x)),(hX b C).2⟩
  have hX2:∀b,X b->¬g.S b->Hc g s.h b:=λb C hn=>(hX b C).1.elim (λx=>absurd (U b x) hn) (λx=>J b x)
  have I2:=I'.aEA hX1 hX2
  have R2:nV P base w0 N { g with S:=λb=>g.S b\/X b } s a w' []:=R1.turn (mA.aEA g s.h w' X) rfl R1.below I2
  obtain⟨g',s',k1,k2⟩:=Kp R.inv.base_le R2 hF hv wb (λ_ b C=>.inr C) h
  exact⟨s',k1,g',k2⟩
