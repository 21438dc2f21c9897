/-
  Helper text. No conditions.
-/
import Derived.Below
import Derived.Laws.OwnMore
import Derived.Laws.Rows
import Derived.Orders
import Derived.WalkKit
import Derived.Laws.MakeOwn
import Derived.Laws.CopyRow
set_option linter.unusedVariables false
set_option linter.unusedSimpArgs false
namespace Go.Sh
open Go.RowKit
theorem qI{a b:Prop}(x:a)(y:b):a/\b:=⟨x,y⟩
theorem qc{p:Prop}(h:p:=by omega):p:=h
theorem qd{p:Prop}(h:p:=by simp;omega):p:=h
theorem qe{p:Prop}(h:p:=by simp):p:=h
theorem qf{p:Prop}(h:p:=by decide):p:=h
theorem qg{p:Prop}(h:p:=by decide +kernel):p:=h
theorem qh{p:Prop}(h:p:=by dsimp only;omega):p:=h
theorem qi{p:Prop}(h:p:=by(try dsimp only);omega):p:=h
theorem qj{p:Prop}(h:p:=by unfold fuel;omega):p:=h
theorem qk{p:Prop}(h:p:=by unfold maxLen;omega):p:=h
theorem ql{p:Prop}(h:p:=by rw[SI];simp):p:=h
theorem qm{p:Prop}(h:p:=by simp[Act.eval,Act.put]):p:=h
theorem qn{p:Prop}(h:p:=by simp only[qE,qJ,qK,qU,qV];omega):p:=h
theorem qo{p:Prop}(h:p:=by simp only[qE,qJ,qK];omega):p:=h
theorem qp{p:Prop}(h:p:=by simp only[qE,qU,qV,qJ,qK];omega):p:=h
theorem qq{p:Prop}(h:p:=by simp only[qE];omega):p:=h
theorem qs{p:Prop}(h:p:=by simp only[qJ,qK,qU];omega):p:=h
theorem qt{p:Prop}(h:p:=by simp only[qJ,qK];omega):p:=h
theorem qu{p:Prop}(h:p:=by simp only[qK,qU];omega):p:=h
theorem qv{p:Prop}(h:p:=by simp only[qU,qJ,qK];omega):p:=h
theorem qw{p:Prop}(h:p:=by(simp +decide only[F,reduceIte,Nat.reduceAdd,qB,qC,EN, *,-h];rfl)):p:=h
theorem qA:type_of%@Option.bind_some:=@Option.bind_some
theorem qB:type_of%@Bool.not_true:=@Bool.not_true
theorem qC:type_of%@Bool.not_false:=@Bool.not_false
theorem qD:type_of%@Bool.false_eq_true:=@Bool.false_eq_true
theorem qE:type_of%@List.length_append:=@List.length_append
theorem qF:type_of%@List.getElem?_eq_getElem:=@List.getElem?_eq_getElem
theorem qG:type_of%@List.getElem_mem:=@List.getElem_mem
theorem qH:type_of%@Int.toNat_natCast:=@Int.toNat_natCast
theorem qJ:type_of%@List.length_cons:=@List.length_cons
theorem qK:type_of%@List.length_nil:=@List.length_nil
theorem qL:type_of%@decide_eq_true_eq:=@decide_eq_true_eq
theorem qM:type_of%@Bool.and_eq_true:=@Bool.and_eq_true
theorem qN:type_of%@List.length_set:=@List.length_set
theorem qO:type_of%@List.not_mem_nil:=@List.not_mem_nil
theorem qP:type_of%@List.mem_append:=@List.mem_append
theorem qQ:type_of%@List.all_eq_true:=@List.all_eq_true
theorem qR:type_of%@List.mem_range:=@List.mem_range
theorem qS:type_of%@List.append_assoc:=@List.append_assoc
theorem qT:type_of%@List.length_map:=@List.length_map
theorem qU:type_of%@List.length_take:=@List.length_take
theorem qV:type_of%@List.length_drop:=@List.length_drop
theorem qW:type_of%@List.drop_eq_getElem_cons:=@List.drop_eq_getElem_cons
theorem qX:type_of%@List.append_nil:=@List.append_nil
theorem qY:type_of%@List.getElem?_eq_none:=@List.getElem?_eq_none
theorem qZ:type_of%@List.drop_length:=@List.drop_length
theorem qa:type_of%@Prod.mk.injEq:=@Prod.mk.injEq
theorem qb:type_of%@Option.some.injEq:=@Option.some.injEq
inductive D where
 |int (k:IntKind) (n:Int)
 |bool (b:Bool)
 |str (s:ByteArray)
 |sl (xs:List (List D))
 |ptr (cs:List D)
 |fn (f:FuncId) (cs:List D)
 |opq
 |val (u:Value)
def xX(w:World)(g off:Nat)(cells:List Value):Prop:=
 ∀j u,cells[j]? =some u->w.cell? ⟨g,off+j,none⟩=some u
mutual
def Rep(w:World):D->Value->List Nat->Prop
 | .int k n,v,F=>v=.int k n/\F=[]
 | .bool b,v,F=>v=.bool b/\F=[]
 | .str s,v,F=>v=.string s/\F=[]
 | .sl I,v,F=>∃a n c,v=.slice a n c/\n=I.length/\n<=c/\
   ((n=0/\F=[]) \/∃g j cells sz G,a=some ⟨g,j,none⟩/\g<w.heap.size/\F=g::G/\xX w g j cells/\
    cells.length=n*sz/\(∀x∈I,x.length=sz)/\aQ w I cells G)
 | .ptr C,v,F=>∃g j cells G,v=.pointer (some ⟨g,j,none⟩)/\g<w.heap.size/\F=g::G/\xX w g j cells/\aG w C cells G
 | .fn f C,v,F=>∃caps,v=.func (.func f) #[] caps.toArray/\aG w C caps F
 | .opq,v,F=>v.oneCell'=true/\F=[]
 | .val u,v,F=>(v=u/\v.oneCell'=true)/\F=[]
def aG(w:World):List D->List Value->List Nat->Prop
 |[],C,F=>C=[]/\F=[]
 |d::ds,C,F=>∃v j J I,C=v::j/\F=J++I/\Rep w d v J/\aG w ds j I
def aQ(w:World):List (List D)->List Value->List Nat->Prop
 |[],j,F=>j=[]/\F=[]
 |x::xs,j,F=>∃J C U I,j=J++C/\F=U++I/\aG w x J U/\aQ w xs C I
end
theorem xX.vY{w w':World}{g off:Nat}{cells:List Value}(h:xX w g off cells)(C:w'.heap[g]? =w.heap[g]?):xX w' g off cells:=
 λj u I=>(World.cell?_of_block (w:=w) (a:=⟨g,off+j,none⟩) C).trans (h j u I)
theorem HR{w w':World}{g:Nat}(C:g<w.heap.size)(j:w'.heap[g]? =w.heap[g]?):g<w'.heap.size:=by rcases Nat.lt_or_ge g w'.heap.size with h|h;(exact h);·rw[Array.getElem?_eq_none h,Array.getElem?_eq_getElem C]at j;cases j
mutual
theorem Rep.vY{w w':World}:∀(d:D) (v:Value) (F:List Nat),Rep w d v F->(∀b∈F,w'.heap[b]? =w.heap[b]?)->Rep w' d v F
 | .int k n,v,F,h,_=>by simpa[Rep]using h
 | .bool b,v,F,h,_=>by simpa[Rep]using h
 | .str s,v,F,h,_=>by simpa[Rep]using h
 | .sl xs,v,F,h,j=>by simp only[Rep]at h⊢;obtain⟨a,n,c,I,h2,h3,h4⟩:=h;refine⟨a,n,c,I,h2,h3,?_⟩;rcases h4 with h4|⟨g,C,cells,sz,G,ha,U,rfl,hl,hc,hx,J⟩;(exact .inl h4);·exact .inr ⟨g,C,cells,sz,G,ha,HR U (j g qe),rfl,hl.vY (j g qe),hc,hx,aQ.vY xs cells G J λb hm=>j b (by simp[hm])⟩
 | .ptr cs,v,F,h,j=>by simp only[Rep]at h⊢;obtain⟨g,C,cells,G,I,U,rfl,hl,J⟩:=h;exact⟨g,C,cells,G,I,HR U (j g qe),rfl,hl.vY (j g qe),aG.vY cs cells G J λb hm=>j b (by simp[hm])⟩
 | .fn f cs,v,F,h,j=>by simp only[Rep]at h⊢;obtain⟨caps,I,J⟩:=h;exact⟨caps,I,aG.vY cs caps F J j⟩
 | .opq,v,F,h,_=>by simpa[Rep]using h
 | .val u,v,F,h,_=>by simpa[Rep]using h
theorem aG.vY{w w':World}:∀(ds:List D) (C:List Value) (F:List Nat),aG w ds C F->(∀b∈F,w'.heap[b]? =w.heap[b]?)->aG w' ds C F
 |[],C,F,h,_=>by simpa[aG]using h
 |d::ds,C,F,h,U=>by simp only[aG]at h⊢;obtain⟨v,j,F1,J,h1,rfl,h3,h4⟩:=h;exact⟨v,j,F1,J,h1,rfl,Rep.vY d v F1 h3 λb I=>U b (by simp[I]),aG.vY ds j J h4 λb I=>U b (by simp[I])⟩
theorem aQ.vY{w w':World}:∀(j:List (List D)) (C:List Value) (F:List Nat),aQ w j C F->(∀b∈F,w'.heap[b]? =w.heap[b]?)->aQ w' j C F
 |[],C,F,h,_=>by simpa[aQ]using h
 |x::j,C,F,h,hb=>by simp only[aQ]at h⊢;obtain⟨v1,J,F1,U,h1,rfl,h3,h4⟩:=h;exact⟨v1,J,F1,U,h1,rfl,aG.vY x v1 F1 h3 λb I=>hb b (by simp[I]),aQ.vY j J U h4 λb I=>hb b (by simp[I])⟩
end
mutual
theorem Rep.lt{w:World}:∀(d:D) (v:Value) (F:List Nat),Rep w d v F->∀b∈F,b<w.heap.size
 | .int k n,v,F,h=>by simp only[Rep]at h;simp[h.2]
 | .bool b,v,F,h=>by simp only[Rep]at h;simp[h.2]
 | .str s,v,F,h=>by simp only[Rep]at h;simp[h.2]
 | .sl xs,v,F,h=>by simp only[Rep]at h;obtain⟨a,n,c,h1,h2,h3,h4⟩:=h;rcases h4 with⟨_,rfl⟩|⟨g,J,cells,sz,G,ha,I,rfl,hl,hc,hx,C⟩;(simp);·intro b j;rcases List.mem_cons.1 j with rfl|j;(exact I);·exact aQ.lt xs cells G C b j
 | .ptr U,v,F,h=>by simp only[Rep]at h;obtain⟨g,J,cells,G,h1,I,rfl,hl,C⟩:=h;intro b j;rcases List.mem_cons.1 j with rfl|j;(exact I);·exact aG.lt U cells G C b j
 | .fn f U,v,F,h=>by simp only[Rep]at h;obtain⟨caps,h1,C⟩:=h;exact aG.lt U caps F C
 | .opq,v,F,h=>by simp only[Rep]at h;simp[h.2]
 | .val u,v,F,h=>by simp only[Rep]at h;simp[h.2]
theorem aG.lt{w:World}:∀(ds:List D) (C:List Value) (F:List Nat),aG w ds C F->∀b∈F,b<w.heap.size
 |[],C,F,h=>by simp only[aG]at h;simp[h.2]
 |d::ds,C,F,h=>by simp only[aG]at h;obtain⟨v,I,F1,J,h1,rfl,h3,U⟩:=h;intro b j;rcases List.mem_append.1 j with j|j;(exact Rep.lt d v F1 h3 b j);·exact aG.lt ds I J U b j
theorem aQ.lt{w:World}:∀(C:List (List D)) (I:List Value) (F:List Nat),aQ w C I F->∀b∈F,b<w.heap.size
 |[],I,F,h=>by simp only[aQ]at h;simp[h.2]
 |x::C,I,F,h=>by simp only[aQ]at h;obtain⟨v1,J,F1,U,h1,rfl,h3,h4⟩:=h;intro b j;rcases List.mem_append.1 j with j|j;(exact aG.lt x v1 F1 h3 b j);·exact aQ.lt C J U h4 b j
end
theorem Rep.one{w:World}{d:D}{v:Value}{F:List Nat}(h:Rep w d v F):v.oneCell'=true:=by
 cases d<;>simp only[Rep]at h
 ·rw[h.1];rfl
 ·rw[h.1];rfl
 ·rw[h.1];rfl
 ·obtain⟨a,n,c,rfl,_⟩:=h;rfl
 ·obtain⟨g,j,cells,G,rfl,_⟩:=h;rfl
 ·obtain⟨caps,rfl,_⟩:=h;rfl
 ·exact h.1
 ·exact h.1.2
theorem aG.length{w:World}:∀{ds:List D} {j:List Value} {F:List Nat},aG w ds j F->j.length=ds.length
 |[],j,F,h=>by simp only[aG]at h;simp[h.1]
 |d::ds,j,F,h=>by simp only[aG]at h;obtain⟨v,I,F1,J,rfl,rfl,U,C⟩:=h;simp[aG.length C]
theorem aG.one{w:World}:∀{ds:List D} {j:List Value} {F:List Nat},aG w ds j F->∀u∈j,u.oneCell'=true
 |[],j,F,h=>by simp only[aG]at h;simp[h.1]
 |d::ds,j,F,h=>by simp only[aG]at h;obtain⟨v,U,F1,F2,rfl,rfl,J,I⟩:=h;intro u C;rcases List.mem_cons.1 C with rfl|C;(exact J.one);·exact aG.one I u C
theorem aQ.one{w:World}:∀{I:List (List D)} {C:List Value} {F:List Nat},aQ w I C F->∀u∈C,u.oneCell'=true
 |[],C,F,h=>by simp only[aQ]at h;simp[h.1]
 |x::I,C,F,h=>by simp only[aQ]at h;obtain⟨v1,v2,F1,F2,rfl,rfl,J,U⟩:=h;intro u j;rcases List.mem_append.1 j with j|j;(exact J.one u j);·exact aQ.one U u j
theorem aG.at_{w:World}:∀{ds:List D} {J:List Value} {F:List Nat},aG w ds J F->∀(j:Nat) (d:D),ds[j]? =some d->
  ∃v I,J[j]? =some v/\Rep w d v I/\∀b∈I,b∈F
 |[],J,F,_,j,d,C=>by simp at C
 |d0::ds,J,F,h,j,d,C=>by
  simp only[aG]at h
  obtain⟨v,vs',F1,F2,rfl,rfl,h3,h4⟩:=h
  cases j with
  |zero=>
   simp at C
   subst C
   exact⟨v,F1,qe,h3,λb U=>by simp[U]⟩
  |succ j=>
   simp at C
   obtain⟨u,I,hu,hr,hF⟩:=aG.at_ h4 j d C
   exact⟨u,I,by simpa using hu,hr,λb U=>by simp[hF b U]⟩
theorem aG.append{w:World}:∀{ds es:List D} {C j:List Value} {F G:List Nat},aG w ds C F->aG w es j G->aG w (ds++es) (C++j) (F++G)
 |[],es,C,j,F,G,h,k=>by simp only[aG]at h;simpa[h.1,h.2]using k
 |d::ds,es,C,j,F,G,h,k=>by simp only[aG]at h;obtain⟨v,I,F1,J,rfl,rfl,h3,U⟩:=h;simp only[List.cons_append,aG];exact⟨v,I++j,F1,J++G,rfl,qe,h3,aG.append U k⟩
theorem aQ.append{w:World}:∀{J I:List (List D)} {C j:List Value} {F G:List Nat},aQ w J C F->aQ w I j G->aQ w (J++I) (C++j) (F++G)
 |[],I,C,j,F,G,h,k=>by simp only[aQ]at h;simpa[h.1,h.2]using k
 |x::J,I,C,j,F,G,h,k=>by simp only[aQ]at h;obtain⟨v1,U,F1,F2,rfl,rfl,h3,h4⟩:=h;simp only[List.cons_append,aQ];exact⟨v1,U++j,F1,F2++G,qe,qe,h3,aQ.append h4 k⟩
theorem aQ.split{w:World}:∀{xs J:List (List D)} {I:List Value} {F:List Nat},aQ w (xs++J) I F->
  ∃j U C F2,I=j++U/\F=C++F2/\aQ w xs j C/\aQ w J U F2
 |[],J,I,F,h=>⟨[],I,[],F,rfl,rfl,by simp[aQ],h⟩
 |x::xs,J,I,F,h=>by simp only[List.cons_append,aQ]at h;obtain⟨j,U,C,F2,rfl,rfl,h3,h4⟩:=h;obtain⟨u1,u2,G1,G2,rfl,rfl,h5,h6⟩:=aQ.split h4;exact⟨j++u1,u2,C++G1,G2,qe,qe,by simp only[aQ];exact⟨j,u1,C,G1,rfl,rfl,h3,h5⟩,h6⟩
theorem aQ.length{w:World}{sz:Nat}:∀{j:List (List D)} {C:List Value} {F:List Nat},aQ w j C F->(∀x∈j,x.length=sz)->C.length=j.length*sz
 |[],C,F,h,_=>by simp only[aQ]at h;simp[h.1]
 |x::j,C,F,h,I=>by
  simp only[aQ]at h
  obtain⟨v1,v2,F1,F2,rfl,rfl,h3,J⟩:=h
  have U:=aQ.length J λy hy=>I y (by simp[hy])
  have h6:=h3.length
  have h7:=I x qe
  simp only[qE,qJ,U,h6,h7,Nat.add_mul]
  omega
theorem aQ.at_{w:World}{sz:Nat}{xs:List (List D)}{vs:List Value}{F:List Nat}(h:aQ w xs vs F)(hx:∀x∈xs,x.length=sz){i:Nat}{x:List D}(hi:xs[i]? =some x):
  ∃j I v3 C F2 F3,vs=j++(I++v3)/\F=C++(F2++F3)/\j.length=i*sz/\aQ w (xs.take i) j C/\aG w x I F2/\aQ w (xs.drop (i+1)) v3 F3:=by
 have U:i<xs.length:=(List.getElem?_eq_some_iff.1 hi).1
 have J:xs=xs.take i++(x::xs.drop (i+1)):=by have:xs[i]=x:=(List.getElem?_eq_some_iff.1 hi).2;rw[<-this,<-qW U,List.take_append_drop]
 rw[J]at h
 obtain⟨j,I,C,F2,rfl,rfl,h3,h4⟩:=aQ.split h
 simp only[aQ]at h4
 obtain⟨u1,u2,G1,G2,rfl,rfl,h5,h6⟩:=h4
 refine⟨j,u1,u2,C,G1,G2,rfl,rfl,?_,h3,h5,h6⟩
 have:=aQ.length h3 λy hy=>hx y (List.mem_of_mem_take hy)
 rw[this,qU,Nat.min_eq_left qc]
abbrev Lb:=List (Option (TypeId×Nat))
abbrev TL:=TypeId->Lb
def lab:Lb->Option (TypeId×Nat)
 |[]=>none
 |x::_=>x
mutual
def zK(L:TL)(w:World):D->Option (TypeId×Nat)->Value->List Nat->Prop
 | .int k n,_,v,F=>v=.int k n/\F=[]
 | .bool b,_,v,F=>v=.bool b/\F=[]
 | .str s,_,v,F=>v=.string s/\F=[]
 | .sl j,none,v,F=>Rep w (.sl j) v F
 | .sl j,some t,v,F=>∃cells G,w.ownsRow 0 t.1 t.2 v j.length cells/\(∀x∈j,x.length=t.2)/\F=v.ownBlock.toList++G/\gX L w j t.1 cells G
 | .ptr C,_,v,F=>Rep w (.ptr C) v F
 | .fn f C,_,v,F=>Rep w (.fn f C) v F
 | .opq,_,v,F=>v.oneCell'=true/\F=[]
 | .val u,_,v,F=>(v=u/\v.oneCell'=true)/\F=[]
def bJ(L:TL)(w:World):List D->Lb->List Value->List Nat->Prop
 |[],_,C,F=>C=[]/\F=[]
 |d::ds,ts,C,F=>∃v j J I,C=v::j/\F=J++I/\zK L w d (lab ts) v J/\bJ L w ds ts.tail j I
def gX(L:TL)(w:World):List (List D)->TypeId->List Value->List Nat->Prop
 |[],_,j,F=>j=[]/\F=[]
 |x::xs,e,j,F=>∃J C U I,j=J++C/\F=U++I/\bJ L w x (L e) J U/\gX L w xs e C I
end
theorem He{w:World}{base:Nat}{e:TypeId}{sz n g cap:Nat}{cells:List Value}(h:w.ownsRow base e sz (.slice (some ⟨g,0,none⟩) n cap) n cells):xX w g 0 cells:=by intro j u C;have:=h.cells (g:=g) rfl j u C;rw[Addr.add_lit]at this;exact this
theorem Kg{w w':World}{base n:Nat}{e:TypeId}{sz:Nat}{v:Value}{cells:List Value}(h:w.ownsRow base e sz v n cells)(hb:∀b∈v.ownBlock.toList,w'.heap[b]? =w.heap[b]?):w'.ownsRow base e sz v n cells:=by refine⟨h.1,?_⟩;rcases h.2 with j|⟨I,cap,C,j,U,J,h9⟩;(exact .inl j);·exact .inr ⟨I,cap,C,j,U,(hb I (by rw[j];simp[Value.ownBlock])).trans J,h9⟩
mutual
theorem zK.rep{L:TL}{w:World}:∀(d:D) (t:Option (TypeId×Nat)) (v:Value) (F:List Nat),zK L w d t v F->Rep w d v F
 | .int k n,t,v,F,h=>by simp only[zK]at h;simp only[Rep];exact h
 | .bool b,t,v,F,h=>by simp only[zK]at h;simp only[Rep];exact h
 | .str s,t,v,F,h=>by simp only[zK]at h;simp only[Rep];exact h
 | .sl j,none,v,F,h=>by simp only[zK]at h;exact h
 | .sl j,some (e,sz),v,F,h=>by simp only[zK]at h;obtain⟨cells,G,C,h2,rfl,h3⟩:=h;have J:=gX.rep j e cells G h3;have I:=C;rcases C.2 with⟨rfl,h6⟩|⟨gg,cap,cur,rfl,h7,U,h9,aa,ae,af⟩;(have hx:j=[]:=List.eq_nil_of_length_eq_zero h6;subst hx;simp only[aQ]at J;simp only[Rep];exact⟨none,0,0,rfl,rfl,Nat.le_refl _,.inl ⟨rfl,by rw[J.2];rfl⟩⟩);·simp only[Rep];exact⟨_,_,cap,rfl,rfl,h9,.inr ⟨gg,0,cells,sz,G,rfl,(Array.getElem?_eq_some_iff.1 U).1,rfl,He I,C.1,h2,J⟩⟩
 | .ptr cs,t,v,F,h=>by simp only[zK]at h;exact h
 | .fn f cs,t,v,F,h=>by simp only[zK]at h;exact h
 | .opq,t,v,F,h=>by simp only[zK]at h;simp only[Rep];exact h
 | .val u,t,v,F,h=>by simp only[zK]at h;simp only[Rep];exact h
theorem bJ.rep{L:TL}{w:World}:∀(ds:List D) (ts:Lb) (C:List Value) (F:List Nat),bJ L w ds ts C F->aG w ds C F
 |[],ts,C,F,h=>by simp only[bJ]at h;simp only[aG];exact h
 |d::ds,ts,C,F,h=>by simp only[bJ]at h;obtain⟨v,j,J,I,h1,U,h3,h4⟩:=h;simp only[aG];exact⟨v,j,J,I,h1,U,zK.rep d _ v J h3,bJ.rep ds _ j I h4⟩
theorem gX.rep{L:TL}{w:World}:∀(j:List (List D)) (e:TypeId) (C:List Value) (F:List Nat),gX L w j e C F->aQ w j C F
 |[],e,C,F,h=>by simp only[gX]at h;simp only[aQ];exact h
 |x::j,e,C,F,h=>by simp only[gX]at h;obtain⟨U,I,F1,J,h1,h2,h3,h4⟩:=h;simp only[aQ];exact⟨U,I,F1,J,h1,h2,bJ.rep x _ U F1 h3,gX.rep j e I J h4⟩
end
mutual
theorem zK.vY{L:TL}{w w':World}:∀(d:D) (t:Option (TypeId×Nat)) (v:Value) (F:List Nat),zK L w d t v F->(∀b∈F,w'.heap[b]? =w.heap[b]?)->zK L w' d t v F
 | .int k n,t,v,F,h,_=>by simpa[zK]using h
 | .bool b,t,v,F,h,_=>by simpa[zK]using h
 | .str s,t,v,F,h,_=>by simpa[zK]using h
 | .sl I,none,v,F,h,j=>by simp only[zK]at h⊢;exact Rep.vY _ _ _ h j
 | .sl I,some (e,sz),v,F,h,j=>by simp only[zK]at h⊢;obtain⟨cells,G,h1,J,rfl,U⟩:=h;exact⟨cells,G,Kg h1 λb C=>j b (List.mem_append_left _ C),J,rfl,gX.vY I e cells G U λb C=>j b (List.mem_append_right _ C)⟩
 | .ptr cs,t,v,F,h,j=>by simp only[zK]at h⊢;exact Rep.vY _ _ _ h j
 | .fn f cs,t,v,F,h,j=>by simp only[zK]at h⊢;exact Rep.vY _ _ _ h j
 | .opq,t,v,F,h,_=>by simpa[zK]using h
 | .val u,t,v,F,h,_=>by simpa[zK]using h
theorem bJ.vY{L:TL}{w w':World}:∀(ds:List D) (ts:Lb) (C:List Value) (F:List Nat),bJ L w ds ts C F->(∀b∈F,w'.heap[b]? =w.heap[b]?)->bJ L w' ds ts C F
 |[],ts,C,F,h,I=>by simpa[bJ]using h
 |d::ds,ts,C,F,h,I=>by simp only[bJ]at h⊢;obtain⟨v,j,F1,U,h1,rfl,h3,h4⟩:=h;exact⟨v,j,F1,U,h1,rfl,zK.vY d _ v F1 h3 λb J=>I b (by simp[J]),bJ.vY ds _ j U h4 λb J=>I b (by simp[J])⟩
theorem gX.vY{L:TL}{w w':World}:∀(j:List (List D)) (e:TypeId) (C:List Value) (F:List Nat),gX L w j e C F->(∀b∈F,w'.heap[b]? =w.heap[b]?)->gX L w' j e C F
 |[],e,C,F,h,I=>by simpa[gX]using h
 |x::j,e,C,F,h,I=>by simp only[gX]at h⊢;obtain⟨v1,U,F1,F2,h1,rfl,h3,h4⟩:=h;exact⟨v1,U,F1,F2,h1,rfl,bJ.vY x _ v1 F1 h3 λb J=>I b (by simp[J]),gX.vY j e U F2 h4 λb J=>I b (by simp[J])⟩
end
theorem bJ.append{L:TL}{w:World}:∀{ds es:List D} {ts:Lb} {C j:List Value} {F G:List Nat},bJ L w ds ts C F->bJ L w es (ts.drop ds.length) j G->bJ L w (ds++es) ts (C++j) (F++G)
 |[],es,ts,C,j,F,G,h,k=>by simp only[bJ]at h;simpa[h.1,h.2]using k
 |d::ds,es,ts,C,j,F,G,h,k=>by simp only[bJ]at h;obtain⟨v,I,F1,J,rfl,rfl,U,h4⟩:=h;simp only[List.cons_append,bJ];refine⟨v,I++j,F1,J++G,rfl,qe,U,bJ.append h4 ?_⟩;rw[List.drop_tail];exact k
theorem bJ.split{L:TL}{w:World}:∀{ds es:List D} {ts:Lb} {C:List Value} {F:List Nat},bJ L w (ds++es) ts C F->∃j I,F=j++I/\bJ L w ds ts (C.take ds.length) j/\bJ L w es (ts.drop ds.length) (C.drop ds.length) I
 |[],es,ts,C,F,h=>⟨[],F,rfl,by simp[bJ],by simpa using h⟩
 |d::ds,es,ts,C,F,h=>by simp only[List.cons_append,bJ]at h;obtain⟨v,J,j,I,rfl,rfl,h3,h4⟩:=h;obtain⟨U,G2,rfl,k1,k2⟩:=bJ.split h4;refine⟨j++U,G2,qe,?_,by rw[List.drop_tail]at k2;simpa using k2⟩;simp only[qJ,List.take_succ_cons,bJ];exact⟨v,J.take ds.length,j,U,rfl,rfl,h3,k1⟩
theorem gX.append{L:TL}{w:World}:∀{J I:List (List D)} {e:TypeId} {C j:List Value} {F G:List Nat},gX L w J e C F->gX L w I e j G->gX L w (J++I) e (C++j) (F++G)
 |[],I,e,C,j,F,G,h,k=>by simp only[gX]at h;simpa[h.1,h.2]using k
 |x::J,I,e,C,j,F,G,h,k=>by simp only[gX]at h;obtain⟨v1,U,F1,F2,rfl,rfl,h3,h4⟩:=h;simp only[List.cons_append,gX];exact⟨v1,U++j,F1,F2++G,qe,qe,h3,gX.append h4 k⟩
theorem gX.split{L:TL}{w:World}:∀{xs J:List (List D)} {e:TypeId} {C:List Value} {F:List Nat},gX L w (xs++J) e C F->
  ∃j U I F2,C=j++U/\F=I++F2/\gX L w xs e j I/\gX L w J e U F2
 |[],J,e,C,F,h=>⟨[],C,[],F,rfl,rfl,by simp[gX],h⟩
 |x::xs,J,e,C,F,h=>by simp only[List.cons_append,gX]at h;obtain⟨j,U,I,F2,rfl,rfl,h3,h4⟩:=h;obtain⟨u1,u2,G1,G2,rfl,rfl,h5,h6⟩:=gX.split h4;exact⟨j++u1,u2,I++G1,G2,qe,qe,by simp only[gX];exact⟨j,u1,I,G1,rfl,rfl,h3,h5⟩,h6⟩
def Nf:TL:=λ_=>[]
theorem zK.none{L:TL}{w:World}{d:D}{v:Value}{F:List Nat}(h:Rep w d v F):zK L w d none v F:=by cases d<;>simp only[zK]<;>(try simp only[Rep]at h)<;>exact h
theorem bJ.none{L:TL}{w:World}:∀{ds:List D} {j:List Value} {F:List Nat},aG w ds j F->bJ L w ds [] j F
 |[],j,F,h=>by simp only[aG]at h;simp only[bJ];exact h
 |d::ds,j,F,h=>by simp only[aG]at h;obtain⟨v,C,F1,I,h1,J,h3,U⟩:=h;simp only[bJ];exact⟨v,C,F1,I,h1,J,zK.none h3,bJ.none U⟩
theorem gX.KI{w:World}:∀{C:List (List D)} {e:TypeId} {j:List Value} {F:List Nat},aQ w C j F->gX Nf w C e j F
 |[],e,j,F,h=>by simp only[aQ]at h;simp only[gX];exact h
 |x::C,e,j,F,h=>by simp only[aQ]at h;obtain⟨v1,I,F1,J,h1,U,h3,h4⟩:=h;simp only[gX];exact⟨v1,I,F1,J,h1,U,bJ.none h3,gX.KI h4⟩
def sX(L:TL)(m:Bool)(w:World)(ts:Lb)(ds:List D)(vs:List Value)(F:List Nat):Prop:=if m=true then bJ L w ds ts vs F else aG w ds vs F
def cF(L:TL)(m:Bool)(w:World)(e:TypeId)(xs:List (List D))(vs:List Value)(F:List Nat):Prop:=if m=true then gX L w xs e vs F else aQ w xs vs F
theorem cF.Nf{m:Bool}{w:World}{xs:List (List D)}{e:TypeId}{vs:List Value}{F:List Nat}(h:aQ w xs vs F):cF Nf m w e xs vs F:=by unfold cF;split;(exact gX.KI h);·exact h
section
variable {L:TL}{m n:Bool}{w w':World}{ts:Lb}{e:TypeId}{ds es:List D}{xs ys:List (List D)}{vs us:List Value}{F G:List Nat}
theorem sX.rep(h:sX L m w ts ds vs F):aG w ds vs F:=by unfold sX at h;split at h;(exact h.rep);·exact h
theorem cF.rep(h:cF L m w e xs vs F):aQ w xs vs F:=by unfold cF at h;split at h;(exact h.rep);·exact h
theorem sX.KI(h:sX L m w ts ds vs F)(C:n=true->m=true):sX L n w ts ds vs F:=by unfold sX;split;(rename_i j;unfold sX at h;rw[if_pos (C j)]at h;exact h);·exact h.rep
theorem cF.KI(h:cF L m w e xs vs F)(C:n=true->m=true):cF L n w e xs vs F:=by unfold cF;split;(rename_i j;unfold cF at h;rw[if_pos (C j)]at h;exact h);·exact h.rep
theorem sX.vY(h:sX L m w ts ds vs F)(j:∀b∈F,w'.heap[b]? =w.heap[b]?):sX L m w' ts ds vs F:=by
 cases m with
 |true=>exact bJ.vY _ _ _ _ h j
 |false=>exact aG.vY _ _ _ h j
theorem cF.vY(h:cF L m w e xs vs F)(j:∀b∈F,w'.heap[b]? =w.heap[b]?):cF L m w' e xs vs F:=by
 cases m with
 |true=>exact gX.vY _ _ _ _ h j
 |false=>exact aQ.vY _ _ _ h j
theorem cF.append(h:cF L m w e xs vs F)(k:cF L m w e ys us G):cF L m w e (xs++ys) (vs++us) (F++G):=by
 cases m with
 |true=>exact gX.append h k
 |false=>exact aQ.append h k
theorem cF.split(h:cF L m w e (xs++ys) vs F):∃C j J I,vs=C++j/\F=J++I/\cF L m w e xs C J/\cF L m w e ys j I:=by
 cases m with
 |true=>exact gX.split h
 |false=>exact aQ.split h
theorem cF.nil:cF L m w e [] [] []:=by
 cases m with
 |true=>simp[cF,gX]
 |false=>simp[cF,aQ]
theorem cF.one{x:List D}(h:sX L m w (L e) x vs F):cF L m w e [x] vs F:=by
 cases m with
 |true=>simp only[cF,if_true,gX];exact⟨vs,[],F,[],qe,qe,h,rfl,rfl⟩
 |false=>simp only[cF,qD,if_false,aQ];exact⟨vs,[],F,[],qe,qe,h,rfl,rfl⟩
theorem cF.YN{x:List D}(h:cF L m w e [x] vs F):sX L m w (L e) x vs F:=by
 cases m with
 |true=>
  simp only[cF,if_true,gX]at h
  obtain⟨J,C,U,I,rfl,rfl,j,rfl,rfl⟩:=h
  simpa[sX]using j
 |false=>
  simp only[cF,qD,if_false,aQ]at h
  obtain⟨J,C,U,I,rfl,rfl,j,rfl,rfl⟩:=h
  simpa[sX]using j
theorem sX.append(h:sX L m w ts ds vs F)(k:sX L m w (ts.drop ds.length) es us G):sX L m w ts (ds++es) (vs++us) (F++G):=by
 cases m with
 |true=>exact bJ.append h k
 |false=>exact aG.append h k
theorem cF.at_{sz:Nat}(h:cF L m w e xs vs F)(hx:∀x∈xs,x.length=sz){i:Nat}{x:List D}(hi:xs[i]? =some x):
  ∃j I v3 C F2 F3,vs=j++(I++v3)/\F=C++(F2++F3)/\j.length=i*sz/\cF L m w e (xs.take i) j C/\sX L m w (L e) x I F2/\cF L m w e (xs.drop (i+1)) v3 F3:=by
 have U:i<xs.length:=(List.getElem?_eq_some_iff.1 hi).1
 have J:xs=xs.take i++([x]++xs.drop (i+1)):=by have:xs[i]=x:=(List.getElem?_eq_some_iff.1 hi).2;rw[<-this,List.singleton_append,<-qW U,List.take_append_drop]
 rw[J]at h
 obtain⟨j,I,C,F2,rfl,rfl,h3,h4⟩:=cF.split h
 obtain⟨u1,u2,G1,G2,rfl,rfl,h5,h6⟩:=cF.split h4
 refine⟨j,u1,u2,C,G1,G2,rfl,rfl,?_,h3,h5.YN,h6⟩
 have:=aQ.length h3.rep λy hy=>hx y (List.mem_of_mem_take hy)
 rw[this,qU,Nat.min_eq_left qc]
end
end Go.Sh
namespace Go.Sh
open Go.RowKit
def D.flat:D->Bool
 | .int _ _| .bool _| .str _| .opq=>true
 |_=>false
inductive SC where
 |dat (d:D)
 |nil
 |row (id ver:Nat)
 |bp (id ver off:Nat)
 |rp (id ver i off:Nat)
 |clo (f:FuncId) (caps:List (Nat×Nat×Nat))
 |old (B:Nat) (d:D) (u:Option Value)
 |part (id ver lo n:Nat)
 |exa (W:World) (d:D) (x:Value)
inductive SV where
 |unk
 |undef
 |v (ag:Bool) (cs:List SC)
 |tup (vs:List (Bool×List SC))
inductive At where
 |none
 |box (t:TypeId) (cells:List SC)
 |row (e:TypeId) (sz:Nat) (xs:List (List D)) (deep:Bool)
 |pin (i ver:Nat) (u:Value)
structure St where
 t:Nat->SV
 h:Nat->Nat×At
 fr:Nat->SV:=λ_=>.unk
def St.C8(s:St)(t:Nat)(v:SV):St:={ s with t:=λi=>if i=t then v else s.t i }
def St.eV(s:St)(i:Nat)(x:Nat×At):St:={ s with h:=λj=>if j=i then x else s.h j }
theorem St.FC(s:St)(t:Nat)(v:SV)(i:Nat):(s.C8 t v).t i=if i=t then v else s.t i:=rfl
theorem St.NT(s:St)(t:Nat)(v:SV)(i:Nat):(s.C8 t v).h i=s.h i:=rfl
theorem St.G0(s:St)(t:Nat)(v:Nat×At)(i:Nat):(s.eV t v).h i=if i=t then v else s.h i:=rfl
theorem St.OX(s:St)(t:Nat)(v:Nat×At)(i:Nat):(s.eV t v).t i=s.t i:=rfl
structure QF where
 p:Nat->Prop
 fb:Nat
 lent:Option Nat
 L:TL
instance:CoeFun QF λ_=>Nat->Prop:=⟨QF.p⟩
structure W0 where
 w:World
 Q:QF
 K:Nat->Prop
 fv:Nat->Value
def noK:Nat->Prop:=λ_=>False
def MV:Nat->Value:=λ_=>undef
def Mb(P:Program):Nat->TypeId->Lb
 |0,_=>[]
 |n+1,t=>match P.underlying t with
  |some (.struct j)=>j.toList.flatMap λf=>Mb P n f.type
  |some (.array k e)=>(List.replicate k (Mb P n e)).flatten
  |some (.slice e)=>[some (e,P.cellsOf e)]
  |_=>[none]
def slP(P:Program):TL:=λt=>if(Mb P 8 t).all Option.isNone=true then[]else Mb P 8 t
inductive Ed where
 |del (e:TypeId) (sz:Nat)
 |ins (e:TypeId) (sz bytes:Nat)
 |nV (e:TypeId) (sz:Nat) (ys:List (List D))
 |pass
 |sel (c k sz:Nat)
 |lend (t:TypeId) (es:List D)
 |newb (t:TypeId) (es:List D)
inductive RC where
 |any (d:D)
 |ro (d:D)
 |own (e:TypeId) (sz:Nat) (xs:List (List D))
 |edit (q:Ed)
def RC.isAny:RC->Bool
 | .any _=>true
 | .edit _=>true
 |_=>false
def vQ(j:List (Bool×List RC)):Bool:=j.any λr=>r.2.any RC.isAny
theorem JR(d:D):RC.isAny (.any d)=true:=rfl
theorem Mg(d:D):RC.isAny (.ro d)=false:=rfl
theorem MZ(q:Ed):RC.isAny (.edit q)=true:=rfl
theorem M9(t:TypeId)(es:List D):RC.isAny (.edit (.lend t es))=true:=rfl
theorem Kx(e:TypeId)(sz:Nat)(xs:List (List D)):RC.isAny (.own e sz xs)=false:=rfl
def So(w:World)(b:Nat):Prop:=∃j e,w.heap[b]? =some (.cells j e (0,0))
def L2(w:World)(v:Value)(x:Bool×List D)(F:List Nat):Prop:=
 match x with
 |(true,ds)=>∃j,v=.agg j/\aG w ds j.toList F
 |(false,ds)=>∃d,ds=[d]/\Rep w d v F
def sH(w:World):List Value->List (Bool×List D)->List Nat->Prop
 |[],[],F=>F=[]
 |v::I,x::J,F=>∃C j,F=C++j/\L2 w v x C/\sH w I J j
 |_,_,_=>False
def mM(L:TL)(base:Nat)(w:World)(X:Nat->Prop):List Value->List RC->List Nat->Prop
 |[],[],F=>F=[]
 |v::C,.any d::j,F=>(∃G,Rep w d v G/\∀b∈G,X b)/\mM L base w X C j F
 |v::C,.ro d::j,F=>Rep w d v []/\mM L base w X C j F
 |v::C,.own e sz I::j,F=>∃cells G J,w.ownsRow base e sz v I.length cells/\(∀x∈I,x.length=sz)/\gX L w I e cells G/\
   F=v.ownBlock.toList++(G++J)/\mM L base w X C j J
 |_,_,_=>False
def Ha(L:TL)(base:Nat)(w:World)(X:Nat->Prop)(v:Value)(r:Bool×List RC)(F:List Nat):Prop:=
 match r with
 |(true,j)=>∃C,v=.agg C/\mM L base w X C.toList j F
 |(false,j)=>mM L base w X [v] j F
def zO(L:TL)(base:Nat)(w:World)(X:Nat->Prop):List Value->List (Bool×List RC)->List Nat->Prop
 |[],[],F=>F=[]
 |v::J,r::I,F=>∃C j,F=C++j/\Ha L base w X v r C/\zO L base w X J I j
 |_,_,_=>False
def vF(base:Nat)(w:World)(F:List Nat):Prop:=F.Nodup/\∀b∈F,base<=b/\So w b
def LH(L:TL)(base:Nat)(w:World)(X:Nat->Prop)(v:Value)(j:List (Bool×List RC))(F:List Nat):Prop:=
 match j with
 |[r]=>Ha L base w X v r F
 |j=>∃C,v=.tuple C/\zO L base w X C.toList j F
def Fw(L:TL)(base:Nat)(w:World)(v:Value)(j:List (Bool×List RC))(Q:Nat->Prop):Prop:=
 ∃F X,vF base w F/\(∀b,X b->(Q b\/base<=b)/\b<w.heap.size)/\(vQ j=true->F=[])/\LH L base w X v j F
def GM (P : Program) (f : FuncId) : Prop := ∃ fn c, P.funcs[f]? = some fn /\ fn.body = some c /\ (fn.name == "runtime.NumGoroutine") = false
def Ks(base:Nat)(e:TypeId)(sz:Nat)(w:World)(v:Value)(n:Nat)(cells:List Value)(ed:Ending)(w':World):Prop:=
 ∃j,ed=.returned j/\w'.ownsRow base e sz j n cells/\w.grownBy w' v.ownBlock/\(j.ownBlock=v.ownBlock \/∃b,w.heap.size<=b/\j.ownBlock=some b)
def Yf(P:Program)(f:FuncId)(args:List (Bool×List D)):Ed->Prop
 | .del e sz=>∀(base:Nat) (w:World) (v:Value) (n:Nat) (cells:List Value) (i j:Nat),base<=w.heap.size->w.ownsRow base e sz v n cells->i<=j->j<=n->(∀u∈cells,u.oneCell'=true)->
   Calls P f #[v,.int .i64 i,.int .i64 j] w (Ks base e sz w v (i+(n-j)) (cells.take (i*sz)++cells.drop (j*sz)))
 | .ins e sz bytes=>∀(base:Nat) (w:World) (v I:Value) (n m:Nat) (cells cells2:List Value) (i:Nat),base<=w.heap.size->w.ownsRow base e sz v n cells->w.ownsRow base e sz I m cells2->
   (∀b,v.ownBlock=some b->I.ownBlock≠some b)->i<=n->0<m->(n+m)*bytes<=140737488355328->(∀u∈cells,u.oneCell'=true)->(∀u∈cells2,u.oneCell'=true)->
   Calls P f #[v,.int .i64 i,I] w (Ks base e sz w v (n+m) (cells.take (i*sz)++(cells2++cells.drop (i*sz))))
 | .nV e sz ys=>∃xs g caps,args=[(false,[.sl xs]),(false,[.fn g caps])]/\(∀x∈xs,x.all D.flat=true)/\((∀y∈ys,y.length=sz)/\∀y∈ys,y.all D.flat=true)/\∀(base:Nat) (w:World) (v fv:Value) (cells:List Value) (F2:List Nat),base<=w.heap.size->w.ownsRow base e sz v xs.length cells->
   (∀x∈xs,x.length=sz)->aQ w xs cells []->Rep w (.fn g caps) fv F2->(∀b,v.ownBlock=some b->b∉F2)->
   Calls P f #[v,fv] w λed C=>∃U cells',ed=.returned U/\C.ownsRow base e sz U ys.length cells'/\aQ C ys cells' []/\w.grownBy C v.ownBlock/\(U.ownBlock=v.ownBlock\/U.ownBlock=none \/∃b,w.heap.size<=b/\U.ownBlock=some b)
 | .pass=>∀(w:World) (v1 I:Value) (F:List Nat),sH w [v1,I] args F->Calls P f #[v1,I] w λe C=>e=.returned (.tuple #[I,.bool true])/\Below w.heap.size w C
 | .sel c k sz=>∀(w:World) (J:Array Value) (F:List Nat),sH w J.toList args F->Calls P f J w λe C=>Below w.heap.size w C/\∃us:Array Value,us.size=sz/\e=.returned (.tuple #[.agg us,.bool true])/\
   ∃cs rest b o n cap,J.toList=.agg cs::rest/\cs.toList[c]? =some (.slice (some ⟨b,o,none⟩) n cap)/\xX w b (o+k*sz) us.toList
 | .lend _ _=>False
 | .newb t es=>∀(w:World) (J:Array Value) (F:List Nat),sH w J.toList args F->Calls P f J w λe C=>Below w.heap.size w C/\∃b vals G,e=.returned (.pointer (some ⟨b,0,none⟩))/\w.heap.size<=b/\
   C.heap[b]? =some (.cells vals t (0,0))/\aG C es vals.toList G/\b∉G/\∀x∈G,(x∈F\/w.heap.size<=x)/\x<C.heap.size
def TG(P:Program)(f:FuncId)(args:List (Bool×List D))(t:TypeId)(es:List D)(U:List (Bool×List RC)):Prop:=
 vQ U=false/\es.all D.flat=true/\∃d0 ds rest,args=(false,[.ptr (d0::ds)])::rest/\ds.all D.flat=true/\es.length=ds.length/\
  ∀(w:World) (b:Nat) (vals:Array Value) (I:Value) (j vs:List Value) (J F:List Nat),w.heap[b]? =some (.cells vals t (0,0))->vals.toList=I::j->Rep w d0 I J->aG w ds j []->b∉J->
   sH w vs rest F->b∉F->Calls P f (.pointer (some ⟨b,0,none⟩)::vs).toArray w λe C=>∃v us,e=.returned v/\Fw (slP P) w.heap.size C v U (λx=>x<w.heap.size)/\w.grownBy C (some b)/\
    C.heap[b]? =some (.cells (I::us).toArray t (0,0))/\aG C es us []
def Js(P:Program)(f:FuncId)(args:List (Bool×List D))(I:List (Bool×List RC)):Prop:=
 GM P f/\∀(w:World) (j:Array Value) (F:List Nat),sH w j.toList args F->Calls P f j w λe C=>∃v,e=.returned v/\Fw (slP P) w.heap.size C v I (λb=>b∈F)/\Below w.heap.size w C
def kM(P:Program)(f:FuncId)(args:List (Bool×List D))(C:List (Bool×List RC)):Prop:=
 Js P f args C\/(∃q,C=[(false,[.edit q])]/\GM P f/\Yf P f args q) \/∃t es j,C=(false,[.edit (.lend t es)])::j/\GM P f/\TG P f args t es j
theorem kM.body{P:Program}{f:FuncId}{args:List (Bool×List D)}{j:List (Bool×List RC)}(h:kM P f args j):GM P f:=by rcases h with h|⟨q,_,h,_⟩|⟨t,es,C,_,h,_⟩;(exact h.1);(exact h);·exact h
theorem kM.old{P:Program}{f:FuncId}{args:List (Bool×List D)}{j:List (Bool×List RC)}(h:kM P f args j)(C:vQ j=false):Js P f args j:=by rcases h with h|⟨q,rfl,_⟩|⟨t,es,I,rfl,_⟩;(exact h);(simp[vQ,RC.isAny]at C);·simp[vQ,RC.isAny]at C
inductive TK where
 |struct (fs:List (Nat×Nat×Bool))
 |arr (e:TypeId) (n:Nat)
 |slice (e:TypeId)
 |int (k:IntKind)
 |bool
 |str
 |other
inductive LK where
 |int
 |bool
 |str
structure TI where
 k:TK
 size:Nat
 bytes:Nat
 zero:List SC
 cmp:List LK:=[]
 sl:Lb:=[]
def TI.agg(j:TI):Bool:=match j.k with| .struct _=>true| .arr _ _=>true|_=>false
abbrev KK:=TypeId->Option TI
inductive Prog where
 |done
 |fail
 |getT (t:Nat) (k:SV->Prog)
 |C8 (t:Nat) (v:SV) (k:Prog)
 |getH (i:Nat) (k:Nat×At->Prog)
 |eV (i:Nat) (x:Nat×At) (k:Prog)
 |call (f:FuncId) (args:List (Bool×List D)) (k:List (Bool×List RC)->Prog)
 |must (p:Prop) (k:Prog)
inductive Loc where
 |t (i:Nat)
 |h (i:Nat)
 |f (i:Nat)
 deriving DecidableEq
def ex(P:Program):Prog->St->(St->Prop)->Prop
 | .done,s,K=>K s
 | .fail,_,_=>False
 | .getT t k,s,K=>ex P (k (s.t t)) s K
 | .C8 t v k,s,K=>ex P k (s.C8 t v) K
 | .getH i k,s,K=>ex P (k (s.h i)) s K
 | .eV i x k,s,K=>ex P k (s.eV i x) K
 | .call f args k,s,K=>∃j,kM P f args j/\ex P (k j) s K
 | .must p k,s,K=>p/\ex P k s K
def cst:Value->SV
 | .int k n=>.v false [.dat (.int k n)]
 | .bool b=>.v false [.dat (.bool b)]
 | .string s=>.v false [.dat (.str s)]
 | .slice none 0 0=>.v false [.nil]
 |_=>.unk
def vOp(x:Operand)(k:SV->Prog):Prog:=
 match x with
 | .tmp t=>.getT t k
 | .const c=>k (cst c)
 | .func f=>k (.v false [.dat (.fn f [])])
 | .global _=>.fail
def S4(x:Option Operand)(k:Option SV->Prog):Prog:=
 match x with
 |some x=>vOp x λv=>k (some v)
 |none=>k none
def put(N:Nat)(j:Option Tmp)(v:SV):Prog:=
 match j with
 |some d=>if d<N then .C8 d v .done else .fail
 |none=>.done
def rid(d j:Nat):Nat:=100000*(j+1)+d
def xE:List SC->Lb->(List D->Bool->Prog)->Prog
 |[],_,k=>k [] true
 | .dat d::j,ts,k=>xE j ts.tail λds b=>k (d::ds) (d.flat&&b)
 | .nil::j,ts,k=>xE j ts.tail λds b=>k (.sl []::ds) b
 | .row i ver::j,ts,k=>.getH i λo=>
   match o.2 with
   | .row e sz C deep=>if o.1=ver then .eV i (ver,.none) (xE j ts.tail λds b=>k (.sl C::ds) (if lab ts=none\/lab ts=some (e,sz)then deep&&b else false))else .fail
   |_=>.fail
 |_::_,_,_=>.fail
def Bh:List SC->(List D->Prog)->Prog
 |[],k=>k []
 | .dat d::j,k=>Bh j λds=>k (d::ds)
 | .nil::j,k=>Bh j λds=>k (.sl []::ds)
 | .old _ d _::j,k=>Bh j λds=>k (d::ds)
 | .row i ver::j,k=>.getH i λo=>
   match o.2 with
   | .row _ _ C _=>if o.1=ver then Bh j λds=>k (.sl C::ds)else .fail
   |_=>.fail
 |_::_,_=>.fail
def Ct(i ver off:Nat)(k:List D->Prog):Prog:=
 .getH i λo=>
  match o.2 with
  | .box _ cells=>if o.1=ver then Bh (cells.drop off) k else .fail
  |_=>.fail
def AG:List (Nat×Nat×Nat)->(List D->Prog)->Prog
 |[],k=>k []
 |(i,ver,j)::C,k=>Ct i ver j λds=>AG C λes=>k (.ptr ds::es)
def xZ:List SC->(List D->Prog)->Prog
 |[],k=>k []
 | .dat d::j,k=>xZ j λds=>k (d::ds)
 | .nil::j,k=>xZ j λds=>k (.sl []::ds)
 | .row i ver::j,k=>.getH i λo=>
   match o.2 with
   | .row _ _ C _=>if o.1=ver then xZ j λds=>k (.sl C::ds)else .fail
   |_=>.fail
 | .bp i ver I::j,k=>Ct i ver I λds=>xZ j λes=>k (.ptr ds::es)
 | .clo f caps::j,k=>AG caps λds=>xZ j λes=>k (.fn f ds::es)
 | .old _ d _::j,k=>xZ j λds=>k (d::ds)
 | .part i ver J n::j,k=>.getH i λo=>
   match o.2 with
   | .row _ _ C _=>if o.1=ver then xZ j λds=>k (.sl ((C.drop J).take n)::ds)else .fail
   |_=>.fail
 | .exa _ d _::j,k=>xZ j λds=>k (d::ds)
 |_::_,_=>.fail
def Bx:List Operand->(List (Bool×List D)->Prog)->Prog
 |[],k=>k []
 |x::C,k=>vOp x λv=>
   match v with
   | .v j I=>xZ I λds=>Bx C λas=>k ((j,ds)::as)
   |_=>.fail
def sA(d:Nat):Nat->List RC->(List SC->Prog)->Prog
 |_,[],k=>k []
 |j,.any x::C,k=>sA d (j+1) C λI=>k (.dat x::I)
 |j,.ro x::C,k=>sA d (j+1) C λI=>k (.dat x::I)
 |_,.edit _::_,_=>.fail
 |j,.own e sz J::C,k=>.getH (rid d j) λo=>.eV (rid d j) (o.1+1,.row e sz J true) (sA d (j+1) C λI=>k (.row (rid d j) (o.1+1)::I))
def zW(d:Nat):Nat->List (Bool×List RC)->(List (Bool×List SC)->Prog)->Prog
 |_,[],k=>k []
 |j,(I,r)::C,k=>sA d j r λJ=>zW d (j+r.length) C λU=>k ((I,J)::U)
def yL(N:Nat)(C:Option Tmp)(j:List (Bool×List RC)):Prog:=
 match C with
 |none=>.done
 |some d=>
  match j with
  |[(I,r)]=>sA d 0 r λU=>put N (some d) (.v I U)
  |j=>zW d 0 j λJ=>put N (some d) (.tup J)
def Ew:List SC->(List D->Prog)->Prog
 |[],k=>k []
 | .dat d::j,k=>Ew j λds=>k (d::ds)
 | .nil::j,k=>Ew j λds=>k (.sl []::ds)
 | .old _ d _::j,k=>Ew j λds=>k (d::ds)
 | .row i ver::j,k=>.getH i λo=>
   match o.2 with
   | .row _ _ C _=>if o.1=ver then .eV i (ver,.none) (Ew j λds=>k (.sl C::ds))else .fail
   |_=>.fail
 |_::_,_=>.fail
def GV:List Operand->(List (Bool×List D)->Prog)->Prog
 |[],k=>k []
 |x::C,k=>vOp x λv=>
   match v with
   | .v j I=>Ew I λds=>GV C λas=>k ((j,ds)::as)
   |_=>.fail
def uL(N:Nat)(I:Option Tmp)(xs:List Operand)(avs:List (Bool×List D))(q:Ed):Prog:=
 match q,xs with
 | .del e sz,[a,b,c]=>vOp a λU=>vOp b λvb=>vOp c λvc=>match U,vb,vc with
   | .v false [.row i ver],.v false [.dat (.int .i64 x)],.v false [.dat (.int .i64 y)]=>.getH i λo=>match o.2 with
     | .row e' C J deep=>if o.1=ver/\e'=e/\C=sz then .must (0<=x/\x<=y/\y.toNat<=J.length)
       (.eV i (ver+1,.row e sz (J.take x.toNat++J.drop y.toNat) deep) (put N I (.v false [.row i (ver+1)])))else .fail
     |_=>.fail
   |_,_,_=>.fail
 | .ins e sz bytes,[a,b,c]=>vOp a λU=>vOp b λvb=>vOp c λvc=>match U,vb,vc with
   | .v false [.row i ver],.v false [.dat (.int .i64 x)],.v false [.row j ver2]=>.getH i λo=>match o.2 with
     | .row e' C J deep=>if o.1=ver/\e'=e/\C=sz then .eV i (ver,.none) (.getH j λp=>match p.2 with
       | .row e'' sz'' ys b=>if p.1=ver2/\e''=e/\sz''=sz then .eV j (ver2,.none) (.must (0<=x/\x.toNat<=J.length/\0<ys.length/\(J.length+ys.length)*bytes<=140737488355328)
         (.eV i (ver+1,.row e sz (J.take x.toNat++(ys++J.drop x.toNat)) (deep&&b)) (put N I (.v false [.row i (ver+1)]))))else .fail
       |_=>.fail)else .fail
     |_=>.fail
   |_,_,_=>.fail
 | .nV e sz ys,[a,b]=>vOp a λU=>vOp b λvb=>match U,vb with
   | .v false [.row i ver],.v false [c]=>.getH i λo=>match o.2 with
     | .row e' C J deep=>if o.1=ver/\e'=e/\C=sz then .eV i (ver,.none) (xZ [c] λds=>.must (avs=[(false,[.sl J]),(false,ds)])
       (.eV i (ver+1,.row e sz ys deep) (put N I (.v false [.row i (ver+1)]))))else .fail
     |_=>.fail
   |_,_=>.fail
 | .pass,[_,b]=>vOp b λvb=>match vb with
   | .v ag cs=>put N I (.tup [(ag,cs),(false,[.dat (.bool true)])])
   |_=>.fail
 | .sel c k sz,a::_=>vOp a λU=>match U with
   | .v true cs=>match cs[c]? with
     |some (.row i ver)=>.getH i λo=>match o.2 with
       | .row _ C J _=>if o.1=ver/\C=sz then(match J[k]? with
         |some y=>put N I (.tup [(true,y.map .dat),(false,[.dat (.bool true)])])
         |none=>.fail)else .fail
       |_=>.fail
     |_=>.fail
   |_=>.fail
 | .newb t es,xs=>match I with
   |some d=>GV xs λas=>.must (as=avs) (.getH d λp=>.eV d (p.1+1,.box t (es.map .dat)) (put N (some d) (.v false [.bp d (p.1+1) 0])))
   |none=>.fail
 |_,_=>.fail
def Jz:List Operand->(List (Bool×List D)->Prog)->Prog
 |[],k=>k []
 |x::C,k=>vOp x λv=>
   match v with
   | .v j I=>Bh I λds=>Jz C λas=>k ((j,ds)::as)
   |_=>.fail
def Kq(N:Nat)(C:Option Tmp)(t:TypeId)(es:List D)(rs:List (Bool×List RC))(xs:List Operand)(j:List (Bool×List D)):Prog:=
 match xs with
 |[]=>.fail
 |a::J=>vOp a λU=>match U with
   | .v false [.bp i ver 0]=>.getH i λo=>match o.2 with
     | .box t' (I::cells)=>if o.1=ver/\t'=t then Bh [I] λd0=>Bh cells λds=>.must (cells=ds.map .dat) (Jz J λas=>.must (j=(false,[.ptr (d0++ds)])::as)
       (.eV i (ver,.box t (I::es.map .dat)) (yL N C rs)))else .fail
     |_=>.fail
   |_=>.fail
def RC.ed:RC->Option Ed
 | .edit q=>some q
 | .any _=>none
 | .ro _=>none
 | .own _ _ _=>none
def KH:List (Bool×List RC)->Option Ed
 |[]=>none
 |(_,[])::_=>none
 |(_,r::_)::_=>r.ed
def BF(N:Nat)(j:Option Tmp)(xs:List Operand)(C:List (Bool×List D))(I:List (Bool×List RC)):Option Ed->Prog
 |some (.lend t es)=>Kq N j t es I.tail xs C
 |some (.del e sz)=>uL N j xs C (.del e sz)
 |some (.ins e sz b)=>uL N j xs C (.ins e sz b)
 |some (.nV e sz J)=>uL N j xs C (.nV e sz J)
 |some .pass=>uL N j xs C .pass
 |some (.sel c k sz)=>uL N j xs C (.sel c k sz)
 |some (.newb t es)=>uL N j xs C (.newb t es)
 |none=>GV xs λas=>.must (as=C) (yL N j I)
def Gr(N:Nat)(j:Option Tmp)(xs:List Operand)(I:List (Bool×List D))(C:List (Bool×List RC)):Prog:=
 if vQ C=true then BF N j xs I C (KH C)else yL N j C
def zH(place:Nat->Option (Nat×Nat)):List SC->List (Nat×Operand)->(List SC->Prog)->Prog
 |cells,[],k=>k cells
 |cells,(i,x)::rest,k=>vOp x λv=>
   match v,place i with
   | .v _ C,some (j,sz)=>if C.length=sz/\j+sz<=cells.length then zH place (cells.take j++(C++cells.drop (j+sz))) rest k else .fail
   |_,_=>.fail
def rows(sz:Nat):Nat->List D->List (List D)
 |0,_=>[]
 |n+1,ds=>ds.take sz::rows sz n (ds.drop sz)
def one(d:D):SV:=.v false [.dat d]
def pY(op:BinOp)(k:IntKind)(a b:Int):Option D:=
 match op with
 | .add=>some (.int k (k.wrap (a+b)))
 | .sub=>some (.int k (k.wrap (a-b)))
 | .mul=>some (.int k (k.wrap (a*b)))
 | .eql=>some (.bool (a==b))
 | .neq=>some (.bool (a !=b))
 | .lss=>some (.bool (decide (a<b)))
 | .leq=>some (.bool (decide (a<=b)))
 | .gtr=>some (.bool (decide (a>b)))
 | .geq=>some (.bool (decide (a>=b)))
 | .quo=>if b=0 then none else some (.int k (k.wrap (a.tdiv b)))
 | .rem=>if b=0 then none else some (.int k (a.tmod b))
 | .shl=>if b<0 then none else some (.int k (k.wrap (a*2^(min b.toNat k.bits))))
 | .shr=>if b<0 then none else some (.int k (a.fdiv (2^(min b.toNat k.bits))))
 | .and=>some (.int k (k.wrap (BitVec.ofInt k.bits a&&&BitVec.ofInt k.bits b).toNat))
 | .or=>some (.int k (k.wrap (BitVec.ofInt k.bits a|||BitVec.ofInt k.bits b).toNat))
 | .xor=>some (.int k (k.wrap (BitVec.ofInt k.bits a ^^^ BitVec.ofInt k.bits b).toNat))
 | .andNot=>some (.int k (k.wrap (BitVec.ofInt k.bits a &&& ~~~ BitVec.ofInt k.bits b).toNat))
def zF(l:List UInt8):List (List D):=l.map λb=>[.int .u8 (b.toNat:Int)]
def byteOf:List D->UInt8
 |[.int _ n]=>UInt8.ofNat n.toNat
 |_=>0
def strOf(xs:List (List D)):ByteArray:=⟨(xs.map byteOf).toArray⟩
def CY(op:BinOp)(x y:ByteArray):Option D:=
 match op with
 | .eql=>some (.bool (x.toList==y.toList))
 | .neq=>some (.bool !(x.toList==y.toList))
 | .lss=>some (.bool (Op.bytesLess x.toList y.toList))
 | .leq=>some (.bool (Op.bytesLess x.toList y.toList||x.toList==y.toList))
 | .gtr=>some (.bool !(Op.bytesLess x.toList y.toList||x.toList==y.toList))
 | .geq=>some (.bool !(Op.bytesLess x.toList y.toList))
 |_=>none
def lenOf(v:SV)(k:Nat->Prog):Prog:=
 match v with
 | .v false [.dat (.sl j)]=>k j.length
 | .v false [.old _ (.sl j) _]=>k j.length
 | .v false [.nil]=>k 0
 | .v false [.row i ver]=>.getH i λo=>match o.2 with
   | .row _ _ j _=>if o.1=ver then k j.length else .fail
   |_=>.fail
 | .v false [.part i ver _ n]=>.getH i λo=>match o.2 with
   | .row _ _ _ _=>if o.1=ver then k n else .fail
   |_=>.fail
 |_=>.fail
def cellAt(W:World)(p:Value)(j:Nat):Value:=
 match p with
 | .pointer (some ⟨b,C,_⟩)=>(W.cell? ⟨b,C+j,none⟩).getD undef
 |_=>undef
def T7(v:Value)(i j:Nat):Value:=
 match v with
 | .slice (some ⟨b,C,_⟩) _ _=>.pointer (some ⟨b,C+i*j,none⟩)
 |_=>undef
def UK(W:World)(p:Value):Nat->List D->List SC
 |_,[]=>[]
 |j,d::ds=>.exa W d (cellAt W p j)::UK W p (j+1) ds
def FN:List D->Option Value
 |[]=>none
 | .val u::_=>some u
 | .int _ _::_=>none
 | .bool _::_=>none
 | .str _::_=>none
 | .sl _::_=>none
 | .ptr _::_=>none
 | .fn _ _::_=>none
 | .opq::_=>none
def GU(N:Nat)(J:Option Tmp)(C:TI)(p:SV):Prog:=
 match p with
 | .v false [.bp i ver I]=>.getH i λo=>match o.2 with
   | .box _ cells=>if o.1=ver/\I+C.size<=cells.length then put N J (.v C.agg ((cells.drop I).take C.size))else .fail
   |_=>.fail
 | .v false [.dat (.ptr ds)]=>if C.size<=ds.length then put N J (.v C.agg ((ds.take C.size).map .dat))else .fail
 | .v false [.rp i ver j I]=>.getH i λo=>match o.2 with
   | .row _ _ xs _=>if o.1=ver then(match xs[j]? with
     |some x=>if I+C.size<=x.length then(match FN ((x.drop I).take C.size)with
       |some u=>.getH 7058000 λp=>match p.2 with
         | .pin U ver' u'=>.must (u'=u/\C.agg=false) (.getH U λq=>match q.2 with
           | .row _ _ _ _=>if q.1=ver' then put N J (.v false [.row U ver'])else .fail
           |_=>.fail)
         |_=>.fail
       |none=>put N J (.v C.agg (((x.drop I).take C.size).map .dat)))else .fail
     |none=>.fail)else .fail
   |_=>.fail
 | .v false [.exa W (.ptr ds) p]=>if C.size<=ds.length then put N J (.v C.agg ((UK W p 0 ds).take C.size))else .fail
 |_=>.fail
def GJ(T:KK)(I:TI)(p v:SV):Prog:=
 match p,v with
 | .v false [.bp i ver C],.v _ J=>.getH i λo=>match o.2 with
   | .box t cells=>if o.1=ver/\J.length=I.size/\C+I.size<=cells.length then .eV i (ver,.box t (cells.take C++(J++cells.drop (C+I.size)))) .done else .fail
   |_=>.fail
 | .v false [.rp i ver j C],.v _ J=>.getH i λo0=>match o0.2 with
   | .row e0 _ _ _=>match T e0 with
    |some te=>xE J (te.sl.drop C) λds b=>.getH i λo=>match o.2 with
     | .row e sz U deep=>if o.1=ver/\J.length=I.size/\e=e0 then(match U[j]? with
       |some x=>if C+I.size<=x.length then .eV i (ver,.row e sz (U.set j (x.take C++(ds++x.drop (C+I.size)))) (deep&&b)) .done else .fail
       |none=>.fail)else .fail
     |_=>.fail
    |none=>.fail
   |_=>.fail
 |_,_=>.fail
def EU(N:Nat)(C:Option Tmp)(off:Nat)(p:SV):Prog:=
 match p with
 | .v false [.bp i ver o]=>.getH i λq=>match q.2 with
   | .box _ _=>if q.1=ver then put N C (.v false [.bp i ver (o+off)])else .fail
   |_=>.fail
 | .v false [.rp i ver j o]=>.getH i λq=>match q.2 with
   | .row _ _ _ _=>if q.1=ver then put N C (.v false [.rp i ver j (o+off)])else .fail
   |_=>.fail
 | .v false [.dat (.ptr ds)]=>if off<=ds.length then put N C (.v false [.dat (.ptr (ds.drop off))])else .fail
 |_=>.fail
def wR(N:Nat)(I:Option Tmp)(C:Nat)(x U:SV):Prog:=
 match x,U with
 | .v false [.dat (.sl J)],.v false [.dat (.int _ i)]=>.must (0<=i) (match J[i.toNat]? with
   |some e=>if e.length=C then put N I (.v false [.dat (.ptr e)])else .fail
   |none=>.fail)
 | .v false [.old _ (.sl J) _],.v false [.dat (.int _ i)]=>.must (0<=i) (match J[i.toNat]? with
   |some e=>if e.length=C then put N I (.v false [.dat (.ptr e)])else .fail
   |none=>.fail)
 | .v false [.row j ver],.v false [.dat (.int _ i)]=>.getH j λo=>match o.2 with
   | .row _ sz J _=>if o.1=ver/\sz=C then .must (0<=i/\i.toNat<J.length) (put N I (.v false [.rp j ver i.toNat 0]))else .fail
   |_=>.fail
 | .v false [.exa W (.sl J) v],.v false [.dat (.int _ i)]=>.must (0<=i) (match J[i.toNat]? with
   |some e=>if e.length=C then put N I (.v false [.exa W (.ptr e) (T7 v i.toNat C)])else .fail
   |none=>.fail)
 |_,_=>.fail
def F8(sz lo n:Nat)(xs:List (List D)):List (List D):=xs.take lo++(List.replicate n (List.replicate sz .opq)++xs.drop (lo+n))
def yU(C:TypeId)(x:SV)(k:List (List D)->Bool->Prog):Prog:=
 match x with
 | .v false [.dat (.sl j)]=>k j (j.all λy=>y.all D.flat)
 | .v false [.nil]=>k [] true
 | .v false [.row i ver]=>.getH i λo=>match o.2 with
   | .row e _ j deep=>if o.1=ver then .eV i (ver,.none) (k j (if e=C then deep else false))else .fail
   |_=>.fail
 | .v false [.part i ver I n]=>.getH i λo=>match o.2 with
   | .row e sz j deep=>if o.1=ver then .eV i (ver,.row e sz (F8 sz I n j) deep) (k ((j.drop I).take n) (if e=C then deep else false))else .fail
   |_=>.fail
 |_=>.fail
def H3(N:Nat)(j:Option Tmp)(C i ver l:Nat)(h:Nat->Nat)(p:Nat->Prop):Prog:=
 .getH i λq=>match q.2 with
  | .row _ sz I _=>if q.1=ver/\sz=C then .must (p I.length) (put N j (.v false [.part i ver l (h I.length-l)]))else .fail
  |_=>.fail
def Bq(N:Nat)(C:Option Tmp)(e:TypeId)(sz bytes:Nat)(s x:SV):Prog:=
 match C with
 |none=>.fail
 |some d=>
 match s with
 | .v false [.row i ver]=>.getH i λo=>match o.2 with
   | .row e' I U deep=>if o.1=ver/\e'=e/\I=sz then
     .eV i (ver,.none) (yU e x λj b=>.must ((∀y∈j,y.length=sz)/\(U.length+j.length)*bytes<=140737488355328/\0<sz/\0<bytes) (.eV i (ver+1,.row e sz (U++j) (deep&&b)) (put N C (.v false [.row i (ver+1)]))))else .fail
   |_=>.fail
 | .v false [.part i ver 0 n]=>.getH i λp=>match p.2 with
   | .row _ _ J _=>yU e x λj b=>.getH i λo=>match o.2 with
     | .row e' I U deep=>if o.1=ver/\e'=e/\I=sz then
       .must (U.take n=J.take n/\(∀y∈j,y.length=sz)/\(n+j.length)*bytes<=140737488355328/\0<sz/\0<bytes) (.eV i (ver+1,.row e sz (J.take n++j) (deep&&b)) (put N C (.v false [.row i (ver+1)])))else .fail
     |_=>.fail
   |_=>.fail
 | .v false [.nil]=>yU e x λj b=>.must ((∀y∈j,y.length=sz)/\j.length*bytes<=140737488355328/\0<sz/\0<bytes) (.getH (rid d 0) λo=>.eV (rid d 0) (o.1+1,.row e sz j b) (put N C (.v false [.row (rid d 0) (o.1+1)])))
 |_=>.fail
def Lv(I:Option Tmp)(e:TypeId)(sz:Nat)(v:SV):Prog:=
 match I,v with
 |none,.v false [.part i ver J n]=>.getH i λp=>match p.2 with
   | .row U C j deep=>if p.1=ver/\U=e/\C=sz then .must ((if deep=true then j.all (λy=>y.all D.flat)else true)=true/\J+n=j.length)
     (.eV i (ver,.row e sz (j.take J++List.replicate n (List.replicate sz .opq)) deep) .done)else .fail
   |_=>.fail
 |_,_=>.fail
def Jn(N:Nat)(j:Option Tmp)(e:TypeId)(s x:SV):Prog:=
 match s,x with
 | .v false [.row i ver],.v false [.dat (.str b)]=>.getH i λo=>match o.2 with
   | .row I 1 C deep=>if o.1=ver/\I=e then
     .must (C.length+b.size<=140737488355328) (.eV i (ver+1,.row e 1 (C++zF b.data.toList) deep) (put N j (.v false [.row i (ver+1)])))else .fail
   |_=>.fail
 |_,_=>.fail
def Im:List Operand->(List (Nat×Nat×Nat)->Prog)->Prog
 |[],k=>k []
 |x::I,k=>vOp x λv=>match v with
   | .v false [.bp i ver j]=>Im I λC=>k ((i,ver,j)::C)
   |_=>.fail
def wS:List LK->List SC->List SC->Option Bool
 |[],[],[]=>some true
 | .int::ls,.dat (.int k a)::j,.dat (.int I b)::C=>if k=I then(wS ls j C).map ((a==b) && ·)else none
 | .bool::ls,.dat (.bool a)::j,.dat (.bool b)::C=>(wS ls j C).map ((a==b) && ·)
 | .str::ls,.dat (.str a)::j,.dat (.str b)::C=>(wS ls j C).map ((a.toList==b.toList) && ·)
 |_,_,_=>none
def vT(T:KK)(N:Nat)(o:Oper):Prog:=
 match o.op with
 | .move x| .assign x=>vOp x λv=>put N o.dst v
 | .pick c a b=>vOp c λv=>match v with
   | .v false [.dat (.bool t)]=>if t=true then vOp a λv=>put N o.dst v else vOp b λv=>put N o.dst v
   |_=>.fail
 | .alloc t=>match o.dst,T t with
   |some d,some C=>.getH d λp=>.eV d (p.1+1,.box t C.zero) (put N (some d) (.v false [.bp d (p.1+1) 0]))
   |_,_=>.fail
 | .box t x=>match o.dst with
   |some d=>vOp x λv=>match v with
     | .v _ U=>.getH d λp=>.eV d (p.1+1,.box t U) (put N (some d) (.v false [.bp d (p.1+1) 0]))
     |_=>.fail
   |none=>.fail
 | .build t parts=>match T t with
   |some { k:=.struct fs,zero:=z,.. }=>zH (λi=>(fs[i]?).map λf=>(f.1,f.2.1)) z parts.toList λU=>put N o.dst (.v true U)
   |some { k:=.arr e _,zero:=z,.. }=>match T e,parts.toList with
     |some _,[]=>put N o.dst (.v true z)
     |_,_=>.fail
   |_=>.fail
 | .buildSlice t len parts=>match o.dst,T t with
   |some d,some { k:=.slice e,.. }=>match T e with
     |some C=>if len*C.size<=16777216/\0<C.size/\(C.sl=[]\/C.sl.length=C.size)then
       zH (λi=>some (i*C.size,C.size)) ((List.replicate len C.zero).flatten) parts.toList λU=>xE U ((List.replicate len C.sl).flatten) λds b=>
        .getH (rid d 0) λp=>.eV (rid d 0) (p.1+1,.row e C.size (rows C.size len ds) b) (put N (some d) (.v false [.row (rid d 0) (p.1+1)]))else .fail
     |none=>.fail
   |_,_=>.fail
 | .makeSlice t l c=>match o.dst,T t with
   |some d,some { k:=.slice e,.. }=>match T e with
     |some C=>vOp l λvl=>vOp c λvc=>match vl,vc with
       | .v false [.dat (.int _ n)],.v false [.dat (.int _ m)]=>.must (n=m/\0<=n/\n.toNat*C.bytes<=140737488355328/\n<=9223372036854775807/\0<C.size) (xE C.zero C.sl λz b=>
         .getH (rid d 0) λp=>.eV (rid d 0) (p.1+1,.row e C.size (List.replicate n.toNat z) b) (put N (some d) (.v false [.row (rid d 0) (p.1+1)])))
       |_,_=>.fail
     |none=>.fail
   |_,_=>.fail
 | .load t x=>match T t with
   |some C=>vOp x λp=>GU N o.dst C p
   |none=>.fail
 | .store t x y=>match o.dst,T t with
   |none,some C=>vOp x λp=>vOp y λv=>GJ T C p v
   |_,_=>.fail
 | .fieldAddr s x f=>match T s with
   |some { k:=.struct fs,.. }=>match fs[f]? with
     |some (I,sz,_)=>if 0<sz then vOp x λp=>EU N o.dst I p else .fail
     |none=>.fail
   |_=>.fail
 | .field s x f=>match T s with
   |some { k:=.struct fs,.. }=>match fs[f]? with
     |some (I,sz,ag)=>vOp x λp=>match p with
       | .v true U=>if I+sz<=U.length/\(ag=true\/sz=1)then put N o.dst (.v ag ((U.drop I).take sz))else .fail
       |_=>.fail
     |none=>.fail
   |_=>.fail
 | .indexAddr t x ix=>match T t with
   |some { k:=.slice e,.. }=>match T e with
     |some C=>vOp x λa=>vOp ix λi=>wR N o.dst C.size a i
     |none=>.fail
   |some { k:=.arr e n,.. }=>match T e with
     |some C=>vOp x λa=>vOp ix λi=>match a,i with
       | .v false [.bp j ver I],.v false [.dat (.int _ m)]=>.getH j λq=>match q.2 with
         | .box _ _=>if q.1=ver then .must (0<=m/\m.toNat<n) (put N o.dst (.v false [.bp j ver (I+m.toNat*C.size)]))else .fail
         |_=>.fail
       |_,_=>.fail
     |none=>.fail
   |_=>.fail
 | .index t x ix=>match T t with
   |some { k:=.str,.. }=>vOp x λa=>vOp ix λi=>match a,i with
     | .v false [.dat (.str s)],.v false [.dat (.int _ n)]=>.must (0<=n) (match s[n.toNat]? with
       |some b=>put N o.dst (one (.int .u8 b.toNat))
       |none=>.fail)
     |_,_=>.fail
   |_=>.fail
 | .binOp op t x y _=>vOp x λa=>vOp y λb=>match a,b with
   | .v false [.dat (.int k m)],.v false [.dat (.int k' n)]=>if k=k'\/op=.shr\/op=.shl then(match pY op k m n with
     |some d=>put N o.dst (one d)
     |none=>.fail)else .fail
   | .v false [.dat (.str m)],.v false [.dat (.str n)]=>if op=.add then .must (m.size+n.size<=9223372036854775807) (put N o.dst (one (.str (m++n))))else(match CY op m n with
     |some d=>put N o.dst (one d)
     |none=>.fail)
   | .v false [.dat (.bool m)],.v false [.dat (.bool n)]=>match op,T t with
     | .eql,some { k:=.bool,.. }=>put N o.dst (one (.bool (m==n)))
     | .neq,some { k:=.bool,.. }=>put N o.dst (one (.bool !(m==n)))
     |_,_=>.fail
   | .v true U,.v true ds=>match T t with
     |some { cmp:=l::ls,.. }=>match wS (l::ls) U ds with
       |some b=>match op with
         | .eql=>put N o.dst (one (.bool b))
         | .neq=>put N o.dst (one (.bool !b))
         |_=>.fail
       |none=>.fail
     |_=>.fail
   |_,_=>.fail
 | .unOp .not _ x=>vOp x λa=>match a with
   | .v false [.dat (.bool b)]=>put N o.dst (one (.bool !b))
   |_=>.fail
 | .unOp .neg _ x=>vOp x λa=>match a with
   | .v false [.dat (.int k n)]=>put N o.dst (one (.int k (k.wrap (0-n))))
   |_=>.fail
 | .convert s t x=>match T s,T t with
   |some _,some { k:=.int k,.. }=>vOp x λa=>match a with
     | .v false [.dat (.int _ n)]=>put N o.dst (one (.int k (k.wrap n)))
     |_=>.fail
   |some { k:=.str,.. },some { k:=.slice e,.. }=>match T e with
     |some { k:=.int .u8,.. }=>vOp x λa=>match a with
       | .v false [.dat (.str b)]=>put N o.dst (one (.sl (zF b.data.toList)))
       |_=>.fail
     |_=>.fail
   |some { k:=.slice e,.. },some { k:=.str,.. }=>match T e with
     |some { k:=.int .u8,.. }=>vOp x λa=>match a with
       | .v false [.dat (.sl J)]=>.must (∀x∈J,∃b:UInt8,x=[.int .u8 (b.toNat:Int)]) (put N o.dst (one (.str (strOf J))))
       | .v false [.nil]=>put N o.dst (one (.str ByteArray.empty))
       | .v false [.row i ver]=>.getH i λo'=>match o'.2 with
         | .row _ _ J _=>if o'.1=ver then .must (∀x∈J,∃b:UInt8,x=[.int .u8 (b.toNat:Int)]) (put N o.dst (one (.str (strOf J))))else .fail
         |_=>.fail
       |_=>.fail
     |_=>.fail
   |_,_=>.fail
 | .nilCheck x=>vOp x λa=>match a with
   | .v false [.bp i ver I]=>.getH i λq=>match q.2 with
     | .box _ _=>if q.1=ver then put N o.dst (.v false [.bp i ver I])else .fail
     |_=>.fail
   | .v false [.rp i ver j I]=>.getH i λq=>match q.2 with
     | .row _ _ _ _=>if q.1=ver then put N o.dst (.v false [.rp i ver j I])else .fail
     |_=>.fail
   | .v false [.dat (.ptr ds)]=>put N o.dst (.v false [.dat (.ptr ds)])
   | .v false [.dat (.fn f ds)]=>put N o.dst (.v false [.dat (.fn f ds)])
   | .v false [.clo f U]=>put N o.dst (.v false [.clo f U])
   |_=>.fail
 | .slice t x lo hi none=>match T t with
   |some { k:=.slice e,.. }=>match T e with
     |some te=>vOp x λa=>S4 lo λl=>S4 hi λh=>match a,l,h with
       | .v false [.dat (.sl J)],some (.v false [.dat (.int _ i)]),none=>.must (0<=i/\i.toNat<=J.length/\∀x∈J,x.length=te.size) (put N o.dst (one (.sl (J.drop i.toNat))))
       | .v false [.dat (.sl J)],none,some (.v false [.dat (.int _ j)])=>.must (0<=j/\j.toNat<=J.length/\∀x∈J,x.length=te.size) (put N o.dst (one (.sl (J.take j.toNat))))
       | .v false [.dat (.sl J)],some (.v false [.dat (.int _ i)]),some (.v false [.dat (.int _ j)])=>.must (0<=i/\i<=j/\j.toNat<=J.length/\∀x∈J,x.length=te.size) (put N o.dst (one (.sl ((J.take j.toNat).drop i.toNat))))
       | .v false [.row j ver],some (.v false [.dat (.int _ x)]),none=>H3 N o.dst te.size j ver x.toNat (λn=>n) λn=>0<=x/\x.toNat<=n
       | .v false [.row j ver],none,some (.v false [.dat (.int _ y)])=>H3 N o.dst te.size j ver 0 (λ_=>y.toNat) λn=>0<=y/\y.toNat<=n
       | .v false [.row j ver],some (.v false [.dat (.int _ x)]),some (.v false [.dat (.int _ y)])=>H3 N o.dst te.size j ver x.toNat (λ_=>y.toNat) λn=>0<=x/\x<=y/\y.toNat<=n
       |_,_,_=>.fail
     |none=>.fail
   |_=>.fail
 | .makeFunc (.func f) first captured=>if first.size=0 then Im captured.toList λU=>put N o.dst (.v false [match U with|[]=>.dat (.fn f [])|_=>.clo f U])else .fail
 | .extract x i=>vOp x λa=>match a with
   | .tup vs=>match vs[i]? with
     |some (ag,U)=>put N o.dst (.v ag U)
     |none=>.fail
   |_=>.fail
 | .call { callee:=.builtin .len,args:=as,argTypes:=ts }=>match as.toList,ts.toList with
   |[x],[t]=>match T t with
     |some { k:=.slice _,.. }=>vOp x λa=>lenOf a λn=>put N o.dst (one (.int .i64 n))
     |some { k:=.str,.. }=>vOp x λa=>match a with
       | .v false [.dat (.str s)]=>put N o.dst (one (.int .i64 s.size))
       |_=>.fail
     |_=>.fail
   |_,_=>.fail
 | .call { callee:=.builtin .min,args:=as,.. }=>match as.toList with
   |[x,y]=>vOp x λa=>vOp y λb=>match a,b with
     | .v false [.dat (.int k m)],.v false [.dat (.int _ n)]=>put N o.dst (one (.int k (if n<m then n else m)))
     |_,_=>.fail
   |_=>.fail
 | .call { callee:=.builtin .max,args:=as,.. }=>match as.toList with
   |[x,y]=>vOp x λa=>vOp y λb=>match a,b with
     | .v false [.dat (.int k m)],.v false [.dat (.int _ n)]=>put N o.dst (one (.int k (if n>m then n else m)))
     |_,_=>.fail
   |[x,y,z]=>vOp x λa=>vOp y λb=>vOp z λc=>match a,b,c with
     | .v false [.dat (.int k m)],.v false [.dat (.int _ n)],.v false [.dat (.int _ q)]=>put N o.dst (one (.int k (if q>(if n>m then n else m)then q else if n>m then n else m)))
     |_,_,_=>.fail
   |_=>.fail
 | .call { callee:=.builtin .append,args:=as,argTypes:=ts }=>match as.toList,ts.toList with
   |[s,x],[t,t']=>if t=t' then(match T t with
     |some { k:=.slice e,.. }=>match T e with
       |some C=>vOp s λa=>vOp x λb=>Bq N o.dst e C.size C.bytes a b
       |none=>.fail
     |_=>.fail)else(match T t,T t' with
     |some { k:=.slice e,.. },some { k:=.str,.. }=>match T e with
       |some { k:=.int .u8,size:=1,bytes:=1,zero:=[.dat (.int .u8 0)],.. }=>vOp s λa=>vOp x λb=>Jn N o.dst e a b
       |_=>.fail
     |_,_=>.fail)
   |_,_=>.fail
 | .call { callee:=.builtin .clear,args:=as,argTypes:=ts }=>match as.toList,ts.toList with
   |[x],[t]=>match T t with
     |some { k:=.slice e,.. }=>match T e with
       |some C=>vOp x λv=>Lv o.dst e C.size v
       |none=>.fail
     |_=>.fail
   |_,_=>.fail
 | .call { callee:=.value (.func f),args:=as,.. }=>Bx as.toList λavs=>.call f avs λrs=>Gr N o.dst as.toList avs rs
 | .call { callee:=.value (.tmp t),args:=as,.. }=>Bx as.toList λavs=>.getT t λv=>match v with
   | .v false [.dat (.fn f caps)]=>.call f (avs++caps.map λc=>(false,[c])) λrs=>if vQ rs=true then .fail else yL N o.dst rs
   | .v false [.clo f caps]=>AG caps λds=>.call f (avs++ds.map λc=>(false,[c])) λrs=>if vQ rs=true then .fail else yL N o.dst rs
   |_=>.fail
 |_=>.fail
def evG(T:KK)(N:Nat)(ops:Array Oper)(o:Oper):Prog:=
 match o.guard with
 |none=>vT T N o
 |some (j,want)=>match(ops[j]?).bind (·.dst)with
   |some t=>.getT t λv=>match v with
     | .v false [.dat (.bool b)]=>if b=want then vT T N o else put N o.dst .undef
     | .undef=>put N o.dst .undef
     |_=>.fail
   |none=>.fail
def A6(P:Program)(T:KK)(N:Nat)(ops:Array Oper):List Oper->St->(St->Prop)->Prop
 |[],s,K=>K s
 |o::rest,s,K=>ex P (evG T N ops o) s λj=>A6 P T N ops rest j K
theorem DA{P:Program}:∀(p:Prog) {s:St} {K C:St->Prop},(∀s,K s->C s)->ex P p s K->ex P p s C
 | .done,_,_,_,h,j=>h _ j
 | .fail,_,_,_,_,j=>j
 | .getT t k,s,_,_,h,j=>DA (k (s.t t)) h j
 | .C8 t v k,s,_,_,h,j=>DA k h j
 | .getH i k,s,_,_,h,j=>DA (k (s.h i)) h j
 | .eV i x k,s,_,_,h,j=>DA k h j
 | .call f args k,s,_,_,h,⟨I,J,j⟩=>⟨I,J,DA (k I) h j⟩
 | .must p k,s,_,_,h,⟨U,j⟩=>⟨U,DA k h j⟩
end Go.Sh
namespace Go.Sh
open Go.RowKit
abbrev Heap:=Nat->Nat×At
structure Gh where
 val:Nat->Value
 fp:Nat->List Nat
 S:Nat->Prop
 Q:QF
def wV:Value->Option Nat
 | .pointer (some a)=>some a.block
 | .slice (some a) _ _=>some a.block
 |_=>none
def Ei(g:Gh)(h:Heap)(c:Nat×Nat×Nat)(v:Value):Prop:=
 c.2.1<=(h c.1).1/\((h c.1).1=c.2.1->∀t j,(h c.1).2=.box t j->∃b,g.val c.1=.pointer (some ⟨b,0,none⟩)/\v=.pointer (some ⟨b,c.2.2,none⟩))
def Ag(g:Gh)(h:Heap):List (Nat×Nat×Nat)->List Value->Prop
 |[],C=>C=[]
 |c::I,C=>∃v j,C=v::j/\Ei g h c v/\Ag g h I j
def wG(g:Gh)(h:Heap)(w:World):SC->Value->Prop
 | .dat d,v=>∃F,Rep w d v F/\∀b∈F,g.S b
 | .nil,v=>v=.slice none 0 0
 | .row i ver,v=>v.oneCell'=true/\ver<=(h i).1/\((h i).1=ver->∀e sz J I,(h i).2=.row e sz J I->v=g.val i)
 | .bp i ver C,v=>v.oneCell'=true/\Ei g h (i,ver,C) v
 | .rp i ver j C,v=>v.oneCell'=true/\ver<=(h i).1/\((h i).1=ver->∀e sz J I,(h i).2=.row e sz J I->∃b n c,g.val i=.slice (some ⟨b,0,none⟩) n c/\v=.pointer (some ⟨b,j*sz+C,none⟩))
 | .clo f caps,v=>∃vs,v=.func (.func f) #[] vs.toArray/\Ag g h caps vs
 | .old B d u,v=>∃F,Rep w d v F/\(∀b∈F,g.S b/\b<B)/\∀x,u=some x->v=x
 | .part i ver lo n,v=>v.oneCell'=true/\ver<=(h i).1/\((h i).1=ver->∀e sz J I,(h i).2=.row e sz J I->∃U c,v=.slice U n c/\n<=c/\(n=0 \/∃b m c',g.val i=.slice (some ⟨b,0,none⟩) m c'/\lo+n<=m/\U=some ⟨b,lo*sz,none⟩)/\(lo=0->∃m,g.val i=.slice U m c/\n<=m))
 | .exa W d x,v=>v=x/\∃F,Rep W d x F/\∀b∈F,g.S b/\w.heap[b]? =W.heap[b]?
def aR(g:Gh)(h:Heap)(w:World):List SC->List Value->Prop
 |[],C=>C=[]
 |c::I,C=>∃v j,C=v::j/\wG g h w c v/\aR g h w I j
def Cx(g:Gh)(h:Heap)(w:World)(x:Bool×List SC)(v:Value):Prop:=
 match x with
 |(true,j)=>∃C,v=.agg C/\aR g h w j C.toList
 |(false,j)=>aR g h w j [v]
def Aq(g:Gh)(h:Heap)(w:World):List (Bool×List SC)->List Value->Prop
 |[],C=>C=[]
 |c::I,C=>∃v j,C=v::j/\Cx g h w c v/\Aq g h w I j
def sU(g:Gh)(h:Heap)(w:World):SV->Value->Prop
 | .unk,_=>True
 | .undef,v=>v=undef
 | .v C J,v=>Cx g h w (C,J) v
 | .tup I,v=>∃j,v=.tuple j/\Aq g h w I j.toList
def zD(base:Nat)(g:Gh)(h:Heap)(w:World)(i:Nat):At->Prop
 | .none=>True
 | .box t cells=>∃b vals,g.val i=.pointer (some ⟨b,0,none⟩)/\g.Q.fb<=b/\w.heap[b]? =some (.cells vals t (0,0))/\aR g h w cells vals.toList
 | .row e sz C I=>∃cells,w.ownsRow base e sz (g.val i) C.length cells/\(∀x∈C,x.length=sz)/\cF g.Q.L I w e C cells (g.fp i)/\(∀b∈g.fp i,g.S b)/\(I=true->vF base w (g.fp i))
 | .pin j ver u=>g.val i=undef/\ver<=(h j).1/\((h j).1=ver->∀e sz C I,(h j).2=.row e sz C I->g.val j=u)
def live(h:Heap)(i:Nat):Prop:=(h i).2≠ .none
def gD(h:Heap)(i:Nat):Prop:=∃e sz j,(h i).2=.row e sz j true
structure Inv (base:Nat) (g:Gh) (h:Heap) (w:World) (pool:List Nat):Prop where
 base_le:base<=w.heap.size
 S_old:∀b,g.S b->b<base->g.Q b
 S_lt:∀b,g.S b->b<w.heap.size
 obj:∀i,zD base g h w i (h i).2
 mtb:∀i b,live h i->wV (g.val i)=some b->¬g.S b
 inj:∀i j b,i≠j->live h i->live h j->wV (g.val i)=some b->wV (g.val j)≠some b
 dis:∀i j,i≠j->gD h i->gD h j->∀b∈g.fp i,b∉g.fp j
 pool_own:vF base w pool
 pool_S:∀b∈pool,g.S b
 pool_dis:∀i,gD h i->∀b∈g.fp i,b∉pool
 fb:g.Q.fb<=base
theorem So.vY{w w':World}{b:Nat}(h:So w b)(j:w'.heap[b]? =w.heap[b]?):So w' b:=by obtain⟨c,e,C⟩:=h;exact⟨c,e,j.trans C⟩
theorem So.lt{w:World}{b:Nat}(h:So w b):b<w.heap.size:=by obtain⟨c,e,j⟩:=h;exact(Array.getElem?_eq_some_iff.1 j).1
theorem vF.vY{base:Nat}{w w':World}{F:List Nat}(h:vF base w F)(C:∀b∈F,w'.heap[b]? =w.heap[b]?):vF base w' F:=
 ⟨h.1,λb j=>⟨(h.2 b j).1,(h.2 b j).2.vY (C b j)⟩⟩
theorem vF.nil(base:Nat)(w:World):vF base w []:=⟨List.nodup_nil,λb j=>by simp at j⟩
structure iC (g g':Gh) (h h':Heap) (w w':World):Prop where
 S:∀b,g.S b->g'.S b
 Sw:∀b,g.S b->w'.heap[b]? =w.heap[b]?
 ver:∀i,(h i).1<=(h' i).1
 row:∀i e sz xs dp,(h' i).1=(h i).1->(h' i).2=.row e sz xs dp->g'.val i=g.val i/\∃xs0 dp0,(h i).2=.row e sz xs0 dp0
 box:∀i t cs,(h' i).1=(h i).1->(h' i).2=.box t cs->g'.val i=g.val i/\∃cs0,(h i).2=.box t cs0
 Q:g'.Q=g.Q
section
variable {g g':Gh}{h h':Heap}{w w':World}
theorem Ei.nV(T:iC g g' h h' w w'){c:Nat×Nat×Nat}{v:Value}(C:Ei g h c v):Ei g' h' c v:=by
 refine⟨Nat.le_trans C.1 (T.ver _),λhv t cs hb=> ?_⟩
 have h1:=T.ver c.1
 have I:(h' c.1).1=(h c.1).1:=by have:=C.1;omega
 obtain⟨h3,j,J⟩:=T.box _ _ _ I hb
 obtain⟨b,U,h6⟩:=C.2 qc t j J
 exact⟨b,h3.trans U,h6⟩
theorem Ag.nV(T:iC g g' h h' w w'):∀{I:List (Nat×Nat×Nat)} {j:List Value},Ag g h I j->Ag g' h' I j
 |[],j,C=>C
 |c::I,j,C=>by obtain⟨v,J,rfl,h1,U⟩:=C;exact⟨v,J,rfl,h1.nV T,Ag.nV T U⟩
theorem wG.nV(T:iC g g' h h' w w'){c:SC}{v:Value}(U:wG g h w c v):wG g' h' w' c v:=by
 cases c with
 |dat d=>
  obtain⟨F,I,C⟩:=U
  exact⟨F,Rep.vY d v F I λb J=>T.Sw b (C b J),λb J=>T.S b (C b J)⟩
 |nil=>exact U
 |row i ver=>
  obtain⟨h0,I,C⟩:=U
  refine⟨h0,Nat.le_trans I (T.ver i),λhv e sz xs dp hr=> ?_⟩
  have h3:=T.ver i
  have h4:(h' i).1=(h i).1:=by omega
  obtain⟨h5,xs0,dp0,h6⟩:=T.row _ _ _ _ _ h4 hr
  rw[h5]
  exact C qc _ _ _ _ h6
 |bp i ver off=>exact⟨U.1,U.2.nV T⟩
 |rp i ver j off=>
  obtain⟨h0,I,C⟩:=U
  refine⟨h0,Nat.le_trans I (T.ver i),λhv e sz xs dp hr=> ?_⟩
  have h3:=T.ver i
  have h4:(h' i).1=(h i).1:=by omega
  obtain⟨h5,xs0,dp0,h6⟩:=T.row _ _ _ _ _ h4 hr
  rw[h5]
  exact C qc _ _ _ _ h6
 |clo f caps=>
  obtain⟨vs,I,C⟩:=U
  exact⟨vs,I,C.nV T⟩
 |old B d u=>
  obtain⟨F,I,C,h3⟩:=U
  exact⟨F,Rep.vY d v F I λb J=>T.Sw b (C b J).1,λb J=>⟨T.S b (C b J).1,(C b J).2⟩,h3⟩
 |part i ver lo n=>
  obtain⟨h0,I,C⟩:=U
  refine⟨h0,Nat.le_trans I (T.ver i),λhv e sz xs dp hr=> ?_⟩
  have h3:=T.ver i
  have h4:(h' i).1=(h i).1:=by omega
  obtain⟨h5,xs0,dp0,h6⟩:=T.row _ _ _ _ _ h4 hr
  rw[h5]
  exact C qc _ _ _ _ h6
 |exa W d x=>
  obtain⟨h0,F,I,C⟩:=U
  exact⟨h0,F,I,λb J=>⟨T.S b (C b J).1,(T.Sw b (C b J).1).trans (C b J).2⟩⟩
theorem aR.nV(T:iC g g' h h' w w'):∀{I:List SC} {j:List Value},aR g h w I j->aR g' h' w' I j
 |[],j,C=>C
 |c::I,j,C=>by obtain⟨v,J,rfl,h1,U⟩:=C;exact⟨v,J,rfl,h1.nV T,aR.nV T U⟩
theorem Cx.nV(T:iC g g' h h' w w'){x:Bool×List SC}{v:Value}(j:Cx g h w x v):Cx g' h' w' x v:=by obtain⟨b,U⟩:=x;cases b;(exact aR.nV T j);·obtain⟨J,I,C⟩:=j;exact⟨J,I,aR.nV T C⟩
theorem Aq.nV(T:iC g g' h h' w w'):∀{I:List (Bool×List SC)} {j:List Value},Aq g h w I j->Aq g' h' w' I j
 |[],j,C=>C
 |c::I,j,C=>by obtain⟨v,J,rfl,h1,U⟩:=C;exact⟨v,J,rfl,h1.nV T,Aq.nV T U⟩
theorem sU.nV(T:iC g g' h h' w w'){x:SV}{v:Value}(j:sU g h w x v):sU g' h' w' x v:=by
 cases x with
 |unk=>trivial
 |undef=>exact j
 |v U cs=>exact Cx.nV T j
 |tup xs=>obtain⟨J,I,C⟩:=j;exact⟨J,I,Aq.nV T C⟩
end
theorem iC.refl(g:Gh)(h:Heap)(w:World):iC g g h h w w:=
 ⟨λ_ j=>j,λ_ _=>rfl,λ_=>Nat.le_refl _,λi e sz I C _ U=>⟨rfl,I,C,U⟩,λi t J _ j=>⟨rfl,J,j⟩,rfl⟩
theorem aR.length{g:Gh}{h:Heap}{w:World}:∀{I:List SC} {j:List Value},aR g h w I j->j.length=I.length
 |[],j,C=>by rw[C];rfl
 |c::I,j,C=>by obtain⟨v,U,rfl,h1,J⟩:=C;simp[aR.length J]
theorem aR.append{g:Gh}{h:Heap}{w:World}:∀{U ds:List SC} {C j:List Value},aR g h w U C->aR g h w ds j->aR g h w (U++ds) (C++j)
 |[],ds,C,j,I,J=>by rw[I];exact J
 |c::U,ds,C,j,I,J=>by obtain⟨v,vs',rfl,h1,h2⟩:=I;exact⟨v,vs'++j,rfl,h1,aR.append h2 J⟩
theorem aR.take{g:Gh}{h:Heap}{w:World}:∀(n:Nat) {I:List SC} {j:List Value},aR g h w I j->aR g h w (I.take n) (j.take n)
 |0,I,j,C=>by simp[aR]
 |n+1,[],j,C=>by rw[C];simp[aR]
 |n+1,c::I,j,C=>by obtain⟨v,J,rfl,h1,U⟩:=C;exact⟨v,J.take n,rfl,h1,aR.take n U⟩
theorem aR.drop{g:Gh}{h:Heap}{w:World}:∀(n:Nat) {I:List SC} {C:List Value},aR g h w I C->aR g h w (I.drop n) (C.drop n)
 |0,I,C,j=>by simpa using j
 |n+1,[],C,j=>by rw[j];simp[aR]
 |n+1,c::I,C,j=>by obtain⟨v,U,rfl,h1,J⟩:=j;exact aR.drop n J
theorem wG.one{g:Gh}{h:Heap}{w:World}{c:SC}{v:Value}(C:wG g h w c v):v.oneCell'=true:=by
 cases c with
 |dat d=>obtain⟨F,I,_⟩:=C;exact I.one
 |nil=>rw[C];rfl
 |row i ver=>exact C.1
 |bp i ver J=>exact C.1
 |rp i ver j J=>exact C.1
 |clo f caps=>obtain⟨vs,I,_⟩:=C;rw[I];rfl
 |old B d u=>obtain⟨F,I,_⟩:=C;exact I.one
 |part i ver U n=>exact C.1
 |exa W d x=>obtain⟨rfl,F,I,_⟩:=C;exact I.one
theorem aR.one{g:Gh}{h:Heap}{w:World}:∀{J:List SC} {j:List Value},aR g h w J j->∀u∈j,u.oneCell'=true
 |[],j,C=>by rw[C];simp
 |c::J,j,C=>by obtain⟨v,vs',rfl,h1,U⟩:=C;intro u I;rcases List.mem_cons.1 I with rfl|I;(exact h1.one);·exact aR.one U u I
theorem aR.DQ{g:Gh}{h:Heap}{w:World}:∀{ds:List D} {C:List Value} {F:List Nat},aG w ds C F->(∀b∈F,g.S b)->aR g h w (ds.map .dat) C
 |[],C,F,j,_=>by simp only[aG]at j;exact j.1
 |d::ds,C,F,j,U=>by simp only[aG]at j;obtain⟨v,J,F1,F2,rfl,rfl,h3,h4⟩:=j;exact⟨v,J,rfl,⟨F1,h3,λb I=>U b (by simp[I])⟩,aR.DQ h4 λb I=>U b (by simp[I])⟩
theorem mF{w:World}{base:Nat}{e:TypeId}{sz n:Nat}{v:Value}{xs:List Value}(h:w.ownsRow base e sz v n xs):wV v=v.ownBlock:=by rcases h.2 with⟨rfl,_⟩|⟨gg,cap,cur,rfl,_⟩<;>rfl
theorem Inv.BI{base:Nat}{g:Gh}{h:Heap}{w:World}{pool:List Nat}(I:Inv base g h w pool){i b:Nat}(U:live h i)(C:wV (g.val i)=some b):g.Q.fb<=b/\So w b:=by
 have ho:=I.obj i
 unfold live at U
 revert ho U
 cases hh:(h i).2 with
 |none=>intro U _;exact absurd rfl U
 |box t cells=>
  rintro _ ⟨b',vals,h1,J,h3,_⟩
  rw[h1]at C
  simp[wV]at C
  subst C
  exact⟨J,vals,t,h3⟩
 |pin j ver u=>
  rintro _ ⟨h1,_⟩
  rw[h1]at C;simp[undef,wV]at C
 |row e sz xs dp=>
  rintro _ ⟨cells,h1,_⟩
  rcases h1.2 with⟨J,_⟩|⟨gg,cap,cur,J,h3,h4,_⟩
  ·rw[J]at C;simp[wV]at C
  ·rw[J]at C;simp[wV]at C;subst C;exact⟨Nat.le_trans I.fb h3,cur,e,h4⟩
theorem iC.grow{g:Gh}{h:Heap}{w w':World}(hS:∀b,g.S b->b<w.heap.size)(C:∀b,b<w.heap.size->w'.heap[b]? =w.heap[b]?):iC g g h h w w':=
 ⟨λ_ x=>x,λb x=>C b (hS b x),λ_=>Nat.le_refl _,λi e sz I j _ U=>⟨rfl,I,j,U⟩,λi t J _ hx=>⟨rfl,J,hx⟩,rfl⟩
theorem Inv.grow{base:Nat}{g:Gh}{h:Heap}{w w':World}{pool:List Nat}(I:Inv base g h w pool)(hs:w.heap.size<=w'.heap.size)(C:∀b,b<w.heap.size->w'.heap[b]? =w.heap[b]?):Inv base g h w' pool:=by
 have T:iC g g h h w w':=iC.grow I.S_lt C
 refine⟨Nat.le_trans I.base_le hs,I.S_old,λb x=>Nat.lt_of_lt_of_le (I.S_lt b x) hs,λi=> ?_,I.mtb,I.inj,I.dis,I.pool_own.vY λb x=>C b (I.S_lt b (I.pool_S b x)),I.pool_S,I.pool_dis,I.fb⟩
 have ho:=I.obj i
 have hl:=@Inv.BI base g h w pool I i
 revert ho hl
 unfold live
 cases hh:(h i).2 with
 |none=>intros;trivial
 |box t cells=>
  rintro⟨b',vals,J,h2,h3,h4⟩ _
  exact⟨b',vals,J,h2,(C _ (Array.getElem?_eq_some_iff.1 h3).1).trans h3,h4.nV T⟩
 |pin j ver u=>intro J _;exact J
 |row e sz xs dp=>
  rintro⟨cells,J,h2,h3,h4,h5⟩ _
  refine⟨cells,⟨J.1,?_⟩,h2,h3.vY λb x=>C b (I.S_lt b (h4 b x)),h4,λhd=>(h5 hd).vY λb x=>C b (I.S_lt b (h4 b x))⟩
  rcases J.2 with h6|⟨gg,cap,U,h6,h7,h8,h9⟩
  ·exact .inl h6
  ·exact .inr ⟨gg,cap,U,h6,h7,(C _ (Array.getElem?_eq_some_iff.1 h8).1).trans h8,h9⟩
def nP(h:Heap)(i:Nat)(x:Nat×At):Heap:=λj=>if j=i then x else h j
theorem bE(h:Heap)(i:Nat)(x:Nat×At):nP h i x i=x:=by simp[nP]
theorem eW(h:Heap)(i j:Nat)(x:Nat×At)(C:j≠i):nP h i x j=h j:=by simp[nP,C]
def BT{α:Type}(f:Nat->α)(i:Nat)(x:α):Nat->α:=λj=>if j=i then x else f j
theorem cZ{α:Type}(f:Nat->α)(i:Nat)(x:α):BT f i x i=x:=by simp[BT]
theorem yE{α:Type}(f:Nat->α)(i j:Nat)(x:α)(C:j≠i):BT f i x j=f j:=by simp[BT,C]
theorem iC.drop{g:Gh}{h:Heap}{w:World}(i:Nat)(U:Nat->Prop)(hS:∀b,g.S b->U b):iC g { g with S:=U } h (nP h i ((h i).1,.none)) w w:=by refine⟨hS,λ_ _=>rfl,λj=> ?_,λj e sz xs dp _ I=> ?_,λj t cs _ J=> ?_,rfl⟩;(by_cases C:j=i;(subst C;rw[bE];exact Nat.le_refl _);·rw[eW _ _ _ _ C];exact Nat.le_refl _);(by_cases C:j=i;(subst C;rw[bE]at I;cases I);·rw[eW _ _ _ _ C]at I;exact⟨rfl,xs,dp,I⟩);·by_cases C:j=i;(subst C;rw[bE]at J;cases J);·rw[eW _ _ _ _ C]at J;exact⟨rfl,cs,J⟩
theorem uN{h:Heap}{i j:Nat}{n:Nat}(C:live (nP h i (n,.none)) j):j≠i/\live h j:=by unfold live at*;by_cases hj:j=i;(subst hj;rw[bE]at C;exact absurd rfl C);·rw[eW _ _ _ _ hj]at C;exact⟨hj,C⟩
theorem wL{h:Heap}{i j:Nat}{n:Nat}(C:gD (nP h i (n,.none)) j):j≠i/\gD h j:=by unfold gD at*;by_cases hj:j=i;(subst hj;rw[bE]at C;obtain⟨_,_,_,C⟩:=C;cases C);·rw[eW _ _ _ _ hj]at C;exact⟨hj,C⟩
theorem Eg{h:Heap}{i:Nat}(j:gD h i):live h i:=by obtain⟨_,_,_,j⟩:=j;unfold live;rw[j];simp
theorem zD.nV{base:Nat}{g g':Gh}{h h':Heap}{w w':World}{i:Nat}{o:At}(T:iC g g' h h' w w')(hv:g'.val i=g.val i)(hf:g'.fp i=g.fp i)
  (U:∀b,wV (g.val i)=some b->w'.heap[b]? =w.heap[b]?)(ho:zD base g h w i o):zD base g' h' w' i o:=by
 cases o with
 |none=>trivial
 |box t cells=>
  obtain⟨b,vals,C,h2,h3,I⟩:=ho
  exact⟨b,vals,hv.trans C,by rw[T.Q];exact h2,(U b (by rw[C];rfl)).trans h3,I.nV T⟩
 |pin j ver u=>
  obtain⟨h0,C,h2⟩:=ho
  refine⟨hv.trans h0,Nat.le_trans C (T.ver j),λhe e sz xs dp hr=> ?_⟩
  have h3:=T.ver j
  have I:(h' j).1=(h j).1:=by omega
  obtain⟨h5,xs0,dp0,J⟩:=T.row _ _ _ _ _ I hr
  rw[h5]
  exact h2 qc _ _ _ _ J
 |row e sz xs dp=>
  obtain⟨cells,C,h2,h3,I,h5⟩:=ho
  refine⟨cells,⟨C.1,?_⟩,h2,?_,?_,?_⟩
  ·rw[hv];rcases C.2 with J|⟨gg,cap,cur,J,h7,h8,h9⟩;(exact .inl J);·exact .inr ⟨gg,cap,cur,J,h7,(U gg (by rw[J];rfl)).trans h8,h9⟩
  ·rw[hf,T.Q];exact h3.vY λb x=>T.Sw b (I b x)
  ·rw[hf];exact λb x=>T.S b (I b x)
  ·rw[hf];exact λhd=>(h5 hd).vY λb x=>T.Sw b (I b x)
theorem Inv.drop{base:Nat}{g:Gh}{h:Heap}{w:World}{pool:List Nat}(I:Inv base g h w pool)(i:Nat):Inv base g (nP h i ((h i).1,.none)) w pool:=by
 have T:iC g g h (nP h i ((h i).1,.none)) w w:=iC.drop i g.S λ_ x=>x
 refine⟨I.base_le,I.S_old,I.S_lt,λj=> ?_,λj b J=>I.mtb j b (uN J).2,λj k b C J hk=>I.inj j k b C (uN J).2 (uN hk).2,
  λj k C U he=>I.dis j k C (wL U).2 (wL he).2,I.pool_own,I.pool_S,λj U=>I.pool_dis j (wL U).2,I.fb⟩
 by_cases hj:j=i
 ·subst hj;rw[bE];trivial
 ·rw[eW _ _ _ _ hj];exact zD.nV T rfl rfl (λ_ _=>rfl) (I.obj j)
theorem Inv.take {base:Nat} {g:Gh} {h:Heap} {w:World} {pool:List Nat} (I:Inv base g h w pool) {i:Nat} {e:TypeId} {sz:Nat} {xs:List (List D)} {dp:Bool} (hi:(h i).2 = .row e sz xs dp) :
  ∃S' F,(∀b,g.S b->S' b)/\(∀b,S' b->g.S b\/wV (g.val i)=some b)/\Rep w (.sl xs) (g.val i) F/\(dp=true->zK g.Q.L w (.sl xs) (some (e,sz)) (g.val i) F)/\F=(g.val i).ownBlock.toList++g.fp i/\(∀b∈F,S' b)/\(dp=true->(∀b∈F,b∉pool)) /\
   Inv base { g with S:=S' } (nP h i ((h i).1,.none)) w (if dp then pool++F else pool):=by
 have ho:=I.obj i
 rw [hi] at ho
 obtain ⟨cells,h1,h2,h3,h4,h5⟩:=ho
 have hlive:live h i:=by unfold live;rw [hi];simp
 rcases h1.2 with ⟨hv,hn⟩ | ⟨gg,cap,cur,hv,hb,hh,hnc,hcm,hcs,htk⟩
 ·-- nil: nothing to own
  have hx:xs=[]:=List.eq_nil_of_length_eq_zero hn
  subst hx
  have I':=I.drop i
  have hG:g.fp i=[]/\cells=[]:=by have:=h3.rep;simp only [aQ] at this;exact ⟨this.2,this.1⟩
  refine ⟨g.S,[],λ_ x=>x,λ_ x=>.inl x,?_,λ_ => ?_,by rw [hv,hG.1];rfl,qe,qe,?_⟩
  ·simp only [Rep];exact ⟨none,0,0,hv,rfl,Nat.le_refl _,.inl qe⟩
  ·simp only [zK];exact ⟨[],[],by rw [hv];exact World.ownsRow_nil w 0 e sz,qe,by rw [hv];rfl,by simp [gX]⟩
  ·have:(if dp then pool++[] else pool)=pool:=by cases dp<;>simp
   rw [this];exact I'
 ·have hgg:gg<w.heap.size:=(Array.getElem?_eq_some_iff.1 hh).1
  have hom:wV (g.val i)=some gg:=by rw [hv];rfl
  have hnS : ¬g.S gg:=I.mtb i gg hlive hom
  let S':Nat->Prop:=λb=>g.S b\/b=gg
  have T:iC g { g with S:=S' } h (nP h i ((h i).1,.none)) w w:=iC.drop i S' λ_ x=>.inl x
  ·refine ⟨S',gg::g.fp i,λ_ x=>.inl x,(by rintro b (x | rfl);exact .inl x;exact .inr hom),?_,λhd => ?_,by rw [hv];rfl,?_,?_,?_⟩
   ·simp only [Rep];refine ⟨_,_,cap,hv,rfl,hnc,.inr ⟨gg,0,cells,sz,g.fp i,rfl,hgg,rfl,?_,h1.1,h2,h3.rep⟩⟩;intro j u hu;have:=h1.cells (g:=gg) (by rw [hv];rfl) j u hu;rw [Addr.add_lit] at this;exact this
   ·simp only [zK]
    have h3':gX g.Q.L w xs e cells (g.fp i):=by have:=h3;unfold cF at this;rw [if_pos hd] at this;exact this
    exact ⟨cells,g.fp i,⟨h1.1,by rcases h1.2 with h6 | ⟨g1,c1,u1,h6,h7,h8⟩;exact .inl h6;exact .inr ⟨g1,c1,u1,h6,Nat.zero_le _,h8⟩⟩,h2,by rw [hv];rfl,h3'⟩
   ·intro b C;rcases List.mem_cons.1 C with rfl | C;(exact .inr rfl);·exact .inl (h4 b C)
   ·intro hd b C;rcases List.mem_cons.1 C with rfl | C;(exact λhp=>hnS (I.pool_S _ hp));·exact I.pool_dis i ⟨e,sz,xs,by rw [hi,hd]⟩ b C
   ·have hobj : ∀j,zD base { g with S:=S' } (nP h i ((h i).1,.none)) w j (nP h i ((h i).1,.none) j).2:=by
     intro j
     by_cases hj:j=i
     ·subst hj;rw [bE];trivial
     ·rw [eW _ _ _ _ hj];exact zD.nV T rfl rfl (λ_ _=>rfl) (I.obj j)
    have hmut : ∀j b,live (nP h i ((h i).1,.none)) j->wV (g.val j)=some b -> ¬S' b:=by intro j b hl C hS;obtain ⟨J,hl⟩:=uN hl;rcases hS with hS | rfl;(exact I.mtb j b hl C hS);·exact I.inj j i _ J hl hlive C hom
    have hSold : ∀b,S' b->b<base->g.Q b:=by rintro b (hS | rfl) hlt;(exact I.S_old b hS hlt);·omega
    have hSlt : ∀b,S' b->b<w.heap.size:=by intro b hS;rcases hS with hS | rfl;(exact I.S_lt b hS);·exact hgg
    cases dp with
    | false =>
     exact ⟨I.base_le,hSold,hSlt,hobj,hmut,λj k b J hl hk=>I.inj j k b J (uN hl).2 (uN hk).2,
      λj k J hd he=>I.dis j k J (wL hd).2 (wL he).2,I.pool_own,λb x=>.inl (I.pool_S b x),λj hd=>I.pool_dis j (wL hd).2,I.fb⟩
    | true =>
     have hdi:gD h i:=⟨e,sz,xs,hi⟩
     have hown:=h5 rfl
     refine ⟨I.base_le,hSold,hSlt,hobj,hmut,λj k b J hl hk=>I.inj j k b J (uN hl).2 (uN hk).2,
      λj k J hd he=>I.dis j k J (wL hd).2 (wL he).2,⟨?_,?_⟩,?_,?_,I.fb⟩
     ·simp only [if_true];rw [List.nodup_append];refine ⟨I.pool_own.1,List.nodup_cons.2 ⟨λU=>hnS (h4 _ U),hown.1⟩,?_⟩;rintro a ha b C rfl;rcases List.mem_cons.1 C with rfl | C;(exact hnS (I.pool_S _ ha));·exact I.pool_dis i hdi _ C ha
     ·simp only [if_true];intro b U;rcases List.mem_append.1 U with U | U;(exact I.pool_own.2 b U);·rcases List.mem_cons.1 U with rfl | U;(exact ⟨hb,cur,e,hh⟩);·exact hown.2 b U
     ·simp only [if_true];intro b U;rcases List.mem_append.1 U with U | U;(exact .inl (I.pool_S b U));·rcases List.mem_cons.1 U with rfl | U;(exact .inr rfl);·exact .inl (h4 b U)
     ·simp only [if_true];intro j hd b U hm';obtain ⟨J,hd⟩:=wL hd;rcases List.mem_append.1 hm' with hm' | hm';(exact I.pool_dis j hd b U hm');·rcases List.mem_cons.1 hm' with rfl | hm';(have ho:=I.obj j;obtain ⟨e',sz',xs',hj⟩:=hd;rw [hj] at ho;obtain ⟨_,_,_,_,h4',_⟩:=ho;exact hnS (h4' _ U));·exact I.dis j i J hd hdi b U hm'
end Go.Sh
namespace Go.Sh
open Go.RowKit
def TW:Value->Option SC
 | .int k n=>some (.dat (.int k n))
 | .bool b=>some (.dat (.bool b))
 | .string s=>some (.dat (.str s))
 | .slice none 0 0=>some .nil
 |_=>none
def I4:List Value->Option (List SC)
 |[]=>some []
 |v::C=>match TW v,I4 C with
  |some c,some j=>some (c::j)
  |_,_=>none
def PT:TypeDesc->Bool
 | .struct _| .array _ _=>true
 |_=>false
def Fl(P:Program)(t:TypeId):Bool:=match P.underlying t with|some d=>PT d|none=>false
def KC(P:Program):TypeDesc->Option TK
 | .struct fields=>match fields.toList.mapM (λf=>(P.info? f.type).map λi=>(f.offset,i.size))with
  |some pl=>if fields.toList.all (λf=>(P.underlying f.type).isSome)=true then some (.struct ((pl.zip (fields.toList.map λf=>Fl P f.type)).map λx=>(x.1.1,x.1.2,x.2)))else none
  |none=>none
 | .array n e=>some (.arr e n)
 | .slice e=>some (.slice e)
 | .int k=>some (.int k)
 | .bool=>some .bool
 | .string=>some .str
 |_=>some .other
def A0 (P:Program) (f:TypeId->Option (List LK)):Nat->List Field->Option (List LK)
 | _,[]=>some []
 | off, x :: xs => if x.offset = off /\ x.name ≠ "_" /\ (P.info? x.type).isSome = true then (match f x.type, A0 P f (off + P.cellsOf x.type) xs with
   | some a,some b=>if a.length=P.cellsOf x.type then some (a++b) else none
   | _,_=>none) else none
def BO(P:Program):Nat->TypeId->Option (List LK)
 |0,_=>none
 |n+1,t=>match P.underlying t with
  |some (.int _)=>some [.int]
  |some .bool=>some [.bool]
  |some .string=>some [.str]
  |some (.struct j)=>if P.stoodInHeld t=false then A0 P (BO P n) 0 j.toList else none
  |_=>none
def SO(P:Program)(t:TypeId):List LK:=if Fl P t=true/\P.eqGuardType P.depth t=false then(BO P 8 t).getD []else[]
def jP(P:Program)(t:TypeId):Option TI:=
 match P.info? t,P.underlying t with
 |some i,some d=>match i.zero,KC P d with
  |some z,some k=>match I4 z.cells.toList with
   |some j=>if z.cells.size=i.size/\(PT d=true\/i.size=1)then some { k:=k,size:=i.size,bytes:=i.bytes,zero:=j,cmp:=SO P t,sl:=slP P t }else none
   |none=>none
  |_,_=>none
 |_,_=>none
structure TOk (P:Program) (t:TypeId) (ti:TI):Prop where
 ok:∃i d z,P.info? t=some i/\P.underlying t=some d/\i.zero=some z/\KC P d=some ti.k/\I4 z.cells.toList=some ti.zero/\z.cells.size=i.size/\i.size=ti.size/\i.bytes=ti.bytes/\(PT d=true\/i.size=1)
 cmp:ti.cmp=SO P t
 sl:ti.sl=slP P t
theorem cY{P:Program}{t:TypeId}{C:TI}(h:jP P t=some C):TOk P t C:=by unfold jP at h;split at h;(rename_i i d U hd;split at h;(rename_i z k hz J;split at h;(rename_i zs j;split at h;(rename_i I;simp at h;subst h;exact⟨⟨i,d,z,U,hd,hz,J,j,I.1,rfl,rfl,I.2⟩,rfl,rfl⟩);·cases h);·cases h);·cases h);·cases h
theorem PX{v:Value}{c:SC}(h:TW v=some c)(g:Gh)(j:Heap)(w:World):wG g j w c v:=by
 unfold TW at h
 split at h<;>cases h
 ·exact⟨[],by simp[Rep],qe⟩
 ·exact⟨[],by simp[Rep],qe⟩
 ·exact⟨[],by simp[Rep],qe⟩
 ·rfl
theorem Bi:∀{C:List Value} {I:List SC},I4 C=some I->∀(g:Gh) (j:Heap) (w:World),aR g j w I C
 |[],I,h,g,j,w=>by simp[I4]at h;subst h;rfl
 |v::C,I,h,g,j,w=>by simp only[I4]at h;split at h;(rename_i c cs' U J;cases h;exact⟨v,C,rfl,PX U g j w,Bi J g j w⟩);·cases h
theorem SF(v:Value)(g:Gh)(j:Heap)(w:World):sU g j w (cst v) v:=by unfold cst;split;(exact⟨_,[],rfl,⟨[],by simp[Rep],qe⟩,rfl⟩);(exact⟨_,[],rfl,⟨[],by simp[Rep],qe⟩,rfl⟩);(exact⟨_,[],rfl,⟨[],by simp[Rep],qe⟩,rfl⟩);(exact⟨_,[],rfl,rfl,rfl⟩);·trivial
def HZ(l:Option Nat)(h:Heap)(g:Gh):Prop:=∀b,l=some b->1<=(h 7059000).1/\∀t j,h 7059000=(1,.box t j)->g.val 7059000=.pointer (some ⟨b,0,none⟩)
theorem HZ.nV{g g':Gh}{h j:Heap}{w w':World}{l:Option Nat}(T:iC g g' h j w w')(hl:HZ l h g):HZ l j g':=λb hb=>by
 obtain⟨h1,J⟩:=hl b hb
 have h3:=T.ver 7059000
 refine⟨qc,λt cs I=> ?_⟩
 have h4:(j 7059000).1=1:=by rw[I]
 obtain⟨h5,C,U⟩:=T.box 7059000 t cs qc (by rw[I])
 rw[h5]
 refine J t C ?_
 have h7:(h 7059000).1=1:=by omega
 rw[<-h7,<-U]
structure jS (P:Program) (base:Nat) (w0:W0) (N:Nat) (g:Gh) (s:St) (a:Act) (w:World) (pool:List Nat):Prop where
 defers:a.defers=[]
 size:a.tmps.size=N
 below:Below w0.Q.fb w0.w w
 q:(∀b,g.Q b->w0.Q b)/\g.Q.fb=w0.Q.fb/\HZ w0.Q.lent s.h g
 vY:∀b,w0.K b->g.S b/\w.heap[b]? =w0.w.heap[b]?
 inv:Inv base g s.h w pool
 tmp:∀t,sU g s.h w (s.t t) (a.tmps.getD t undef)
 lab:g.Q.L=w0.Q.L/\(w0.Q.L=slP P\/w0.Q.L=Nf)
 frm:∀i,sU g s.h w (s.fr i) (w0.fv i)
def Rel(P:Program)(base:Nat)(j:W0)(N:Nat)(s:St)(a:Act)(w:World):Prop:=∃g,jS P base j N g s a w []
section
variable {P:Program}{base N:Nat}{w0:W0}{w:World}{g:Gh}{s:St}{a:Act}{pool:List Nat}{K:St->Prop}
theorem bK(R:jS P base w0 N g s a w pool){x:Operand}{k:SV->Prog}(h:ex P (vOp x k) s K):∃j,sU g s.h w j (a.eval x)/\ex P (k j) s K:=by
 cases x with
 |tmp t=>exact⟨s.t t,R.tmp t,h⟩
 |const c=>exact⟨cst c,SF c g s.h w,h⟩
 |func f=>exact⟨.v false [.dat (.fn f [])],⟨_,[],rfl,⟨[],by simp only[Rep];exact⟨[],rfl,by simp[aG]⟩,qe⟩,rfl⟩,h⟩
 |global C=>exact h.elim
theorem Qd{a:Act}{N d t:Nat}{v:Value}(C:a.tmps.size=N)(I:d<N):(a.put (some d) v).tmps.getD t undef=if t=d then v else a.tmps.getD t undef:=by
 simp only[Act.put,Array.getD_eq_getD_getElem?,Array.getElem?_setIfInBounds]
 by_cases h:d=t
 ·subst h;simp[C,I]
 ·have j:¬t=d:=λe=>h e.symm
  simp[h,j]
theorem yC(R:jS P base w0 N g s a w pool){j:Option Tmp}{sv:SV}{v:Value}(J:sU g s.h w sv v)(h:ex P (put N j sv) s K):∃C,K C/\jS P base w0 N g C (a.put j v) w pool:=by
 cases j with
 |none=>exact⟨s,h,R⟩
 |some d=>
  unfold put at h
  simp only at h
  split at h
  ·rename_i I;refine⟨s.C8 d sv,h,⟨R.defers,by simp[Act.put,R.size],R.below,R.q,R.vY,R.inv,λt=> ?_,R.lab,R.frm⟩⟩;rw[Qd R.size I,St.FC];by_cases ht:t=d;(simp only[ht,if_true];exact J);·simp only[ht,if_false];exact R.tmp t
  ·exact h.elim
theorem Inv.forget{h:Heap}(I:Inv base g h w pool):Inv base g h w []:=
 ⟨I.base_le,I.S_old,I.S_lt,I.obj,I.mtb,I.inj,I.dis,vF.nil _ _,qe,λ_ _ _ _=>by simp,I.fb⟩
theorem jS.forget(R:jS P base w0 N g s a w pool):jS P base w0 N g s a w []:=⟨R.defers,R.size,R.below,R.q,R.vY,R.inv.forget,R.tmp,R.lab,R.frm⟩
theorem jS.fbb(R:jS P base w0 N g s a w pool):w0.Q.fb<=base:=R.q.2.1 ▸ R.inv.fb
theorem jS.bel(R:jS P base w0 N g s a w pool){w':World}(h:Below base w w'):Below w0.Q.fb w0.w w':=R.below.trans (h.mono R.fbb)
theorem jS.nV{g':Gh}{s':St}{w':World}{pool':List Nat}(R:jS P base w0 N g s a w pool)(T:iC g g' s.h s'.h w w')(ht:s'.t=s.t)(hb:Below w0.Q.fb w0.w w')(hI:Inv base g' s'.h w' pool')(hfr:s'.fr=s.fr:=by rfl):jS P base w0 N g' s' a w' pool':=
 ⟨R.defers,R.size,hb,⟨by rw[T.Q];exact R.q.1,by rw[T.Q];exact R.q.2.1,R.q.2.2.nV T⟩,λb hb=>⟨T.S b (R.vY b hb).1,(T.Sw b (R.vY b hb).1).trans (R.vY b hb).2⟩,hI,λt=>by rw[ht];exact(R.tmp t).nV T,by rw[T.Q];exact R.lab,λi=>by rw[hfr];exact(R.frm i).nV T⟩
theorem Es{d:D}{v:Value}{F:List Nat}(h:Rep w d v F)(j:d.flat=true):F=[]:=by cases d<;>simp[D.flat]at j<;>simp only[Rep]at h<;>exact h.2
theorem zK.flat{L:TL}{w:World}{d:D}{t:Option (TypeId×Nat)}{v:Value}{F:List Nat}(h:Rep w d v F)(j:d.flat=true):zK L w d t v F:=by cases d<;>simp[D.flat]at j<;>simp only[Rep]at h<;>simp only[zK]<;>exact h
theorem bJ.flat{L:TL}{w:World}:∀{ds:List D} {ts:Lb} {j:List Value} {F:List Nat},aG w ds j F->ds.all D.flat=true->bJ L w ds ts j F
 |[],ts,j,F,h,_=>by simp only[aG]at h;simp only[bJ];exact h
 |d::ds,ts,j,F,h,C=>by simp only[List.all_cons,qM]at C;simp only[aG]at h;obtain⟨v,I,F1,J,h1,U,h3,h4⟩:=h;simp only[bJ];exact⟨v,I,F1,J,h1,U,zK.flat h3 C.1,bJ.flat h4 C.2⟩
theorem gX.flat{L:TL}{w:World}:∀{j:List (List D)} {e:TypeId} {C:List Value} {F:List Nat},aQ w j C F->(∀x∈j,x.all D.flat=true)->gX L w j e C F
 |[],e,C,F,h,_=>by simp only[aQ]at h;simp only[gX];exact h
 |x::j,e,C,F,h,I=>by simp only[aQ]at h;obtain⟨v1,J,F1,U,h1,h2,h3,h4⟩:=h;simp only[gX];exact⟨v1,J,F1,U,h1,h2,bJ.flat h3 (I x qe),gX.flat h4 λy hy=>I y (by simp[hy])⟩
theorem cF.flat{L:TL}{m:Bool}{w:World}{xs:List (List D)}{e:TypeId}{vs:List Value}{F:List Nat}(h:aQ w xs vs F)(j:∀x∈xs,x.all D.flat=true):cF L m w e xs vs F:=by
 cases m with
 |true=>exact gX.flat h j
 |false=>exact h
theorem gX.toL(R:jS P base w0 N g s a w pool){xs:List (List D)}{e:TypeId}{vs:List Value}{F:List Nat}(h:gX (slP P) w xs e vs F):gX g.Q.L w xs e vs F:=by rw[R.lab.1];rcases R.lab.2 with hl|hl;(rw[hl];exact h);·rw[hl];exact gX.KI h.rep
theorem bJ.toL(R:jS P base w0 N g s a w pool){j:TI}{e:TypeId}(C:jP P e=some j)(off:Nat){ds:List D}{vs:List Value}{F:List Nat}(h:bJ g.Q.L w ds (j.sl.drop off) vs F):bJ g.Q.L w ds ((g.Q.L e).drop off) vs F:=by
 rcases R.lab.2 with hl|hl
 ·have:g.Q.L e=j.sl:=by rw[R.lab.1,hl];exact(cY C).sl.symm
  rw[this];exact h
 ·have:g.Q.L e=[]:=by rw[R.lab.1,hl];rfl
  rw[this,List.drop_nil];exact bJ.none h.rep
theorem Bg:∀{cs:List SC} {ts:Lb} {vs:List Value} {k:List D->Bool->Prog} {g:Gh} {s:St} {pool:List Nat},jS P base w0 N g s a w pool->aR g s.h w cs vs->ex P (xE cs ts k) s K->
  ∃g' s' ds b F pool',ex P (k ds b) s' K/\jS P base w0 N g' s' a w pool'/\iC g g' s.h s'.h w w/\s'.t=s.t/\aG w ds vs F/\(∀x∈F,g'.S x)/\(b=true->pool'=pool++F/\bJ g.Q.L w ds ts vs F)
 |[],ts,vs,k,g,s,pool,R,hc,h=>⟨g,s,[],true,[],pool,h,R,iC.refl _ _ _,rfl,by simp only[aG];exact⟨hc,trivial⟩,qe,λ_=>⟨qe,by simp only[bJ];exact⟨hc,trivial⟩⟩⟩
 | .dat d::cs,ts,vs,k,g,s,pool,R,hc,h=>by obtain⟨v,C,rfl,⟨F1,h1,h2⟩,h3⟩:=hc;obtain⟨g',s',ds,b,F,pool',h4,h5,J,U,h7,h8,h9⟩:=Bg R h3 h;refine⟨g',s',d::ds,d.flat&&b,F1++F,pool',h4,h5,J,U,?_,?_,?_⟩;(simp only[aG];exact⟨v,C,F1,F,rfl,rfl,h1,h7⟩);(intro x hx;rcases List.mem_append.1 hx with hx|hx;(exact J.S x (h2 x hx));·exact h8 x hx);·intro I;simp at I;have e0:=Es h1 I.1;subst e0;refine⟨by rw[List.nil_append];exact(h9 I.2).1,?_⟩;simp only[bJ];exact⟨v,C,[],F,rfl,rfl,zK.flat h1 I.1,(h9 I.2).2⟩
 | .nil::cs,ts,vs,k,g,s,pool,R,hc,h=>by
  obtain⟨v,C,rfl,h1,h3⟩:=hc
  obtain⟨g',s',ds,b,F,pool',h4,h5,J,U,h7,h8,h9⟩:=Bg R h3 h
  refine⟨g',s',.sl []::ds,_,F,pool',h4,h5,J,U,?_,h8,λI=> ?_⟩
  ·simp only[aG];refine⟨v,C,[],F,rfl,rfl,?_,h7⟩;simp only[Rep];exact⟨none,0,0,h1,rfl,Nat.le_refl _,.inl qe⟩
  ·refine⟨(h9 I).1,?_⟩
   simp only[bJ]
   refine⟨v,C,[],F,rfl,rfl,?_,(h9 I).2⟩
   cases lab ts with
   |none=>simp only[zK,Rep];exact⟨none,0,0,h1,rfl,Nat.le_refl _,.inl qe⟩
   |some t=>simp only[zK];exact⟨[],[],by rw[h1];exact World.ownsRow_nil w 0 t.1 t.2,qe,by rw[h1];rfl,by simp[gX]⟩
 | .row i ver::cs,ts,vs,k,g,s,pool,R,hc,h=>by
  obtain⟨v,C,rfl,⟨h0,h1,h2⟩,h3⟩:=hc
  simp only[xE,ex]at h
  split at h
  ·rename_i e sz xs dp ho
   split at h
   ·rename_i hv
    have hval:=h2 hv e sz xs dp ho
    obtain⟨S',F1,hS,_,hr,hst,_,hF,hn,hI⟩:=R.inv.take ho
    have T:iC g { g with S:=S' } s.h (nP s.h i ((s.h i).1,.none)) w w:=iC.drop i S' hS
    rw[hv]at T hI
    have R':jS P base w0 N { g with S:=S' } (s.eV i (ver,.none)) a w (if dp then pool++F1 else pool):=R.nV T rfl R.below hI
    obtain⟨g',s',ds,b,F,pool',h4,h5,J,U,h7,h8,h9⟩:=Bg R' (h3.nV T) h
    refine⟨g',s',.sl xs::ds,_,F1++F,pool',h4,h5,?_,U,?_,?_,?_⟩
    ·exact⟨λb x=>J.S b (hS b x),λb x=>rfl,λj=>Nat.le_trans (T.ver j) (J.ver j),
      λj e sz xs dp hj hr=>by have v1:=T.ver j;have v2:=J.ver j;obtain⟨e1,x1,d1,r1⟩:=J.row j e sz xs dp (by simp only[St.eV]at*;unfold nP at*;omega) hr;obtain⟨e2,x2,d2,r2⟩:=T.row j e sz x1 d1 (by simp only[St.eV]at*;unfold nP at*;omega) r1;exact⟨e1.trans e2,x2,d2,r2⟩,
      λj t cs hj hr=>by have v1:=T.ver j;have v2:=J.ver j;obtain⟨e1,x1,r1⟩:=J.box j t cs (by simp only[St.eV]at*;unfold nP at*;omega) hr;obtain⟨e2,x2,r2⟩:=T.box j t x1 (by simp only[St.eV]at*;unfold nP at*;omega) r1;exact⟨e1.trans e2,x2,r2⟩,J.Q.trans T.Q⟩
    ·simp only[aG];exact⟨v,C,F1,F,rfl,rfl,hval ▸ hr,h7⟩
    ·intro x hx;rcases List.mem_append.1 hx with hx|hx;(exact J.S x (hF x hx));·exact h8 x hx
    ·intro I;split at I;(rename_i hl;simp at I;refine⟨by rw[(h9 I.2).1,I.1];simp,?_⟩;simp only[bJ];exact⟨v,C,F1,F,rfl,rfl,by rcases hl with hl|hl;rw[hl,hval];exact zK.none hr;rw[hl,hval];exact hst I.1,(h9 I.2).2⟩);·cases I
   ·exact h.elim
  ·exact h.elim
 | .bp _ _ _::_,_,_,_,_,_,_,_,_,h=>h.elim
 | .rp _ _ _ _::_,_,_,_,_,_,_,_,_,h=>h.elim
 | .clo _ _::_,_,_,_,_,_,_,_,_,h=>h.elim
 | .old _ _ _::_,_,_,_,_,_,_,_,_,h=>h.elim
 | .part _ _ _ _::_,_,_,_,_,_,_,_,_,h=>h.elim
 | .exa _ _ _::_,_,_,_,_,_,_,_,_,h=>h.elim
theorem I0{L:TL}{dp:Bool}{e:TypeId}{xs:List (List D)}{cells:List Value}{G:List Nat}{sz lo n:Nat}(hr:cF L dp w e xs cells G)(hx:∀x∈xs,x.length=sz)(hln:n=0\/lo+n<=xs.length):
  ∃I C c3 F1 J U,cells=I++(C++c3)/\G=F1++(J++U)/\(lo<=xs.length->I.length=lo*sz)/\C.length=n*sz/\cF L dp w e (xs.take lo) I F1/\cF L dp w e ((xs.drop lo).take n) C J/\cF L dp w e (xs.drop (lo+n)) c3 U:=by
 have hs:xs=xs.take lo++((xs.drop lo).take n++xs.drop (lo+n)):=by rw[<-List.drop_drop,List.take_append_drop,List.take_append_drop]
 rw[hs]at hr
 obtain⟨I,v2,F1,G2,rfl,rfl,r1,r2⟩:=cF.split hr
 obtain⟨C,c3,J,U,rfl,rfl,r3,r4⟩:=cF.split r2
 refine⟨I,C,c3,F1,J,U,rfl,rfl,?_,?_,r1,r3,r4⟩
 ·intro h;·rw[aQ.length r1.rep λx j=>hx x (List.mem_of_mem_take j),qU,Nat.min_eq_left qc]
 ·rw[aQ.length r3.rep λx j=>hx x (List.mem_of_mem_drop (List.mem_of_mem_take j)),qU,qV];congr 1;rcases hln with h|h<;>omega
theorem OC{b off:Nat}{I C U:List Value}(h:xX w b off (I++(C++U))):xX w b (off+I.length) C:=by intro j u J;rw[Nat.add_assoc];refine h (I.length+j) u ?_;rw[List.getElem?_append_right qc,Nat.add_sub_cancel_left];have hj:j<C.length:=(List.getElem?_eq_some_iff.1 J).1;rw[List.getElem?_append_left hj];exact J
theorem FG{e:TypeId}{sz n:Nat}{v:Value}{xs ys:List Value}(h:w.ownsRow base e sz v n xs)(k:w.ownsRow base e sz v n ys):xs=ys:=by rcases h.2 with⟨e1,J⟩|⟨gg,cap,cur,e1,e2,e3,e4,e5,e6,I⟩;(have U:=h.1;have C:=k.1;rw[J]at U C;rw[List.eq_nil_of_length_eq_zero (by omega:xs.length=0),List.eq_nil_of_length_eq_zero (by omega:ys.length=0)]);·rcases k.2 with⟨f1,_⟩|⟨j,cap',cur',f1,f2,f3,f4,f5,f6,f7⟩;(rw[e1]at f1;cases f1);·rw[e1]at f1;cases f1;rw[e3]at f3;cases f3;exact I.symm.trans f7
theorem Gm(I:Inv base g s.h w pool){i ver lo n:Nat}{v:Value}{e:TypeId}{sz:Nat}{xs:List (List D)}{dp:Bool}(hc:wG g s.h w (.part i ver lo n) v)(hv:(s.h i).1=ver)(ho:(s.h i).2=.row e sz xs dp):
  ∃ad c,v=.slice ad n c/\n<=c/\(n=0\/lo+n<=xs.length)/\(n=0 \/∃b cells,ad=some ⟨b,lo*sz,none⟩/\b<w.heap.size/\w.ownsRow base e sz (g.val i) xs.length cells/\xX w b 0 cells)/\(lo=0->∃m,g.val i=.slice ad m c/\n<=m):=by
 obtain⟨h0,h1,h2⟩:=hc
 obtain⟨ad,c,rfl,k2,J,k4⟩:=h2 hv e sz xs dp ho
 have hob:=I.obj i
 rw[ho]at hob
 obtain⟨cells,C,p2,p3,p4,p5⟩:=hob
 refine⟨ad,c,rfl,k2,?_,?_,k4⟩
 ·rcases J with J|⟨b,m,c',U,k6,k7⟩;(exact .inl J);·right;rcases C.2 with⟨e1,_⟩|⟨gg,cap,cur,e1,_⟩;(rw[U]at e1;cases e1);·rw[U]at e1;cases e1;exact k6
 ·rcases J with J|⟨b,m,c',U,k6,k7⟩;(exact .inl J);·right;rw[U]at C;rcases C.2 with⟨e1,_⟩|⟨gg,cap,cur,e1,e2,e3,e4,e5,e6,e7⟩;(cases e1);·cases e1;refine⟨_,cells,k7,(Array.getElem?_eq_some_iff.1 e3).1,by rw[U];exact C,λj u hu=> ?_⟩;have hj:j<cells.length:=(List.getElem?_eq_some_iff.1 hu).1;rw[Nat.zero_add,C.cellAt j (by rw[<-C.1];exact hj)];exact hu
theorem Cq(I:Inv base g s.h w pool){i:Nat}{e:TypeId}{sz:Nat}{xs:List (List D)}{dp:Bool}(j:(s.h i).2=.row e sz xs dp):∃F,Rep w (.sl xs) (g.val i) F:=by obtain⟨_,F,_,_,C,_⟩:=I.take j;exact⟨F,C⟩
theorem B5(I:Inv base g s.h w pool):∀{cs:List SC} {vs:List Value} {k:List D->Prog},aR g s.h w cs vs->ex P (Bh cs k) s K->∃ds F,aG w ds vs F/\ex P (k ds) s K
 |[],vs,k,C,h=>⟨[],[],by simp only[aG];exact⟨C,trivial⟩,h⟩
 | .dat d::cs,vs,k,C,h=>by obtain⟨v,j,rfl,⟨J,h1,h2⟩,h3⟩:=C;obtain⟨ds,F,h4,U⟩:=B5 I h3 h;exact⟨d::ds,J++F,by simp only[aG];exact⟨v,j,J,F,rfl,rfl,h1,h4⟩,U⟩
 | .old B d u::cs,vs,k,C,h=>by obtain⟨v,j,rfl,⟨J,h1,h2,_⟩,h3⟩:=C;obtain⟨ds,F,h4,U⟩:=B5 I h3 h;exact⟨d::ds,J++F,by simp only[aG];exact⟨v,j,J,F,rfl,rfl,h1,h4⟩,U⟩
 | .nil::cs,vs,k,C,h=>by obtain⟨v,j,rfl,h1,h3⟩:=C;obtain⟨ds,F,h4,U⟩:=B5 I h3 h;refine⟨.sl []::ds,F,?_,U⟩;simp only[aG];refine⟨v,j,[],F,rfl,rfl,?_,h4⟩;simp only[Rep];exact⟨none,0,0,h1,rfl,Nat.le_refl _,.inl qe⟩
 | .row i ver::cs,vs,k,C,h=>by obtain⟨v,j,rfl,⟨h0,h1,h2⟩,h3⟩:=C;simp only[Bh,ex]at h;split at h;(rename_i e sz xs dp ho;split at h;(rename_i hv;have hval:=h2 hv e sz xs dp ho;obtain⟨J,hr⟩:=Cq I ho;obtain⟨ds,F,h4,U⟩:=B5 I h3 h;exact⟨.sl xs::ds,J++F,by simp only[aG];exact⟨v,j,J,F,rfl,rfl,hval ▸ hr,h4⟩,U⟩);·exact h.elim);·exact h.elim
 | .bp _ _ _::_,_,_,_,h=>h.elim
 | .rp _ _ _ _::_,_,_,_,h=>h.elim
 | .clo _ _::_,_,_,_,h=>h.elim
 | .part _ _ _ _::_,_,_,_,h=>h.elim
 | .exa _ _ _::_,_,_,_,h=>h.elim
theorem Gx(I:Inv base g s.h w pool){i ver off:Nat}{v:Value}{k:List D->Prog}(hc:Ei g s.h (i,ver,off) v)(h:ex P (Ct i ver off k) s K):
  ∃ds F,Rep w (.ptr ds) v F/\ex P (k ds) s K:=by
 simp only[Ct,ex]at h
 split at h
 ·rename_i t cells ho
  split at h
  ·rename_i hv
   obtain⟨b,h1,h2⟩:=hc.2 hv t cells ho
   have C:=I.obj i
   rw[ho]at C
   obtain⟨J,vals,U,h4,h5,h6⟩:=C
   have hbb:J=b:=by rw[h1]at U;simp at U;exact U.symm
   subst hbb
   obtain⟨ds,F,h7,h8⟩:=B5 I (h6.drop off) h
   refine⟨ds,J::F,?_,h8⟩
   simp only[Rep]
   refine⟨J,off,vals.toList.drop off,F,h2,(Array.getElem?_eq_some_iff.1 h5).1,rfl,?_,h7⟩
   intro j u hu
   rw[cell_of_row w J _ vals t (0,0) h5]
   simpa using hu
  ·exact h.elim
 ·exact h.elim
theorem B4(I:Inv base g s.h w pool):∀{J:List (Nat×Nat×Nat)} {j:List Value} {k:List D->Prog},Ag g s.h J j->ex P (AG J k) s K->∃ds F,aG w ds j F/\ex P (k ds) s K
 |[],j,k,C,h=>⟨[],[],by simp only[aG];exact⟨C,trivial⟩,h⟩
 |(i,ver,off)::J,j,k,C,h=>by obtain⟨v,U,rfl,h1,h3⟩:=C;obtain⟨ds,F,h4,h5⟩:=Gx I h1 h;obtain⟨es,G,h6,h7⟩:=B4 I h3 h5;exact⟨.ptr ds::es,F++G,by simp only[aG];exact⟨v,U,F,G,rfl,rfl,h4,h6⟩,h7⟩
theorem wJ(I:Inv base g s.h w pool):∀{cs:List SC} {vs:List Value} {k:List D->Prog},aR g s.h w cs vs->ex P (xZ cs k) s K->∃ds F,aG w ds vs F/\ex P (k ds) s K
 |[],vs,k,J,h=>⟨[],[],by simp only[aG];exact⟨J,trivial⟩,h⟩
 | .dat d::cs,vs,k,J,h=>by obtain⟨v,C,rfl,⟨F1,h1,h2⟩,h3⟩:=J;obtain⟨ds,F,h4,U⟩:=wJ I h3 h;exact⟨d::ds,F1++F,by simp only[aG];exact⟨v,C,F1,F,rfl,rfl,h1,h4⟩,U⟩
 | .nil::cs,vs,k,J,h=>by obtain⟨v,C,rfl,h1,h3⟩:=J;obtain⟨ds,F,h4,U⟩:=wJ I h3 h;refine⟨.sl []::ds,F,?_,U⟩;simp only[aG];refine⟨v,C,[],F,rfl,rfl,?_,h4⟩;simp only[Rep];exact⟨none,0,0,h1,rfl,Nat.le_refl _,.inl qe⟩
 | .row i ver::cs,vs,k,J,h=>by obtain⟨v,C,rfl,⟨h0,h1,h2⟩,h3⟩:=J;simp only[xZ,ex]at h;split at h;(rename_i e sz xs dp ho;split at h;(rename_i hv;have hval:=h2 hv e sz xs dp ho;obtain⟨F1,hr⟩:=Cq I ho;obtain⟨ds,F,h4,U⟩:=wJ I h3 h;exact⟨.sl xs::ds,F1++F,by simp only[aG];exact⟨v,C,F1,F,rfl,rfl,hval ▸ hr,h4⟩,U⟩);·exact h.elim);·exact h.elim
 | .bp i ver off::cs,vs,k,J,h=>by obtain⟨v,C,rfl,⟨h0,h1⟩,h3⟩:=J;obtain⟨ds,F,h4,U⟩:=Gx I h1 h;obtain⟨es,G,h6,h7⟩:=wJ I h3 U;exact⟨.ptr ds::es,F++G,by simp only[aG];exact⟨v,C,F,G,rfl,rfl,h4,h6⟩,h7⟩
 | .rp _ _ _ _::_,_,_,_,h=>h.elim
 | .clo f caps::cs,vs,k,J,h=>by obtain⟨v,C,rfl,⟨us,h0,h1⟩,h3⟩:=J;obtain⟨ds,F,h4,U⟩:=B4 I h1 h;obtain⟨es,G,h6,h7⟩:=wJ I h3 U;refine⟨.fn f ds::es,F++G,?_,h7⟩;simp only[aG];refine⟨v,C,F,G,rfl,rfl,?_,h6⟩;simp only[Rep];exact⟨us,h0,h4⟩
 | .old B d u::cs,vs,k,J,h=>by obtain⟨v,C,rfl,⟨F1,h1,h2,_⟩,h3⟩:=J;obtain⟨ds,F,h4,U⟩:=wJ I h3 h;exact⟨d::ds,F1++F,by simp only[aG];exact⟨v,C,F1,F,rfl,rfl,h1,h4⟩,U⟩
 | .exa W d x::cs,vs,k,J,h=>by obtain⟨v,C,rfl,⟨rfl,F1,h1,h2⟩,h3⟩:=J;obtain⟨ds,F,h4,U⟩:=wJ I h3 h;exact⟨d::ds,F1++F,by simp only[aG];exact⟨v,C,F1,F,rfl,rfl,Rep.vY _ _ _ h1 λb hb=>(h2 b hb).2,h4⟩,U⟩
 | .part i ver lo n::cs,vs,k,J,h=>by obtain⟨v,C,rfl,hp,h3⟩:=J;simp only[xZ,ex]at h;split at h;(rename_i e sz xs dp ho;split at h;(rename_i hv;obtain⟨ad,c,rfl,q1,q2,q3,_⟩:=Gm I hp hv ho;have hob:=I.obj i;rw[ho]at hob;obtain⟨cells,p1,p2,p3,p4,p5⟩:=hob;obtain⟨c1,c2,c3,F1,F2,F3,rfl,hG,m1,m2,m3,m4,m5⟩:=I0 (lo:=lo) (n:=n) p3 p2 q2;obtain⟨ds,F,h4,U⟩:=wJ I h3 h;rcases q3 with q3|⟨b,cells',q3,q4,q5,q6⟩;(refine⟨.sl ((xs.drop lo).take n)::ds,[]++F,?_,U⟩;simp only[aG];refine⟨_,C,[],F,rfl,rfl,?_,h4⟩;simp only[Rep];exact⟨ad,n,c,rfl,by rw[q3];simp,q1,.inl ⟨q3,trivial⟩⟩);·have hcc:cells'=c1++(c2++c3):=FG q5 p1;subst hcc;refine⟨.sl ((xs.drop lo).take n)::ds,(b::F2)++F,?_,U⟩;simp only[aG];refine⟨_,C,b::F2,F,rfl,rfl,?_,h4⟩;simp only[Rep];by_cases hn:n=0;(refine⟨ad,n,c,rfl,by rw[hn];simp,q1,.inr ⟨b,lo*sz,c2,sz,F2,q3,q4,rfl,?_,m2,λx hx=>p2 x (List.mem_of_mem_drop (List.mem_of_mem_take hx)),m4.rep⟩⟩;have:c2=[]:=List.eq_nil_of_length_eq_zero (by rw[m2,hn];simp);subst this;intro j u hu;simp at hu);·have hlo:lo+n<=xs.length:=q2.resolve_left hn;refine⟨ad,n,c,rfl,by rw[qU,qV];omega,q1,.inr ⟨b,lo*sz,c2,sz,F2,q3,q4,rfl,?_,m2,λx hx=>p2 x (List.mem_of_mem_drop (List.mem_of_mem_take hx)),m4.rep⟩⟩;have:=OC q6;rw[m1 qc,Nat.zero_add]at this;exact this);·exact h.elim);·exact h.elim
theorem Av(R:jS P base w0 N g s a w pool):∀{J:List Operand} {k:List (Bool×List D)->Prog},ex P (Bx J k) s K->∃as F,sH w (J.map a.eval) as F/\ex P (k as) s K
 |[],k,h=>⟨[],[],rfl,h⟩
 |x::J,k,h=>by
  obtain⟨sv,h1,C⟩:=bK R h
  cases sv with
  |v ag cs=>
   simp only at C
   cases ag with
   |false=>
    obtain⟨ds,F,j,h4⟩:=wJ R.inv h1 C
    obtain⟨as,U,I,h6⟩:=Av R h4
    refine⟨(false,ds)::as,_,⟨F,U,rfl,?_,I⟩,h6⟩
    have hl:=j.length
    match ds,j,hl with
    |[d],j,_=>
     simp only[aG]at j
     obtain⟨v,vs',F1,F2,e1,rfl,h7,_,rfl⟩:=j
     simp at e1
     rw[qX]
     exact⟨d,rfl,e1.1 ▸ h7⟩
   |true=>
    obtain⟨vs,hv,hc⟩:=h1
    obtain⟨ds,F,j,h4⟩:=wJ R.inv hc C
    obtain⟨as,U,I,h6⟩:=Av R h4
    exact⟨(true,ds)::as,_,⟨F,U,rfl,⟨vs,hv,j⟩,I⟩,h6⟩
  |unk=>exact C.elim
  |undef=>exact C.elim
  |tup vs=>exact C.elim
theorem MQ{j vj:Nat}{e:TypeId}{sz:Nat}{xs:List (List D)}{dp:Bool}(R:jS P base w0 N g s a w [])(h2:s.h j=(vj,.row e sz xs dp)):
  ∃U,jS P base w0 N U (s.eV j (vj,.none)) a w []/\iC g U s.h (s.eV j (vj,.none)).h w w/\∀v,wG g s.h w (.row j vj) v->∃F,Rep w (.sl xs) v F/\∀b∈F,U.S b:=by
 have C:(s.h j).1=vj:=by rw[h2]
 have I:(s.h j).2=.row e sz xs dp:=by rw[h2]
 obtain⟨S',F,hS,_,hrep,_,_,hF,_,I1⟩:=R.inv.take I
 have J:=iC.drop (g:=g) (h:=s.h) (w:=w) j S' hS
 rw[C]at I1 J
 refine⟨_,R.nV J rfl R.below I1.forget,J,?_⟩
 rintro v ⟨h0,_,hv⟩
 have e1:v=g.val j:=hv C e sz xs dp I
 subst e1
 exact⟨F,hrep,hF⟩
theorem iC.id(g:Gh)(h:Heap)(w:World):iC g g h h w w:=iC.refl g h w
theorem Bj:∀{cs:List SC} {vs:List Value} {k:List D->Prog} {g:Gh} {s:St},jS P base w0 N g s a w []->aR g s.h w cs vs->ex P (Ew cs k) s K->
  ∃I J ds F,jS P base w0 N I J a w []/\(∀b,g.S b->I.S b)/\aG w ds vs F/\(∀b∈F,I.S b)/\ex P (k ds) J K
 |[],vs,k,g,s,R,hc,h=>⟨g,s,[],[],R,λ_ x=>x,by simp only[aG];exact⟨hc,trivial⟩,qe,h⟩
 | .dat d::cs,vs,k,g,s,R,hc,h=>by obtain⟨v,C,rfl,⟨F1,h1,h2⟩,h3⟩:=hc;obtain⟨I,J,ds,F,R',U,h4,h5,h6⟩:=Bj R h3 h;refine⟨I,J,d::ds,F1++F,R',U,by simp only[aG];exact⟨v,C,F1,F,rfl,rfl,h1,h4⟩,λb j=> ?_,h6⟩;rcases List.mem_append.1 j with j|j;(exact U b (h2 b j));·exact h5 b j
 | .nil::cs,vs,k,g,s,R,hc,h=>by obtain⟨v,C,rfl,h1,h3⟩:=hc;obtain⟨I,J,ds,F,R',U,h4,h5,h6⟩:=Bj R h3 h;refine⟨I,J,.sl []::ds,F,R',U,?_,h5,h6⟩;simp only[aG];refine⟨v,C,[],F,rfl,rfl,?_,h4⟩;simp only[Rep];exact⟨none,0,0,h1,rfl,Nat.le_refl _,.inl qe⟩
 | .old B d u::cs,vs,k,g,s,R,hc,h=>by obtain⟨v,C,rfl,⟨F1,h1,h2,_⟩,h3⟩:=hc;obtain⟨I,J,ds,F,R',U,h4,h5,h6⟩:=Bj R h3 h;refine⟨I,J,d::ds,F1++F,R',U,by simp only[aG];exact⟨v,C,F1,F,rfl,rfl,h1,h4⟩,λb j=> ?_,h6⟩;rcases List.mem_append.1 j with j|j;(exact U b (h2 b j).1);·exact h5 b j
 | .row i ver::cs,vs,k,g,s,R,hc,h=>by
  obtain⟨v,C,rfl,h1,h3⟩:=hc
  simp only[Ew,ex]at h
  split at h
  ·rename_i e sz xs dp ho
   split at h
   ·rename_i hv
    simp only[ex]at h
    have h2:s.h i=(ver,.row e sz xs dp):=by rw[<-hv,<-ho]
    obtain⟨g1,R1,T1,hf⟩:=MQ R h2
    obtain⟨F1,k1,k2⟩:=hf v h1
    obtain⟨I,J,ds,F,R',U,h4,h5,h6⟩:=Bj R1 (h3.nV T1) h
    refine⟨I,J,.sl xs::ds,F1++F,R',λb x=>U b (T1.S b x),by simp only[aG];exact⟨v,C,F1,F,rfl,rfl,k1,h4⟩,λb j=> ?_,h6⟩
    rcases List.mem_append.1 j with j|j
    ·exact U b (k2 b j)
    ·exact h5 b j
   ·exact h.elim
  ·exact h.elim
 | .bp _ _ _::_,_,_,_,_,_,_,h=>h.elim
 | .rp _ _ _ _::_,_,_,_,_,_,_,h=>h.elim
 | .clo _ _::_,_,_,_,_,_,_,h=>h.elim
 | .part _ _ _ _::_,_,_,_,_,_,_,h=>h.elim
 | .exa _ _ _::_,_,_,_,_,_,_,h=>h.elim
theorem CK:∀{xs:List Operand} {k:List (Bool×List D)->Prog} {g:Gh} {s:St},jS P base w0 N g s a w []->ex P (GV xs k) s K->
  ∃g' s' as F,jS P base w0 N g' s' a w []/\(∀b,g.S b->g'.S b)/\sH w (xs.map a.eval) as F/\(∀b∈F,g'.S b)/\ex P (k as) s' K
 |[],k,g,s,R,h=>⟨g,s,[],[],R,λ_ x=>x,rfl,qe,h⟩
 |x::xs,k,g,s,R,h=>by
  obtain⟨sv,h1,h2⟩:=bK R h
  cases sv with
  |v ag cs=>
   simp only at h2
   cases ag with
   |false=>
    obtain⟨g1,s1,ds,F,R1,I,J,U,h4⟩:=Bj R h1 h2
    obtain⟨g2,s2,as,Fa,R2,j,h5,h5b,h6⟩:=CK R1 h4
    refine⟨g2,s2,(false,ds)::as,_,R2,λb x=>j b (I b x),⟨F,Fa,rfl,?_,h5⟩,?_,h6⟩
    ·have hl:=J.length
     match ds,J,hl with
     |[d],J,_=>
      simp only[aG]at J
      obtain⟨v,vs',F1,F2,e1,rfl,h7,_,rfl⟩:=J
      simp at e1
      rw[qX]
      exact⟨d,rfl,e1.1 ▸ h7⟩
    ·intro b C;rcases List.mem_append.1 C with C|C;(exact j b (U b C));·exact h5b b C
   |true=>
    obtain⟨vs,hv,hc⟩:=h1
    obtain⟨g1,s1,ds,F,R1,I,J,U,h4⟩:=Bj R hc h2
    obtain⟨g2,s2,as,Fa,R2,j,h5,h5b,h6⟩:=CK R1 h4
    refine⟨g2,s2,(true,ds)::as,_,R2,λb x=>j b (I b x),⟨F,Fa,rfl,⟨vs,hv,J⟩,h5⟩,?_,h6⟩
    intro b C
    rcases List.mem_append.1 C with C|C
    ·exact j b (U b C)
    ·exact h5b b C
  |unk=>exact h2.elim
  |undef=>exact h2.elim
  |tup vs=>exact h2.elim
end
end Go.Sh
namespace Go.Sh
open Go.RowKit
theorem iC.trans{g1 g2 g3:Gh}{h1 h2 h3:Heap}{w1 w2 w3:World}(A:iC g1 g2 h1 h2 w1 w2)(B:iC g2 g3 h2 h3 w2 w3):iC g1 g3 h1 h3 w1 w3:=
 ⟨λb x=>B.S b (A.S b x),λb x=>(B.Sw b (A.S b x)).trans (A.Sw b x),λj=>Nat.le_trans (A.ver j) (B.ver j),
  λj e sz xs dp hj J=>by have v1:=A.ver j;have v2:=B.ver j;obtain⟨e1,C,d1,r1⟩:=B.row j e sz xs dp qc J;obtain⟨e2,U,d2,I⟩:=A.row j e sz C d1 qc r1;exact⟨e1.trans e2,U,d2,I⟩,
  λj t cs hj J=>by have v1:=A.ver j;have v2:=B.ver j;obtain⟨e1,C,r1⟩:=B.box j t cs qc J;obtain⟨e2,U,I⟩:=A.box j t C qc r1;exact⟨e1.trans e2,U,I⟩,B.Q.trans A.Q⟩
def HL(g:Gh)(i:Nat)(v:Value)(F:List Nat):Gh:={ g with val:=BT g.val i v,fp:=BT g.fp i F }
theorem iC.create{g:Gh}{h:Heap}{w:World}(i:Nat)(v:Value)(F:List Nat)(o:At):iC g (HL g i v F) h (nP h i ((h i).1+1,o)) w w:=by refine⟨λ_ x=>x,λ_ _=>rfl,λj=> ?_,λj e sz xs dp I J=> ?_,λj t cs I U=> ?_,rfl⟩;(by_cases I:j=i;(subst I;rw[bE];exact Nat.le_succ _);·rw[eW _ _ _ _ I];exact Nat.le_refl _);(by_cases C:j=i;(subst C;rw[bE]at I;simp at I);·rw[eW _ _ _ _ C]at J;exact⟨yE _ _ _ _ C,xs,dp,J⟩);·by_cases C:j=i;(subst C;rw[bE]at I;simp at I);·rw[eW _ _ _ _ C]at U;exact⟨yE _ _ _ _ C,cs,U⟩
theorem Bz{h:Heap}{i j:Nat}{x:Nat×At}(C:live (nP h i x) j):j=i\/(j≠i/\live h j):=by by_cases hj:j=i;(exact .inl hj);·unfold live at*;rw[eW _ _ _ _ hj]at C;exact .inr ⟨hj,C⟩
theorem Ay{h:Heap}{i j:Nat}{x:Nat×At}(C:gD (nP h i x) j):j=i\/(j≠i/\gD h j):=by by_cases hj:j=i;(exact .inl hj);·unfold gD at*;rw[eW _ _ _ _ hj]at C;exact .inr ⟨hj,C⟩
section
variable {base:Nat}{g:Gh}{h:Heap}{w:World}{pool:List Nat}
def A3(g:Gh)(h:Heap)(b:Nat):Prop:=¬g.S b/\∀j,live h j->wV (g.val j)≠some b
theorem Inv.J7(I:Inv base g h w pool){i:Nat}{v:Value}{F:List Nat}{o:At}{pool':List Nat}
  (ho:zD base (HL g i v F) (nP h i ((h i).1+1,o)) w i o)(hfree:∀b,wV v=some b->A3 g h b)
  (hpl:∀b∈pool',b∈pool)(hpn:pool'.Nodup)
  (hd:(∃e sz xs,o=.row e sz xs true)->∀b∈F,b∈pool/\b∉pool'):
  Inv base (HL g i v F) (nP h i ((h i).1+1,o)) w pool':=by
 have T:=iC.create (g:=g) (h:=h) (w:=w) i v F o
 have vi:(HL g i v F).val i=v:=cZ _ _ _
 have vn:∀j,j≠i->(HL g i v F).val j=g.val j:=λj U=>yE _ _ _ _ U
 have fi:(HL g i v F).fp i=F:=cZ _ _ _
 have fn:∀j,j≠i->(HL g i v F).fp j=g.fp j:=λj U=>yE _ _ _ _ U
 have hdi:gD (nP h i ((h i).1+1,o)) i->∃e sz xs,o=.row e sz xs true:=by rintro⟨e,sz,xs,hh⟩;rw[bE]at hh;exact⟨e,sz,xs,hh⟩
 refine⟨I.base_le,I.S_old,I.S_lt,λj=> ?_,λj b hl J=> ?_,λj k b hne hl hk J C=> ?_,λj k hne U hk b J C=> ?_,
  ⟨hpn,λb J=>I.pool_own.2 b (hpl b J)⟩,λb J=>I.pool_S b (hpl b J),λj U b J C=> ?_,I.fb⟩
 ·by_cases U:j=i;(subst U;rw[bE];exact ho);·rw[eW _ _ _ _ U];exact zD.nV T (vn j U) (fn j U) (λ_ _=>rfl) (I.obj j)
 ·rcases Bz hl with rfl|⟨U,hl⟩;(rw[vi]at J;exact(hfree b J).1);·rw[vn j U]at J;exact I.mtb j b hl J
 ·rcases Bz hl with rfl|⟨U,hl1⟩;(rcases Bz hk with rfl|⟨hk',hk1⟩;(exact hne rfl);·rw[vi]at J;rw[vn k hk']at C;exact(hfree b J).2 k hk1 C);·rw[vn j U]at J;rcases Bz hk with rfl|⟨hk',hk1⟩;(rw[vi]at C;exact(hfree b C).2 j hl1 J);·rw[vn k hk']at C;exact I.inj j k b hne hl1 hk1 J C
 ·rcases Ay U with rfl|⟨hj',hj'd⟩;(rcases Ay hk with rfl|⟨hk',hk'd⟩;(exact hne rfl);·rw[fi]at J;rw[fn k hk']at C;exact I.pool_dis k hk'd b C (hd (hdi U) b J).1);·rw[fn j hj']at J;rcases Ay hk with rfl|⟨hk',hk'd⟩;(rw[fi]at C;exact I.pool_dis j hj'd b J (hd (hdi hk) b C).1);·rw[fn k hk']at C;exact I.dis j k hne hj'd hk'd b J C
 ·rcases Ay U with rfl|⟨hj',hj'd⟩;(rw[fi]at J;exact(hd (hdi U) b J).2 C);·rw[fn j hj']at J;exact I.pool_dis j hj'd b J (hpl b C)
theorem Inv.Ke(I:Inv base g h w pool){i b:Nat}{vals:Array Value}{t:TypeId}{cells:List SC}(U:base<=b)(hf:A3 g h b)(C:w.heap[b]? =some (.cells vals t (0,0)))
  (J:aR g h w cells vals.toList):Inv base (HL g i (.pointer (some ⟨b,0,none⟩)) []) (nP h i ((h i).1+1,.box t cells)) w pool:=
 I.J7 ⟨b,vals,cZ _ _ _,Nat.le_trans I.fb U,C,J.nV (iC.create i _ _ _)⟩ (λb' j=>by simp[wV]at j;subst j;exact hf) (λ_ x=>x) I.pool_own.1 (by rintro⟨_,_,_,h⟩;cases h)
theorem Inv.Af(I:Inv base g h w pool){i:Nat}{v:Value}{e:TypeId}{sz:Nat}{xs:List (List D)}{dp:Bool}{cells:List Value}{F:List Nat}{pool':List Nat}(ho:w.ownsRow base e sz v xs.length cells)
  (hx:∀x∈xs,x.length=sz)(hr:cF g.Q.L dp w e xs cells F)(hF:∀b∈F,g.S b)(hf:∀b,wV v=some b->A3 g h b)
  (C:∀b∈pool',b∈pool)(hpn:pool'.Nodup)(U:dp=true->F.Nodup/\∀b∈F,b∈pool/\b∉pool'):
  Inv base (HL g i v F) (nP h i ((h i).1+1,.row e sz xs dp)) w pool':=by
 have vi:(HL g i v F).val i=v:=cZ _ _ _
 have J:(HL g i v F).fp i=F:=cZ _ _ _
 refine I.J7 ⟨cells,by rw[vi];exact ho,hx,by rw[J];exact hr,by rw[J];exact hF,λj=>by rw[J];exact⟨(U j).1,λb hb=>I.pool_own.2 b ((U j).2 b hb).1⟩⟩ hf C hpn ?_
 rintro⟨e',sz',xs',hh⟩
 cases hh
 exact(U rfl).2
theorem Inv.T9(I:Inv base g h w pool){G:List Nat}(U:vF base w G)(hf:∀b∈G,A3 g h b):Inv base { g with S:=λb=>g.S b\/b∈G } h w (pool++G):=by
 have T:iC g { g with S:=λb=>g.S b\/b∈G } h h w w:=
  ⟨λ_ x=>.inl x,λ_ _=>rfl,λ_=>Nat.le_refl _,λi e sz xs dp _ hr=>⟨rfl,xs,dp,hr⟩,λi t cs _ hx=>⟨rfl,cs,hx⟩,rfl⟩
 have hin:∀i,gD h i->∀b∈g.fp i,g.S b:=by rintro i ⟨e,sz,xs,hh⟩ b C;have:=I.obj i;rw[hh]at this;obtain⟨_,_,_,_,h4,_⟩:=this;exact h4 b C
 refine⟨I.base_le,λb x hlt=>x.elim (λx=>I.S_old b x hlt) (λx=>absurd (U.2 b x).1 qc),?_,λj=>zD.nV T rfl rfl (λ_ _=>rfl) (I.obj j),?_,I.inj,I.dis,⟨?_,?_⟩,?_,?_,I.fb⟩
 ·rintro b (C|C);(exact I.S_lt b C);·exact(U.2 b C).2.lt
 ·rintro j b hl C (hS|hS);(exact I.mtb j b hl C hS);·exact(hf b hS).2 j hl C
 ·rw[List.nodup_append];refine⟨I.pool_own.1,U.1,?_⟩;rintro x hx y hy rfl;exact(hf x hy).1 (I.pool_S x hx)
 ·intro b C;rcases List.mem_append.1 C with C|C;(exact I.pool_own.2 b C);·exact U.2 b C
 ·intro b C;rcases List.mem_append.1 C with C|C;(exact .inl (I.pool_S b C));·exact .inr C
 ·intro i hd b C J;rcases List.mem_append.1 J with J|J;(exact I.pool_dis i hd b C J);·exact(hf b J).1 (hin i hd b C)
theorem Inv.Tr(I:Inv base g h w pool){X:Nat->Prop}(U:∀b,X b->(g.S b\/base<=b)/\b<w.heap.size)(hf:∀b,X b->¬g.S b->A3 g h b):Inv base { g with S:=λb=>g.S b\/X b } h w pool:=by
 have T:iC g { g with S:=λb=>g.S b\/X b } h h w w:=
  ⟨λ_ x=>.inl x,λ_ _=>rfl,λ_=>Nat.le_refl _,λi e sz xs dp _ hr=>⟨rfl,xs,dp,hr⟩,λi t cs _ hx=>⟨rfl,cs,hx⟩,rfl⟩
 refine⟨I.base_le,λb x J=>x.elim (λx=>I.S_old b x J) (λx=>(U b x).1.elim (λy=>I.S_old b y J) (λy=>absurd y qc)),?_,λj=>zD.nV T rfl rfl (λ_ _=>rfl) (I.obj j),?_,I.inj,I.dis,I.pool_own,λb C=>.inl (I.pool_S b C),I.pool_dis,I.fb⟩
 ·rintro b (C|C);(exact I.S_lt b C);·exact(U b C).2
 ·rintro j b hl C (hS|hS);(exact I.mtb j b hl C hS);·by_cases hs:g.S b;(exact I.mtb j b hl C hs);·exact(hf b hS hs).2 j hl C
theorem iC.Tr(g:Gh)(h:Heap)(w:World)(X:Nat->Prop):iC g { g with S:=λb=>g.S b\/X b } h h w w:=
 ⟨λ_ x=>.inl x,λ_ _=>rfl,λ_=>Nat.le_refl _,λi e sz C j _ J=>⟨rfl,C,j,J⟩,λi t I _ U=>⟨rfl,I,U⟩,rfl⟩
theorem iC.T9(g:Gh)(h:Heap)(w:World)(G:List Nat):iC g { g with S:=λb=>g.S b\/b∈G } h h w w:=
 ⟨λ_ x=>.inl x,λ_ _=>rfl,λ_=>Nat.le_refl _,λi e sz C j _ J=>⟨rfl,C,j,J⟩,λi t I _ U=>⟨rfl,I,U⟩,rfl⟩
end
theorem J2{w:World}{b I:Nat}{e:TypeId}{sz n:Nat}{v:Value}{xs:List Value}(h:w.ownsRow b e sz v n xs)(hb:I<=b):w.ownsRow I e sz v n xs:=by refine⟨h.1,?_⟩;rcases h.2 with j|⟨U,cap,C,j,J,h3⟩;(exact .inl j);·exact .inr ⟨U,cap,C,j,Nat.le_trans hb J,h3⟩
section
variable {P:Program}{base N:Nat}{w0:W0}{w:World}{a:Act}{K:St->Prop}
theorem KD(s:St)(i:Nat)(x:Nat×At):(s.eV i x).h=nP s.h i x:=rfl
theorem vH{base1 d:Nat}{X:Nat->Prop}(hbb:base<=base1):∀{rs:List RC} {I:List Value} {F:List Nat} {j:Nat} {k:List SC->Prog} {g:Gh} {s:St} {pool:List Nat},
  jS P base w0 N g s a w pool->mM (slP P) base1 w X I rs F->vF base w F->(∀b∈F,A3 g s.h b)->(rs.any RC.isAny=true->∀b,X b->g.S b)->ex P (sA d j rs k) s K->
  ∃g' s' cs,ex P (k cs) s' K/\jS P base w0 N g' s' a w pool/\aR g' s'.h w cs I/\iC g g' s.h s'.h w w/\s'.t=s.t/\(∀b,b∉F->A3 g s.h b->A3 g' s'.h b)
 |[],I,F,j,k,g,s,pool,R,U,hF,hf,hX,h=>by
  cases I with
  |nil=>exact⟨g,s,[],h,R,rfl,iC.refl _ _ _,rfl,λ_ _ x=>x⟩
  |cons v I=>simp[mM]at U
 | .any x::rs,I,F,j,k,g,s,pool,R,U,hF,hf,hX,h=>by
  cases I with
  |nil=>simp[mM]at U
  |cons v I=>
   simp only[mM]at U
   obtain⟨⟨G,hG1,hG2⟩,hr2⟩:=U
   obtain⟨g',s',cs,h1,h2,h3,h4,h5,h6⟩:=vH hbb R hr2 hF hf (λ_=>hX (by simp[RC.isAny])) h
   exact⟨g',s',.dat x::cs,h1,h2,⟨v,I,rfl,wG.nV h4 ⟨G,hG1,λb C=>hX (by simp[RC.isAny]) b (hG2 b C)⟩,h3⟩,h4,h5,h6⟩
 | .ro x::rs,I,F,j,k,g,s,pool,R,U,hF,hf,hX,h=>by
  cases I with
  |nil=>simp[mM]at U
  |cons v I=>
   simp only[mM]at U
   obtain⟨g',s',cs,h1,h2,h3,h4,h5,h6⟩:=vH hbb R U.2 hF hf (λhh=>hX (by simp[hh])) h
   exact⟨g',s',.dat x::cs,h1,h2,⟨v,I,rfl,⟨[],Rep.vY _ _ _ U.1 qe,qe⟩,h3⟩,h4,h5,h6⟩
 | .own e sz xs::rs,I,F,j,k,g,s,pool,R,U,hF,hf,hX,h=>by
  cases I with
  |nil=>simp[mM]at U
  |cons v I=>
   simp only[mM]at U
   obtain⟨cells,G,F',ho,hx,hrr,rfl,hr'⟩:=U
   simp only[sA,ex]at h
   have hnd:=hF.1
   rw[List.nodup_append,List.nodup_append]at hnd
   obtain⟨nd1,⟨nd2,nd3,nd4⟩,nd5⟩:=hnd
   have hGown:vF base w G:=⟨nd2,λb C=>hF.2 b (by simp[C])⟩
   have I1:=R.inv.T9 hGown λb C=>hf b (by simp[C])
   have T1:=iC.T9 g s.h w G
   let g1:Gh:={ g with S:=λb=>g.S b\/b∈G }
   have hob:wV v=v.ownBlock:=mF ho
   have hfree1:∀b,wV v=some b->A3 g1 s.h b:=by
    intro b C
    rw[hob]at C
    have hm:b∈v.ownBlock.toList:=by rw[C];simp
    have J:=hf b (by rw[qP];exact .inl hm)
    refine⟨?_,J.2⟩
    rintro(hS|hS)
    ·exact J.1 hS
    ·exact nd5 b hm b (by simp[hS]) rfl
   have I2:=I1.Af (i:=rid d j) (dp:=true) (pool':=pool) (J2 ho hbb) hx (by show gX g.Q.L w xs e cells G;exact gX.toL R hrr) (λb C=>.inr C) hfree1 (λb C=>by simp[C]) R.inv.pool_own.1
    (λ_=>⟨nd2,λb C=>⟨by simp[C],λhp=>(hf b (by simp[C])).1 (R.inv.pool_S b hp)⟩⟩)
   have T2:=iC.create (g:=g1) (h:=s.h) (w:=w) (rid d j) v G (.row e sz xs true)
   have T12:=T1.trans T2
   have R2:jS P base w0 N (HL g1 (rid d j) v G) (s.eV (rid d j) ((s.h (rid d j)).1+1,.row e sz xs true)) a w pool:=R.nV T12 rfl R.below I2
   have keepFree:∀b,b∉v.ownBlock.toList->b∉G->A3 g s.h b->A3 (HL g1 (rid d j) v G) (nP s.h (rid d j) ((s.h (rid d j)).1+1,.row e sz xs true)) b:=by intro b hb1 hb2 J;refine⟨?_,λj' hl=> ?_⟩;(rintro(hS|hS);(exact J.1 hS);·exact hb2 hS);·rcases Bz hl with rfl|⟨hj,hl⟩;(show wV (BT g1.val _ v _)≠some b;rw[cZ,hob];intro hh;exact hb1 (by rw[hh];simp));·show wV (BT g1.val _ v _)≠some b;rw[yE _ _ _ _ hj];exact J.2 j' hl
   have hF':vF base w F':=⟨nd3,λb C=>hF.2 b (by simp[C])⟩
   obtain⟨g',s',cs,h1,h2,h3,h4,h5,h6⟩:=vH hbb R2 hr' hF'
    (λb C=>keepFree b (λhm=>nd5 b hm b (by simp[C]) rfl) (λhm=>nd4 b hm b C rfl) (hf b (by simp[C]))) (λhh b C=>T12.S b (hX (by simp[hh]) b C)) h
   refine⟨g',s',.row (rid d j) ((s.h (rid d j)).1+1)::cs,h1,h2,⟨v,I,rfl,?_,h3⟩,T12.trans h4,h5.trans rfl,λb C J=>h6 b (λhm=>C (by simp[hm])) (keepFree b (λhm=>C (by rw[qP];exact .inl hm)) (λhm=>C (by simp[hm])) J)⟩
   refine wG.nV h4 ?_
   refine⟨?_,?_,?_⟩
   ·rcases ho.2 with⟨rfl,_⟩|⟨gg,cap,cur,rfl,_⟩<;>rfl
   ·show _<=(nP s.h (rid d j) _ (rid d j)).1;rw[bE];exact Nat.le_refl _
   ·intro _ e' sz' xs' dp' _;show v=BT g1.val _ v _;rw[cZ]
theorem Fo{base1 d:Nat}{X:Nat->Prop}(hbb:base<=base1):∀{rs:List (Bool×List RC)} {J:List Value} {F:List Nat} {j:Nat} {k:List (Bool×List SC)->Prog} {g:Gh} {s:St} {pool:List Nat},
  jS P base w0 N g s a w pool->zO (slP P) base1 w X J rs F->vF base w F->(∀b∈F,A3 g s.h b)->(vQ rs=true->∀b,X b->g.S b)->ex P (zW d j rs k) s K->
  ∃U s' I,ex P (k I) s' K/\jS P base w0 N U s' a w pool/\Aq U s'.h w I J/\iC g U s.h s'.h w w/\s'.t=s.t
 |[],J,F,j,k,g,s,pool,R,hr,hF,hf,hX,h=>by
  cases J with
  |nil=>exact⟨g,s,[],h,R,rfl,iC.refl _ _ _,rfl⟩
  |cons v J=>simp[zO]at hr
 |(ag,r)::rs,J,F,j,k,g,s,pool,R,hr,hF,hf,hX,h=>by
  cases J with
  |nil=>simp[zO]at hr
  |cons v J=>
   simp only[zO]at hr
   obtain⟨F1,F2,rfl,h1,h2⟩:=hr
   have hnd:=hF.1
   rw[List.nodup_append]at hnd
   obtain⟨nd1,nd2,nd3⟩:=hnd
   have hF1:vF base w F1:=⟨nd1,λb C=>hF.2 b (by simp[C])⟩
   have hF2:vF base w F2:=⟨nd2,λb C=>hF.2 b (by simp[C])⟩
   have key:∃us,mM (slP P) base1 w X us r F1/\∀(U:Gh) (h':Heap) (I:List SC),aR U h' w I us->Cx U h' w (ag,I) v:=by
    cases ag with
    |false=>exact⟨[v],h1,λU h' I hc=>hc⟩
    |true=>obtain⟨us,rfl,hc⟩:=h1;exact⟨us.toList,hc,λU h' I hc=>⟨us,rfl,hc⟩⟩
   obtain⟨us,hu,hback⟩:=key
   obtain⟨g1,s1,I,k1,k2,k3,k4,k5,k6⟩:=vH hbb R hu hF1 (λb C=>hf b (by simp[C])) (λhh=>hX (by simp only[vQ,List.any_cons,hh,Bool.true_or])) h
   obtain⟨g2,s2,vs2,m1,m2,m3,m4,m5⟩:=Fo hbb k2 h2 hF2 (λb C=>k6 b (λhm=>nd3 b hm b C rfl) (hf b (by simp[C]))) (λhh b C=>k4.S b (hX (by simp only[vQ,List.any_cons]at hh⊢;rw[hh,Bool.or_true]) b C)) k1
   exact⟨g2,s2,(ag,I)::vs2,m1,m2,⟨v,J,rfl,Cx.nV m4 (hback _ _ _ k3),m3⟩,k4.trans m4,m5.trans k5⟩
theorem Dg{base1:Nat}(C:base<=base1){rs:List (Bool×List RC)}{v:Value}{g:Gh}{s:St}{pool:List Nat}{J:Option Tmp}
  {X:Nat->Prop}{F:List Nat}(R:jS P base w0 N g s a w pool)(hF:vF base1 w F)(I:LH (slP P) base1 w X v rs F)(hff:∀b∈F,A3 g s.h b)(hX:vQ rs=true->∀b,X b->g.S b)(h:ex P (yL N J rs) s K):
  ∃g' s',K s'/\jS P base w0 N g' s' (a.put J v) w pool:=by
 have U:vF base w F:=⟨hF.1,λb hb=>⟨Nat.le_trans C (hF.2 b hb).1,(hF.2 b hb).2⟩⟩
 cases J with
 |none=>exact⟨g,s,h,R⟩
 |some d=>
  have many:∀j,j=rs->(∃vs,v=.tuple vs/\zO (slP P) base1 w X vs.toList j F)->ex P (zW d 0 j λvs=>put N (some d) (.tup vs)) s K->∃g' s',K s'/\jS P base w0 N g' s' (a.put (some d) v) w pool:=by rintro j rfl ⟨vs,rfl,hv2⟩ hk;obtain⟨g1,s1,cs,k1,k2,k3,_⟩:=Fo C R hv2 U hff hX hk;obtain⟨s2,m1,m2⟩:=yC k2 (sv:=.tup cs) (v:=.tuple vs) ⟨vs,rfl,k3⟩ k1;exact⟨g1,s2,m1,m2⟩
  match rs,I,h with
  |[(false,r)],I,h=>
   obtain⟨g1,s1,cs,k1,k2,k3,_⟩:=vH C R I U hff (λhh=>hX (by simp only[vQ,List.any_cons,hh,Bool.true_or])) h
   obtain⟨s2,m1,m2⟩:=yC k2 (sv:=.v false cs) (v:=v) k3 k1
   exact⟨g1,s2,m1,m2⟩
  |[(true,r)],I,h=>
   obtain⟨us,rfl,hc⟩:=I
   obtain⟨g1,s1,cs,k1,k2,k3,_⟩:=vH C R hc U hff (λhh=>hX (by simp only[vQ,List.any_cons,hh,Bool.true_or])) h
   obtain⟨s2,m1,m2⟩:=yC k2 (sv:=.v true cs) (v:=.agg us) ⟨us,rfl,k3⟩ k1
   exact⟨g1,s2,m1,m2⟩
  |[],I,h=>exact many _ rfl I h
  |r1::r2::rs,I,h=>exact many _ rfl I h
theorem IX{g:Gh}{s:St}{f:FuncId}{vs:Array Value}{as:List (Bool×List D)}{rs:List (Bool×List RC)}{I:Option Tmp}{R':Ending->World->Prop}{Fa:List Nat}
  (R:jS P base w0 N g s a w [])(ha:sH w vs.toList as Fa)(hs:vQ rs=true->∀b∈Fa,g.S b)(hc:Js P f as rs)(h:ex P (yL N I rs) s K)
  (hnext:∀v w',(∃s',K s'/\Rel P base w0 N s' (a.put I v) w')->R' (.returned v) w'):Calls P f vs w R':=by
 refine(hc.2 w vs Fa ha).mono λe w' hh=> ?_
 obtain⟨v,rfl,hr,hb⟩:=hh
 refine hnext v w' ?_
 have I':=R.inv.grow hb.size hb.block
 have T:iC g g s.h s.h w w':=iC.grow R.inv.S_lt hb.block
 have R1:jS P base w0 N g s a w' []:=R.nV T rfl (R.bel (hb.mono R.inv.base_le)) I'
 have U:∀b,w.heap.size<=b->A3 g s.h b:=λb hle=>
  ⟨λhS=>absurd (R.inv.S_lt b hS) qc,λj hl C=>absurd (R.inv.BI hl C).2.lt qc⟩
 obtain⟨F,X,hF,hX,hA,hv⟩:=hr
 cases han:vQ rs with
 |false=>
  obtain⟨g',s',k1,k2⟩:=Dg R.inv.base_le R1 hF hv (λb C=>U b (hF.2 b C).1) (λhh=>by rw[han]at hh;cases hh) h
  exact⟨s',k1,g',k2⟩
 |true=>
  have hFn:=hA han
  subst hFn
  have J:=hs han
  have hX1:∀b,X b->(g.S b\/base<=b)/\b<w'.heap.size:=λb C=>⟨(hX b C).1.elim (λx=>.inl (J b x)) (λx=>.inr (Nat.le_trans R.inv.base_le x)),(hX b C).2⟩
  have hX2:∀b,X b->¬g.S b->A3 g s.h b:=λb C hn=>(hX b C).1.elim (λx=>absurd (J b x) hn) (λx=>U b x)
  have I2:=I'.Tr hX1 hX2
  have R2:jS P base w0 N { g with S:=λb=>g.S b\/X b } s a w' []:=R1.nV (iC.Tr g s.h w' X) rfl R1.below I2
  obtain⟨g',s',k1,k2⟩:=Dg R.inv.base_le R2 hF hv qe (λ_ b C=>.inr C) h
  exact⟨s',k1,g',k2⟩
end
end Go.Sh
