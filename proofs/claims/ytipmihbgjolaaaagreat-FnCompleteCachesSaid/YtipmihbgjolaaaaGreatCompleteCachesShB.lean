/-
  Helper text. No conditions.
-/
import Derived.Test.YtipmihbgjolaaaaGreatCompleteCachesShA
import Derived.Great.FillDense
import Derived.Great.BuildSlice
import Derived.DataReads
import Derived.Laws.StructEq
import Derived.Laws.BytesString
import Derived.Laws.IdiomStrings
import Derived.Maps.AppendAt
import Derived.Lib.AppendStr
set_option linter.unusedVariables false
set_option linter.unusedSimpArgs false
namespace Go.Sh
open Go.RowKit
section
variable {P:Program} {base N:Nat} {w0:W0} {w:World} {g:Gh} {s:St} {a:Act} {K:St->Prop} {Q:Exit->Act->World->Prop} {o:Oper}
def Aft (P:Program) (base:Nat) (w0:W0) (N:Nat) (K:St->Prop):Act->World->Prop:=λa' w'=>∃s',K s'/\Rel P base w0 N s' a' w'
theorem C4 {v:Value} {w':World} {nx:Act->World->Prop} (hrun:(execOp a.eval o).run P w = .ok (.value v) w') (h:nx (a.put o.dst v) w'):o.wp P a w nx Q:=by unfold Oper.wp;rw [hrun];exact h
theorem Wc {w':World} {nx:Act->World->Prop} (hrun:(execOp a.eval o).run P w = .ok .skip w') (hd:o.dst=none) (h:nx a w'):o.wp P a w nx Q:=by unfold Oper.wp;rw [hrun];unfold Oper.upon;rw [hd];exact h
theorem Ez {v:Value} {sv:SV} (R:mJ P base w0 N g s a w []) (hrun:(execOp a.eval o).run P w = .ok (.value v) w) (hv:uN g s.h w sv v) (h:ex P (put N o.dst sv) s K):o.wp P a w (Aft P base w0 N K) Q:=by obtain ⟨s',h1,h2⟩:=B1 R hv h;exact C4 hrun ⟨s',h1,g,h2⟩
theorem wL {v:Value} {sv:SV} (R:mJ P base w0 N g s a w []) (h:ex P (put N o.dst sv) s K) (hrun:(execOp a.eval o).run P w = .ok (.value v) w) (hv:uN g s.h w sv v):o.wp P a w (Aft P base w0 N K) Q:=Ez R hrun hv h
theorem IZ {d:D} {v:Value} {F:List Nat} (h:Rep w d v F) (hF : ∀b∈F,g.S b):uN g s.h w (one d) v:=⟨v,[],rfl,⟨F,h,hF⟩,rfl⟩
theorem B3 {k:IntKind} {n:Int}:uN g s.h w (one (.int k n)) (.int k n):=IZ (F:=[]) (by simp [Rep]) qd
theorem HQ {b:Bool}:uN g s.h w (one (.bool b)) (.bool b):=IZ (F:=[]) (by simp [Rep]) qd
theorem NO {b:ByteArray}:uN g s.h w (one (.str b)) (.string b):=IZ (F:=[]) (by simp [Rep]) qd
theorem eE {c:SC} {v:Value} (h:uN g s.h w (.v false [c]) v):Ae g s.h w c v:=by obtain ⟨v',vs',h1,h2,h3⟩:=h;simp at h1;rw [h1.1];exact h2
theorem mK {k:IntKind} {n:Int} {v:Value} (h:uN g s.h w (.v false [.dat (.int k n)]) v):v = .int k n:=by obtain ⟨F,h1,_⟩:=eE h;simp only [Rep] at h1;exact h1.1
theorem CQ {b:Bool} {v:Value} (h:uN g s.h w (.v false [.dat (.bool b)]) v):v = .bool b:=by obtain ⟨F,h1,_⟩:=eE h;simp only [Rep] at h1;exact h1.1
theorem FH {b:ByteArray} {v:Value} (h:uN g s.h w (.v false [.dat (.str b)]) v):v = .string b:=by obtain ⟨F,h1,_⟩:=eE h;simp only [Rep] at h1;exact h1.1
theorem Py {v:Value} (h:v.oneCell'=true):v.cells = #[v]:=by cases v<;>first | rfl | simp [Value.oneCell'] at h
theorem DZ {ag:Bool} {cs:List SC} {v:Value} (h:uN g s.h w (.v ag cs) v):aT g s.h w cs v.cells.toList:=by
 cases ag with
 | false =>
  have h':aT g s.h w cs [v]:=h
  have h1:=h'.one v qd
  rw [Py h1];exact h'
 | true=>obtain ⟨vs,rfl,h1⟩:=h;exact h1
theorem XK {x:Operand} (ho:o.op = .move x\/o.op = .assign x) (R:mJ P base w0 N g s a w []) (h:ex P (vOp x λv=>put N o.dst v) s K):o.wp P a w (Aft P base w0 N K) Q:=by obtain ⟨sv,h1,h2⟩:=bX R h;refine Ez R (v:=a.eval x) ?_ h1 h2;rcases ho with ho | ho<;>simp [execOp,ho]
theorem Xk {c x y:Operand} (ho:o.op = .pick c x y) (R:mJ P base w0 N g s a w []) (h:ex P (AL (fN P) N o) s K):o.wp P a w (Aft P base w0 N K) Q:=by simp only [AL,ho] at h;obtain ⟨sv,h1,h2⟩:=bX R h;split at h2;(rename_i t;have hb:=CQ h1;split at h2;(rename_i ht;obtain ⟨su,h3,h4⟩:=bX R h2;refine Ez R (v:=a.eval x) ?_ h3 h4;simp [execOp,ho,hb,asBool,ht]);·rename_i ht;obtain ⟨su,h3,h4⟩:=bX R h2;refine Ez R (v:=a.eval y) ?_ h3 h4;simp [execOp,ho,hb,asBool,ht]);·exact h2.elim
theorem Wu (I:Inv base g s.h w []):D3 g s.h w.heap.size:=
 ⟨λhS=>absurd (I.S_lt _ hS) qb,λj hl hb=>absurd (I.EP hl hb).2.lt qb⟩
theorem MC (R:mJ P base w0 N g s a w []) (d:Nat) (vals:Array Value) (t:TypeId) (cells:List SC) (hc:aT g s.h w cells vals.toList) :
  ∃g',mJ P base w0 N g' (s.fH d ((s.h d).1+1,.box t cells)) a (w.alloc (.cells vals t)) []/\uN g' (s.fH d ((s.h d).1+1,.box t cells)).h (w.alloc (.cells vals t)) (.v false [.bp d ((s.h d).1+1) 0]) (.pointer (some ⟨w.heap.size,0,none⟩)):=by
 have hsz:w.heap.size<=(w.alloc (.cells vals t)).heap.size:=by simp
 have hbl : ∀b,b<w.heap.size->(w.alloc (.cells vals t)).heap[b]? = w.heap[b]? := λb hb=>Below.heap_alloc w _ b hb
 have I1:=R.inv.grow hsz hbl
 have T1:kL g g s.h s.h w (w.alloc (.cells vals t)):=kL.grow R.inv.S_lt hbl
 have I2:=I1.O4 (i:=d) (b:=w.heap.size) (cells:=cells) R.inv.base_le (Wu R.inv) (heap_alloc_new w _) (hc.sN T1)
 have T2:=kL.create (g:=g) (h:=s.h) (w:=w.alloc (.cells vals t)) d (.pointer (some ⟨w.heap.size,0,none⟩)) [] (.box t cells)
 refine ⟨_,R.sN (T1.trans T2) rfl (R.below.alloc (Nat.le_trans R.fbb R.inv.base_le) _) I2,⟨_,[],rfl,⟨rfl,?_,?_⟩,rfl⟩⟩
 ·show _<=(sB s.h d _ d).1;rw [bM];exact Nat.le_refl _
 ·intro _ t' cs' _;exact ⟨w.heap.size,dS _ _ _,rfl⟩
theorem UG {t:TypeId} (ho:o.op = .alloc t) (R:mJ P base w0 N g s a w []) (h:ex P (AL (fN P) N o) s K):o.wp P a w (Aft P base w0 N K) Q:=by simp only [AL,ho] at h;split at h;(rename_i d ti hd hti;obtain ⟨i,ds,z,h1,h2,h3,h4,h5,h6,h7,h8⟩:=(dP hti).ok;simp only [ex] at h;obtain ⟨g',R',hv⟩:=MC R d z.cells t ti.zero (Eh h5 _ _ _);obtain ⟨s',k1,k2⟩:=B1 R' hv h;refine C4 (v:=.pointer (some ⟨w.heap.size,0,none⟩)) (w':=w.alloc (.cells z.cells t)) ?_ ⟨s',k1,g',hd ▸ k2⟩;simp [execOp,ho,Instr.alloc,zeroValue,typeInfo,h1,h3,newVar,newRow]);·exact h.elim
theorem Yl {t:TypeId} {x:Operand} (ho:o.op = .box t x) (R:mJ P base w0 N g s a w []) (h:ex P (AL (fN P) N o) s K):o.wp P a w (Aft P base w0 N K) Q:=by simp only [AL,ho] at h;split at h;(rename_i d hd;obtain ⟨sv,h1,h2⟩:=bX R h;split at h2;(rename_i ag cs;simp only [ex] at h2;obtain ⟨g',R',hv⟩:=MC R d (a.eval x).cells t cs (DZ h1);obtain ⟨s',k1,k2⟩:=B1 R' hv h2;refine C4 (v:=.pointer (some ⟨w.heap.size,0,none⟩)) (w':=w.alloc (.cells (a.eval x).cells t)) ?_ ⟨s',k1,g',hd ▸ k2⟩;simp [execOp,ho,Instr.box,newVar,newRow]);·exact h2.elim);·exact h.elim
theorem Xg (u:Array Value) (off:Nat) (cs:Array Value) (h:off+u.size<=cs.size) :
  (u.zipIdx.foldl (λcs (x:Value×Nat)=>cs.setIfInBounds (off+x.2) x.1) cs).toList=cs.toList.take off++(u.toList++cs.toList.drop (off+u.size)):=by
 obtain ⟨g1,g2⟩:=Great.foldl_set off u.toList 0 cs
 rw [<-Array.foldl_toList,Array.toList_zipIdx]
 apply List.ext_getElem?
 intro k
 rw [Array.getElem?_toList,g2 k]
 simp only [Nat.add_zero,Array.length_toList]
 rw [List.getElem?_append,List.getElem?_append,qT,Array.length_toList,Nat.min_eq_left qb,List.getElem?_take]
 by_cases h1:k<off
 ·rw [if_neg qb,if_pos h1,if_pos h1];simp
 ·rw [if_neg h1];by_cases h2:k<off+u.size;(rw [if_pos ⟨qb,h2,qb⟩,if_pos qc]);·rw [if_neg qb,if_neg qc];simp only [List.getElem?_drop,Array.length_toList,Array.getElem?_toList];congr 1;omega
theorem En (R:mJ P base w0 N g s a w []) (place:Nat->Option (Nat×Nat)) : ∀ {parts:List (Nat×Operand)} {cells:List SC} {vals:Array Value} {k:List SC->Prog},
  aT g s.h w cells vals.toList->ex P (Ct place cells parts k) s K -> ∃cs vals',Instr.fill place vals (parts.map λx=>(x.1,a.eval x.2))=some vals'/\aT g s.h w cs vals'.toList/\ex P (k cs) s K
 | [],cells,vals,k,hc,h=>⟨cells,vals,rfl,hc,h⟩
 | (i,x)::rest,cells,vals,k,hc,h=>by
  simp only [Ct] at h
  obtain ⟨sv,h1,h2⟩:=bX R h
  split at h2
  ·rename_i ag cs off sz hp
   split at h2
   ·rename_i hh
    have hvc:=DZ h1
    have hl1:=hvc.length
    have hl2:=hc.length
    simp only [Array.length_toList] at hl1 hl2
    have hfs:=Xg (a.eval x).cells off vals qb
    have hc':aT g s.h w (cells.take off++(cs++cells.drop (off+sz))) ((a.eval x).cells.zipIdx.foldl (λcs (x:Value×Nat)=>cs.setIfInBounds (off+x.2) x.1) vals).toList:=by rw [hfs,hl1,hh.1];exact (hc.take off).append (hvc.append (hc.drop _))
    obtain ⟨cs',vals',k1,k2,k3⟩:=En R place hc' h2
    refine ⟨cs',vals',?_,k2,k3⟩
    simp only [List.map_cons,Instr.fill,hp]
    rw [if_neg (by simp [hl1,hh.1];omega)]
    exact k1
   ·exact h2.elim
  ·exact h2.elim
theorem Pf {P:Program} {d:TypeDesc} {fs:List (Nat×Nat×Bool)} (h:Pv P d=some (.struct fs)) :
  ∃fields pl,d = .struct fields/\fields.toList.mapM (λf=>(P.info? f.type).map λi=>(f.offset,i.size))=some pl/\fs=((pl.zip (fields.toList.map λf=>Ju P f.type)).map λx=>(x.1.1,x.1.2,x.2))/\fields.toList.all (λf=>(P.underlying f.type).isSome)=true:=by
 unfold Pv at h
 split at h
 ·rename_i fields;split at h;(rename_i pl hpl;split at h;(rename_i hall;simp at h;exact ⟨fields,pl,rfl,hpl,h.symm,hall⟩);·cases h);·cases h
 all_goals simp at h
theorem XP {P:Program} {d:TypeDesc} {e:TypeId} {n:Nat} (h:Pv P d=some (.arr e n)):d = .array n e:=by unfold Pv at h;split at h;(split at h;(split at h<;>cases h);·cases h);all_goals first | (cases h;rfl) | cases h
theorem Ch {P:Program} {d:TypeDesc} {e:TypeId} (h:Pv P d=some (.slice e)):d = .slice e:=by
 unfold Pv at h
 split at h
 ·split at h;(split at h<;>simp at h);·simp at h
 all_goals simp at h
 rw [h]
theorem Ta {P:Program} {d:TypeDesc} {k:IntKind} (h:Pv P d=some (.int k)):d = .int k:=by
 unfold Pv at h
 split at h
 ·split at h;(split at h<;>simp at h);·simp at h
 all_goals simp at h
 rw [h]
theorem UQ {P:Program} {d:TypeDesc} (h:Pv P d=some .bool):d = .bool:=by
 unfold Pv at h
 split at h
 ·split at h;(split at h<;>simp at h);·simp at h
 all_goals simp at h
 rfl
theorem OP {P:Program} {d:TypeDesc} (h:Pv P d=some .str):d = .string:=by
 unfold Pv at h
 split at h
 ·split at h;(split at h<;>simp at h);·simp at h
 all_goals simp at h
 rfl
theorem XV {P:Program} {d:TypeDesc} {ti:TI} (h:Pv P d=some ti.k):VB d=ti.agg:=by
 unfold Pv at h
 unfold TI.agg
 split at h
 ·split at h;(split at h;(simp at h;rw [<-h];rfl);·cases h);·cases h
 ·simp at h;rw [<-h];rfl
 all_goals (simp at h;rw [<-h])
 all_goals first | rfl | (unfold VB;split<;>simp_all)
theorem Ul {t:TypeId} {parts:Array (Nat×Operand)} (ho:o.op = .build t parts) (R:mJ P base w0 N g s a w []) (h:ex P (AL (fN P) N o) s K):o.wp P a w (Aft P base w0 N K) Q:=by
 simp only [AL,ho] at h
 split at h
 ·rename_i fs sz by' z cm sl hti
  obtain ⟨i,ds,zv,h1,h2,h3,h4,h5,h6,h7,h8⟩:=(dP hti).ok
  obtain ⟨fields,pl,rfl,hpl,hfs,_⟩:=Pf h4
  have hlen:=mapM_some_length hpl
  obtain ⟨cs,vals',k1,k2,k3⟩:=En R _ (Eh h5 g s.h w) h
  refine Ez R (v:=.agg vals') (sv:=.v true cs) ?_ ⟨vals',rfl,k2⟩ k3
  have hb:P.built t (parts.map λ(i,x)=>(i,a.eval x)).toList=some vals':=by
   unfold Program.built
   simp only [h1,h2,h3,hpl]
   rw [Array.toList_map,<-k1]
   congr 1
   funext i
   simp only [List.getElem?_toArray,hfs,List.getElem?_map]
   have:(pl.zip (fields.toList.map λf=>Ju P f.type))[i]?.map (λx=>(x.1.1,x.1.2))=pl[i]? := by
    rw [<-List.getElem?_map]
    have:(pl.zip (fields.toList.map λf=>Ju P f.type)).map (λx=>(x.1.1,x.1.2))=pl:=by have:=List.map_fst_zip (l₁:=pl) (l₂:=fields.toList.map λf=>Ju P f.type) (by simp [hlen]);simpa using this
    rw [this]
   rw [<-this]
   simp [Option.map_map,Function.comp_def]
  simp [execOp,ho,run_build w t _ vals' hb]
 ·rename_i e n sz by' z cm sl hti
  obtain ⟨i,ds,zv,h1,h2,h3,h4,h5,h6,h7,h8⟩:=(dP hti).ok
  obtain rfl:=XP h4
  split at h
  ·rename_i te hte hp
   obtain ⟨ie,de,ze,e1,_⟩:=(dP hte).ok
   refine Ez R (v:=.agg zv.cells) (sv:=.v true z) ?_ ⟨zv.cells,rfl,Eh h5 g s.h w⟩ h
   have hb:P.built t (parts.map λ(i,x)=>(i,a.eval x)).toList=some zv.cells:=by unfold Program.built;simp only [h1,h2,h3,e1];rw [Array.toList_map,hp];rfl
   simp [execOp,ho,run_build w t _ zv.cells hb]
  ·exact h.elim
 ·exact h.elim
end
end Go.Sh
namespace Go.Sh
open Go.RowKit
section
variable {P:Program} {base N:Nat} {w0:W0} {w:World} {g:Gh} {s:St} {a:Act} {K:St->Prop} {Q:Exit->Act->World->Prop} {o:Oper}
theorem Ea {t:TypeId} {d:TypeDesc} (h:P.underlying t=some d) (w:World):(isAgg t).run P w = .ok (VB d) w:=by unfold isAgg;rw [Sem.run_bind,run_underlying h w];cases d<;>rfl
theorem BX.take {b off:Nat} {cells:List Value} (h:BX w b off cells) (n:Nat):BX w b off (cells.take n):=by intro j u hu;rw [List.getElem?_take] at hu;split at hu;(exact h j u hu);·cases hu
theorem BX.drop {b off:Nat} {cells:List Value} (h:BX w b off cells) (n:Nat):BX w b (off+n) (cells.drop n):=by intro j u hu;rw [List.getElem?_drop] at hu;have:=h (n+j) u hu;rwa [show off+n+j=off+(n+j) from by omega]
theorem Uy {b:Nat} {vals:Array Value} {t:TypeId} (h:w.heap[b]? = some (.cells vals t (0,0))):BX w b 0 vals.toList:=by intro j u hu;rw [cell_of_row w b _ vals t (0,0) h];simpa using hu
theorem Px {t:TypeId} {ti:TI} (hti:fN P t=some ti) {b off:Nat} {cells:List Value} {cs:List SC} (hl:BX w b off cells) (hlen:cells.length=ti.size) (hc:aT g s.h w cs cells) :
  ∃v,(Instr.loadAt t (.pointer (some ⟨b,off,none⟩))).run P w = .ok v w/\uN g s.h w (.v ti.agg cs) v:=by
 obtain ⟨i,d,z,h1,h2,h3,h4,h5,h6,h7,h8,h9⟩:=(dP hti).ok
 have hag:=XV h4
 cases hb:ti.agg with
 | true =>
  refine ⟨.agg cells.toArray,?_,⟨cells.toArray,rfl,by simpa using hc⟩⟩
  have hrun:=run_loadCells_list (P:=P) w ⟨b,off,none⟩ cells (λj u hu=>by rw [Addr.add_lit];exact hl j u hu)
  simp only [Instr.loadAt,Instr.sureAddr,loadVar,Sem.run_bind,Sem.run_pure,Result.andThen_ok,Ea h2 w,hag,hb,if_true,sizeOf,typeInfo,run_program,h1,h7,<-hlen,hrun]
 | false =>
  have hsz:ti.size=1:=by rcases h9 with h9 | h9;(rw [hag,hb] at h9;cases h9);·omega
  match cells,hlen.trans hsz with
  | [v],_ =>
   refine ⟨v,?_,hc⟩
   have:=hl 0 v rfl
   simp only [Nat.add_zero] at this
   simp only [Instr.loadAt,Instr.sureAddr,loadVar,Sem.run_bind,Sem.run_pure,Result.andThen_ok,Ea h2 w,hag,hb,if_false,run_load,this,qD]
theorem Qz {ds:List D} {v:Value} (h:uN g s.h w (.v false [.dat (.ptr ds)]) v) :
  ∃b off cells F,v = .pointer (some ⟨b,off,none⟩)/\b<w.heap.size/\g.S b/\BX w b off cells/\aJ w ds cells F /\ ∀x∈F,g.S x:=by
 obtain ⟨F,h1,h2⟩:=eE h
 simp only [Rep] at h1
 obtain ⟨b,off,cells,G,h3,h4,rfl,h5,h6⟩:=h1
 exact ⟨b,off,cells,G,h3,h4,h2 b qd,h5,h6,λx hx=>h2 x (by simp [hx])⟩
theorem Uj (I:Inv base g s.h w []) {i:Nat} {e:TypeId} {sz:Nat} {xs:List (List D)} {dp:Bool} (ho:(s.h i).2 = .row e sz xs dp) {b n c:Nat} (hv:g.val i = .slice (some ⟨b,0,none⟩) n c) :
  ∃cells cur,n=xs.length/\base<=b/\w.heap[b]? = some (.cells cur e (0,0))/\n<=c/\c<=maxLen/\cur.size=c*sz/\cur.toList.take (n*sz)=cells/\BX w b 0 cells/\cells.length=n*sz/\(∀x∈xs,x.length=sz) /\
   aV w xs cells (g.fp i)/\(∀y∈g.fp i,g.S y)/\(dp=true->Ac base w (g.fp i)):=by
 have hob:=I.obj i
 rw [ho] at hob
 obtain ⟨cells,h1,h2,h3,h4,h5⟩:=hob
 have h1':=h1
 rcases h1.2 with ⟨h6,_⟩ | ⟨gg,cap,cur,h6,h7,h8,h9,aa,ae,af⟩
 ·rw [hv] at h6;cases h6
 ·rw [hv] at h6;simp at h6;obtain ⟨rfl,rfl,rfl⟩:=h6;refine ⟨cells,cur,rfl,h7,h8,h9,aa,ae,af,?_,h1'.1,h2,h3.rep,h4,h5⟩;intro j u hu;have:=h1'.cells (g:=b) (by rw [hv];rfl) j u hu;rw [Addr.add_lit] at this;exact this
theorem XX {W:World} {ds:List D} {p v:Value} (h:uN g s.h w (.v false [.exa W (.ptr ds) p]) v):v=p /\ ∃b off cells F,p = .pointer (some ⟨b,off,none⟩)/\BX w b off cells/\BX W b off cells/\aJ W ds cells F /\ ∀y∈F,g.S y/\w.heap[y]? = W.heap[y]? := by obtain ⟨v',vs',e,⟨h0,F,h1,h2⟩,h3⟩:=h;have h3':vs'=[]:=h3;subst h3';simp only [List.cons.injEq,and_true] at e;subst e h0;simp only [Rep] at h1;obtain ⟨b,off,cells,G,rfl,h5,rfl,h6,h7⟩:=h1;exact ⟨rfl,b,off,cells,G,rfl,h6.AH (h2 b qd).2,h6,h7,λy hy=>h2 y (by simp [hy])⟩
theorem RJ {W:World} {b off:Nat} : ∀ {ds:List D} {cells:List Value} {F:List Nat} (j:Nat),aJ W ds cells F->(∀y∈F,g.S y/\w.heap[y]? = W.heap[y]?)->(∀i u,cells[i]? = some u->W.cell? ⟨b,off+(j+i),none⟩=some u) ->
  aT g s.h w (aBU W (.pointer (some ⟨b,off,none⟩)) j ds) cells
 | [],cells,F,j,hr,_,_=>by simp only [aJ] at hr;exact hr.1
 | d::ds,cells,F,j,hr,hF,hu=>by
  simp only [aJ] at hr
  obtain ⟨v,vs',F1,F2,rfl,rfl,h3,h4⟩:=hr
  have h0:cellAt W (.pointer (some ⟨b,off,none⟩)) j=v:=by have:=hu 0 v rfl;simp only [cellAt,Nat.add_zero] at this ⊢;rw [this];rfl
  refine ⟨v,vs',rfl,⟨h0.symm,F1,by rw [h0];exact h3,λy hy=>hF y (by simp [hy])⟩,RJ (j+1) h4 (λy hy=>hF y (by simp [hy])) λi u hi => ?_⟩
  rw [show off+(j+1+i)=off+(j+(i+1)) by omega]
  exact hu (i+1) u (by simpa using hi)
theorem V8 {t:TypeId} {x:Operand} (ho:o.op = .load t x) (R:mJ P base w0 N g s a w []) (h:ex P (AL (fN P) N o) s K):o.wp P a w (Aft P base w0 N K) Q:=by
 simp only [AL,ho] at h
 split at h
 ·rename_i ti hti
  obtain ⟨sv,h1,h2⟩:=bX R h
  have fin : ∀ {b off:Nat} {cells:List Value} {cs:List SC},a.eval x = .pointer (some ⟨b,off,none⟩)->BX w b off cells->cells.length=ti.size->aT g s.h w cs cells->ex P (put N o.dst (.v ti.agg cs)) s K->o.wp P a w (Aft P base w0 N K) Q:=by intro b off cells cs hx hl hlen hc hk;obtain ⟨v,hrun,hv⟩:=Px hti hl hlen hc;refine Ez R (v:=v) ?_ hv hk;simp only [execOp,ho,hx,Sem.run_bind,hrun,Result.andThen_ok,Sem.run_pure]
  unfold KY at h2
  split at h2
  ·rename_i i ver off
   obtain ⟨hone,hle,hcap⟩:=eE h1
   simp only [ex] at h2
   split at h2
   ·rename_i t' cells hh
    split at h2
    ·rename_i hc
     obtain ⟨b,hb1,hb2⟩:=hcap hc.1 _ _ hh
     have hob:=R.inv.obj i
     rw [hh] at hob
     obtain ⟨b',vals,h3,h4,h5,h6⟩:=hob
     have hbb:b'=b:=by rw [hb1] at h3;simp at h3;exact h3.symm
     subst hbb
     have hlv:=h6.length
     have hl1:=((Uy h5).drop off).take ti.size
     rw [Nat.zero_add] at hl1
     refine fin hb2 hl1 ?_ ((h6.drop off).take ti.size) h2
     have:=hc.2
     simp only [qT,qU,hlv]
     omega
    ·exact h2.elim
   ·exact h2.elim
  ·rename_i ds;obtain ⟨b,off,cells,F,h3,h4,h5,h6,h7,h8⟩:=Qz h1;split at h2;(rename_i hc;have:=h7.length;refine fin h3 (h6.take ti.size) (by rw [qT];omega) ?_ h2;rw [List.map_take];exact (aT.GA h7 h8).take _);·exact h2.elim
  ·rename_i i ver j off
   obtain ⟨hone,hle,hcap⟩:=eE h1
   simp only [ex] at h2
   split at h2
   ·rename_i e sz xs dp hh
    split at h2
    ·rename_i hc
     obtain ⟨b,n,c,hb1,hb2⟩:=hcap hc _ _ _ _ hh
     split at h2
     ·rename_i y hy
      split at h2
      ·rename_i hy2
       obtain ⟨cells,cur,rfl,m1,m2,m3,m4,m5,m6,m7,m8,m9,aa,ae,af⟩:=Uj R.inv hh hb1
       obtain ⟨v1,v2,v3,F1,F2,F3,rfl,hF,hl1,hr1,hr2,hr3⟩:=aa.at_ m9 hy
       have hlen2:=hr2.length
       have q1:=((m7.drop (j*sz)).drop off).take ti.size
       rw [Nat.zero_add] at q1
       have q2:((v1++(v2++v3)).drop (j*sz))=v2++v3:=by rw [<-hl1,List.drop_left]
       rw [q2] at q1
       have q3:((v2++v3).drop off).take ti.size=(v2.drop off).take ti.size:=by rw [List.drop_append_of_le_length qb,List.take_append_of_le_length (by rw [qU];omega)]
       rw [q3] at q1
       have hcr:aT g s.h w (List.map SC.dat (List.take ti.size (List.drop off y))) ((v2.drop off).take ti.size):=by rw [List.map_take,List.map_drop];exact ((aT.GA hr2 λb hb=>ae b (by rw [hF];simp [hb])).drop off).take _
       have hql:((v2.drop off).take ti.size).length=ti.size:=by rw [qT,qU];omega
       split at h2
       ·rename_i u hu
        simp only [ex] at h2
        split at h2
        ·rename_i i' ver' u' hp
         obtain ⟨⟨hu',hag⟩,h2⟩:=h2
         simp only [ex] at h2
         split at h2
         ·rename_i e2 sz2 xs2 dp2 hh2
          split at h2
          ·rename_i hv2
           have hsz:ti.size=1:=by obtain ⟨ii,dd,zz,a1,a2,a3,a4,a5,a6,a7,a8,a9⟩:=(dP hti).ok;have:=XV a4;rw [hag] at this;rcases a9 with a9 | a9;(rw [this] at a9;cases a9);·omega
           have hob:=R.inv.obj 7058000
           rw [hp] at hob
           obtain ⟨_,p1,p2⟩:=hob
           have hpv:=p2 hv2 _ _ _ _ hh2
           rw [hsz] at hu hcr q1 hql
           cases hd:List.take 1 (List.drop off y) with
           | nil=>rw [hd] at hu;simp [JP] at hu
           | cons d ds =>
            rw [hd] at hu hcr
            obtain ⟨v,vs',e3,⟨F,k1,k2⟩,k3⟩:=hcr
            have hvs:vs'=[]:=by rw [e3] at hql;exact List.length_eq_zero_iff.1 (by simpa using hql)
            subst hvs
            have hval:v=u/\v.oneCell'=true:=by
             cases d<;>simp [JP] at hu
             subst hu
             simp only [Rep] at k1
             exact k1.1
            rw [e3] at q1
            refine fin (cs:=[.row i' ver']) hb2 q1 (by rw [hsz];rfl) ⟨v,[],rfl,⟨hval.2,p1,λ_ _ _ _ _ _ => ?_⟩,rfl⟩ (by rw [hag];exact h2)
            rw [hpv,hval.1,hu']
          ·exact h2.elim
         ·exact h2.elim
        ·exact h2.elim
       ·exact fin hb2 q1 hql hcr h2
      ·exact h2.elim
     ·exact h2.elim
    ·exact h2.elim
   ·exact h2.elim
  ·rename_i W ds p;obtain ⟨hx,b,off,cells,F,rfl,h5,h6,h7,h8⟩:=XX h1;split at h2;(rename_i hc;have:=h7.length;refine fin hx (h5.take ti.size) (by rw [qT];omega) ?_ h2;refine (RJ 0 h7 h8 λi u hi => ?_).take _;rw [Nat.zero_add];exact h6 i u hi);·exact h2.elim
  ·exact h2.elim
 ·exact h.elim
theorem Ij : ∀(n:Nat) {ds:List D} {vs:List Value} {F:List Nat},aJ w ds vs F -> ∃F',aJ w (ds.drop n) (vs.drop n) F' /\ ∀y∈F',y∈F
 | 0,ds,vs,F,h=>⟨F,by simpa using h,λ_ x=>x⟩
 | n+1,[],vs,F,h=>by simp only [aJ] at h;exact ⟨[],by simp [aJ,h.1],qd⟩
 | n+1,d::ds,vs,F,h=>by simp only [aJ] at h;obtain ⟨v,vs',F1,F2,rfl,rfl,h3,h4⟩:=h;obtain ⟨F',k1,k2⟩:=Ij n h4;exact ⟨F',by simpa using k1,λy hy=>by simp [k2 y hy]⟩
theorem Uu {t f:Nat} {fs:List (Nat×Nat×Bool)} {off sz:Nat} {ag:Bool} {d:TypeDesc} (hd:Pv P d=some (.struct fs)) (hf:fs[f]? = some (off,sz,ag)) :
  ∃fields fld i,d = .struct fields/\fields[f]? = some fld/\fld.offset=off/\P.info? fld.type=some i/\i.size=sz/\Ju P fld.type=ag /\ ∃dsc,P.underlying fld.type=some dsc:=by
 obtain ⟨fields,pl,rfl,hpl,rfl,hall⟩:=Pf hd
 rw [List.getElem?_map] at hf
 cases hz:(pl.zip (fields.toList.map λf=>Ju P f.type))[f]? with
 | none=>rw [hz] at hf;simp at hf
 | some x =>
  rw [hz] at hf
  simp at hf
  obtain ⟨hz1,hz2⟩:=List.getElem?_zip_eq_some.1 hz
  rw [List.getElem?_map] at hz2
  cases hfl:fields.toList[f]? with
  | none=>rw [hfl] at hz2;simp at hz2
  | some fld =>
   rw [hfl] at hz2
   simp at hz2
   have:=mapM_some_get hpl f fld hfl
   rw [hz1] at this
   cases hi:P.info? fld.type with
   | none=>rw [hi] at this;simp at this
   | some i =>
    rw [hi] at this
    simp at this
    obtain ⟨⟨a1,a2⟩,b2⟩:=x
    simp at this hf hz2
    refine ⟨fields,fld,i,rfl,by simpa using hfl,?_,hi,?_,?_,?_⟩
    ·rw [this.1];exact hf.1
    ·rw [this.2];exact hf.2.1
    ·rw [hz2];exact hf.2.2
    ·rw [qQ] at hall;exact Option.isSome_iff_exists.1 (hall fld (List.mem_of_getElem? hfl))
theorem MW {t:TypeId} {x:Operand} {f:Nat} (ho:o.op = .fieldAddr t x f) (R:mJ P base w0 N g s a w []) (h:ex P (AL (fN P) N o) s K):o.wp P a w (Aft P base w0 N K) Q:=by
 simp only [AL,ho] at h
 split at h
 ·rename_i fs sz0 by0 z0 cm0 sl0 hti
  obtain ⟨i,d,z,h1,h2,h3,h4,h5,h6,h7,h8,h9⟩:=(dP hti).ok
  split at h
  ·rename_i off sz ag hf
   obtain ⟨fields,fld,fi,rfl,k1,k2,k3,k4,k5,dsc,hdsc⟩:=Uu (t:=t) h4 hf
   split at h
   ·rename_i hpos
    obtain ⟨sv,q1,q2⟩:=bX R h
    have hrun : ∀b o',a.eval x = .pointer (some ⟨b,o',none⟩)->(execOp a.eval o).run P w = .ok (.value (.pointer (some ⟨b,o'+off,none⟩))) w:=by
     intro b o' hx
     have hne : ¬fi.size=0:=by omega
     simp [execOp,ho,hx,Instr.fieldAt,run_underlying h2,k1,Instr.sureAddr,fieldPlace,sizeOf,typeInfo,k3,hne,Addr.add_lit,k2]
    unfold I4 at q2
    split at q2
    ·rename_i j ver o';obtain ⟨hone,hle,hcap⟩:=eE q1;simp only [ex] at q2;split at q2;(rename_i t' cs' e2;split at q2;(rename_i e1;obtain ⟨b,e3,e4⟩:=hcap e1 t' cs' e2;exact wL R q2 (hrun b o' e4) ⟨_,[],rfl,⟨rfl,hle,λ_ _ _ _=>⟨b,e3,rfl⟩⟩,rfl⟩);·exact q2.elim);·exact q2.elim
    ·rename_i j ver jj o';obtain ⟨hone,hle,hcap⟩:=eE q1;simp only [ex] at q2;split at q2;(rename_i e sz' xs dp e2;split at q2;(rename_i e1;obtain ⟨b,n,c,e3,e4⟩:=hcap e1 _ _ _ _ e2;refine wL R q2 (hrun b _ e4) ⟨_,[],rfl,⟨rfl,hle,λ_ e' sz'' xs' dp' hh=>⟨b,n,c,e3,?_⟩⟩,rfl⟩;rw [e2] at hh;cases hh;simp [Nat.add_assoc]);·exact q2.elim);·exact q2.elim
    ·rename_i ds;obtain ⟨b,o',cells,F,e1,e2,e3,e4,e5,e6⟩:=Qz q1;split at q2;(rename_i hle;refine wL R q2 (hrun b o' e1) ⟨_,[],rfl,?_,rfl⟩;have hsp : ∃F',aJ w (ds.drop off) (cells.drop off) F' /\ ∀y∈F',y∈F:=Ij off e5;obtain ⟨F',e7,e8⟩:=hsp;refine ⟨b::F',?_,?_⟩;(simp only [Rep];exact ⟨b,o'+off,cells.drop off,F',rfl,e2,rfl,e4.drop off,e7⟩);·intro y hy;rcases List.mem_cons.1 hy with rfl | hy;(exact e3);·exact e6 y (e8 y hy));·exact q2.elim
    ·exact q2.elim
   ·exact h.elim
  ·exact h.elim
 ·exact h.elim
theorem TV {t:TypeId} {x:Operand} {f:Nat} (ho:o.op = .field t x f) (R:mJ P base w0 N g s a w []) (h:ex P (AL (fN P) N o) s K):o.wp P a w (Aft P base w0 N K) Q:=by
 simp only [AL,ho] at h
 split at h
 ·rename_i fs sz0 by0 z0 cm0 sl0 hti
  obtain ⟨i,d,z,h1,h2,h3,h4,h5,h6,h7,h8,h9⟩:=(dP hti).ok
  split at h
  ·rename_i off sz ag hf
   obtain ⟨fields,fld,fi,rfl,k1,k2,k3,k4,k5,dsc,hdsc⟩:=Uu (t:=t) h4 hf
   obtain ⟨sv,q1,q2⟩:=bX R h
   split at q2
   ·rename_i cs
    split at q2
    ·rename_i hc
     obtain ⟨vs,hx,hcs⟩:=q1
     have hl:=hcs.length
     simp only [Array.length_toList] at hl
     have hsub:=(hcs.drop off).take sz
     have hag:VB dsc=ag:=by unfold Ju at k5;rw [hdsc] at k5;exact k5
     cases ag with
     | true =>
      refine wL R q2 (v:=.agg (vs.extract off (off+sz))) ?_ ⟨_,rfl,?_⟩
      ·simp [execOp,ho,hx,Instr.field,run_underlying h2,k1,asAgg,part,Ea hdsc,hag,sizeOf,typeInfo,k3,k4,k2]
      ·have:(vs.extract off (off+sz)).toList=(vs.toList.drop off).take sz:=by simp
       rw [this];exact hsub
     | false =>
      have hsz:sz=1:=by simpa using hc.2
      subst hsz
      have hlt:off<vs.size:=by omega
      have hone:(vs.toList.drop off).take 1=[vs[off]]:=by rw [qV (by simpa using hlt)];simp
      rw [hone] at hsub
      refine wL R q2 (v:=vs[off]) ?_ hsub
      simp [execOp,ho,hx,Instr.field,run_underlying h2,k1,asAgg,part,Ea hdsc,hag,k2,hlt]
    ·exact q2.elim
   ·exact q2.elim
  ·exact h.elim
 ·exact h.elim
end
end Go.Sh
namespace Go.Sh
open Go.RowKit
section
variable {P:Program} {base N:Nat} {w0:W0} {w:World} {g:Gh} {s:St} {a:Act} {K:St->Prop} {Q:Exit->Act->World->Prop} {o:Oper}
theorem KN {xs:List (List D)} {v:Value} (h:uN g s.h w (.v false [.dat (.sl xs)]) v) :
  ∃ad n c,v = .slice ad n c/\n=xs.length/\n<=c/\(n=0 \/ ∃b off cells sz G,ad=some ⟨b,off,none⟩/\b<w.heap.size/\g.S b/\BX w b off cells/\cells.length=n*sz/\(∀x∈xs,x.length=sz)/\aV w xs cells G /\ ∀y∈G,g.S y):=by
 obtain ⟨F,h1,h2⟩:=eE h
 simp only [Rep] at h1
 obtain ⟨ad,n,c,h3,h4,h5,h6⟩:=h1
 refine ⟨ad,n,c,h3,h4,h5,?_⟩
 rcases h6 with ⟨h6,_⟩ | ⟨b,off,cells,sz,G,k1,k2,rfl,k4,k5,k6,k7⟩
 ·exact .inl h6
 ·exact .inr ⟨b,off,cells,sz,G,k1,k2,h2 b qd,k4,k5,k6,k7,λy hy=>h2 y (by simp [hy])⟩
theorem TY {B:Nat} {d:D} {u:Option Value} {v:Value} (h:uN g s.h w (.v false [.old B d u]) v):uN g s.h w (.v false [.dat d]) v:=by obtain ⟨v',vs,e,⟨F,h1,h2,_⟩,h3⟩:=h;exact ⟨v',vs,e,⟨F,h1,λb hb=>(h2 b hb).1⟩,h3⟩
theorem MZ {t:TypeId} {x ix:Operand} (ho:o.op = .indexAddr t x ix) (R:mJ P base w0 N g s a w []) (h:ex P (AL (fN P) N o) s K):o.wp P a w (Aft P base w0 N K) Q:=by
 simp only [AL,ho] at h
 split at h
 ·rename_i e sz0 by0 z0 cm0 sl0 hti
  obtain ⟨i,d,z,h1,h2,h3,h4,h5,h6,h7,h8,h9⟩:=(dP hti).ok
  obtain rfl:=Ch h4
  split at h
  ·rename_i te hte
   obtain ⟨ie,de,ze,e1,e2,e3,e4,e5,e6,e7,e8,e9⟩:=(dP hte).ok
   obtain ⟨sx,q1,q2⟩:=bX R h
   obtain ⟨si,q3,q4⟩:=bX R q2
   have hrun : ∀b off n c k (m:Int),a.eval x = .slice (some ⟨b,off,none⟩) n c->a.eval ix = .int k m->0<=m->m.toNat<n ->
     (execOp a.eval o).run P w = .ok (.value (.pointer (some ⟨b,off+m.toNat*te.size,none⟩))) w:=by
    intro b off n c k m hx hi hm hlt
    have hlt':m<(n:Int):=by omega
    simp [execOp,ho,hx,hi,Instr.indexAt,asIntOf,run_underlying h2,sizeOf,typeInfo,e1,e7,hm,hlt',Addr.add_lit]
   unfold Bg at q4
   split at q4
   ·rename_i xs k m
    obtain ⟨ad,n,c,k1,k2,k3,k4⟩:=KN q1
    obtain ⟨hm,q4⟩:=q4
    split at q4
    ·rename_i y hy
     split at q4
     ·rename_i hyl
      have hlt:m.toNat<xs.length:=(List.getElem?_eq_some_iff.1 hy).1
      rcases k4 with k4 | ⟨b,off,cells,sz,G,rfl,m2,m3,m4,m5,m6,m7,m8⟩
      ·omega
      ·have hsz:sz=te.size:=by rw [<-hyl];exact (m6 y (List.mem_of_getElem? hy)).symm
       subst hsz
       refine wL R q4 (hrun b off n c k m k1 (mK q3) hm qb) ⟨_,[],rfl,?_,rfl⟩
       obtain ⟨v1,v2,v3,F1,F2,F3,rfl,hF,hl1,hr1,hr2,hr3⟩:=m7.at_ m6 hy
       refine ⟨b::F2,?_,?_⟩
       ·simp only [Rep];refine ⟨b,off+m.toNat*te.size,v2,F2,rfl,m2,rfl,?_,hr2⟩;have q:=(m4.drop (m.toNat*te.size)).take te.size;rw [<-hl1,List.drop_left,List.take_append_of_le_length (by rw [hr2.length];omega),List.take_of_length_le (by rw [hr2.length];omega)] at q;rw [<-hl1];exact q
       ·intro yy hyy;rcases List.mem_cons.1 hyy with rfl | hyy;(exact m3);·exact m8 yy (by rw [hF];simp [hyy])
     ·exact q4.elim
    ·exact q4.elim
   ·rename_i B xs u k m
    obtain ⟨ad,n,c,k1,k2,k3,k4⟩:=KN (TY q1)
    obtain ⟨hm,q4⟩:=q4
    split at q4
    ·rename_i y hy
     split at q4
     ·rename_i hyl
      have hlt:m.toNat<xs.length:=(List.getElem?_eq_some_iff.1 hy).1
      rcases k4 with k4 | ⟨b,off,cells,sz,G,rfl,m2,m3,m4,m5,m6,m7,m8⟩
      ·omega
      ·have hsz:sz=te.size:=by rw [<-hyl];exact (m6 y (List.mem_of_getElem? hy)).symm
       subst hsz
       refine wL R q4 (hrun b off n c k m k1 (mK q3) hm qb) ⟨_,[],rfl,?_,rfl⟩
       obtain ⟨v1,v2,v3,F1,F2,F3,rfl,hF,hl1,hr1,hr2,hr3⟩:=m7.at_ m6 hy
       refine ⟨b::F2,?_,?_⟩
       ·simp only [Rep];refine ⟨b,off+m.toNat*te.size,v2,F2,rfl,m2,rfl,?_,hr2⟩;have q:=(m4.drop (m.toNat*te.size)).take te.size;rw [<-hl1,List.drop_left,List.take_append_of_le_length (by rw [hr2.length];omega),List.take_of_length_le (by rw [hr2.length];omega)] at q;rw [<-hl1];exact q
       ·intro yy hyy;rcases List.mem_cons.1 hyy with rfl | hyy;(exact m3);·exact m8 yy (by rw [hF];simp [hyy])
     ·exact q4.elim
    ·exact q4.elim
   ·rename_i j ver k m;obtain ⟨hone,hle,hcap⟩:=eE q1;simp only [ex] at q4;split at q4;(rename_i e' sz' xs dp hh;split at q4;(rename_i hc;obtain ⟨⟨hm,hlt⟩,q4⟩:=q4;have hval:=hcap hc.1 _ _ _ _ hh;have hob:=R.inv.obj j;rw [hh] at hob;obtain ⟨cells,r1,r2,r3,r4,r5⟩:=hob;rcases r1.2 with ⟨r6,r7⟩ | ⟨gg,cap,cur,r6,r7,r8,r9⟩;(omega);·refine wL R q4 (hrun gg 0 _ cap k m (hval.trans r6) (mK q3) hm hlt) ⟨_,[],rfl,⟨rfl,hle,λ_ e'' sz'' xs'' dp'' hh'=>⟨gg,_,cap,r6,?_⟩⟩,rfl⟩;rw [hh] at hh';cases hh';rw [<-hc.2];simp);·exact q4.elim);·exact q4.elim
   ·rename_i W xs v k m
    obtain ⟨v',vs',e0,⟨h0,F,k1,k2⟩,h3'⟩:=q1
    have h3'':vs'=[]:=h3'
    subst h3''
    simp only [List.cons.injEq,and_true] at e0
    rw [h0] at e0
    obtain ⟨hm,q4⟩:=q4
    split at q4
    ·rename_i y hy
     split at q4
     ·rename_i hyl
      have hlt:m.toNat<xs.length:=(List.getElem?_eq_some_iff.1 hy).1
      simp only [Rep] at k1
      obtain ⟨ad,n,c,rfl,kn,kc,k4⟩:=k1
      rcases k4 with k4 | ⟨b,off,cells,sz,G,rfl,m2,rfl,m4,m5,m6,m7⟩
      ·omega
      ·have hsz:sz=te.size:=by rw [<-hyl];exact (m6 y (List.mem_of_getElem? hy)).symm
       subst hsz
       refine wL R q4 (hrun b off n c k m e0 (mK q3) hm qb) ⟨_,[],rfl,⟨rfl,?_⟩,rfl⟩
       obtain ⟨v1,v2,v3,F1,F2,F3,rfl,hF,hl1,hr1,hr2,hr3⟩:=m7.at_ m6 hy
       refine ⟨b::F2,?_,?_⟩
       ·simp only [Rep];refine ⟨b,off+m.toNat*te.size,v2,F2,rfl,m2,rfl,?_,hr2⟩;have q:=(m4.drop (m.toNat*te.size)).take te.size;rw [<-hl1,List.drop_left,List.take_append_of_le_length (by rw [hr2.length];omega),List.take_of_length_le (by rw [hr2.length];omega)] at q;rw [<-hl1];exact q
       ·intro yy hyy;rcases List.mem_cons.1 hyy with rfl | hyy;(exact k2 yy qd);·exact k2 yy (by rw [hF];simp [hyy])
     ·exact q4.elim
    ·exact q4.elim
   ·exact q4.elim
  ·exact h.elim
 ·rename_i e n sz0 by0 z0 cm0 sl0 hti
  obtain ⟨i,d,z,h1,h2,h3,h4,h5,h6,h7,h8,h9⟩:=(dP hti).ok
  obtain rfl:=XP h4
  split at h
  ·rename_i te hte
   obtain ⟨ie,de,ze,e1,e2,e3,e4,e5,e6,e7,e8,e9⟩:=(dP hte).ok
   obtain ⟨sx,q1,q2⟩:=bX R h
   obtain ⟨si,q3,q4⟩:=bX R q2
   split at q4
   ·rename_i j ver off k m
    simp only [ex] at q4
    split at q4
    ·rename_i t' cells hh
     split at q4
     ·rename_i hc
      obtain ⟨⟨hm0,hmn⟩,q4⟩:=q4
      obtain ⟨hone,hle,hcap⟩:=eE q1
      obtain ⟨b,hb1,hb2⟩:=hcap hc _ _ hh
      have hlt:m<(n:Int):=by omega
      refine wL R q4 (v:=.pointer (some ⟨b,off+m.toNat*te.size,none⟩)) ?_ ⟨_,[],rfl,⟨rfl,hle,λ_ t'' cs'' hh'=>⟨b,hb1,rfl⟩⟩,rfl⟩
      simp [execOp,ho,hb2,mK q3,Instr.indexAt,Instr.sureAddr,asIntOf,run_underlying h2,sizeOf,typeInfo,e1,e7,hm0,hlt,Addr.add_lit]
     ·exact q4.elim
    ·exact q4.elim
   ·exact q4.elim
  ·exact h.elim
 ·exact h.elim
theorem T8 {t:TypeId} {x ix:Operand} (ho:o.op = .index t x ix) (R:mJ P base w0 N g s a w []) (h:ex P (AL (fN P) N o) s K):o.wp P a w (Aft P base w0 N K) Q:=by simp only [AL,ho] at h;split at h;(rename_i sz0 by0 z0 cm0 sl0 hti;obtain ⟨i,d,z,h1,h2,h3,h4,h5,h6,h7,h8,h9⟩:=(dP hti).ok;obtain rfl:=OP h4;obtain ⟨sx,q1,q2⟩:=bX R h;obtain ⟨si,q3,q4⟩:=bX R q2;split at q4;(rename_i str k n;obtain ⟨hn,q4⟩:=q4;split at q4;(rename_i b hb;refine wL R q4 (v:=.int .u8 b.toNat) ?_ B3;simp [execOp,ho,FH q1,mK q3,Instr.index,asIntOf,run_underlying h2,hn,hb]);·exact q4.elim);·exact q4.elim);·exact h.elim
theorem SI {op:BinOp} {t:TypeId} {k k':IntKind} {m n:Int} {d:D} (hk:k=k'\/op = .shr\/op = .shl) (h:vY op k m n=some d) (w:World) : ∃v,(binOp op t (.int k m) (.int k' n)).run P w = .ok v w/\Rep w d v []:=by
 cases op
 case shl =>
  simp only [vY] at h
  split at h
  ·cases h
  ·rename_i hn;cases h;exact ⟨.int k (k.wrap (m*2^(min n.toNat k.bits))),by simp only [binOp,Op.shift,hn,if_false,Sem.run_pure],by simp [Rep]⟩
 case shr =>
  simp only [vY] at h
  split at h
  ·cases h
  ·rename_i hn;cases h;exact ⟨.int k (m.fdiv (2^(min n.toNat k.bits))),by simp only [binOp,Op.shift,hn,if_false,Sem.run_pure],by simp [Rep]⟩
 all_goals (obtain rfl:k=k':=by simpa using hk)
 case quo =>
  simp only [vY] at h
  split at h
  ·cases h
  ·rename_i hn;cases h;exact ⟨.int k (k.wrap (m.tdiv n)),by simp [binOp,Op.intDiv,hn],by simp [Rep]⟩
 case rem =>
  simp only [vY] at h
  split at h
  ·cases h
  ·rename_i hn;cases h;exact ⟨.int k (m.tmod n),by simp [binOp,Op.intDiv,hn],by simp [Rep]⟩
 case and=>simp only [vY] at h;cases h;exact ⟨.int k (k.wrap (BitVec.ofInt k.bits m&&&BitVec.ofInt k.bits n).toNat),by simp only [binOp,ne_eq,not_true_eq_false,if_false,Op.intBits,Sem.run_pure],by simp only [Rep,and_self]⟩
 case or=>simp only [vY] at h;cases h;exact ⟨.int k (k.wrap (BitVec.ofInt k.bits m|||BitVec.ofInt k.bits n).toNat),by simp only [binOp,ne_eq,not_true_eq_false,if_false,Op.intBits,Sem.run_pure],by simp only [Rep,and_self]⟩
 case xor=>simp only [vY] at h;cases h;exact ⟨.int k (k.wrap (BitVec.ofInt k.bits m ^^^ BitVec.ofInt k.bits n).toNat),by simp only [binOp,ne_eq,not_true_eq_false,if_false,Op.intBits,Sem.run_pure],by simp only [Rep,and_self]⟩
 case andNot=>simp only [vY] at h;cases h;exact ⟨.int k (k.wrap (BitVec.ofInt k.bits m &&& ~~~BitVec.ofInt k.bits n).toNat),by simp only [binOp,ne_eq,not_true_eq_false,if_false,Op.intBits,Sem.run_pure],by simp only [Rep,and_self]⟩
 all_goals (simp [vY] at h;subst h;simp [binOp,Op.intArith,Op.intCmp,Rep])
theorem SD {op:BinOp} {t:TypeId} {m n:ByteArray} {d:D} (h:GB op m n=some d) (w:World) : ∃v,(binOp op t (.string m) (.string n)).run P w = .ok v w/\Rep w d v []:=by cases op<;>simp [GB] at h<;>subst h<;>simp [binOp,Op.stringOp,Rep]
def sE:List LK->List Value->List Value->Option Bool
 | [],[],[]=>some true
 | .int::ls,.int k a::xs,.int k' b::ys=>if k=k' then (sE ls xs ys).map ((a==b) && ·) else none
 | .bool::ls,.bool a::xs,.bool b::ys=>(sE ls xs ys).map ((a==b) && ·)
 | .str::ls,.string a::xs,.string b::ys=>(sE ls xs ys).map ((a.toList==b.toList) && ·)
 | _,_,_=>none
theorem OK : ∀(ls:List LK) {cs ds:List SC} {vs us:List Value} {b:Bool},aT g s.h w cs vs->aT g s.h w ds us->Bh ls cs ds=some b->sE ls vs us=some b:=by
 intro ls
 induction ls with
 | nil =>
  intro cs ds vs us b h1 h2 h
  match cs,ds,h with
  | [],[],h=>rw [show vs=[] from h1,show us=[] from h2];exact h
 | cons l ls ih =>
  intro cs ds vs us b h1 h2 h
  cases l with
  | int =>
   match cs,ds,h with
   | .dat (.int k x)::cs,.dat (.int k' y)::ds,h =>
    obtain ⟨v,vs',rfl,⟨F,r1,_⟩,h3⟩:=h1
    obtain ⟨u,us',rfl,⟨G,r2,_⟩,h4⟩:=h2
    simp only [Rep] at r1 r2
    rw [r1.1,r2.1]
    simp only [Bh,sE] at h ⊢
    split at h
    ·rename_i hk
     rw [if_pos hk]
     cases hh:Bh ls cs ds with
     | none=>rw [hh] at h;cases h
     | some b'=>rw [hh] at h;rw [ih h3 h4 hh];exact h
    ·cases h
  | bool =>
   match cs,ds,h with
   | .dat (.bool x)::cs,.dat (.bool y)::ds,h =>
    obtain ⟨v,vs',rfl,⟨F,r1,_⟩,h3⟩:=h1
    obtain ⟨u,us',rfl,⟨G,r2,_⟩,h4⟩:=h2
    simp only [Rep] at r1 r2
    rw [r1.1,r2.1]
    simp only [Bh,sE] at h ⊢
    cases hh:Bh ls cs ds with
    | none=>rw [hh] at h;cases h
    | some b'=>rw [hh] at h;rw [ih h3 h4 hh];exact h
  | str =>
   match cs,ds,h with
   | .dat (.str x)::cs,.dat (.str y)::ds,h =>
    obtain ⟨v,vs',rfl,⟨F,r1,_⟩,h3⟩:=h1
    obtain ⟨u,us',rfl,⟨G,r2,_⟩,h4⟩:=h2
    simp only [Rep] at r1 r2
    rw [r1.1,r2.1]
    simp only [Bh,sE] at h ⊢
    cases hh:Bh ls cs ds with
    | none=>rw [hh] at h;cases h
    | some b'=>rw [hh] at h;rw [ih h3 h4 hh];exact h
theorem FY : ∀(a b:List LK) {vs us:List Value} {r:Bool},sE (a++b) vs us=some r->a.length<=vs.length/\a.length<=us.length /\
  ∃r1 r2,sE a (vs.take a.length) (us.take a.length)=some r1/\sE b (vs.drop a.length) (us.drop a.length)=some r2/\r=(r1&&r2)
 | [],b,vs,us,r,h=>⟨Nat.zero_le _,Nat.zero_le _,true,r,by simp [sE],by simpa using h,qd⟩
 | l::a,b,vs,us,r,h=>by
  have key : ∀ {vs us:List Value} {r:Bool},sE (a++b) vs us=some r->_:=λh=>FY a b h
  simp only [List.cons_append] at h
  cases l with
  | int =>
   match vs,us,h with
   | .int k x::vs,.int k' y::us,h =>
    simp only [sE] at h
    split at h
    ·rename_i hk
     cases hh:sE (a++b) vs us with
     | none=>rw [hh] at h;cases h
     | some b' =>
      rw [hh] at h
      simp at h
      obtain ⟨k1,k2,r1,r2,k3,k4,k5⟩:=key hh
      exact ⟨by simpa using k1,by simpa using k2,((x==y)&&r1),r2,by simp [sE,hk,k3],by simpa using k4,by rw [<-h,k5,Bool.and_assoc]⟩
    ·cases h
  | bool =>
   match vs,us,h with
   | .bool x::vs,.bool y::us,h =>
    simp only [sE] at h
    cases hh:sE (a++b) vs us with
    | none=>rw [hh] at h;cases h
    | some b' =>
     rw [hh] at h
     simp at h
     obtain ⟨k1,k2,r1,r2,k3,k4,k5⟩:=key hh
     exact ⟨by simpa using k1,by simpa using k2,((x==y)&&r1),r2,by simp [sE,k3],by simpa using k4,by rw [<-h,k5,Bool.and_assoc]⟩
  | str =>
   match vs,us,h with
   | .string x::vs,.string y::us,h =>
    simp only [sE] at h
    cases hh:sE (a++b) vs us with
    | none=>rw [hh] at h;cases h
    | some b' =>
     rw [hh] at h
     simp at h
     obtain ⟨k1,k2,r1,r2,k3,k4,k5⟩:=key hh
     exact ⟨by simpa using k1,by simpa using k2,((x.toList==y.toList)&&r1),r2,by simp [sE,k3],by simpa using k4,by rw [<-h,k5,Bool.and_assoc]⟩
def valOf (P:Program) (t:TypeId) (vs:List Value):Value:=if Ju P t=true then .agg vs.toArray else vs.headD .nilIface
theorem WC {t:TypeId} {dsc:TypeDesc} (hd:P.underlying t=some dsc) (hi:(P.info? t).isSome=true) {vs:List Value} {off:Nat} (ha:Ju P t=false->off<vs.length/\P.cellsOf t=1):(part t vs.toArray off).run P w = .ok (valOf P t ((vs.drop off).take (P.cellsOf t))) w:=by
 obtain ⟨i,hi⟩:=Option.isSome_iff_exists.1 hi
 have hag:Ju P t=VB dsc:=by unfold Ju;rw [hd]
 unfold part valOf
 cases hb:VB dsc with
 | true =>
  simp only [Sem.run_bind,Ea hd w,hb,Result.andThen_ok,if_true,sizeOf,typeInfo,run_program,hi,Sem.run_pure,hag,Program.cellsOf,Option.map_some,Option.getD_some]
  simp [List.extract_toArray,List.extract_eq_take_drop]
 | false =>
  obtain ⟨h1,h2⟩:=ha (by rw [hag,hb])
  simp only [Sem.run_bind,Ea hd w,hb,Result.andThen_ok,if_false,hag,h2,qD]
  have:vs.toArray[off]? = some vs[off]:=by simp [h1]
  rw [this]
  have:((vs.drop off).take 1).headD .nilIface=vs[off]:=by rw [qV h1];rfl
  rw [this]
  rfl
theorem SE : ∀(ls:List LK) {vs us:List Value} {b:Bool},sE ls vs us=some b->vs.length=ls.length/\us.length=ls.length:=by
 intro ls vs us b h
 have:=FY ls [] (by simpa using h)
 obtain ⟨h1,h2,r1,r2,h3,h4,h5⟩:=this
 match hv:vs.drop ls.length,hu:us.drop ls.length,h4 with
 | [],[],h4 =>
  rw [List.drop_eq_nil_iff] at hv hu
  omega
theorem KG {n:Nat} (ih : ∀(t:TypeId) (ls:List LK),E1 P n t=some ls -> ∀d,n<=d -> ∀(vs us:List Value) (b:Bool),sE ls vs us=some b->(Op.equalIn d t (valOf P t vs) (valOf P t us)).run P w = .ok b w)
  {d:Nat} (hd:n<=d) : ∀(fs:List Field) (off:Nat) (ls:List LK) (vs us:List Value) (b:Bool),D1 P (E1 P n) off fs=some ls->sE ls (vs.drop off) (us.drop off)=some b ->
   (Op.eqFields d vs.toArray us.toArray fs).run P w = .ok b w
 | [],off,ls,vs,us,b,h,hb=>by
  simp [D1] at h
  subst h
  have hl:=SE _ hb
  match vs.drop off,us.drop off,hb with
  | [],[],hb=>simp [sE] at hb;subst hb;simp [Op.eqFields]
 | f::fs,off,ls,vs,us,b,h,hb=>by
  simp only [D1] at h
  split at h
  ·rename_i hf
   split at h
   ·rename_i a c ha hc
    split at h
    ·rename_i hlen
     cases h
     obtain ⟨k1,k2,r1,r2,k3,k4,rfl⟩:=FY a c hb
     have hun : ∃dsc,P.underlying f.type=some dsc:=by
      cases n with
      | zero=>simp [E1] at ha
      | succ n =>
       simp only [E1] at ha
       split at ha
       all_goals first | exact ⟨_,by assumption⟩ | cases ha
     obtain ⟨dsc,hdsc⟩:=hun
     have hone:Ju P f.type=false->a.length=1:=by
      intro hag
      unfold Ju at hag
      rw [hdsc] at hag
      cases n with
      | zero=>simp [E1] at ha
      | succ n =>
       simp only [E1,hdsc] at ha
       split at ha<;>first | (cases ha;rfl) | (rename_i e;cases e;simp [VB] at hag) | cases ha
     have hp : ∀(us:List Value),a.length<=(us.drop off).length->(part f.type us.toArray f.offset).run P w = .ok (valOf P f.type ((us.drop off).take a.length)) w:=by
      intro us hl
      rw [hlen,<-hf.1]
      refine WC hdsc hf.2.2 λhag => ?_
      have:=hone hag
      rw [qU] at hl
      omega
     have h1:=hp vs k1
     have h2:=hp us k2
     have h3:=ih f.type a ha d hd _ _ r1 k3
     have h4:=KG ih hd fs (off+P.cellsOf f.type) c vs us r2 hc (by rw [List.drop_drop,List.drop_drop,hlen] at k4;exact k4)
     simp only [Op.eqFields,hf.2.1,ne_eq,not_false_eq_true,if_true,Sem.run_bind,h1,h2,h3,Result.andThen_ok]
     cases r1 with
     | true=>simp [h4]
     | false=>simp
    ·cases h
   ·cases h
  ·cases h
theorem JL : ∀(n:Nat) (t:TypeId) (ls:List LK),E1 P n t=some ls -> ∀d,n<=d -> ∀(vs us:List Value) (b:Bool),sE ls vs us=some b->(Op.equalIn d t (valOf P t vs) (valOf P t us)).run P w = .ok b w
 | 0,t,ls,h,_,_,_,_,_,_=>by simp [E1] at h
 | n+1,t,ls,h,d,hd,vs,us,b,hb=>by
  obtain ⟨d,rfl⟩ : ∃d',d=d'+1:=⟨d-1,qb⟩
  simp only [E1] at h
  split at h
  ·rename_i k hu
   cases h
   have hag:Ju P t=false:=by unfold Ju;rw [hu];rfl
   match vs,us,hb with
   | .int k1 x::vs,.int k2 y::us,hb =>
    simp only [sE] at hb
    split at hb
    ·rename_i hk
     subst hk
     match vs,us,hb with
     | [],[],hb =>
      simp [sE] at hb
      simp only [valOf,hag,List.headD_cons,qD,if_false]
      rw [run_equalIn_int w d t _ _ x y hu,<-hb]
    ·cases hb
  ·rename_i hu
   cases h
   have hag:Ju P t=false:=by unfold Ju;rw [hu];rfl
   match vs,us,hb with
   | .bool x::vs,.bool y::us,hb =>
    simp only [sE] at hb
    match vs,us,hb with
    | [],[],hb =>
     simp [sE] at hb
     simp only [valOf,hag,List.headD_cons,qD,if_false]
     rw [run_equalIn_bool' w d t x y hu,<-hb]
  ·rename_i hu
   cases h
   have hag:Ju P t=false:=by unfold Ju;rw [hu];rfl
   match vs,us,hb with
   | .string x::vs,.string y::us,hb =>
    simp only [sE] at hb
    match vs,us,hb with
    | [],[],hb =>
     simp [sE] at hb
     simp only [valOf,hag,List.headD_cons,qD,if_false]
     rw [run_equalIn_string w d t x y hu,<-hb]
  ·rename_i fs hu
   split at h
   ·rename_i hst
    have hag:Ju P t=true:=by unfold Ju;rw [hu];rfl
    have hfo:P.fieldsOf t=fs:=by unfold Program.fieldsOf;rw [hu]
    simp only [valOf,hag,if_true]
    rw [run_equalIn_struct w d t _ _ (by rw [hfo];exact hu) hst,hfo]
    exact KG (λt ls=>JL n t ls) qb fs.toList 0 ls vs us b h (by simpa using hb)
   ·cases h
  ·cases h
theorem JA {t:TypeId} {ti:TI} (hti:fN P t=some ti) {l:LK} {ls:List LK} (hc:ti.cmp=l::ls) {op:BinOp} (hop:op = .eql\/op = .neq) {vs us:Array Value} {b:Bool} {x y:Operand} (hb:sE (l::ls) vs.toList us.toList=some b) :
  (do eqGuard op t x y (.agg vs) (.agg us);binOp op t (.agg vs) (.agg us):Sem Value).run P w = .ok (.bool (if op = .eql then b else !b)) w:=by
 have h1:=(dP hti).cmp
 rw [hc] at h1
 unfold Zc at h1
 split at h1
 ·rename_i hg
  cases hl:E1 P 8 t with
  | none=>rw [hl] at h1;simp at h1
  | some ls' =>
   rw [hl] at h1
   simp only [Option.getD_some] at h1
   subst h1
   have:=JL (w:=w) 8 t _ hl 10000 qb _ _ b hb
   simp only [valOf,hg.1,if_true,Array.toArray_toList] at this
   rcases hop with rfl | rfl
   ·simp only [Sem.run_bind,run_eqGuard_agg w _ t x y vs us hg.2,Result.andThen_ok,run_eql_struct w t vs us,this];rfl
   ·simp only [Sem.run_bind,run_eqGuard_agg w _ t x y vs us hg.2,Result.andThen_ok,run_neq_struct w t vs us,this];rfl
 ·cases h1
theorem S9 {op:BinOp} {t ty:TypeId} {x y:Operand} (ho:o.op = .binOp op t x y ty) (R:mJ P base w0 N g s a w []) (h:ex P (AL (fN P) N o) s K):o.wp P a w (Aft P base w0 N K) Q:=by
 simp only [AL,ho] at h
 obtain ⟨sx,q1,q2⟩:=bX R h
 obtain ⟨sy,q3,q4⟩:=bX R q2
 split at q4
 ·rename_i k m k' n;split at q4;(rename_i hk;split at q4;(rename_i d hd;obtain ⟨v,hv,hr⟩:=SI (P:=P) (t:=t) hk hd w;refine wL R q4 (v:=v) ?_ (IZ hr qd);simp [execOp,ho,mK q1,mK q3,eqGuard,hv]);·exact q4.elim);·exact q4.elim
 ·rename_i m n
  split at q4
  ·rename_i hop
   subst hop
   obtain ⟨hlen,q4⟩:=q4
   refine wL R q4 (v:=.string (m++n)) ?_ NO
   have hmax:IntKind.i64.max=9223372036854775807:=by decide
   have hle : ¬(((m.size+n.size:Nat):Int)>IntKind.i64.max):=by rw [hmax];omega
   simp only [execOp,ho,FH q1,FH q3,eqGuard,Sem.run_bind,binOp,Op.stringOp,hle,if_false,Sem.run_pure,Result.andThen_ok]
   rfl
  ·split at q4;(rename_i d hd;obtain ⟨v,hv,hr⟩:=SD (P:=P) (t:=t) hd w;refine wL R q4 (v:=v) ?_ (IZ hr qd);simp [execOp,ho,FH q1,FH q3,eqGuard,hv]);·exact q4.elim
 ·rename_i m n
  split at q4
  ·rename_i sz0 by0 z0 cm0 sl0 hti
   obtain ⟨i,d,z,h1,h2,h3,h4,h5,h6,h7,h8,h9⟩:=(dP hti).ok
   obtain rfl:=UQ h4
   refine wL R q4 (v:=.bool (m==n)) ?_ HQ
   have : ∀dd,(Op.equalIn (dd+1) t (.bool m) (.bool n)).run P w = .ok (m==n) w:=λdd=>by simp [Op.equalIn,run_underlying h2]
   have:=this 9999
   simp [execOp,ho,CQ q1,CQ q3,eqGuard,binOp,Op.equal,Op.maxDepth,this]
  ·rename_i sz0 by0 z0 cm0 sl0 hti
   obtain ⟨i,d,z,h1,h2,h3,h4,h5,h6,h7,h8,h9⟩:=(dP hti).ok
   obtain rfl:=UQ h4
   refine wL R q4 (v:=.bool !(m==n)) ?_ HQ
   have : ∀dd,(Op.equalIn (dd+1) t (.bool m) (.bool n)).run P w = .ok (m==n) w:=λdd=>by simp [Op.equalIn,run_underlying h2]
   have:=this 9999
   simp [execOp,ho,CQ q1,CQ q3,eqGuard,binOp,Op.equal,Op.maxDepth,this]
  ·exact q4.elim
 ·rename_i cs ds
  split at q4
  ·rename_i l ls hti
   split at q4
   ·rename_i b hb
    obtain ⟨vs,hx,hcs⟩:=q1
    obtain ⟨us,hy,hds⟩:=q3
    have hbv:=OK _ hcs hds hb
    split at q4
    ·refine wL R q4 (v:=.bool b) ?_ HQ
     have:=JA (w:=w) (x:=x) (y:=y) hti rfl (.inl rfl) hbv
     simp only [Sem.run_bind] at this
     simp only [execOp,ho,hx,hy,Sem.run_bind]
     cases hg:(eqGuard .eql t x y (.agg vs) (.agg us)).run P w with
     | ok u w1 =>
      rw [hg] at this
      simp only [Result.andThen_ok,if_true] at this ⊢
      rw [this]
      rfl
     | halt z w1=>rw [hg] at this;cases this
    ·refine wL R q4 (v:=.bool !b) ?_ HQ
     have:=JA (w:=w) (x:=x) (y:=y) hti rfl (.inr rfl) hbv
     simp only [Sem.run_bind] at this
     simp only [execOp,ho,hx,hy,Sem.run_bind]
     cases hg:(eqGuard .neq t x y (.agg vs) (.agg us)).run P w with
     | ok u w1 =>
      rw [hg] at this
      simp only [Result.andThen_ok] at this ⊢
      rw [this]
      rfl
     | halt z w1=>rw [hg] at this;cases this
    ·exact q4.elim
   ·exact q4.elim
  ·exact q4.elim
 ·exact q4.elim
theorem Zd {t:TypeId} {x:Operand} (ho:o.op = .unOp .not t x) (R:mJ P base w0 N g s a w []) (h:ex P (AL (fN P) N o) s K):o.wp P a w (Aft P base w0 N K) Q:=by simp only [AL,ho] at h;obtain ⟨sx,q1,q2⟩:=bX R h;split at q2;(rename_i b;refine wL R q2 (v:=.bool !b) ?_ HQ;simp [execOp,ho,CQ q1,Op.unary]);·exact q2.elim
theorem YB {t:TypeId} {x:Operand} (ho:o.op = .unOp .neg t x) (R:mJ P base w0 N g s a w []) (h:ex P (AL (fN P) N o) s K):o.wp P a w (Aft P base w0 N K) Q:=by simp only [AL,ho] at h;obtain ⟨sx,q1,q2⟩:=bX R h;split at q2;(rename_i k n;refine wL R q2 (v:=.int k (k.wrap (0-n))) ?_ B3;simp [execOp,ho,mK q1,Op.unary,Op.intArith]);·exact q2.elim
theorem WQ {α:Type} {xs:Array α} {x:α} (h:xs.toList=[x]):xs = #[x]:=by cases xs;simp at h;simp [h]
theorem aAs {α:Type} {xs:Array α} {x y z:α} (h:xs.toList=[x,y,z]):xs = #[x,y,z]:=by cases xs;simp at h;simp [h]
theorem VS {α:Type} {xs:Array α} {x y:α} (h:xs.toList=[x,y]):xs = #[x,y]:=by cases xs;simp at h;simp [h]
theorem XY {as:Array Operand} {ts:Array TypeId} (ho:o.op = .call { callee:=.builtin .len,args:=as,argTypes:=ts }) (R:mJ P base w0 N g s a w []) (h:ex P (AL (fN P) N o) s K):o.wp P a w (Aft P base w0 N K) Q:=by
 simp only [AL,ho] at h
 split at h
 ·rename_i x t hx ht
  have hx:=WQ hx
  have ht:=WQ ht
  subst hx ht
  split at h
  ·rename_i e sz0 by0 z0 cm0 sl0 hti
   obtain ⟨i,d,z,h1,h2,h3,h4,_⟩:=(dP hti).ok
   obtain rfl:=Ch h4
   obtain ⟨sx,q1,q2⟩:=bX R h
   have hrun : ∀ad n c,a.eval x = .slice ad n c->(execOp a.eval o).run P w = .ok (.value (.int .i64 n)) w:=by intro ad n c hx;simp [execOp,ho,resolve,invoke,builtin,Builtin.len_,hx,run_underlying h2,goInt]
   unfold lenOf at q2
   split at q2
   ·rename_i xs;obtain ⟨ad,n,c,k1,k2,_⟩:=KN q1;subst k2;exact wL R q2 (hrun _ _ _ k1) B3
   ·rename_i B xs u;obtain ⟨ad,n,c,k1,k2,_⟩:=KN (TY q1);subst k2;exact wL R q2 (hrun _ _ _ k1) B3
   ·exact wL R q2 (hrun _ _ _ (eE q1)) B3
   ·rename_i j ver;obtain ⟨hone,hle,hcap⟩:=eE q1;simp only [ex] at q2;split at q2;(rename_i e' sz' xs dp hh;split at q2;(rename_i hc;have hval:=hcap hc _ _ _ _ hh;have hob:=R.inv.obj j;rw [hh] at hob;obtain ⟨cells,r1,r2,r3,r4,r5⟩:=hob;rcases r1.2 with ⟨r6,r7⟩ | ⟨gg,cap,cur,r6,r7,r8,r9⟩;(have hx:=hrun _ _ _ (hval.trans r6);rw [<-r7] at hx;exact wL R q2 hx B3);·exact wL R q2 (hrun _ _ _ (hval.trans r6)) B3);·exact q2.elim);·exact q2.elim
   ·rename_i j ver lo n;have hp:=eE q1;simp only [ex] at q2;split at q2;(rename_i e' sz' xs dp hh;split at q2;(rename_i hc;obtain ⟨ad,c,hval,_⟩:=Kl R.inv hp hc hh;exact wL R q2 (hrun _ _ _ hval) B3);·exact q2.elim);·exact q2.elim
   ·exact q2.elim
  ·rename_i sz0 by0 z0 cm0 sl0 hti;obtain ⟨i,d,z,h1,h2,h3,h4,_⟩:=(dP hti).ok;obtain rfl:=OP h4;obtain ⟨sx,q1,q2⟩:=bX R h;split at q2;(rename_i str;refine wL R q2 (v:=.int .i64 str.size) ?_ B3;simp [execOp,ho,resolve,invoke,builtin,Builtin.len_,FH q1,run_underlying h2,goInt]);·exact q2.elim
  ·exact h.elim
 ·exact h.elim
theorem Nf (R:mJ P base w0 N g s a w []) {x:Option Operand} {k:Option SV->Prog} (h:ex P (Zu x k) s K) :
  (x=none/\ex P (k none) s K) \/ ∃y sv,x=some y/\uN g s.h w sv (a.eval y)/\ex P (k (some sv)) s K:=by
 cases x with
 | none=>exact .inl ⟨rfl,h⟩
 | some y=>obtain ⟨sv,h1,h2⟩:=bX R h;exact .inr ⟨y,sv,rfl,h1,h2⟩
theorem Yb {xs:List (List D)} {ad:Option Addr} {n c l m sz:Nat} (hl:l<=m) (hm:m<=n) (hn:n=xs.length) (hc:n<=c)
  (h:n=0 \/ ∃b off cells sz' G,ad=some ⟨b,off,none⟩/\b<w.heap.size/\g.S b/\BX w b off cells/\cells.length=n*sz'/\(∀x∈xs,x.length=sz')/\aV w xs cells G /\ ∀y∈G,g.S y)
  (hsz : ∀x∈xs,x.length=sz) :
  ∃F,Rep w (.sl ((xs.take m).drop l)) (.slice (if c=l then ad else ad.map (·.add (l*sz))) (m-l) (c-l)) F /\ ∀y∈F,g.S y:=by
 by_cases h0:m-l=0
 ·refine ⟨[],?_,qd⟩;simp only [Rep];exact ⟨_,_,_,rfl,qc,qb,.inl ⟨h0,trivial⟩⟩
 ·rcases h with h | ⟨b,off,cells,sz',G,rfl,k2,k3,k4,k5,k6,k7,k8⟩
  ·omega
  ·have hx0:0<xs.length:=by omega
   have hsz':sz'=sz:=by have h1:=k6 xs[0] (qG _);have h2:=hsz xs[0] (qG _);omega
   subst hsz'
   have hsplit:xs=(xs.take m).take l++((xs.take m).drop l++xs.drop m):=by rw [<-qS,List.take_append_drop,List.take_append_drop]
   rw [hsplit] at k7
   obtain ⟨v1,v2,F1,F2,rfl,rfl,r1,r2⟩:=aV.split k7
   obtain ⟨u1,u2,G1,G2,rfl,rfl,r3,r4⟩:=aV.split r2
   have hl1:v1.length=l*sz':=by rw [aV.length r1 λx hx=>k6 x (List.mem_of_mem_take (List.mem_of_mem_take hx)),qT,qT];congr 1;omega
   have hl2:u1.length=(m-l)*sz':=by rw [aV.length r3 λx hx=>k6 x (List.mem_of_mem_take (List.mem_of_mem_drop hx)),qU,qT];congr 1;omega
   refine ⟨b::G1,?_,?_⟩
   ·simp only [Rep];refine ⟨_,_,_,rfl,qc,qb,.inr ⟨b,off+l*sz',u1,sz',G1,?_,k2,rfl,?_,hl2,λx hx=>k6 x (List.mem_of_mem_take (List.mem_of_mem_drop hx)),r3⟩⟩;(rw [if_neg qb];simp [Addr.add_lit]);·have q:=(k4.drop (l*sz')).take ((m-l)*sz');rw [<-hl1,List.drop_left,<-hl2,List.take_left] at q;rw [<-hl1];exact q
   ·intro y hy;rcases List.mem_cons.1 hy with rfl | hy;(exact k3);·exact k8 y (by simp [hy])
theorem run_sliceBound {v:Value} {k:IntKind} {j:Int} {y:Nat} {code:BoundsCode} (hv:v = .int k j) (h0:0<=j) (hy:j.toNat<=y) (w:World):(Instr.sliceBound v y code).run P w = .ok j.toNat w:=by
 have hy':j<=(y:Int):=by omega
 subst hv
 simp only [Instr.sliceBound,asIntOf,Sem.run_bind,Sem.run_pure,Result.andThen_ok,h0,hy',and_self,if_true]
theorem KT (lo hi:Option Value) (n c l m:Nat) (hhi:(hi=none/\m=n) \/ ∃k j,hi=some (.int k j)/\0<=j/\j.toNat=m/\m<=c) (hlo:(lo=none/\l=0) \/ ∃k j,lo=some (.int k j)/\0<=j/\j.toNat=l/\l<=m) (w:World) :
  (Instr.sliceBounds true n c lo hi none).run P w = .ok (l,m,c) w:=by
 rcases hhi with ⟨rfl,rfl⟩ | ⟨k,j,rfl,hj,rfl,hc⟩
 ·rcases hlo with ⟨rfl,rfl⟩ | ⟨k',j',rfl,hj',rfl,hc'⟩;(simp only [Instr.sliceBounds,Sem.run_bind,Sem.run_pure,Result.andThen_ok]);·simp only [Instr.sliceBounds,Sem.run_bind,Sem.run_pure,Result.andThen_ok,run_sliceBound rfl hj' hc']
 ·rcases hlo with ⟨rfl,rfl⟩ | ⟨k',j',rfl,hj',rfl,hc'⟩;(simp only [Instr.sliceBounds,Sem.run_bind,Sem.run_pure,Result.andThen_ok,run_sliceBound rfl hj hc]);·simp only [Instr.sliceBounds,Sem.run_bind,Sem.run_pure,Result.andThen_ok,run_sliceBound rfl hj hc,run_sliceBound rfl hj' hc']
theorem Lt {t e:TypeId} {ie:TypeInfo} (h2:P.underlying t=some (.slice e)) (e1:P.info? e=some ie) (ad:Option Addr) (lo hi:Option Value) (n c l m:Nat)
  (hhi:(hi=none/\m=n) \/ ∃k j,hi=some (.int k j)/\0<=j/\j.toNat=m/\m<=c) (hlo:(lo=none/\l=0) \/ ∃k j,lo=some (.int k j)/\0<=j/\j.toNat=l/\l<=m) (w:World) :
  (Instr.sliceAt t (.slice ad n c) lo hi none).run P w = .ok (.slice (if c=l then ad else ad.map (·.add (l*ie.size))) (m-l) (c-l)) w:=by
 simp only [Instr.sliceAt,Instr.slice,Sem.run_bind,run_underlying h2,Result.andThen_ok,KT lo hi n c l m hhi hlo w,sizeOf,typeInfo,run_program,e1,Sem.run_pure]
theorem Sm {t e:TypeId} {ie:TypeInfo} {te:TI} {x:Operand} {lo hi:Option Operand} {xs:List (List D)} (ho:o.op = .slice t x lo hi none) (R:mJ P base w0 N g s a w []) (h2:P.underlying t=some (.slice e)) (e1:P.info? e=some ie) (e7:ie.size=te.size)
  (q1:uN g s.h w (.v false [.dat (.sl xs)]) (a.eval x)) (hlen : ∀x∈xs,x.length=te.size) (l m:Nat) (hlm:l<=m) (hm:m<=xs.length)
  (hhi:(hi=none/\m=xs.length) \/ ∃y k j,hi=some y/\a.eval y = .int k j/\0<=j/\j.toNat=m) (hlo:(lo=none/\l=0) \/ ∃y k j,lo=some y/\a.eval y = .int k j/\0<=j/\j.toNat=l)
  (hk:ex P (put N o.dst (one (.sl ((xs.take m).drop l)))) s K):o.wp P a w (Aft P base w0 N K) Q:=by
 obtain ⟨ad,n,c,k1,k2,k3,k4⟩:=KN q1
 obtain ⟨F,r1,r2⟩:=Yb (l:=l) (m:=m) hlm qb k2 k3 k4 hlen
 refine wL R hk ?_ (IZ r1 r2)
 have hr:=Lt (P:=P) h2 e1 ad (lo.map a.eval) (hi.map a.eval) n c l m (by
  rcases hhi with ⟨rfl,hh⟩ | ⟨y,k,j,rfl,hj,hj0,hjm⟩
  ·exact .inl ⟨rfl,qb⟩
  ·exact .inr ⟨k,j,by simp [hj],hj0,hjm,qb⟩) (by
  rcases hlo with ⟨rfl,hh⟩ | ⟨y,k,j,rfl,hj,hj0,hjm⟩
  ·exact .inl ⟨rfl,hh⟩
  ·exact .inr ⟨k,j,by simp [hj],hj0,hjm,qb⟩) w
 simp only [execOp,ho,Option.map_none,k1,Sem.run_bind,hr,Result.andThen_ok,Sem.run_pure,e7]
theorem Tg {t e:TypeId} {ie:TypeInfo} {te:TI} {x:Operand} {lo hi:Option Operand} {j ver:Nat} (ho:o.op = .slice t x lo hi none) (R:mJ P base w0 N g s a w []) (h2:P.underlying t=some (.slice e)) (e1:P.info? e=some ie) (e7:ie.size=te.size)
  (q1:uN g s.h w (.v false [.row j ver]) (a.eval x)) (l:Nat) (hf:Nat->Nat) (p:Nat->Prop) (hp : ∀n,p n->l<=hf n/\hf n<=n)
  (hhi:(hi=none/\hf=λn=>n) \/ ∃y k z,hi=some y/\a.eval y = .int k z/\(∀n,p n->0<=z)/\hf=λ_=>z.toNat) (hlo:(lo=none/\l=0) \/ ∃y k z,lo=some y/\a.eval y = .int k z/\(∀n,p n->0<=z)/\z.toNat=l)
  (hk:ex P (My N o.dst te.size j ver l hf p) s K):o.wp P a w (Aft P base w0 N K) Q:=by
 unfold My at hk
 simp only [ex] at hk
 split at hk
 ·rename_i e' sz xs dp hh
  split at hk
  ·rename_i hc
   obtain ⟨hc1,hc2⟩:=hc
   subst hc2
   obtain ⟨hpp,hk⟩:=hk
   obtain ⟨hl,hm⟩:=hp _ hpp
   obtain ⟨hone,hle,hcap⟩:=eE q1
   have hval:=hcap hc1 _ _ _ _ hh
   have hob:=R.inv.obj j
   rw [hh] at hob
   obtain ⟨cells,r1,r2,r3,r4,r5⟩:=hob
   have hshape : ∃ad c,a.eval x = .slice ad xs.length c/\xs.length<=c/\(xs.length=0 \/ ∃b,ad=some ⟨b,0,none⟩):=by rcases r1.2 with ⟨r6,r7⟩ | ⟨gg,cap,cur,r6,r7,r8,r9,_⟩;(exact ⟨none,0,by rw [hval,r6,r7],qb,.inl r7⟩);·exact ⟨_,cap,hval.trans r6,r9,.inr ⟨gg,rfl⟩⟩
   obtain ⟨ad,c,k1,k2,k3⟩:=hshape
   have hr:=Lt (P:=P) h2 e1 ad (lo.map a.eval) (hi.map a.eval) xs.length c l (hf xs.length) (by
    rcases hhi with ⟨rfl,rfl⟩ | ⟨y,k,z,rfl,hz,hz0,rfl⟩
    ·exact .inl ⟨rfl,rfl⟩
    ·exact .inr ⟨k,z,by simp [hz],hz0 _ hpp,rfl,Nat.le_trans hm k2⟩) (by
    rcases hlo with ⟨rfl,hh⟩ | ⟨y,k,z,rfl,hz,hz0,hzm⟩
    ·exact .inl ⟨rfl,hh⟩
    ·exact .inr ⟨k,z,by simp [hz],hz0 _ hpp,hzm,hl⟩) w
   refine wL R hk (v:=.slice (if c=l then ad else ad.map (·.add (l*ie.size))) (hf xs.length-l) (c-l)) ?_ ?_
   ·simp only [execOp,ho,Option.map_none,k1,Sem.run_bind,hr,Result.andThen_ok,Sem.run_pure]
   ·refine ⟨_,[],rfl,⟨rfl,Nat.le_of_eq hc1.symm,λ_ e2 sz2 xs2 dp2 hh2 => ?_⟩,rfl⟩
    rw [hh] at hh2
    cases hh2
    refine ⟨_,_,rfl,qb,?_,?_⟩
    ·by_cases hn:hf xs.length-l=0;(exact .inl hn);·right;rcases k3 with k3 | ⟨b,rfl⟩;(omega);·refine ⟨b,xs.length,c,by rw [<-hval,k1],qb,?_⟩;rw [if_neg qb,e7];simp [Addr.add_lit]
    ·rintro rfl
     refine ⟨xs.length,?_,qb⟩
     rw [<-hval,k1]
     congr 1
     ·split
      ·rfl
      ·cases ad with
       | none=>rfl
       | some ad=>simp [Addr.add]
  ·exact hk.elim
 ·exact hk.elim
theorem Tz {t:TypeId} {x:Operand} {lo hi:Option Operand} (ho:o.op = .slice t x lo hi none) (R:mJ P base w0 N g s a w []) (h:ex P (AL (fN P) N o) s K):o.wp P a w (Aft P base w0 N K) Q:=by simp only [AL,ho] at h;split at h;(rename_i e sz0 by0 z0 cm0 sl0 hti;obtain ⟨i,d,z,h1,h2,h3,h4,_⟩:=(dP hti).ok;obtain rfl:=Ch h4;split at h;(rename_i te hte;obtain ⟨ie,de,ze,e1,e2,e3,e4,e5,e6,e7,e8,e9⟩:=(dP hte).ok;obtain ⟨sx,q1,q2⟩:=bX R h;have fin:=@Sm P base N w0 w g s a K Q o t e ie te x lo hi;have fip:=@Tg P base N w0 w g s a K Q o t e ie te x lo hi;rcases Nf R q2 with ⟨hlo,q3⟩ | ⟨yl,sl,hlo,rl,q3⟩;(rcases Nf R q3 with ⟨hhi,q4⟩ | ⟨yh,sh,hhi,rh,q4⟩;(simp only [ex] at q4);·split at q4;(rename_i e1 e2;cases e1);(rename_i xs k j e1' e2';cases e2';obtain ⟨⟨hj,hjl,hlen⟩,q4⟩:=q4;exact fin ho R h2 e1 e7 q1 hlen 0 j.toNat (Nat.zero_le _) hjl (.inr ⟨yh,k,j,hhi,mK rh,hj,rfl⟩) (.inl ⟨hlo,rfl⟩) (by simpa using q4));(rename_i e1 e2;cases e1);(rename_i e1 e2;cases e1);(rename_i i2 ver k j e1' e2';cases e2';exact fip ho R h2 e1 e7 q1 0 _ _ (λn hn=>⟨Nat.zero_le _,hn.2⟩) (.inr ⟨yh,k,j,hhi,mK rh,λn hn=>hn.1,rfl⟩) (.inl ⟨hlo,rfl⟩) q4);(rename_i e1 e2;cases e1);·exact q4.elim);·rcases Nf R q3 with ⟨hhi,q4⟩ | ⟨yh,sh,hhi,rh,q4⟩;(split at q4;(rename_i xs k j e1' e2';cases e1';obtain ⟨⟨hj,hjl,hlen⟩,q4⟩:=q4;exact fin ho R h2 e1 e7 q1 hlen j.toNat xs.length hjl (Nat.le_refl _) (.inl ⟨hhi,rfl⟩) (.inr ⟨yl,k,j,hlo,mK rl,hj,rfl⟩) (by simpa using q4));(rename_i e1 e2;cases e2);(rename_i e1 e2;cases e2);(rename_i i2 ver k j e1' e2';cases e1';exact fip ho R h2 e1 e7 q1 j.toNat _ _ (λn hn=>⟨hn.2,Nat.le_refl _⟩) (.inl ⟨hhi,rfl⟩) (.inr ⟨yl,k,j,hlo,mK rl,λn hn=>hn.1,rfl⟩) q4);(rename_i e1 e2;cases e2);(rename_i e1 e2;cases e2);·exact q4.elim);·split at q4;(rename_i e1 e2;cases e2);(rename_i e1 e2;cases e1);(rename_i xs k i k' j e1' e2';cases e1';cases e2';obtain ⟨⟨hi0,hij,hjl,hlen⟩,q4⟩:=q4;exact fin ho R h2 e1 e7 q1 hlen i.toNat j.toNat qb hjl (.inr ⟨yh,k',j,hhi,mK rh,qb,rfl⟩) (.inr ⟨yl,k,i,hlo,mK rl,hi0,rfl⟩) q4);(rename_i e1 e2;cases e2);(rename_i e1 e2;cases e1);(rename_i i2 ver k i k' j e1' e2';cases e1';cases e2';exact fip ho R h2 e1 e7 q1 i.toNat _ _ (λn hn=>⟨by have:=hn.1;have:=hn.2.1;omega,hn.2.2⟩) (.inr ⟨yh,k',j,hhi,mK rh,λn hn=>by have:=hn.1;have:=hn.2.1;omega,rfl⟩) (.inr ⟨yl,k,i,hlo,mK rl,λn hn=>hn.1,rfl⟩) q4);·exact q4.elim);·exact h.elim);·exact h.elim
end
end Go.Sh
namespace Go.Sh
open Go.RowKit
section
variable {P:Program} {base N:Nat} {w0:W0} {w:World} {g:Gh} {s:St} {a:Act} {K:St->Prop} {Q:Exit->Act->World->Prop} {o:Oper}
theorem Inv.VU {h:Heap} (I:Inv base g h w []) {b:Nat} (hbb:base<=b) (hb:b<w.heap.size) (hf:D3 g h b):Inv base { g with S:=λx=>g.S x\/x=b } h w []/\kL g { g with S:=λx=>g.S x\/x=b } h h w w:=by
 have T:kL g { g with S:=λx=>g.S x\/x=b } h h w w:=
  ⟨λ_ x=>.inl x,λ_ _=>rfl,λ_=>Nat.le_refl _,λi e sz xs dp _ hr=>⟨rfl,xs,dp,hr⟩,λi t cs _ hx=>⟨rfl,cs,hx⟩,rfl⟩
 refine ⟨⟨I.base_le,λx hx hlt=>hx.elim (λy=>I.S_old x y hlt) (λy=>absurd hbb qb),?_,λj=>Cq.sN T rfl rfl (λ_ _=>rfl) (I.obj j),?_,I.inj,I.dis,Ac.nil _ _,qd,λ_ _ _ _=>by simp,I.fb⟩,T⟩
 ·rintro x (hx | rfl);(exact I.S_lt x hx);·exact hb
 ·rintro j x hl hx (hS | rfl);(exact I.mtb j x hl hx hS);·exact hf.2 j hl hx
theorem Jj {w:World} : ∀(l:List UInt8),aV w (Cr l) (l.map λb=>Value.int .u8 (b.toNat:Int)) []
 | []=>by simp [Cr,aV]
 | b::l=>by have ih:=Jj (w:=w) l;simp only [Cr,List.map_cons,aV];refine ⟨[.int .u8 b.toNat],_,[],[],rfl,rfl,?_,ih⟩;simp only [aJ];exact ⟨_,[],[],[],rfl,rfl,by simp [Rep],rfl,rfl⟩
theorem ML {w:World} : ∀ {xs:List (List D)} {cells:List Value} {G:List Nat},(∀x∈xs,∃b:UInt8,x=[.int .u8 (b.toNat:Int)])->aV w xs cells G->cells=(xs.map byteOf).map (λb=>Value.int .u8 (b.toNat:Int))
 | [],cells,G,_,h=>by simp only [aV] at h;simp [h.1]
 | x::xs,cells,G,hx,h=>by simp only [aV] at h;obtain ⟨v1,v2,F1,F2,rfl,rfl,h3,h4⟩:=h;obtain ⟨b,rfl⟩:=hx x qd;have ih:=ML (λy hy=>hx y (by simp [hy])) h4;simp only [aJ,Rep] at h3;obtain ⟨v,vs',_,_,rfl,_,⟨rfl,_⟩,rfl,_⟩:=h3;rw [ih];simp [byteOf]
theorem MS {src dst e:TypeId} {ad:Option Addr} {n c:Nat} {xs:List (List D)} (hs:P.underlying src=some (.slice e)) (he:P.underlying e=some (.int .u8)) (hd:P.underlying dst=some .string) (hn:n=xs.length)
  (hb : ∀x∈xs,∃b:UInt8,x=[.int .u8 (b.toNat:Int)]) (h:n=0 \/ ∃bb off cells G,ad=some ⟨bb,off,none⟩/\BX w bb off cells/\aV w xs cells G) (h0:n=0->ad=none \/ ∃a,ad=some a) :
  (convert src dst (.slice ad n c)).run P w = .ok (.string (strOf xs)) w:=by
 rcases Nat.eq_zero_or_pos n with hz | hz
 ·have hx:xs=[]:=List.eq_nil_of_length_eq_zero qb
  subst hx hz
  rw [run_convert_bytes_string w src dst e ad 0 c hs he hd]
  cases ad with
  | none=>simp [Conv.bytesToString,strOf];rfl
  | some a =>
   have:=run_bytesToString (P:=P) w a 0 c [] (by simp [loadCells,loadCellsFrom])
   simp [strOf] at this ⊢;exact this
 ·rcases h with h | ⟨bb,off,cells,G,rfl,hl,hr⟩
  ·omega
  ·have hc:=ML hb hr
   have hlen:n=(xs.map byteOf).length:=by simp [hn]
   rw [hlen]
   have:=run_convert_bytes_back (P:=P) w src dst e ⟨bb,off,none⟩ c (xs.map byteOf) hs he hd (λj hj=>by rw [Addr.add_lit];refine hl j _ ?_;rw [hc,List.getElem?_map,qF hj];rfl)
   exact this
theorem PO {t u:TypeId} {x:Operand} (ho:o.op = .convert t u x) (R:mJ P base w0 N g s a w []) (h:ex P (AL (fN P) N o) s K):o.wp P a w (Aft P base w0 N K) Q:=by
 simp only [AL,ho] at h
 split at h
 ·rename_i ti k sz0 by0 z0 cm0 sl0 hti hti';obtain ⟨i,d,z,h1,h2,h3,h4,_⟩:=(dP hti).ok;obtain ⟨i',d',z',h1',h2',h3',h4',_⟩:=(dP hti').ok;obtain rfl:=Ta h4';obtain ⟨sx,q1,q2⟩:=bX R h;split at q2;(rename_i k' n;refine wL R q2 (v:=.int k (k.wrap n)) ?_ B3;simp [execOp,ho,mK q1,convert,run_underlying h2,run_underlying h2',Conv.intToInt]);·exact q2.elim
 ·rename_i sz0 by0 z0 cm0 sl0 e sz1 by1 z1 cm1 sl1 hti hti'
  obtain ⟨i,d,z,h1,h2,h3,h4,_⟩:=(dP hti).ok
  obtain ⟨i',d',z',h1',h2',h3',h4',_⟩:=(dP hti').ok
  obtain rfl:=OP h4
  obtain rfl:=Ch h4'
  split at h
  ·rename_i sz2 by2 z2 cm2 sl2 hte
   obtain ⟨ie,de,ze,e1,e2,e3,e4,_⟩:=(dP hte).ok
   obtain rfl:=Ta e4
   obtain ⟨sx,q1,q2⟩:=bX R h
   split at q2
   ·rename_i b
    have hrun:=run_bytes_of_string (P:=P) w t u e b h2 h2' e2
    generalize hw':(w.drew.alloc (.cells (bytesRow b (grownCap w b.size 0 e)) e ((bytesRow b (grownCap w b.size 0 e)).size,(bytesRow b (grownCap w b.size 0 e)).size+1)))=w' at hrun
    have hsz:w'.heap.size=w.heap.size+1:=by rw [<-hw'];simp
    have hbl : ∀k,k<w.heap.size->w'.heap[k]? = w.heap[k]? := λk hk=>by rw [<-hw'];exact Below.heap_alloc w.drew _ k hk
    have hnew:w'.heap[w.heap.size]? = some (.cells (bytesRow b (grownCap w b.size 0 e)) e ((bytesRow b (grownCap w b.size 0 e)).size,(bytesRow b (grownCap w b.size 0 e)).size+1)):=by rw [<-hw'];exact heap_alloc_new w.drew _
    have I1:=R.inv.grow (w':=w') qb hbl
    have T1:kL g g s.h s.h w w':=kL.grow R.inv.S_lt hbl
    have hfree:D3 g s.h w.heap.size:=⟨λhS=>absurd (R.inv.S_lt _ hS) qb,λj hl hb=>absurd (R.inv.EP hl hb).2.lt qb⟩
    obtain ⟨I2,T2⟩:=I1.VU (b:=w.heap.size) R.inv.base_le qb hfree
    have R2:mJ P base w0 N _ s a w' []:=R.sN (T1.trans T2) rfl (R.bel ⟨by rw [<-hw'];rfl,by rw [<-hw'];rfl,by rw [<-hw'];rfl,qb,λk hk=>hbl k (Nat.lt_of_lt_of_le hk R.inv.base_le)⟩) I2
    have hv:uN { g with S:=λx=>g.S x\/x=w.heap.size } s.h w' (one (.sl (Cr b.data.toList))) (.slice (some ⟨w.heap.size,0,none⟩) b.size (grownCap w b.size 0 e)):=by
     refine ⟨_,[],rfl,⟨if b.size=0 then [] else [w.heap.size],?_,?_⟩,rfl⟩
     ·simp only [Rep]
      refine ⟨_,_,_,rfl,by simp [Cr],grownCap_ge w b.size 0 e,?_⟩
      by_cases h0:b.size=0
      ·rw [if_pos h0];exact .inl ⟨h0,rfl⟩
      ·rw [if_neg h0]
       refine .inr ⟨w.heap.size,0,b.data.toList.map (λc=>Value.int .u8 (c.toNat:Int)),1,[],rfl,qb,rfl,?_,qd,?_,Jj _⟩
       ·intro j v hj
        rw [Nat.zero_add,cell_of_row w' _ _ _ _ _ hnew]
        unfold bytesRow
        rw [List.getElem?_map] at hj
        have hjl:j<b.data.size:=by rcases Nat.lt_or_ge j b.data.size with hh | hh;(exact hh);·rw [qX (by simpa using hh)] at hj;simp at hj
        rw [Array.getElem?_append_left (by simpa using hjl)]
        simpa using hj
       ·intro y hy;unfold Cr at hy;obtain ⟨c,_,rfl⟩:=List.mem_map.1 hy;rfl
     ·intro y hy;split at hy;(simp at hy);·simp at hy;exact .inr hy
    obtain ⟨s2,m1,m2⟩:=B1 R2 hv q2
    refine C4 (v:=.slice (some ⟨w.heap.size,0,none⟩) b.size (grownCap w b.size 0 e)) (w':=w') ?_ ⟨s2,m1,_,m2⟩
    simp only [execOp,ho,FH q1,Sem.run_bind,hrun,Result.andThen_ok,Sem.run_pure]
   ·exact q2.elim
  ·exact h.elim
 ·rename_i e sz0 by0 z0 cm0 sl0 sz1 by1 z1 cm1 sl1 hti hti';obtain ⟨i,d,z,h1,h2,h3,h4,_⟩:=(dP hti).ok;obtain ⟨i',d',z',h1',h2',h3',h4',_⟩:=(dP hti').ok;obtain rfl:=Ch h4;obtain rfl:=OP h4';split at h;(rename_i sz2 by2 z2 cm2 sl2 hte;obtain ⟨ie,de,ze,e1,e2,e3,e4,_⟩:=(dP hte).ok;obtain rfl:=Ta e4;obtain ⟨sx,q1,q2⟩:=bX R h;split at q2;(rename_i xs;obtain ⟨hb,q2⟩:=q2;obtain ⟨ad,n,c,k1,k2,k3,k4⟩:=KN q1;refine wL R q2 (v:=.string (strOf xs)) ?_ NO;have hrun:=MS (P:=P) (w:=w) (c:=c) (ad:=ad) h2 e2 h2' k2 hb (by rcases k4 with k4 | ⟨bb,off,cells,sz,G,m1,m2,m3,m4,m5,m6,m7,m8⟩;(exact .inl k4);·exact .inr ⟨bb,off,cells,G,m1,m4,m7⟩) (λ_=>by cases ad<;>simp);simp only [execOp,ho,k1,Sem.run_bind,hrun,Result.andThen_ok,Sem.run_pure]);(refine wL R q2 (v:=.string ByteArray.empty) ?_ NO;have hx:a.eval x = .slice none 0 0:=eE q1;simp only [execOp,ho,hx,Sem.run_bind,run_convert_bytes_string w t u e none 0 0 h2 e2 h2',Conv.bytesToString,Result.andThen_ok,Sem.run_pure]);(rename_i j ver;obtain ⟨hone,hle,hcap⟩:=eE q1;simp only [ex] at q2;split at q2;(rename_i e' sz' xs dp hh;split at q2;(rename_i hc;obtain ⟨hb,q2⟩:=q2;have hval:=hcap hc _ _ _ _ hh;obtain ⟨F,hr⟩:=FV R.inv hh;simp only [Rep] at hr;obtain ⟨ad,n,c,k1,k2,k3,k4⟩:=hr;refine wL R q2 (v:=.string (strOf xs)) ?_ NO;have hrun:=MS (P:=P) (w:=w) (c:=c) (ad:=ad) h2 e2 h2' k2 hb (by rcases k4 with ⟨k4,_⟩ | ⟨bb,off,cells,sz,G,m1,m2,m3,m4,m5,m6,m7⟩;(exact .inl k4);·exact .inr ⟨bb,off,cells,G,m1,m4,m7⟩) (λ_=>by cases ad<;>simp);simp only [execOp,ho,hval,k1,Sem.run_bind,hrun,Result.andThen_ok,Sem.run_pure]);·exact q2.elim);·exact q2.elim);·exact q2.elim);·exact h.elim
 ·exact h.elim
theorem OL {x:Operand} (ho:o.op = .nilCheck x) (R:mJ P base w0 N g s a w []) (h:ex P (AL (fN P) N o) s K):o.wp P a w (Aft P base w0 N K) Q:=by simp only [AL,ho] at h;obtain ⟨sx,q1,q2⟩:=bX R h;split at q2;(rename_i i ver off;obtain ⟨hone,hle,hcap⟩:=eE q1;simp only [ex] at q2;split at q2;(rename_i t' cs' e2;split at q2;(rename_i e1;obtain ⟨b,e3,e4⟩:=hcap e1 t' cs' e2;exact wL R q2 (v:=a.eval x) (by simp [execOp,ho,e4]) q1);·exact q2.elim);·exact q2.elim);(rename_i i ver j off;obtain ⟨hone,hle,hcap⟩:=eE q1;simp only [ex] at q2;split at q2;(rename_i e sz' xs dp e2;split at q2;(rename_i e1;obtain ⟨b,n,c,e3,e4⟩:=hcap e1 _ _ _ _ e2;exact wL R q2 (v:=a.eval x) (by simp [execOp,ho,e4]) q1);·exact q2.elim);·exact q2.elim);(rename_i ds;obtain ⟨b,off,cells,F,e1,_⟩:=Qz q1;exact wL R q2 (v:=a.eval x) (by simp [execOp,ho,e1]) q1);(rename_i f ds;obtain ⟨F,r1,r2⟩:=eE q1;simp only [Rep] at r1;obtain ⟨cv,r3,r4⟩:=r1;exact wL R q2 (v:=a.eval x) (by simp [execOp,ho,r3]) q1);(rename_i f cs;obtain ⟨cv,r3,r4⟩:=eE q1;exact wL R q2 (v:=a.eval x) (by simp [execOp,ho,r3]) q1);·exact q2.elim
theorem YN {as:Array Operand} {ts:Array TypeId} (ho:o.op = .call { callee:=.builtin .min,args:=as,argTypes:=ts }) (R:mJ P base w0 N g s a w []) (h:ex P (AL (fN P) N o) s K):o.wp P a w (Aft P base w0 N K) Q:=by simp only [AL,ho] at h;split at h;(rename_i x y hx;have hx:=VS hx;subst hx;obtain ⟨sx,q1,q2⟩:=bX R h;obtain ⟨sy,q3,q4⟩:=bX R q2;split at q4;(rename_i k m k' n;refine wL R q4 (v:=.int k (if n<m then n else m)) ?_ B3;simp [execOp,ho,resolve,invoke,builtin,Builtin.min_,Builtin.min2,mK q1,mK q3]);·exact q4.elim);·exact h.elim
theorem Yp {as:Array Operand} {ts:Array TypeId} (ho:o.op = .call { callee:=.builtin .max,args:=as,argTypes:=ts }) (R:mJ P base w0 N g s a w []) (h:ex P (AL (fN P) N o) s K):o.wp P a w (Aft P base w0 N K) Q:=by simp only [AL,ho] at h;split at h;(rename_i x y hx;have hx:=VS hx;subst hx;obtain ⟨sx,q1,q2⟩:=bX R h;obtain ⟨sy,q3,q4⟩:=bX R q2;split at q4;(rename_i k m k' n;refine wL R q4 (v:=.int k (if n>m then n else m)) ?_ B3;simp [execOp,ho,resolve,invoke,builtin,Builtin.max_,Builtin.max2,mK q1,mK q3]);·exact q4.elim);(rename_i x y z hx;have hx:=aAs hx;subst hx;obtain ⟨sx,q1,q2⟩:=bX R h;obtain ⟨sy,q3,q4⟩:=bX R q2;obtain ⟨sz,q5,q6⟩:=bX R q4;split at q6;(rename_i k m k' n k'' q;refine wL R q6 (v:=.int k (if q>(if n>m then n else m) then q else (if n>m then n else m))) ?_ B3;simp [execOp,ho,resolve,invoke,builtin,Builtin.max_,Builtin.max2,mK q1,mK q3,mK q5]);·exact q6.elim);·exact h.elim
theorem Mp (R:mJ P base w0 N g s a w []) : ∀ {xs:List Operand} {k:List (Nat×Nat×Nat)->Prog},ex P (MU xs k) s K -> ∃cs,De g s.h cs (xs.map a.eval)/\ex P (k cs) s K
 | [],k,h=>⟨[],rfl,h⟩
 | x::xs,k,h=>by obtain ⟨sv,h1,h2⟩:=bX R h;split at h2;(rename_i i ver off;obtain ⟨_,hc⟩:=eE h1;obtain ⟨cs,k1,k2⟩:=Mp R h2;exact ⟨(i,ver,off)::cs,⟨a.eval x,xs.map a.eval,rfl,hc,k1⟩,k2⟩);·exact h2.elim
theorem Ow {f:FuncId} {first captured:Array Operand} (ho:o.op = .makeFunc (.func f) first captured) (R:mJ P base w0 N g s a w []) (h:ex P (AL (fN P) N o) s K):o.wp P a w (Aft P base w0 N K) Q:=by
 simp only [AL,ho] at h
 split at h
 ·rename_i hf
  have hf:first = #[]:=Array.eq_empty_of_size_eq_zero hf
  subst hf
  obtain ⟨cs,k1,k2⟩:=Mp R h
  have hrun:(execOp a.eval o).run P w = .ok (.value (.func (.func f) #[] (captured.map a.eval))) w:=by simp [execOp,ho,Instr.makeFunc]
  refine wL R k2 hrun ⟨_,[],rfl,?_,rfl⟩
  have hcm:captured.map a.eval=(captured.toList.map a.eval).toArray:=by rw [<-Array.toList_map,Array.toArray_toList]
  cases cs with
  | nil =>
   refine ⟨[],?_,qd⟩
   simp only [Rep]
   have:captured.toList.map a.eval=[]:=k1
   exact ⟨[],by rw [hcm,this],by simp [aJ]⟩
  | cons c cs=>exact ⟨_,by rw [hcm],k1⟩
 ·exact h.elim
theorem Mu : ∀ {xs:List (Bool×List SC)} {vs:List Value},Dn g s.h w xs vs -> ∀ {i:Nat} {x:Bool×List SC},xs[i]? = some x -> ∃v,vs[i]? = some v/\F7 g s.h w x v
 | [],vs,h,i,x,hi=>by simp at hi
 | y::xs,vs,h,i,x,hi=>by
  obtain ⟨v,vs',rfl,h1,h2⟩:=h
  cases i with
  | zero=>simp at hi;subst hi;exact ⟨v,qd,h1⟩
  | succ i=>simp at hi;obtain ⟨u,k1,k2⟩:=Mu h2 hi;exact ⟨u,by simpa using k1,k2⟩
theorem PN {x:Operand} {i:Nat} (ho:o.op = .extract x i) (R:mJ P base w0 N g s a w []) (h:ex P (AL (fN P) N o) s K):o.wp P a w (Aft P base w0 N K) Q:=by
 simp only [AL,ho] at h
 obtain ⟨sx,q1,q2⟩:=bX R h
 split at q2
 ·rename_i vs
  split at q2
  ·rename_i ag cs hh
   obtain ⟨us,k1,k2⟩:=q1
   obtain ⟨v,k3,k4⟩:=Mu k2 hh
   refine wL R q2 (v:=v) ?_ k4
   have:us[i]? = some v:=by simpa using k3
   simp [execOp,ho,k1,Instr.extract,this]
  ·exact q2.elim
 ·exact q2.elim
theorem Fl {f:FuncId} (hb:KP P f) (args:Array Value) (w:World):(callFunc f args).run P w = .ok (.enter f args) w:=by
 obtain ⟨fn,c,h1,h2,h3⟩:=hb
 have h3' : ¬ fn.name = "runtime.NumGoroutine" := by simpa using h3
 simp [callFunc,h1,h2,h3']
theorem GI {w:World} : ∀ {vs us:List Value} {xs ys:List (Bool×List D)} {F G:List Nat},xJ w vs xs F->xJ w us ys G->xJ w (vs++us) (xs++ys) (F++G)
 | [],us,[],ys,F,G,e,h=>by rw [show F=[] from e];exact h
 | v::vs,us,x::xs,ys,F,G,⟨F1,F2,e,h1,h2⟩,h=>⟨F1,F2++G,by rw [e,qS],h1,GI h2 h⟩
theorem JK {w:World} : ∀ {ds:List D} {vs:List Value} {F:List Nat},aJ w ds vs F->xJ w vs (ds.map λc=>(false,[c])) F
 | [],vs,F,h=>by simp only [aJ] at h;rw [h.1,h.2];rfl
 | d::ds,vs,F,h=>by simp only [aJ] at h;obtain ⟨v,vs',F1,F2,rfl,rfl,h3,h4⟩:=h;exact ⟨F1,F2,rfl,⟨d,rfl,h3⟩,JK h4⟩
theorem RU {t:Nat} {as:Array Operand} {ts:Array TypeId} (ho:o.op = .call { callee:=.value (.tmp t),args:=as,argTypes:=ts }) (R:mJ P base w0 N g s a w []) (h:ex P (AL (fN P) N o) s K):o.wp P a w (Aft P base w0 N K) Q:=by
 simp only [AL,ho] at h
 obtain ⟨avs,Fa,k1,k2⟩:=Du R h
 simp only [ex] at k2
 have hfn:=R.tmp t
 have fin : ∀ {f:FuncId} {caps:List Value} {ds:List D} {F:List Nat},a.tmps.getD t undef = .func (.func f) #[] caps.toArray->aJ w ds caps F->ex P (Prog.call f (avs++ds.map λc=>(false,[c])) λrs=>if AJ rs=true then .fail else Cc N o.dst rs) s K->o.wp P a w (Aft P base w0 N K) Q:=by
  rintro f caps ds F hf hr ⟨rs,hs,hk⟩
  unfold Oper.wp
  have hf':a.tmps[t]?.getD undef = .func (.func f) #[] caps.toArray:=by simpa using hf
  have hrun:(execOp a.eval o).run P w = .ok (.enter f (as.map a.eval++caps.toArray)) w:=by simp [execOp,ho,resolve,Act.eval,hf',Deferred.ofValue,invoke,Fl hs.body]
  rw [hrun]
  unfold Oper.upon
  dsimp only at hk
  split at hk
  ·exact hk.elim
  ·rename_i han
   refine Nx (Fa:=Fa++F) R ?_ (λhh=>absurd hh han) (hs.old (by simpa using han)) hk λv w' hh=>hh
   simpa using GI k1 (JK hr)
 split at k2
 ·rename_i f caps hv;rw [hv] at hfn;obtain ⟨F,r1,r2⟩:=eE hfn;simp only [Rep] at r1;obtain ⟨cv,r3,r4⟩:=r1;exact fin r3 r4 k2
 ·rename_i f caps hv;rw [hv] at hfn;obtain ⟨cv,r3,r4⟩:=eE hfn;obtain ⟨ds,F,r5,r6⟩:=Fv R.inv r4 k2;exact fin r3 r5 r6
 ·exact k2.elim
end
end Go.Sh
namespace Go.Sh
open Go.RowKit Go.Lib
section
variable {P:Program} {base N:Nat} {w0:W0} {w:World} {g:Gh} {s:St} {a:Act} {K:St->Prop} {Q:Exit->Act->World->Prop} {o:Oper} {pool:List Nat}
theorem St.aF8 {s τ:St} (h1:s.t=τ.t) (h2:s.h=τ.h) (h3:s.fr=τ.fr:=by rfl):s=τ:=by cases s;cases τ;simp at h1 h2 h3;rw [h1,h2,h3]
theorem Inv.Z3 {h:Heap} {w':World} (I:Inv base g h w pool) (hs:w.heap.size<=w'.heap.size) (hb : ∀b,b<w.heap.size -> ¬D3 g h b->w'.heap[b]? = w.heap[b]?):Inv base g h w' pool/\kL g g h h w w':=by
 have hS : ∀b,g.S b->w'.heap[b]? = w.heap[b]? := λb x=>hb b (I.S_lt b x) λhf=>hf.1 x
 have T:kL g g h h w w':=⟨λ_ x=>x,hS,λ_=>Nat.le_refl _,λi e sz xs dp _ hr=>⟨rfl,xs,dp,hr⟩,λi t cs _ hx=>⟨rfl,cs,hx⟩,rfl⟩
 refine ⟨⟨Nat.le_trans I.base_le hs,I.S_old,λb x=>Nat.lt_of_lt_of_le (I.S_lt b x) hs,λi => ?_,I.mtb,I.inj,I.dis,I.pool_own.AH λb x=>hS b (I.pool_S b x),I.pool_S,I.pool_dis,I.fb⟩,T⟩
 by_cases hl:live h i
 ·exact Cq.sN T rfl rfl (λb hbb=>hb b (I.EP hl hbb).2.lt λhf=>hf.2 i hl hbb) (I.obj i)
 ·unfold live at hl
  have:(h i).2 = .none:=by
   cases hh:(h i).2 with
   | none=>rfl
   | box t c=>exact absurd (by rw [hh];simp) hl
   | row e z x d=>exact absurd (by rw [hh];simp) hl
   | pin j v u=>exact absurd (by rw [hh];simp) hl
  rw [this];trivial
theorem Inv.C3 {h:Heap} (I:Inv base g h w pool) {i:Nat} {e:TypeId} {sz:Nat} {xs:List (List D)} {dp:Bool} (hi:(h i).2 = .row e sz xs dp) :
  Inv base g (sB h i ((h i).1,.none)) w (if dp then pool++g.fp i else pool)/\(∀b,Bj (g.val i)=some b->D3 g (sB h i ((h i).1,.none)) b):=by
 have hlive:live h i:=by unfold live;rw [hi];simp
 have hfree : ∀b,Bj (g.val i)=some b->D3 g (sB h i ((h i).1,.none)) b:=by intro b hb;refine ⟨I.mtb i b hlive hb,λj hl hb' => ?_⟩;obtain ⟨hne,hl⟩:=Aa hl;exact I.inj j i b hne hl hlive hb' hb
 have ID:=I.drop i
 cases dp with
 | false=>exact ⟨ID,hfree⟩
 | true =>
  refine ⟨?_,hfree⟩
  have ho:=I.obj i
  rw [hi] at ho
  obtain ⟨cells,h1,h2,h3,h4,h5⟩:=ho
  have hown:=h5 rfl
  have hdi:iV h i:=⟨e,sz,xs,hi⟩
  refine ⟨ID.base_le,ID.S_old,ID.S_lt,ID.obj,ID.mtb,ID.inj,ID.dis,⟨?_,?_⟩,?_,?_,I.fb⟩
  ·simp only [if_true];rw [List.nodup_append];exact ⟨I.pool_own.1,hown.1,by rintro x hx y hy rfl;exact I.pool_dis i hdi _ hy hx⟩
  ·simp only [if_true];intro b hb;rcases List.mem_append.1 hb with hb | hb;(exact I.pool_own.2 b hb);·exact hown.2 b hb
  ·simp only [if_true];intro b hb;rcases List.mem_append.1 hb with hb | hb;(exact I.pool_S b hb);·exact h4 b hb
  ·simp only [if_true];intro j hd b hb hb';obtain ⟨hne,hd⟩:=Bb hd;rcases List.mem_append.1 hb' with hb' | hb';(exact I.pool_dis j hd b hb hb');·exact I.dis j i hne hd hdi b hb hb'
theorem Inv.D4 {h:Heap} {w':World} (I:Inv base g h w pool) {i b:Nat} {o':CT} {F:List Nat} {pool':List Nat} (hl:live h i) (hv:Bj (g.val i)=some b)
  (hs:w'.heap.size=w.heap.size) (hb : ∀k,k≠b->w'.heap[k]? = w.heap[k]?)
  (T:kL g { g with fp:=E8 g.fp i F } h (sB h i ((h i).1,o')) w w')
  (ho:Cq base { g with fp:=E8 g.fp i F } (sB h i ((h i).1,o')) w' i o') (hpl : ∀x∈pool',x∈pool) (hpn:pool'.Nodup)
  (hd:(∃e sz xs,o' = .row e sz xs true) -> ∀x∈F,(x∈pool\/(iV h i/\x∈g.fp i))/\x∉pool') :
  Inv base { g with fp:=E8 g.fp i F } (sB h i ((h i).1,o')) w' pool':=by
 have hnS : ¬g.S b:=I.mtb i b hl hv
 have lv : ∀j,live (sB h i ((h i).1,o')) j->live h j:=by intro j hj;rcases ED hj with rfl | ⟨_,hj⟩;(exact hl);·exact hj
 have hdi:iV (sB h i ((h i).1,o')) i -> ∃e sz xs,o' = .row e sz xs true:=by rintro ⟨e,sz,xs,hh⟩;rw [bM] at hh;exact ⟨e,sz,xs,hh⟩
 refine ⟨by rw [hs];exact I.base_le,I.S_old,λk x=>by rw [hs];exact I.S_lt k x,λj => ?_,λj k hj hk=>I.mtb j k (lv j hj) hk,λj k x hne hj hk=>I.inj j k x hne (lv j hj) (lv k hk),λj k hne hj hk x hx hx' => ?_,
  ⟨hpn,λx hx=>⟨(I.pool_own.2 x (hpl x hx)).1,(I.pool_own.2 x (hpl x hx)).2.AH (hb x λe=>hnS (e ▸ I.pool_S x (hpl x hx)))⟩⟩,λx hx=>I.pool_S x (hpl x hx),λj hj x hx hx' => ?_,I.fb⟩
 ·by_cases hj:j=i
  ·subst hj;rw [bM];exact ho
  ·rw [fO _ _ _ _ hj]
   by_cases hlj:live h j
   ·refine Cq.sN T rfl (B7 _ _ _ _ hj) (λk hk=>hb k λe => ?_) (I.obj j);subst e;exact I.inj j i k hj hlj hl hk hv
   ·unfold live at hlj
    have:(h j).2 = .none:=by
     cases hh:(h j).2 with
     | none=>rfl
     | box t c=>exact absurd (by rw [hh];simp) hlj
     | row e z x d=>exact absurd (by rw [hh];simp) hlj
     | pin j v u=>exact absurd (by rw [hh];simp) hlj
    rw [this];trivial
 ·have hin : ∀j',iV h j' -> ∀y∈g.fp j',y∉pool:=I.pool_dis
  rcases Dx hj with rfl | ⟨hj',hjd⟩
  ·rcases Dx hk with rfl | ⟨hk',hkd⟩
   ·exact hne rfl
   ·have hx1:x∈F:=by simpa [dS] using hx
    have hx2:x∈g.fp k:=by simpa [B7 _ _ _ _ hk'] using hx'
    rcases (hd (hdi hj) x hx1).1 with hp | ⟨hdj,hp⟩
    ·exact hin k hkd x hx2 hp
    ·exact I.dis j k hne hdj hkd x hp hx2
  ·have hx1:x∈g.fp j:=by simpa [B7 _ _ _ _ hj'] using hx
   rcases Dx hk with rfl | ⟨hk',hkd⟩
   ·have hx2:x∈F:=by simpa [dS] using hx'
    rcases (hd (hdi hk) x hx2).1 with hp | ⟨hdk,hp⟩
    ·exact hin j hjd x hx1 hp
    ·exact I.dis j k hne hjd hdk x hx1 hp
   ·have hx2:x∈g.fp k:=by simpa [B7 _ _ _ _ hk'] using hx'
    exact I.dis j k hne hjd hkd x hx1 hx2
 ·rcases Dx hj with rfl | ⟨hj',hjd⟩
  ·have hx1:x∈F:=by simpa [dS] using hx
   exact (hd (hdi hj) x hx1).2 hx'
  ·have hx1:x∈g.fp j:=by simpa [B7 _ _ _ _ hj'] using hx
   exact I.pool_dis j hjd x hx1 (hpl x hx')
theorem kL.D4 {h:Heap} {w':World} {i b:Nat} {o':CT} {F:List Nat} (hnS : ¬g.S b) (hb : ∀k,k≠b->w'.heap[k]? = w.heap[k]?)
  (hr : ∀e sz xs dp,o' = .row e sz xs dp -> ∃xs0 dp0,(h i).2 = .row e sz xs0 dp0) (hx : ∀t cs,o' = .box t cs -> ∃cs0,(h i).2 = .box t cs0) :
  kL g { g with fp:=E8 g.fp i F } h (sB h i ((h i).1,o')) w w':=by
 refine ⟨λ_ x=>x,λk x=>hb k λe=>hnS (e ▸ x),λj => ?_,λj e sz xs dp hj hrr => ?_,λj t cs hj hxx => ?_,rfl⟩
 ·by_cases hj:j=i;(subst hj;rw [bM];exact Nat.le_refl _);·rw [fO _ _ _ _ hj];exact Nat.le_refl _
 ·by_cases hji:j=i;(subst hji;rw [bM] at hrr;exact ⟨rfl,hr _ _ _ _ hrr⟩);·rw [fO _ _ _ _ hji] at hrr;exact ⟨rfl,xs,dp,hrr⟩
 ·by_cases hji:j=i;(subst hji;rw [bM] at hxx;exact ⟨rfl,hx _ _ hxx⟩);·rw [fO _ _ _ _ hji] at hxx;exact ⟨rfl,cs,hxx⟩
theorem Jy : ∀ {xs:List (List D)} {vs:List Value} {G:List Nat},aV w xs vs G->xs.all (λy=>y.all D.flat)=true->G=[]
 | [],vs,G,h,_=>by simp only [aV] at h;exact h.2
 | x::xs,vs,G,h,hf=>by
  simp only [aV] at h
  obtain ⟨v1,v2,F1,F2,rfl,rfl,h3,h4⟩:=h
  simp only [List.all_cons,qM] at hf
  rw [Jy h4 hf.2]
  have : ∀ {ds:List D} {us:List Value} {F:List Nat},aJ w ds us F->ds.all D.flat=true->F=[]:=by
   intro ds
   induction ds with
   | nil=>intro us F h _;simp only [aJ] at h;exact h.2
   | cons d ds ih =>
    intro us F h hf
    simp only [aJ] at h
    obtain ⟨v,vs',F1,F2,rfl,rfl,h3,h4⟩:=h
    simp only [List.all_cons,qM] at hf
    rw [Iy h3 hf.1,ih h4 hf.2];rfl
  rw [this h3 hf.1];rfl
theorem Hk {w:World} {sz:Nat} : ∀ {n:Nat} {vs:List Value},vs.length=n*sz->(∀u∈vs,u.oneCell'=true)->aV w (List.replicate n (List.replicate sz .opq)) vs []
 | 0,vs,h,_=>by simp only [List.replicate_zero,aV];exact ⟨List.eq_nil_of_length_eq_zero qb,trivial⟩
 | n+1,vs,h,h1=>by
  have hc : ∀ {m:Nat} {us:List Value},us.length=m->(∀u∈us,u.oneCell'=true)->aJ w (List.replicate m .opq) us []:=by
   intro m
   induction m with
   | zero=>intro us hl _;simp only [List.replicate_zero,aJ];exact ⟨List.eq_nil_of_length_eq_zero hl,trivial⟩
   | succ m ih =>
    intro us hl hu
    cases us with
    | nil=>simp at hl
    | cons u us =>
     simp only [List.replicate_succ,aJ]
     refine ⟨u,us,[],[],rfl,rfl,?_,ih (by simpa using hl) λx hx=>hu x (by simp [hx])⟩
     simp only [Rep];exact ⟨hu u qd,trivial⟩
  have hl:(n+1)*sz=n*sz+sz:=Nat.succ_mul _ _
  simp only [List.replicate_succ,aV]
  exact ⟨vs.take sz,vs.drop sz,[],[],(List.take_append_drop sz vs).symm,rfl,hc (by rw [qT];omega) λu hu=>h1 u (List.mem_of_mem_take hu),Hk (by rw [qU];omega) λu hu=>h1 u (List.mem_of_mem_drop hu)⟩
theorem Rp (n sz:Nat) : ∀x∈List.replicate n (List.replicate sz D.opq),x.all D.flat=true:=by intro x hx;rw [(List.mem_replicate.1 hx).2,qQ];intro d hd;rw [(List.mem_replicate.1 hd).2];rfl
theorem dB.aAj {L:TL} {e:TypeId} {ys:List (List D)} {vs:List Value} {G:List Nat} (h:aV w ys vs G):dB L (ys.all λy=>y.all D.flat) w e ys vs G:=by
 cases hb:(ys.all λy=>y.all D.flat) with
 | true=>exact dB.flat h (List.all_eq_true.1 hb)
 | false=>exact h
theorem SF {l:List UInt8} : ∀x∈Cr l,x.all D.flat=true:=by intro x hx;obtain ⟨b,_,rfl⟩:=List.mem_map.1 hx;rfl
theorem Inv.aBd {h:Heap} (I:Inv base g h w pool) {i:Nat} {e:TypeId} {sz:Nat} {xs xs':List (List D)} {dp:Bool} {cells:List Value} {F pool':List Nat} (hi:(h i).2 = .row e sz xs dp) (ho:w.ownsRow base e sz (g.val i) xs'.length cells)
  (hx : ∀x∈xs',x.length=sz) (hr:dB g.Q.L dp w e xs' cells F) (hF : ∀b∈F,b∈g.fp i) (hFn:dp=true->F.Nodup) (hp : ∀b∈pool',b∈pool\/(dp=true/\b∈g.fp i/\b∉F)) (hpn:pool'.Nodup) :
  Inv base (Mb g i (g.val i) F) (sB h i ((h i).1,.row e sz xs' dp)) w pool'/\kL g (Mb g i (g.val i) F) h (sB h i ((h i).1,.row e sz xs' dp)) w w:=by
 have hlive:live h i:=by unfold live;rw [hi];simp
 have hob:=I.obj i
 rw [hi] at hob
 obtain ⟨cells0,p1,p2,p3,p4,p5⟩:=hob
 have vv : ∀j,(Mb g i (g.val i) F).val j=g.val j:=λj=>by by_cases hj:j=i;(subst hj;exact dS _ _ _);·exact B7 _ _ _ _ hj
 have fi:(Mb g i (g.val i) F).fp i=F:=dS _ _ _
 have fn : ∀j,j≠i->(Mb g i (g.val i) F).fp j=g.fp j:=λj hj=>B7 _ _ _ _ hj
 have T:kL g (Mb g i (g.val i) F) h (sB h i ((h i).1,.row e sz xs' dp)) w w:=by refine ⟨λ_ x=>x,λ_ _=>rfl,λj => ?_,λj e' sz' ys dp' _ hj => ?_,λj t cs _ hj => ?_,rfl⟩;(by_cases hj:j=i;(subst hj;rw [bM];exact Nat.le_refl _);·rw [fO _ _ _ _ hj];exact Nat.le_refl _);(refine ⟨vv j,?_⟩;by_cases hji:j=i;(subst hji;rw [bM] at hj;cases hj;exact ⟨xs,dp,hi⟩);·rw [fO _ _ _ _ hji] at hj;exact ⟨ys,dp',hj⟩);·refine ⟨vv j,?_⟩;by_cases hji:j=i;(subst hji;rw [bM] at hj;cases hj);·rw [fO _ _ _ _ hji] at hj;exact ⟨cs,hj⟩
 have lv : ∀j,live (sB h i ((h i).1,.row e sz xs' dp)) j->live h j:=λj hl=>by by_cases hj:j=i;(subst hj;exact hlive);·unfold live at hl ⊢;rw [fO _ _ _ _ hj] at hl;exact hl
 have dv : ∀j,iV (sB h i ((h i).1,.row e sz xs' dp)) j->iV h j:=λj hl=>by by_cases hj:j=i;(subst hj;obtain ⟨e',sz',ys,hh⟩:=hl;rw [bM] at hh;cases hh;exact ⟨e,sz,xs,hi⟩);·obtain ⟨e',sz',ys,hh⟩:=hl;rw [fO _ _ _ _ hj] at hh;exact ⟨e',sz',ys,hh⟩
 have fsub : ∀j,∀b∈(Mb g i (g.val i) F).fp j,b∈g.fp j:=λj b hb=>by by_cases hj:j=i;(subst hj;rw [fi] at hb;exact hF b hb);·rw [fn j hj] at hb;exact hb
 have down:dp=true->iV h i:=λhd=>by subst hd;exact ⟨e,sz,xs,hi⟩
 refine ⟨⟨I.base_le,I.S_old,I.S_lt,λj => ?_,λj b hl hb => ?_,λj k b hne hl hk hb hb' => ?_,λj k hne hj hk b hb hb' => ?_,⟨hpn,λb hb => ?_⟩,λb hb => ?_,λj hj b hb hb' => ?_,I.fb⟩,T⟩
 ·by_cases hj:j=i;(subst hj;rw [bM];exact ⟨cells,by rw [vv];exact ho,hx,by rw [fi];exact hr,by rw [fi];exact λb hb=>p4 b (hF b hb),λhd=>by rw [fi];exact ⟨hFn hd,λb hb=>(p5 hd).2 b (hF b hb)⟩⟩);·rw [fO _ _ _ _ hj];exact Cq.sN T (vv j) (fn j hj) (λ_ _=>rfl) (I.obj j)
 ·rw [vv] at hb;exact I.mtb j b (lv j hl) hb
 ·rw [vv] at hb hb';exact I.inj j k b hne (lv j hl) (lv k hk) hb hb'
 ·exact I.dis j k hne (dv j hj) (dv k hk) b (fsub j b hb) (fsub k b hb')
 ·rcases hp b hb with h1 | ⟨hd,h1,_⟩;(exact I.pool_own.2 b h1);·exact (p5 hd).2 b h1
 ·rcases hp b hb with h1 | ⟨hd,h1,_⟩;(exact I.pool_S b h1);·exact p4 b h1
 ·rcases hp b hb' with h1 | ⟨hd,h1,h2⟩;(exact I.pool_dis j (dv j hj) b (fsub j b hb) h1);·by_cases hji:j=i;(subst hji;rw [fi] at hb;exact h2 hb);·exact I.dis j i hji (dv j hj) (down hd) b (fsub j b hb) h1
theorem FQ {e0:TypeId} (R:mJ P base w0 N g s a w pool) {sv:SV} {xv:Value} {k:List (List D)->Bool->Prog} (hv:uN g s.h w sv xv) (h:ex P (Ck e0 sv k) s K) :
  ∃g' s' ys b ad m c pool' cells G,ex P (k ys b) s' K/\mJ P base w0 N g' s' a w pool'/\kL g g' s.h s'.h w w/\s'.t=s.t/\xv = .slice ad m c/\m=ys.length/\(∀b,D3 g s.h b->D3 g' s'.h b)/\(∀j,(s'.h j).1=(s.h j).1) /\
   dB g.Q.L b w e0 ys cells G/\(∀y∈G,g'.S y)/\(b=true->(pool++G).Nodup /\ ∀x∈pool++G,x∈pool') /\
    (m=0 \/ ∃bb off sz,ad=some ⟨bb,off,none⟩/\BX w bb off cells/\cells.length=m*sz /\ ∀x∈ys,x.length=sz):=by
 unfold Ck at h
 split at h
 ·rename_i ys;obtain ⟨ad,n,c,k1,k2,k3,k4⟩:=KN hv;rcases k4 with k4 | ⟨b,off,cells,sz,G,rfl,m2,m3,m4,m5,m6,m7,m8⟩;(have hy:ys=[]:=List.eq_nil_of_length_eq_zero qb;subst hy;exact ⟨g,s,[],_,ad,n,c,pool,[],[],h,R,kL.refl _ _ _,rfl,k1,k2,λ_ x=>x,λ_=>rfl,dB.nil,qd,λ_=>by simpa using R.inv.pool_own.1,.inl k4⟩);·refine ⟨g,s,ys,_,_,n,c,pool,cells,G,h,R,kL.refl _ _ _,rfl,k1,k2,λ_ x=>x,λ_=>rfl,dB.aAj m7,m8,λhb => ?_,.inr ⟨b,off,sz,rfl,m4,m5,m6⟩⟩;rw [Jy m7 hb];simpa using R.inv.pool_own.1
 ·have hx:=eE hv;exact ⟨g,s,[],true,none,0,0,pool,[],[],h,R,kL.refl _ _ _,rfl,hx,rfl,λ_ x=>x,λ_=>rfl,dB.nil,qd,λ_=>by simpa using R.inv.pool_own.1,.inl rfl⟩
 ·rename_i i ver
  obtain ⟨hone,hle,hcap⟩:=eE hv
  simp only [ex] at h
  split at h
  ·rename_i e sz ys dp hh
   split at h
   ·rename_i hc
    have hval:=hcap hc _ _ _ _ hh
    obtain ⟨S',F,t1,t1b,t2,tS,tF,t3,t4,t5⟩:=R.inv.take hh
    have T:kL g { g with S:=S' } s.h (sB s.h i ((s.h i).1,.none)) w w:=kL.drop i S' t1
    rw [hc] at T t5
    have R':mJ P base w0 N { g with S:=S' } (s.fH i (ver,.none)) a w (if dp then pool++F else pool):=R.sN T rfl R.below t5
    have hlive:live s.h i:=by unfold live;rw [hh];simp
    have hfree : ∀b,D3 g s.h b->D3 { g with S:=S' } (s.fH i (ver,.none)).h b:=by intro b hb;refine ⟨λhS => ?_,λj hl=>hb.2 j (Aa hl).2⟩;rcases t1b b hS with hS | hS;(exact hb.1 hS);·exact hb.2 i hlive hS
    have hver : ∀j,((s.fH i (ver,.none)).h j).1=(s.h j).1:=by intro j;show (sB s.h i (ver,.none) j).1=_;by_cases hj:j=i;(subst hj;rw [bM];exact hc.symm);·rw [fO _ _ _ _ hj]
    have hob:=R.inv.obj i
    rw [hh] at hob
    obtain ⟨cells,p1,p2,p3,p4,p5⟩:=hob
    have p3':dB g.Q.L (if e=e0 then dp else false) w e0 ys cells (g.fp i):=by by_cases he:e=e0;(subst he;rw [if_pos rfl];exact p3);·rw [if_neg he];exact p3.rep
    have hpo:(if e=e0 then dp else false)=true->(pool++g.fp i).Nodup /\ ∀x∈pool++g.fp i,x∈(if dp then pool++F else pool):=by
     intro hd
     have hd':dp=true:=by split at hd;(exact hd);·cases hd
     subst hd'
     have hnd:=t5.pool_own.1
     simp only [if_true] at hnd ⊢
     rw [tF] at hnd ⊢
     refine ⟨hnd.sublist (List.Sublist.append (List.Sublist.refl _) (List.sublist_append_right _ _)),λx hx => ?_⟩
     rcases List.mem_append.1 hx with hx | hx<;>simp [hx]
    rcases p1.2 with ⟨r1,r2⟩ | ⟨gg,cap,cur,r1,r2⟩
    ·exact ⟨_,_,ys,_,none,0,0,_,cells,g.fp i,h,R',T,rfl,hval.trans r1,r2.symm,hfree,hver,p3',λy hy=>t1 y (p4 y hy),hpo,.inl rfl⟩
    ·exact ⟨_,_,ys,_,_,_,cap,_,cells,g.fp i,h,R',T,rfl,hval.trans r1,rfl,hfree,hver,p3',λy hy=>t1 y (p4 y hy),hpo,.inr ⟨gg,0,sz,rfl,Lo (r1 ▸ p1),p1.1,p2⟩⟩
   ·exact h.elim
  ·exact h.elim
 ·rename_i i ver lo n
  have hp:=eE hv
  simp only [ex] at h
  split at h
  ·rename_i e sz ys dp hh
   split at h
   ·rename_i hc
    obtain ⟨ad,c,rfl,q1,q2,q3,_⟩:=Kl R.inv hp hc hh
    have hob:=R.inv.obj i
    rw [hh] at hob
    obtain ⟨cells,p1,p2,p3,p4,p5⟩:=hob
    obtain ⟨c1,c2,c3,F1,F2,F3,hcs,hG,m1,m2,m3,m4,m5⟩:=NA (lo:=lo) (n:=n) p3 p2 q2
    have hin : ∀x,x∈F2->x∈g.fp i:=λx hx=>by rw [hG];simp [hx]
    have hrl:=aV.length p3.rep p2
    have hone : ∀u∈c2,u.oneCell'=true:=m4.rep.one
    have hr':dB g.Q.L dp w e (ys.take lo++(List.replicate n (List.replicate sz .opq)++ys.drop (lo+n))) cells (F1++F3):=by rw [hcs];exact dB.append m3 (dB.append (G:=F3) (F:=[]) (dB.flat (Hk m2 hone) (Rp n sz)) m5)
    have hx' : ∀x∈ys.take lo++(List.replicate n (List.replicate sz .opq)++ys.drop (lo+n)),x.length=sz:=by intro x hx;rcases List.mem_append.1 hx with hx | hx;(exact p2 x (List.mem_of_mem_take hx));·rcases List.mem_append.1 hx with hx | hx;(rw [(List.mem_replicate.1 hx).2,List.length_replicate]);·exact p2 x (List.mem_of_mem_drop hx)
    have hlen':(ys.take lo++(List.replicate n (List.replicate sz D.opq)++ys.drop (lo+n))).length=ys.length:=by simp only [qE,qT,List.length_replicate,qU];rcases q2 with h0 | h0<;>omega
    have hnd:dp=true->(pool++F2).Nodup/\(F1++F3).Nodup /\ ∀b∈F2,b∉F1++F3:=λhd=>by
     have hn:=(p5 hd).1
     rw [hG] at hn
     have hd':iV s.h i:=by subst hd;exact ⟨e,sz,ys,hh⟩
     rw [List.nodup_append] at hn
     obtain ⟨a1,a2,a3⟩:=hn
     rw [List.nodup_append] at a2
     obtain ⟨b1,b2,b3⟩:=a2
     refine ⟨?_,?_,?_⟩
     ·rw [List.nodup_append];exact ⟨R.inv.pool_own.1,b1,by rintro x hx y hy rfl;exact R.inv.pool_dis i hd' _ (hin _ hy) hx⟩
     ·rw [List.nodup_append];exact ⟨a1,b2,λx hx y hy=>a3 x hx y (by simp [hy])⟩
     ·intro b hb hb';rcases List.mem_append.1 hb' with hb' | hb';(exact a3 b hb' b (by simp [hb]) rfl);·exact b3 b hb b hb' rfl
    obtain ⟨I',T⟩:=R.inv.aBd (pool':=if dp then pool++F2 else pool) hh (by rw [hlen'];exact p1) hx' hr' (λb hb=>by
      rw [hG]
      rcases List.mem_append.1 hb with hb | hb<;>simp [hb]) (λhd=>(hnd hd).2.1) (λb hb=>by
      cases dp with
      | false=>exact .inl hb
      | true =>
       simp only [if_true] at hb
       rcases List.mem_append.1 hb with hb | hb
       ·exact .inl hb
       ·exact .inr ⟨rfl,hin b hb,(hnd rfl).2.2 b hb⟩) (by
      cases dp with
      | false=>exact R.inv.pool_own.1
      | true=>exact (hnd rfl).1)
    rw [hc] at I' T
    have R':=R.sN (s':=s.fH i (ver,.row e sz (J8 sz lo n ys) dp)) T rfl R.below I'
    have vv : ∀j,(Mb g i (g.val i) (F1++F3)).val j=g.val j:=λj=>by by_cases hj:j=i;(subst hj;exact dS _ _ _);·exact B7 _ _ _ _ hj
    refine ⟨_,_,(ys.drop lo).take n,_,ad,n,c,_,c2,F2,h,R',T,rfl,rfl,?_,?_,?_,?_,λy hy=>p4 y (hin y hy),λhd => ?_,?_⟩
    ·rw [qT,qU];rcases q2 with h0 | h0<;>omega
    ·intro b hb;refine ⟨hb.1,λj hl => ?_⟩;rw [vv];refine hb.2 j ?_;by_cases hj:j=i;(subst hj;unfold live;rw [hh];simp);·unfold live at hl ⊢;rw [Pw,fO _ _ _ _ hj] at hl;exact hl
    ·intro j;show (sB s.h i _ j).1=_;by_cases hj:j=i;(subst hj;rw [bM];exact hc.symm);·rw [fO _ _ _ _ hj]
    ·by_cases he:e=e0;(subst he;rw [if_pos rfl];exact m4);·rw [if_neg he];exact m4.rep
    ·have hd':dp=true:=by
      split at hd
      ·exact hd
      ·cases hd
     subst hd'
     exact ⟨(hnd rfl).1,λx hx=>by simpa using hx⟩
    ·rcases q3 with q3 | ⟨b,cells',q3,q4,q5,q6⟩;(exact .inl q3);·by_cases hn:n=0;(exact .inl hn);·right;have hcc:cells'=cells:=JJ q5 p1;subst hcc;refine ⟨b,lo*sz,sz,q3,?_,m2,λx hx=>p2 x (List.mem_of_mem_drop (List.mem_of_mem_take hx))⟩;rw [hcs] at q6;have:=T9 q6;rw [m1 (Nat.le_trans (Nat.le_add_right lo n) (q2.resolve_left hn)),Nat.zero_add] at this;exact this
   ·exact h.elim
  ·exact h.elim
 ·exact h.elim
theorem KJ {t ty e:TypeId} {ie:TypeInfo} (ht:P.underlying t=some (.slice e)) (hi:P.info? e=some ie) {sz:Nat} {v:Value} {n:Nat} {xs:List Value} (hown:w.ownsRow base e sz v n xs) (ad:Option Addr) (c:Nat) :
  (Builtin.append_ #[t,t] ty #[v,.slice ad 0 c]).run P w = .ok v w:=by
 rcases hown.2 with ⟨rfl,rfl⟩ | ⟨gg,cap,cur,rfl,_,_,hnc,_⟩
 ·cases ad<;>simp [Builtin.append_,run_underlying ht,sizeOf,typeInfo,hi,Builtin.lenOf,Builtin.firstCells,loadCells,loadCellsFrom]
 ·cases ad<;>simp [Builtin.append_,run_underlying ht,sizeOf,typeInfo,hi,Builtin.lenOf,Builtin.firstCells,hnc,storeCells,loadCells,loadCellsFrom]
theorem Oh {e:TypeId} {sz k m c n:Nat} {ad:Option Addr} {cells:List Value} (h:w.ownsRow base e sz (.slice ad m c) n cells) (hk:k<=m):m=n/\w.ownsRow base e sz (.slice ad k c) k (cells.take (k*sz)):=by
 obtain ⟨h1,h2⟩:=h
 rcases h2 with ⟨e1,e0⟩ | ⟨gg,cap,cur,e1,e2,e3,e4,e5,e6,e7⟩
 ·cases e1
  have:k=0:=by omega
  subst this
  exact ⟨e0.symm,qd,.inl ⟨rfl,rfl⟩⟩
 ·cases e1;refine ⟨rfl,?_,.inr ⟨gg,c,cur,rfl,e2,e3,qb,e5,e6,?_⟩⟩;(rw [qT,h1,Nat.min_eq_left (Nat.mul_le_mul_right _ hk)]);·rw [<-e7,List.take_take,Nat.min_eq_left (Nat.mul_le_mul_right _ hk)]
theorem St.HC (s:St) (i:Nat) (x y:Nat×CT):(s.fH i x).fH i y=s.fH i y:=by unfold St.fH;congr 1;funext j;by_cases hj:j=i<;>simp [hj]
theorem KI {e:TypeId} {sz:Nat} {w':World} (R:mJ P base w0 N g s a w pool) {v v':Value} {zs:List (List D)} {n:Nat} {cells1 cells':List Value} {F:List Nat} {j:Nat} {dp:Bool}
  (hown:w.ownsRow base e sz v n cells1) (hfree : ∀b,Bj v=some b->D3 g s.h b) (hr:dB g.Q.L dp w e zs cells' F) (hF : ∀b∈F,g.S b) (hx : ∀x∈zs,x.length=sz)
  (hdp:dp=true->F.Nodup /\ ∀x∈F,x∈pool)
  (r2:w'.ownsRow base e sz v' zs.length cells') (r3:w.grownBy w' v.ownBlock) (r4:v'.ownBlock=v.ownBlock\/v'.ownBlock=none \/ ∃b,w.heap.size<=b/\v'.ownBlock=some b) :
  ∃g',mJ P base w0 N g' (s.fH j ((s.h j).1+1,.row e sz zs dp)) a w' []/\uN g' (s.fH j ((s.h j).1+1,.row e sz zs dp)).h w' (.v false [.row j ((s.h j).1+1)]) v':=by
 have hob:Bj v=v.ownBlock:=pN hown
 have hgb : ∀b,b<w.heap.size -> ¬D3 g s.h b->w'.heap[b]? = w.heap[b]? := by
  intro b hb hnf
  refine r3.block b hb λhh=>hnf (hfree b ?_)
  rw [hob,<-hh]
 obtain ⟨I1,T1⟩:=R.inv.Z3 r3.size hgb
 have hob':Bj v'=v'.ownBlock:=pN r2
 have hfree' : ∀b,Bj v'=some b->D3 g s.h b:=by intro b hb;rw [hob'] at hb;rcases r4 with r4 | r4 | ⟨b',hle,r4⟩;(exact hfree b (by rw [hob,<-r4,hb]));(rw [r4] at hb;cases hb);·rw [r4] at hb;simp at hb;subst hb;exact ⟨λhS=>absurd (R.inv.S_lt _ hS) qb,λj hl hb'=>absurd (R.inv.EP hl hb').2.lt qb⟩
 have hrr:dB g.Q.L dp w' e zs cells' F:=hr.AH λb hb=>T1.Sw b (hF b hb)
 have I2:=I1.Dc (i:=j) (v:=v') (e:=e) (sz:=sz) (xs:=zs) (dp:=dp) (cells:=cells') (F:=F) (pool':=[]) r2 hx hrr hF hfree' qd List.nodup_nil
  (λhd=>⟨(hdp hd).1,λb hb=>⟨(hdp hd).2 b hb,qd⟩⟩)
 have T2:=kL.create (g:=g) (h:=s.h) (w:=w') j v' F (.row e sz zs dp)
 have hbel:Below w0.Q.fb w0.w w':=R.bel ⟨r3.os,r3.tape,r3.output,r3.size,λb hb=>r3.block b (Nat.lt_of_lt_of_le hb R.inv.base_le) λhh=>by rcases hown.2 with ⟨e1,_⟩ | ⟨gg,cap,cur,e1,e2,_⟩;(rw [e1] at hh;simp [Value.ownBlock] at hh);·rw [e1] at hh;simp [Value.ownBlock] at hh;omega⟩
 refine ⟨_,R.sN (T1.trans T2) rfl hbel I2,⟨_,[],rfl,⟨?_,?_,?_⟩,rfl⟩⟩
 ·rcases r2.2 with ⟨rfl,_⟩ | ⟨gg,cap,cur,rfl,_⟩<;>rfl
 ·show _<=(sB s.h j _ j).1;rw [bM];exact Nat.le_refl _
 ·intro _ e' sz' xs' dp' _;show v'=E8 g.val _ v' _;rw [dS]
theorem Pb {e:TypeId} {sz:Nat} {w':World} (R:mJ P base w0 N g s a w pool) {v v':Value} {xs ys:List (List D)} {cells1 cells2:List Value} {F G:List Nat} {j:Nat} {dp:Bool}
  (hown:w.ownsRow base e sz v xs.length cells1) (hx1 : ∀x∈xs,x.length=sz) (hr1:dB g.Q.L dp w e xs cells1 F) (hF1 : ∀b∈F,g.S b) (hfree : ∀b,Bj v=some b->D3 g s.h b)
  (hr2:dB g.Q.L dp w e ys cells2 G) (hG : ∀b∈G,g.S b) (hx2 : ∀x∈ys,x.length=sz) (hdp:dp=true->(F++G).Nodup /\ ∀x∈F++G,x∈pool)
  (r2:w'.ownsRow base e sz v' (xs.length+ys.length) (cells1++cells2)) (r3:w.grownBy w' v.ownBlock) (r4:v'.ownBlock=v.ownBlock\/v'.ownBlock=some w.heap.size) :
  ∃g',mJ P base w0 N g' (s.fH j ((s.h j).1+1,.row e sz (xs++ys) dp)) a w' []/\uN g' (s.fH j ((s.h j).1+1,.row e sz (xs++ys) dp)).h w' (.v false [.row j ((s.h j).1+1)]) v':=by
 have hob:Bj v=v.ownBlock:=pN hown
 have hgb : ∀b,b<w.heap.size -> ¬D3 g s.h b->w'.heap[b]? = w.heap[b]? := by
  intro b hb hnf
  refine r3.block b hb λhh=>hnf (hfree b ?_)
  rw [hob,<-hh]
 obtain ⟨I1,T1⟩:=R.inv.Z3 r3.size hgb
 have hob':Bj v'=v'.ownBlock:=pN r2
 have hfree' : ∀b,Bj v'=some b->D3 g s.h b:=by intro b hb;rw [hob'] at hb;rcases r4 with r4 | r4;(exact hfree b (by rw [hob,<-r4,hb]));·rw [r4] at hb;simp at hb;subst hb;exact ⟨λhS=>absurd (R.inv.S_lt _ hS) qb,λj hl hb'=>absurd (R.inv.EP hl hb').2.lt qb⟩
 have hFG : ∀b∈F++G,g.S b:=by intro b hb;rcases List.mem_append.1 hb with hb | hb;(exact hF1 b hb);·exact hG b hb
 have hrr:dB g.Q.L dp w' e (xs++ys) (cells1++cells2) (F++G):=(hr1.append hr2).AH λb hb=>T1.Sw b (hFG b hb)
 have hxx : ∀x∈xs++ys,x.length=sz:=by intro x hx;rcases List.mem_append.1 hx with hx | hx;(exact hx1 x hx);·exact hx2 x hx
 have I2:=I1.Dc (i:=j) (v:=v') (e:=e) (sz:=sz) (xs:=xs++ys) (dp:=dp) (cells:=cells1++cells2) (F:=F++G) (pool':=[]) (by rw [qE];exact r2) hxx hrr hFG hfree' qd List.nodup_nil
  (λhd=>⟨(hdp hd).1,λb hb=>⟨(hdp hd).2 b hb,qd⟩⟩)
 have T2:=kL.create (g:=g) (h:=s.h) (w:=w') j v' (F++G) (.row e sz (xs++ys) dp)
 have hbel:Below w0.Q.fb w0.w w':=R.bel ⟨r3.os,r3.tape,r3.output,r3.size,λb hb=>r3.block b (Nat.lt_of_lt_of_le hb R.inv.base_le) λhh=>by rcases hown.2 with ⟨e1,_⟩ | ⟨gg,cap,cur,e1,e2,_⟩;(rw [e1] at hh;simp [Value.ownBlock] at hh);·rw [e1] at hh;simp [Value.ownBlock] at hh;omega⟩
 refine ⟨_,R.sN (T1.trans T2) rfl hbel I2,⟨_,[],rfl,⟨?_,?_,?_⟩,rfl⟩⟩
 ·rcases r2.2 with ⟨rfl,_⟩ | ⟨gg,cap,cur,rfl,_⟩<;>rfl
 ·show _<=(sB s.h j _ j).1;rw [bM];exact Nat.le_refl _
 ·intro _ e' sz' xs' dp' _;show v'=E8 g.val _ v' _;rw [dS]
theorem GZ {t ty e:TypeId} {ti te:TI} (hti:fN P t=some ti) (htk:ti.k = .slice e) (hte:fN P e=some te) (R:mJ P base w0 N g s a w pool) {v xv:Value} {xs ys:List (List D)} {cells1 cells2:List Value} {F G:List Nat} {ad:Option Addr} {m c j:Nat} {dp:Bool}
  (hown:w.ownsRow base e te.size v xs.length cells1) (hx1 : ∀x∈xs,x.length=te.size) (hr1:dB g.Q.L dp w e xs cells1 F) (hF1 : ∀b∈F,g.S b) (hfree : ∀b,Bj v=some b->D3 g s.h b)
  (hxv:xv = .slice ad m c) (hm:m=ys.length) (hr2:dB g.Q.L dp w e ys cells2 G) (hG : ∀b∈G,g.S b) (hx2 : ∀x∈ys,x.length=te.size)
  (hlie:m=0 \/ ∃bb off sz,ad=some ⟨bb,off,none⟩/\BX w bb off cells2/\cells2.length=m*sz /\ ∀x∈ys,x.length=sz)
  (hdp:dp=true->(F++G).Nodup /\ ∀x∈F++G,x∈pool) (hbytes:(xs.length+ys.length)*te.bytes<=140737488355328) (hp1:0<te.size) (hp2:0<te.bytes) :
  ∃v' w' g',(Builtin.append_ #[t,t] ty #[v,xv]).run P w = .ok v' w'/\mJ P base w0 N g' (s.fH j ((s.h j).1+1,.row e te.size (xs++ys) dp)) a w' [] /\
   uN g' (s.fH j ((s.h j).1+1,.row e te.size (xs++ys) dp)).h w' (.v false [.row j ((s.h j).1+1)]) v':=by
 obtain ⟨i,d,z,h1,h2,h3,h4,_⟩:=(dP hti).ok
 rw [htk] at h4
 obtain rfl:=Ch h4
 obtain ⟨ie,de,ze,e1,e2,e3,e4,e5,e6,e7,e8,e9⟩:=(dP hte).ok
 have hob:Bj v=v.ownBlock:=pN hown
 have key : ∃v' w',(Builtin.append_ #[t,t] ty #[v,xv]).run P w = .ok v' w'/\w'.ownsRow base e te.size v' (xs.length+ys.length) (cells1++cells2)/\w.grownBy w' v.ownBlock/\(v'.ownBlock=v.ownBlock\/v'.ownBlock=some w.heap.size):=by
  have hlen2:=aV.length hr2.rep hx2
  rcases Nat.eq_zero_or_pos m with h0 | h0
  ·have hy:ys=[]:=List.eq_nil_of_length_eq_zero qb;subst hy;have hc2:cells2=[]:=List.eq_nil_of_length_eq_zero (by simpa using hlen2);subst hc2 hxv h0;exact ⟨v,w,KJ h2 e1 hown ad c,by simpa using hown,World.grownBy.refl w _,.inl rfl⟩
  ·rcases hlie with hl | ⟨bb,off,sz,rfl,hl1,hl2,hl3⟩
   ·omega
   ·subst hxv hm
    obtain ⟨v',w',r1,r2,r3,_,r5⟩:=run_append_own_at (P:=P) w base t ty e ie ze te.size te.bytes h2 e1 e3 e7 e8 (e6.trans e7) hp1 v xs.length cells1 hown ⟨bb,off,none⟩ ys.length c cells2 hlen2
     (λj u hu=>by rw [Addr.add_lit];exact hl1 j u hu) hr2.rep.one (by simp only [maxLen];have:=Nat.le_mul_of_pos_right (xs.length+ys.length) hp2;omega) hbytes R.inv.base_le
    exact ⟨v',w',r1,r2,r3,r5⟩
 obtain ⟨v',w',r1,r2,r3,r4⟩:=key
 obtain ⟨g',k1,k2⟩:=Pb (j:=j) (dp:=dp) R hown hx1 hr1 hF1 hfree hr2 hG hx2 hdp r2 r3 r4
 exact ⟨v',w',g',r1,k1,k2⟩
theorem So {t u ty e:TypeId} {i:TypeInfo} {z:Value} (ht:P.underlying t=some (.slice e)) (hu:P.underlying u=some .string) (hi:P.info? e=some i) (hz:i.zero=some z) (hzs:z.cells.size=1) (hsize:i.size=1) (hby:i.bytes=1)
  {v:Value} {n:Nat} {xs:List Value} (hown:w.ownsRow base e 1 v n xs) (s:ByteArray) (hbytes:n+s.size<=140737488355328) (hbase:base<=w.heap.size) :
  ∃v' w',(Builtin.append_ #[t,u] ty #[v,.string s]).run P w = .ok v' w'/\w'.ownsRow base e 1 v' (n+s.size) (xs++strCells s)/\w.grownBy w' v.ownBlock/\(v'.ownBlock=v.ownBlock\/v'.ownBlock=some w.heap.size):=by
 have aa:n+s.size<=maxLen:=by simp only [maxLen];omega
 have hxl:xs.length=n:=by simpa using hown.1
 have hlen:(xs++strCells s).length=(n+s.size)*1:=by rw [qE,hxl,strCells_length,Nat.mul_one]
 have fresh : ∀(old:Nat) (cells:Array Value),cells=xs.toArray++(strCells s).toArray++Builtin.zeroCells z.cells (grownCap w (n+s.size) old e-(n+s.size)) -> ∀(row:Option Nat),
   (w.drew.alloc (.cells cells e)).ownsRow base e 1 (.slice (some ⟨w.heap.size,0,none⟩) (n+s.size) (grownCap w (n+s.size) old e)) (n+s.size) (xs++strCells s)/\w.grownBy (w.drew.alloc (.cells cells e)) row:=by
  rintro old cells rfl row
  have hge:=grownCap_ge w (n+s.size) old e
  refine ⟨⟨hlen,.inr ⟨w.heap.size,_,_,rfl,hbase,heap_alloc_new w.drew _,hge,grownCap_le_maxLen w (n+s.size) old e aa,?_,?_⟩⟩,⟨rfl,rfl,rfl,qd,λk hk _=>Below.heap_alloc w.drew _ k hk⟩⟩
  ·simp only [Array.size_append,List.size_toArray,size_zeroCells,hzs,hxl,strCells_length];omega
  ·simp only [Array.toList_append,qS];rw [<-qS,<-hlen];exact List.take_left
 rcases hown.2 with ⟨rfl,rfl⟩ | ⟨b,cap,cur,rfl,hb,hg,hnc,hcm,hcs,htk⟩
 ·have hx:xs=[]:=List.eq_nil_of_length_eq_zero hxl
  subst hx
  by_cases hm:s.size=0
  ·have hn:strCells s=[]:=List.eq_nil_of_length_eq_zero (by rw [strCells_length];exact hm);have hf:=run_firstCells_string (P:=P) w 1 s;rw [hm] at hf;exact ⟨.slice none 0 0,w,by simp [Builtin.append_,run_underlying ht,run_underlying hu,sizeOf,typeInfo,hi,hsize,Builtin.lenOf,hm,hf],by rw [hm,hn];exact World.ownsRow_nil w base e 1,World.grownBy.refl w _,.inl rfl⟩
  ·have hr:=run_append_nil_string (P:=P) w t u ty e i z ht hu hi hz s qb qb (by rw [hby];omega)
   have e1:(s.data.map λb=>Value.int .u8 b.toNat)=(strCells s).toArray:=by apply Array.ext';simp [strCells]
   have hgr:=fresh 0 ((s.data.map λb=>Value.int .u8 b.toNat)++Builtin.zeroCells z.cells (grownCap w s.size 0 e-s.size)) (by rw [e1];simp) (Value.ownBlock (.slice none 0 0))
   rw [Nat.zero_add] at hgr ⊢
   exact ⟨_,_,hr,hgr.1,hgr.2,.inr rfl⟩
 ·by_cases hroom:n+s.size<=cap
  ·have hr:=run_append_room_string (P:=P) w t u ty e i ht hu hi hsize b n cap cur hg s hroom qb
   refine ⟨_,_,hr,⟨hlen,.inr ⟨b,cap,_,rfl,hb,setRow_heap w b cur _ e _ hg,hroom,hcm,?_,?_⟩⟩,⟨rfl,rfl,rfl,qd,λk _ hk=>setRow_other w b k _ (λe=>hk (by simp [Value.ownBlock,e]))⟩,.inl rfl⟩
   ·simp only [List.size_toArray,qE,qT,qU,Array.length_toList,strCells_length];omega
   ·have ht':cur.toList.take n=xs:=by simpa using htk
    rw [ht',<-hlen]
    exact List.take_left
  ·have hr:=run_append_grow_string (P:=P) w t u ty e i z ht hu hi hz ⟨b,0,none⟩ n cap xs (by rw [hsize];simpa using hxl) (hown.cells (g:=b) rfl) s qb qb (by rw [hby];exact growslice_fits qb qb);have hgr:=fresh cap _ rfl (Value.ownBlock (.slice (some ⟨b,0,none⟩) n cap));exact ⟨_,_,hr,hgr.1,hgr.2,.inr rfl⟩
theorem Sf {as:Array Operand} {ts:Array TypeId} (ho:o.op = .call { callee:=.builtin .append,args:=as,argTypes:=ts }) (R:mJ P base w0 N g s a w []) (h:ex P (AL (fN P) N o) s K):o.wp P a w (Aft P base w0 N K) Q:=by
 simp only [AL,ho] at h
 split at h
 ·rename_i sx xx t t' hs ht
  have hs:=VS hs
  have ht:=VS ht
  subst hs ht
  split at h
  ·rename_i htt
   subst htt
   split at h
   ·rename_i e sz0 by0 z0 cm0 sl0 hti
    split at h
    ·rename_i te hte
     obtain ⟨sv1,q1,q2⟩:=bX R h
     obtain ⟨sv2,q3,q4⟩:=bX R q2
     have fin : ∀ {v':Value} {w':World} {g':Gh} {s':St} {sv:SV},(Builtin.append_ #[t,t] o.type #[a.eval sx,a.eval xx]).run P w = .ok v' w'->mJ P base w0 N g' s' a w' []->uN g' s'.h w' sv v'->ex P (put N o.dst sv) s' K->o.wp P a w (Aft P base w0 N K) Q:=by intro v' w' g' s' sv hrun R' hv hk;obtain ⟨s2,m1,m2⟩:=B1 R' hv hk;refine C4 (v:=v') (w':=w') ?_ ⟨s2,m1,g',m2⟩;simp [execOp,ho,resolve,invoke,builtin,hrun]
     unfold Ep at q4
     split at q4
     ·exact q4.elim
     ·rename_i dd hdd
      split at q4
      ·rename_i i ver
       obtain ⟨hone,hle,hcap⟩:=eE q1
       simp only [ex] at q4
       split at q4
       ·rename_i e' sz' xs dp hh
        split at q4
        ·rename_i hc
         obtain ⟨hc1,hc2,hc3⟩:=hc
         subst hc2 hc3
         have hval:=hcap hc1 _ _ _ _ hh
         have hob:=R.inv.obj i
         rw [hh] at hob
         obtain ⟨cells,p1,p2,p3,p4,p5⟩:=hob
         obtain ⟨I1,hfr⟩:=R.inv.C3 hh
         have T:kL g g s.h (sB s.h i ((s.h i).1,.none)) w w:=kL.drop i g.S λ_ x=>x
         rw [hc1] at I1 hfr T
         have R1:mJ P base w0 N g (s.fH i (ver,.none)) a w (if dp then []++g.fp i else []):=R.sN T rfl R.below I1
         obtain ⟨g2,s2,ys,b,ad,m,c,pool2,cells2,G,k1,k2,k3,k4,k5,k6,k7,k8,k9,aa,ae,af⟩:=FQ R1 (q3.sN T) q4
         obtain ⟨⟨n1,n2,n3,n4⟩,k1⟩:=k1
         simp only [ex] at k1
         have hver:(s2.h i).1=ver:=by rw [k8];show (sB s.h i _ i).1=_;rw [bM]
         obtain ⟨v',w',g',r1,r2,r3⟩:=GZ (j:=i) (dp:=dp&&b) (ty:=o.type) hti rfl hte k2 p1 p2 (by rw [k3.Q];exact p3.PC λhd=>(by simp at hd;exact hd.1)) (λb hb=>k3.S b (p4 b hb)) (λb hb=>k7 b (hfr b hb)) k5 k6 (by rw [k3.Q];exact k9.PC λhd=>(by simp at hd;exact hd.2)) aa n1 af (λhd=>by simp at hd;have:=ae hd.2;rw [hd.1] at this;simpa using this) n2 n3 n4
         rw [hver] at r2 r3
         exact fin (by rw [hval];exact r1) r2 r3 k1
        ·exact q4.elim
       ·exact q4.elim
      ·rename_i i ver n
       have hp:=eE q1
       simp only [ex] at q4
       split at q4
       rotate_left
       ·exact q4.elim
       rename_i e0 sz0 xs0 dp0 hh0
       obtain ⟨g2,s2,ys,b,ad,m,c,pool2,cells2,G,k1,k2,k3,k4,k5,k6,k7,k8,k9,aa,ae,af⟩:=FQ R q3 q4
       simp only [ex] at k1
       split at k1
       ·rename_i e' sz' xs dp hh
        split at k1
        ·rename_i hc
         obtain ⟨hc1,hc2,hc3⟩:=hc
         subst hc2 hc3
         obtain ⟨ad',c',hval,z1,z2,z3,z4⟩:=Kl k2.inv (Ae.sN k3 hp) hc1 hh
         obtain ⟨mm,z5,z6⟩:=z4 rfl
         have hob:=k2.inv.obj i
         rw [hh] at hob
         obtain ⟨cells,p1,p2,p3,p4,p5⟩:=hob
         rw [z5] at p1
         obtain ⟨hmm,p1t⟩:=Oh p1 z6
         subst hmm
         have p3':dB g2.Q.L dp w e' (xs.take n++xs.drop n) cells (g2.fp i):=by rw [List.take_append_drop];exact p3
         obtain ⟨u1,u2,F1,F2,hcs,hG,m1,m2⟩:=dB.split p3'
         have hu1:cells.take (n*te.size)=u1:=by
          have hl:=aV.length m1.rep λx hx=>p2 x (List.mem_of_mem_take hx)
          rw [qT,Nat.min_eq_left z6] at hl
          rw [hcs,<-hl,List.take_left]
         rw [hu1] at p1t
         obtain ⟨I1,hfr⟩:=k2.inv.C3 hh
         have T:kL g2 g2 s2.h (sB s2.h i ((s2.h i).1,.none)) w w:=kL.drop i g2.S λ_ x=>x
         rw [hc1] at I1 hfr T
         have R1:mJ P base w0 N g2 (s2.fH i (ver,.none)) a w (if dp then pool2++g2.fp i else pool2):=k2.sN T rfl k2.below I1
         obtain ⟨⟨n0,n1,n2,n3,n4⟩,k1⟩:=k1
         rw [<-n0] at k1
         have hlt:(xs.take n).length=n:=by rw [qT,Nat.min_eq_left z6]
         obtain ⟨v',w',g',r1,r2,r3⟩:=GZ (j:=i) (dp:=dp&&b) (ty:=o.type) (xs:=xs.take n) hti rfl hte R1 (by rw [hlt];exact p1t) (λx hx=>p2 x (List.mem_of_mem_take hx)) (m1.PC λhd=>(by simp at hd;exact hd.1)) (λb hb=>p4 b (by rw [hG];simp [hb])) (λb hb=>hfr b (by rw [z5];cases ad'<;>exact hb)) k5 k6 (by rw [k3.Q];exact k9.PC λhd=>(by simp at hd;exact hd.2)) aa n1 af (λhd=>by simp only [qM] at hd;obtain ⟨hd1,hd2⟩:=hd;have ah:=ae hd2;rw [hd1] at I1;simp only [if_true] at I1;have hnd:=I1.pool_own.1;rw [hG,List.nodup_append] at hnd;obtain ⟨a1,a2,a3⟩:=hnd;rw [List.nodup_append] at a2;rw [hd1];simp only [if_true];refine ⟨?_,?_⟩;(rw [List.nodup_append];exact ⟨a2.1,by simpa using ah.1,by rintro x hx y hy rfl;exact a3 x (ah.2 x (by simp [hy])) x (by simp [hx]) rfl⟩);·intro x hx;rcases List.mem_append.1 hx with hx | hx;(rw [hG];simp [hx]);·exact List.mem_append.2 (.inl (ah.2 x (by simp [hx])))) (by rw [hlt];exact n2) n3 n4
         have hver:((s2.fH i (ver,.none)).h i).1=ver:=by show (sB s2.h i _ i).1=_;rw [bM]
         rw [hver,St.HC] at r2 r3
         exact fin (by rw [hval];exact r1) r2 r3 k1
        ·exact k1.elim
       ·exact k1.elim
      ·have hx:=eE q1;obtain ⟨g2,s2,ys,b,ad,m,c,pool2,cells2,G,k1,k2,k3,k4,k5,k6,k7,k8,k9,aa,ae,af⟩:=FQ R q3 q4;obtain ⟨⟨n1,n2,n3,n4⟩,k1⟩:=k1;simp only [ex] at k1;obtain ⟨v',w',g',r1,r2,r3⟩:=GZ (j:=rid dd 0) (dp:=b) (ty:=o.type) (xs:=[]) (cells1:=[]) (F:=[]) (v:=.slice none 0 0) hti rfl hte k2 (World.ownsRow_nil w base e te.size) qd dB.nil qd (by intro b hb;simp [Bj] at hb) k5 k6 (by rw [k3.Q];exact k9) aa n1 af (λhd=>by have:=ae hd;simpa using this) (by simpa using n2) n3 n4;exact fin (by rw [show a.eval sx = .slice none 0 0 from hx];exact r1) r2 r3 k1
      ·exact q4.elim
    ·exact h.elim
   ·exact h.elim
  ·rename_i hne
   split at h
   ·rename_i e sz0 by0 z0 cm0 sl0 sz1 by1 z1 cm1 sl1 hti hti'
    split at h
    ·rename_i cm2 sl2 hte
     obtain ⟨i,d,z,h1,h2,h3,h4,_⟩:=(dP hti).ok
     obtain rfl:=Ch h4
     obtain ⟨i',d',z',h1',h2',h3',h4',_⟩:=(dP hti').ok
     obtain rfl:=OP h4'
     obtain ⟨ie,de,ze,e1,e2,e3,e4,e5,e6,e7,e8,e9⟩:=(dP hte).ok
     obtain ⟨sv1,q1,q2⟩:=bX R h
     obtain ⟨sv2,q3,q4⟩:=bX R q2
     unfold NU at q4
     split at q4
     ·rename_i j ver b
      obtain ⟨hone,hle,hcap⟩:=eE q1
      simp only [ex] at q4
      split at q4
      ·rename_i e' xs dp hh
       split at q4
       ·rename_i hc
        obtain ⟨hc1,hc2⟩:=hc
        subst hc2
        obtain ⟨hb,q4⟩:=q4
        have hval:=hcap hc1 _ _ _ _ hh
        have hob:=R.inv.obj j
        rw [hh] at hob
        obtain ⟨cells,p1,p2,p3,p4,p5⟩:=hob
        obtain ⟨I1,hfr⟩:=R.inv.C3 hh
        have T:kL g g s.h (sB s.h j ((s.h j).1,.none)) w w:=kL.drop j g.S λ_ x=>x
        have R1:mJ P base w0 N g (s.fH j ((s.h j).1,.none)) a w (if dp then []++g.fp j else []):=R.sN T rfl R.below I1
        obtain ⟨v',w',k1,k2,k3,k4⟩:=So (P:=P) (ty:=o.type) h2 h2' e1 e3 (e6.trans e7) e7 e8 p1 b hb R.inv.base_le
        have hvl:(Cr b.data.toList).length=b.size:=by simp [Cr]
        have hcore:=Pb (j:=j) (dp:=dp) (v':=v') (w':=w') (ys:=Cr b.data.toList) (cells2:=strCells b) (G:=[]) R1 p1 p2 p3 p4 hfr (dB.flat (Jj _) SF) qd (by intro y hy;unfold Cr at hy;obtain ⟨c,_,rfl⟩:=List.mem_map.1 hy;rfl) (λhd=>by subst hd;simp only [if_true,List.nil_append,qW];exact ⟨(p5 rfl).1,λ_ x=>x⟩) (by rw [hvl];exact k2) k3 k4
        obtain ⟨g',m1,m2⟩:=hcore
        have hst:((s.fH j ((s.h j).1,.none)).fH j (((s.fH j ((s.h j).1,.none)).h j).1+1,.row e' 1 (xs++Cr b.data.toList) dp))=s.fH j (ver+1,.row e' 1 (xs++Cr b.data.toList) dp):=by refine St.aF8 rfl (funext λk => ?_);show sB _ _ _ k=sB _ _ _ k;by_cases hk:k=j;(subst hk;rw [bM,bM];rw [show ((s.fH k ((s.h k).1,.none)).h k).1=(s.h k).1 from by show (sB _ _ _ k).1=_;rw [bM],hc1]);·rw [fO _ _ _ _ hk,fO _ _ _ _ hk];show sB _ _ _ k=_;rw [fO _ _ _ _ hk]
        have hver:((s.fH j ((s.h j).1,.none)).h j).1+1=ver+1:=by show (sB _ _ _ j).1+1=_;rw [bM,hc1]
        rw [hst] at m1 m2
        rw [hver] at m2
        obtain ⟨s2,n1,n2⟩:=B1 m1 m2 q4
        refine C4 (v:=v') (w':=w') ?_ ⟨s2,n1,g',n2⟩
        have hrun:(Builtin.append_ #[t,t'] o.type #[a.eval sx,a.eval xx]).run P w = .ok v' w':=by rw [hval,FH q3];exact k1
        simp [execOp,ho,resolve,invoke,builtin,hrun]
       ·exact q4.elim
      ·exact q4.elim
     ·exact q4.elim
    ·exact h.elim
   ·exact h.elim
 ·exact h.elim
theorem Hp (I:Inv base g s.h w pool) : ∀ {cs:List SC} {vs:List Value} {k:List D->Prog},aT g s.h w cs vs->ex P (Eg cs k) s K -> ∃ds F,aJ w ds vs F/\(∀b∈F,¬D3 g s.h b)/\ex P (k ds) s K
 | [],vs,k,hc,h=>⟨[],[],by simp only [aJ];exact ⟨hc,trivial⟩,qd,h⟩
 | .dat d::cs,vs,k,hc,h=>by obtain ⟨v,vs',rfl,⟨F1,h1,h2⟩,h3⟩:=hc;obtain ⟨ds,F,h4,h6,h5⟩:=Hp I h3 h;refine ⟨d::ds,F1++F,by simp only [aJ];exact ⟨v,vs',F1,F,rfl,rfl,h1,h4⟩,λb hb => ?_,h5⟩;rcases List.mem_append.1 hb with hb | hb;(exact λhf=>hf.1 (h2 b hb));·exact h6 b hb
 | .old B d u::cs,vs,k,hc,h=>by obtain ⟨v,vs',rfl,⟨F1,h1,h2,_⟩,h3⟩:=hc;obtain ⟨ds,F,h4,h6,h5⟩:=Hp I h3 h;refine ⟨d::ds,F1++F,by simp only [aJ];exact ⟨v,vs',F1,F,rfl,rfl,h1,h4⟩,λb hb => ?_,h5⟩;rcases List.mem_append.1 hb with hb | hb;(exact λhf=>hf.1 (h2 b hb).1);·exact h6 b hb
 | .nil::cs,vs,k,hc,h=>by obtain ⟨v,vs',rfl,h1,h3⟩:=hc;obtain ⟨ds,F,h4,h6,h5⟩:=Hp I h3 h;refine ⟨.sl []::ds,F,?_,h6,h5⟩;simp only [aJ];refine ⟨v,vs',[],F,rfl,rfl,?_,h4⟩;simp only [Rep];exact ⟨none,0,0,h1,rfl,Nat.le_refl _,.inl qd⟩
 | .row i ver::cs,vs,k,hc,h=>by
  obtain ⟨v,vs',rfl,⟨h0,h1,h2⟩,h3⟩:=hc
  simp only [Eg,ex] at h
  split at h
  ·rename_i e sz xs dp ho
   split at h
   ·rename_i hv
    have hval:=h2 hv e sz xs dp ho
    obtain ⟨S',F1,_,hS,hr,_,_,hF,_⟩:=I.take ho
    obtain ⟨ds,F,h4,h6,h5⟩:=Hp I h3 h
    have hlive:live s.h i:=by unfold live;rw [ho];simp
    refine ⟨.sl xs::ds,F1++F,by simp only [aJ];exact ⟨v,vs',F1,F,rfl,rfl,hval ▸ hr,h4⟩,λb hb => ?_,h5⟩
    rcases List.mem_append.1 hb with hb | hb
    ·intro hf;rcases hS b (hF b hb) with hx | hx;(exact hf.1 hx);·exact hf.2 i hlive hx
    ·exact h6 b hb
   ·exact h.elim
  ·exact h.elim
 | .bp _ _ _::_,_,_,_,h=>h.elim
 | .rp _ _ _ _::_,_,_,_,h=>h.elim
 | .clo _ _::_,_,_,_,h=>h.elim
 | .part _ _ _ _::_,_,_,_,h=>h.elim
 | .exa _ _ _::_,_,_,_,h=>h.elim
theorem Dv (I:Inv base g s.h w pool) {i:Nat} {tt:TypeId} {bc:List SC} (hi:(s.h i).2 = .box tt bc) : ∀ {cs:List SC} {vs:List Value} {k:List D->Prog},aT g s.h w cs vs->ex P (Eg cs k) s K ->
  ∃ds F,aJ w ds vs F/\(∀b∈F,g.S b \/ ∃j,j≠i/\live s.h j/\Bj (g.val j)=some b)/\ex P (k ds) s K
 | [],vs,k,hc,h=>⟨[],[],by simp only [aJ];exact ⟨hc,trivial⟩,qd,h⟩
 | .dat d::cs,vs,k,hc,h=>by obtain ⟨v,vs',rfl,⟨F1,h1,h2⟩,h3⟩:=hc;obtain ⟨ds,F,h4,h6,h5⟩:=Dv I hi h3 h;refine ⟨d::ds,F1++F,by simp only [aJ];exact ⟨v,vs',F1,F,rfl,rfl,h1,h4⟩,λb hb => ?_,h5⟩;rcases List.mem_append.1 hb with hb | hb;(exact .inl (h2 b hb));·exact h6 b hb
 | .old B d u::cs,vs,k,hc,h=>by obtain ⟨v,vs',rfl,⟨F1,h1,h2,_⟩,h3⟩:=hc;obtain ⟨ds,F,h4,h6,h5⟩:=Dv I hi h3 h;refine ⟨d::ds,F1++F,by simp only [aJ];exact ⟨v,vs',F1,F,rfl,rfl,h1,h4⟩,λb hb => ?_,h5⟩;rcases List.mem_append.1 hb with hb | hb;(exact .inl (h2 b hb).1);·exact h6 b hb
 | .nil::cs,vs,k,hc,h=>by obtain ⟨v,vs',rfl,h1,h3⟩:=hc;obtain ⟨ds,F,h4,h6,h5⟩:=Dv I hi h3 h;refine ⟨.sl []::ds,F,?_,h6,h5⟩;simp only [aJ];refine ⟨v,vs',[],F,rfl,rfl,?_,h4⟩;simp only [Rep];exact ⟨none,0,0,h1,rfl,Nat.le_refl _,.inl qd⟩
 | .row j ver::cs,vs,k,hc,h=>by
  obtain ⟨v,vs',rfl,⟨h0,h1,h2⟩,h3⟩:=hc
  simp only [Eg,ex] at h
  split at h
  ·rename_i e sz xs dp ho
   split at h
   ·rename_i hv
    have hval:=h2 hv e sz xs dp ho
    obtain ⟨S',F1,_,hS,hr,_,_,hF,_⟩:=I.take ho
    obtain ⟨ds,F,h4,h6,h5⟩:=Dv I hi h3 h
    have hlive:live s.h j:=by unfold live;rw [ho];simp
    refine ⟨.sl xs::ds,F1++F,by simp only [aJ];exact ⟨v,vs',F1,F,rfl,rfl,hval ▸ hr,h4⟩,λb hb => ?_,h5⟩
    rcases List.mem_append.1 hb with hb | hb
    ·rcases hS b (hF b hb) with hx | hx;(exact .inl hx);·exact .inr ⟨j,⟨(λe=>by rw [e,hi] at ho;cases ho),hlive,hx⟩⟩
    ·exact h6 b hb
   ·exact h.elim
  ·exact h.elim
 | .bp _ _ _::_,_,_,_,h=>h.elim
 | .rp _ _ _ _::_,_,_,_,h=>h.elim
 | .clo _ _::_,_,_,_,h=>h.elim
 | .part _ _ _ _::_,_,_,_,h=>h.elim
 | .exa _ _ _::_,_,_,_,h=>h.elim
theorem KX (R:mJ P base w0 N g s a w pool) {i:Nat} {tt:TypeId} {bc:List SC} (hi:(s.h i).2 = .box tt bc) : ∀ {xs:List Operand} {k:List (Bool×List D)->Prog},ex P (Od xs k) s K ->
  ∃as F,xJ w (xs.map a.eval) as F/\(∀b∈F,g.S b \/ ∃j,j≠i/\live s.h j/\Bj (g.val j)=some b)/\ex P (k as) s K
 | [],k,h=>⟨[],[],rfl,qd,h⟩
 | x::xs,k,h=>by
  obtain ⟨sv,h1,h2⟩:=bX R h
  cases sv with
  | v ag cs =>
   simp only at h2
   cases ag with
   | false =>
    obtain ⟨ds,F,h3,h3a,h4⟩:=Dv R.inv hi h1 h2
    obtain ⟨as,Fa,h5,h5a,h6⟩:=KX R hi h4
    refine ⟨(false,ds)::as,_,⟨F,Fa,rfl,?_,h5⟩,λb hb => ?_,h6⟩
    ·have hl:=h3.length
     match ds,h3,hl with
     | [d],h3,_ =>
      simp only [aJ] at h3
      obtain ⟨v,vs',F1,F2,e1,rfl,h7,_,rfl⟩:=h3
      simp at e1
      rw [qW]
      exact ⟨d,rfl,e1.1 ▸ h7⟩
    ·rcases List.mem_append.1 hb with hb | hb;(exact h3a b hb);·exact h5a b hb
   | true =>
    obtain ⟨vs,hv,hc⟩:=h1
    obtain ⟨ds,F,h3,h3a,h4⟩:=Dv R.inv hi hc h2
    obtain ⟨as,Fa,h5,h5a,h6⟩:=KX R hi h4
    refine ⟨(true,ds)::as,_,⟨F,Fa,rfl,⟨vs,hv,h3⟩,h5⟩,λb hb => ?_,h6⟩
    rcases List.mem_append.1 hb with hb | hb
    ·exact h3a b hb
    ·exact h5a b hb
  | unk=>exact h2.elim
  | undef=>exact h2.elim
  | tup vs=>exact h2.elim
theorem MI (I:Inv base g s.h w pool) {i ver off:Nat} {v:Value} {k:List D->Prog} (hc:Ig g s.h (i,ver,off) v) (h:ex P (FX i ver off k) s K) :
  ∃ds F,Rep w (.ptr ds) v F/\(∀b∈F,¬D3 g s.h b)/\ex P (k ds) s K:=by
 simp only [FX,ex] at h
 split at h
 ·rename_i t cells ho
  split at h
  ·rename_i hv
   obtain ⟨b,hval,hvv⟩:=hc.2 hv t cells ho
   have hob:=I.obj i
   rw [ho] at hob
   obtain ⟨b',vals,k1,k2,k3,k4⟩:=hob
   rw [hval] at k1
   simp at k1
   subst k1
   obtain ⟨ds,F,h4,h6,h5⟩:=Hp I (k4.drop off) h
   have hlive:live s.h i:=by unfold live;rw [ho];simp
   refine ⟨ds,b::F,?_,λx hx => ?_,h5⟩
   ·simp only [Rep];refine ⟨b,off,vals.toList.drop off,F,hvv,(Array.getElem?_eq_some_iff.1 k3).1,rfl,?_,h4⟩;intro j u hu;rw [List.getElem?_drop] at hu;simp [World.cell?,k3];simpa using hu
   ·rcases List.mem_cons.1 hx with rfl | hx;(exact λhf=>hf.2 i hlive (by rw [hval];rfl));·exact h6 x hx
  ·exact h.elim
 ·exact h.elim
theorem K1 (I:Inv base g s.h w pool) : ∀ {cs:List (Nat×Nat×Nat)} {vs:List Value} {k:List D->Prog},De g s.h cs vs->ex P (DG cs k) s K -> ∃ds F,aJ w ds vs F/\(∀b∈F,¬D3 g s.h b)/\ex P (k ds) s K
 | [],vs,k,hc,h=>⟨[],[],by simp only [aJ];exact ⟨hc,trivial⟩,qd,h⟩
 | (i,ver,off)::cs,vs,k,hc,h=>by obtain ⟨v,vs',rfl,h1,h3⟩:=hc;obtain ⟨ds,F,h4,h4f,h5⟩:=MI I h1 h;obtain ⟨es,G,h6,h6f,h7⟩:=K1 I h3 h5;refine ⟨.ptr ds::es,F++G,by simp only [aJ];exact ⟨v,vs',F,G,rfl,rfl,h4,h6⟩,λb hb => ?_,h7⟩;rcases List.mem_append.1 hb with hb | hb;(exact h4f b hb);·exact h6f b hb
theorem Wq (I:Inv base g s.h w pool) {c:SC} {v:Value} {k:List D->Prog} (hc:Ae g s.h w c v) (h:ex P (Bt [c] k) s K) (hk : ∀ds,ex P (k ds) s K -> ∃f cs,ds=[.fn f cs]) :
  ∃d F,Rep w d v F/\(∀b∈F,¬D3 g s.h b)/\ex P (k [d]) s K:=by
 cases c with
 | dat d =>
  obtain ⟨F,h1,h2⟩:=hc
  exact ⟨d,F,h1,λb hb hf=>hf.1 (h2 b hb),h⟩
 | clo f caps =>
  obtain ⟨us,h0,h1⟩:=hc
  obtain ⟨ds,F,h4,h6,h5⟩:=K1 I h1 h
  exact ⟨.fn f ds,F,by simp only [Rep];exact ⟨us,h0,h4⟩,h6,h5⟩
 | nil=>obtain ⟨f,cs,e⟩:=hk _ h;cases e
 | row i ver =>
  simp only [Bt,ex] at h
  split at h
  ·split at h;(obtain ⟨f,cs,e⟩:=hk _ h;cases e);·exact h.elim
  ·exact h.elim
 | bp i ver off =>
  obtain ⟨ds,F,h4,h6,h5⟩:=MI I hc.2 h
  obtain ⟨f,cs,e⟩:=hk _ h5;cases e
 | rp i ver j off=>exact h.elim
 | old B d u =>
  obtain ⟨F,h1,h2,_⟩:=hc
  exact ⟨d,F,h1,λb hb hf=>hf.1 (h2 b hb).1,h⟩
 | part i ver lo n =>
  simp only [Bt,ex] at h
  split at h
  ·split at h;(obtain ⟨f,cs,e⟩:=hk _ h;cases e);·exact h.elim
  ·exact h.elim
 | exa W d x =>
  obtain ⟨rfl,F,h1,h2⟩:=hc
  exact ⟨d,F,Rep.AH _ _ _ h1 λb hb=>(h2 b hb).2,λb hb hf=>hf.1 (h2 b hb).1,h⟩
theorem K9 : ∀ {ds:List D} {vs:List Value} {F:List Nat},aJ w ds vs F->ds.all D.flat=true->F=[]
 | [],vs,F,h,_=>by simp only [aJ] at h;exact h.2
 | d::ds,vs,F,h,hf=>by simp only [aJ] at h;obtain ⟨v,vs',F1,F2,rfl,rfl,h3,h4⟩:=h;simp only [List.all_cons,qM] at hf;rw [Iy h3 hf.1,K9 h4 hf.2];rfl
theorem NG : ∀ {xs:List (List D)} {cells:List Value} {F:List Nat},aV w xs cells F->(∀x∈xs,x.all D.flat=true)->F=[]
 | [],cells,F,h,_=>by simp only [aV] at h;exact h.2
 | x::xs,cells,F,h,hf=>by simp only [aV] at h;obtain ⟨v1,v2,F1,F2,rfl,rfl,h3,h4⟩:=h;rw [K9 h3 (hf x qd),NG h4 λy hy=>hf y (by simp [hy])];rfl
theorem MN {L:TL} {X:Nat->Prop} {b:Nat} {vs:List Value} {r:RC} {rs:List RC} {F:List Nat} {q:Ed} (hq:r.ed=some q) (h:pX L b w X vs (r::rs) F):False:=by
 cases r with
 | edit q'=>cases vs<;>exact h
 | any d=>simp [RC.ed] at hq
 | ro d=>simp [RC.ed] at hq
 | own e sz xs=>simp [RC.ed] at hq
theorem Rv {L:TL} {X:Nat->Prop} {b:Nat} {v:Value} {ag:Bool} {r:RC} {rs:List RC} {F:List Nat} {q:Ed} (hq:r.ed=some q) (h:Lk L b w X v (ag,r::rs) F):False:=by
 cases ag with
 | false=>exact MN hq h
 | true=>obtain ⟨cs,_,h⟩:=h;exact MN hq h
theorem OZ {L:TL} {X:Nat->Prop} {b:Nat} {v:Value} {rs:List (Bool×List RC)} {F:List Nat} {q:Ed} (hq:PB rs=some q) (h:QI L b w X v rs F):False:=by
 match rs,hq,h with
 | [],hq,_=>simp [PB] at hq
 | (_,[])::_,hq,_=>simp [PB] at hq
 | [(ag,r::l)],hq,h=>exact Rv hq h
 | (ag,r::l)::y::ys,hq,h =>
  obtain ⟨vs,_,h⟩:=h
  match vs.toList,h with
  | [],h=>exact h
  | u::us,h=>obtain ⟨F1,F2,_,h1,_⟩:=h;exact Rv hq h1
theorem aT.at_ {g:Gh} {h:Heap} {w:World} : ∀ {cs:List SC} {vs:List Value} {i:Nat} {c:SC},aT g h w cs vs->cs[i]? = some c -> ∃v,vs[i]? = some v/\Ae g h w c v
 | [],_,_,_,_,h=>by simp at h
 | c::cs,vs,0,c',h,hi=>by obtain ⟨v,vs',rfl,h1,h2⟩:=h;simp at hi;subst hi;exact ⟨v,rfl,h1⟩
 | c::cs,vs,i+1,c',h,hi=>by obtain ⟨v,vs',rfl,h1,h2⟩:=h;obtain ⟨u,k1,k2⟩:=aT.at_ h2 (by simpa using hi);exact ⟨u,by simpa using k1,k2⟩
theorem Xh {f:FuncId} {xs:List Operand} {vs:Array Value} {avs:List (Bool×List D)} {q:Ed} {dst:Option Tmp} {Fa:List Nat} {R':Ending->World->Prop} (R:mJ P base w0 N g s a w []) (hvs:vs=(xs.map a.eval).toArray)
  (k1:xJ w vs.toList avs Fa) {rs:List (Bool×List RC)} (hq:PB rs=some q) (k2:kR P f avs rs) (k3:ex P (zY N dst xs avs q) s K)
  (hnext : ∀v w',(∃s',K s'/\Rel P base w0 N s' (a.put dst v) w')->R' (.returned v) w'):Calls P f vs w R':=by
 rcases k2 with k2 | ⟨q',hq',hb,hed⟩ | ⟨t1,es1,rs1,hr1,_⟩
 ·refine (k2.2 w vs Fa k1).mono λe w' hh => ?_
  obtain ⟨v,rfl,⟨F,X,_,_,_,hv⟩,_⟩:=hh
  exact (OZ hq hv).elim
 rotate_left
 ·rw [hr1] at hq;simp only [PB,RC.ed,qa] at hq;subst hq;unfold zY at k3;exact k3.elim
 ·rw [hq'] at hq
  simp only [PB,RC.ed,qa] at hq
  subst hq
  subst hvs
  have fin : ∀ {v':Value} {w':World} {g':Gh} {s':St} {sv:SV},mJ P base w0 N g' s' a w' []->uN g' s'.h w' sv v'->ex P (put N dst sv) s' K->R' (.returned v') w':=by intro v' w' g' s' sv R2 hv hk;obtain ⟨s2,m1,m2⟩:=B1 R2 hv hk;exact hnext v' w' ⟨s2,m1,g',m2⟩
  cases q' with
  | del e sz =>
   rcases xs with _ | ⟨x1,_ | ⟨x2,_ | ⟨x3,_ | ⟨x4,r⟩⟩⟩⟩<;>simp only [zY,ex] at k3
   obtain ⟨sv1,a1,k4⟩:=bX R k3
   obtain ⟨sv2,a2,k5⟩:=bX R k4
   clear k3
   obtain ⟨sv3,a3,k3⟩:=bX R k5
   clear k4 k5
   split at k3
   ·rename_i i ver x y
    simp only [ex] at k3
    split at k3
    ·rename_i e' sz' rs dp hh
     split at k3
     ·rename_i hc
      obtain ⟨hc1,hc2,hc3⟩:=hc
      subst hc2 hc3
      obtain ⟨⟨hx0,hxy,hy⟩,k3⟩:=k3
      obtain ⟨hone,hle,hcap⟩:=eE a1
      have hval:=hcap hc1 _ _ _ _ hh
      have hob:=R.inv.obj i
      rw [hh] at hob
      obtain ⟨cells,p1,p2,p3,p4,p5⟩:=hob
      obtain ⟨I1,hfr⟩:=R.inv.C3 hh
      have T:kL g g s.h (sB s.h i ((s.h i).1,.none)) w w:=kL.drop i g.S λ_ x=>x
      rw [hc1] at I1 hfr T
      have R1:mJ P base w0 N g (s.fH i (ver,.none)) a w (if dp then []++g.fp i else []):=R.sN T rfl R.below I1
      have hcall:=hed base w (g.val i) rs.length cells x.toNat y.toNat R.inv.base_le p1 qb hy p3.rep.one
      have ha:([x1,x2,x3].map a.eval).toArray = #[g.val i,.int .i64 (x.toNat:Int),.int .i64 (y.toNat:Int)]:=by
       have e2:a.eval x2 = .int .i64 (x.toNat:Int):=by rw [mK a2,Int.toNat_of_nonneg hx0]
       have e3:a.eval x3 = .int .i64 (y.toNat:Int):=by rw [mK a3,Int.toNat_of_nonneg qb]
       simp [hval,e2,e3]
      rw [ha]
      refine hcall.mono ?_
      rintro ed w' ⟨v',rfl,r2,r3,r4⟩
      obtain ⟨c1,c2,c3,F1,F2,F3,hcs,hG,m1,m2,m3,m4,m5⟩:=NA (lo:=x.toNat) (n:=y.toNat-x.toNat) p3 p2 (.inr qb)
      rw [show x.toNat+(y.toNat-x.toNat)=y.toNat by omega] at m5
      have hl1:=m1 qb
      have e1:cells.take (x.toNat*sz')=c1:=by rw [hcs,<-hl1,List.take_left]
      have e2:cells.drop (y.toNat*sz')=c3:=by
       have:y.toNat*sz'=(c1++c2).length:=by rw [qE,hl1,m2,<-Nat.add_mul];congr 1;omega
       rw [hcs,<-qS,this,List.drop_left]
      rw [e1,e2] at r2
      have hlen:(rs.take x.toNat++rs.drop y.toNat).length=x.toNat+(rs.length-y.toNat):=by rw [qE,qT,qU,Nat.min_eq_left qb]
      obtain ⟨g',z1,z2⟩:=KI (j:=i) (dp:=dp) (zs:=rs.take x.toNat++rs.drop y.toNat) (F:=F1++F3) R1 p1 hfr (m3.append m5)
       (λb hb=>p4 b (by rw [hG];rcases List.mem_append.1 hb with hb | hb<;>simp [hb]))
       (λz hz=>by rcases List.mem_append.1 hz with hz | hz;(exact p2 z (List.mem_of_mem_take hz));·exact p2 z (List.mem_of_mem_drop hz))
       (λhd=>by have hn:=(p5 hd).1;rw [hG] at hn;rw [hd];simp only [if_true,List.nil_append];refine ⟨hn.sublist (List.Sublist.append (List.Sublist.refl _) (List.sublist_append_right _ _)),λz hz => ?_⟩;rw [hG];rcases List.mem_append.1 hz with hz | hz<;>simp [hz]) (by rw [hlen];exact r2) r3 (r4.imp_right .inr)
      have hver:((s.fH i (ver,.none)).h i).1=ver:=by show (sB s.h i _ i).1=_;rw [bM]
      rw [hver,St.HC] at z1 z2
      exact fin z1 z2 k3
     ·exact k3.elim
    ·exact k3.elim
   ·exact k3.elim
  | ins e sz bytes =>
   rcases xs with _ | ⟨x1,_ | ⟨x2,_ | ⟨x3,_ | ⟨x4,r⟩⟩⟩⟩<;>simp only [zY,ex] at k3
   obtain ⟨sv1,a1,k4⟩:=bX R k3
   obtain ⟨sv2,a2,k5⟩:=bX R k4
   clear k3
   obtain ⟨sv3,a3,k3⟩:=bX R k5
   clear k4 k5
   split at k3
   ·rename_i i ver x j ver2
    simp only [ex] at k3
    split at k3
    ·rename_i e' sz' rs dp hh
     split at k3
     ·rename_i hc
      obtain ⟨hc1,hc2,hc3⟩:=hc
      subst hc2 hc3
      simp only [ex] at k3
      split at k3
      ·rename_i e2 sz2 ys dp2 hh2
       split at k3
       ·rename_i hc'
        obtain ⟨hd1,hd2,hd3⟩:=hc'
        subst hd2 hd3
        obtain ⟨⟨hx0,hxl,hy0,hby⟩,k3⟩:=k3
        have hji:j≠i:=by rintro rfl;rw [Pw,bM] at hh2;cases hh2
        rw [Pw,fO _ _ _ _ hji] at hh2 hd1
        obtain ⟨hone,hle,hcap⟩:=eE a1
        have hval:=hcap hc1 _ _ _ _ hh
        obtain ⟨hone2,hle2,hcap2⟩:=eE a3
        have hval2:=hcap2 hd1 _ _ _ _ hh2
        have hob:=R.inv.obj i
        rw [hh] at hob
        obtain ⟨cells,p1,p2,p3,p4,p5⟩:=hob
        have hob2:=R.inv.obj j
        rw [hh2] at hob2
        obtain ⟨cells2,u1,u2,u3,u4,u5⟩:=hob2
        obtain ⟨I1,hfr⟩:=R.inv.C3 hh
        have T:kL g g s.h (sB s.h i ((s.h i).1,.none)) w w:=kL.drop i g.S λ_ x=>x
        rw [hc1] at I1 hfr T
        have R1:mJ P base w0 N g (s.fH i (ver,.none)) a w (if dp then []++g.fp i else []):=R.sN T rfl R.below I1
        have hh2':((s.fH i (ver,.none)).h j).2 = .row e2 sz2 ys dp2:=by rw [Pw,fO _ _ _ _ hji];exact hh2
        have hd1':((s.fH i (ver,.none)).h j).1=ver2:=by rw [Pw,fO _ _ _ _ hji];exact hd1
        obtain ⟨I2,hfr2⟩:=R1.inv.C3 hh2'
        have T2:kL g g (s.fH i (ver,.none)).h (sB (s.fH i (ver,.none)).h j (((s.fH i (ver,.none)).h j).1,.none)) w w:=kL.drop j g.S λ_ x=>x
        rw [hd1'] at I2 hfr2 T2
        have R2:mJ P base w0 N g ((s.fH i (ver,.none)).fH j (ver2,.none)) a w _:=R1.sN T2 rfl R1.below I2
        have hli:live s.h i:=by unfold live;rw [hh];simp
        have hlj:live s.h j:=by unfold live;rw [hh2];simp
        have hcall:=hed base w (g.val i) (g.val j) rs.length ys.length cells cells2 x.toNat R.inv.base_le p1 u1 (λb hb hb'=>R.inv.inj i j b (Ne.symm hji) hli hlj (by rw [pN p1];exact hb) (by rw [pN u1];exact hb')) hxl hy0 hby p3.rep.one u3.rep.one
        have ha:([x1,x2,x3].map a.eval).toArray = #[g.val i,.int .i64 (x.toNat:Int),g.val j]:=by
         have e2:a.eval x2 = .int .i64 (x.toNat:Int):=by rw [mK a2,Int.toNat_of_nonneg hx0]
         simp [hval,e2,hval2]
        rw [ha]
        refine hcall.mono ?_
        rintro ed w' ⟨v',rfl,r2,r3,r4⟩
        have p3':dB g.Q.L dp w e2 (rs.take x.toNat++rs.drop x.toNat) cells (g.fp i):=by rw [List.take_append_drop];exact p3
        obtain ⟨c1,c2,F1,F2,hcs,hG,m1,m2⟩:=dB.split p3'
        have hl1:c1.length=x.toNat*sz2:=by rw [aV.length m1.rep λz hz=>p2 z (List.mem_of_mem_take hz),qT,Nat.min_eq_left hxl]
        have e1:cells.take (x.toNat*sz2)=c1:=by rw [hcs,<-hl1,List.take_left]
        have e2':cells.drop (x.toNat*sz2)=c2:=by rw [hcs,<-hl1,List.drop_left]
        rw [e1,e2'] at r2
        have hlen:(rs.take x.toNat++(ys++rs.drop x.toNat)).length=rs.length+ys.length:=by simp only [qE,qT,qU];omega
        have hfr' : ∀b,Bj (g.val i)=some b->D3 g ((s.fH i (ver,.none)).fH j (ver2,.none)).h b:=λb hb =>
         ⟨(hfr b hb).1,λl hl=>(hfr b hb).2 l (Aa hl).2⟩
        obtain ⟨g',z1,z2⟩:=KI (j:=i) (dp:=dp&&dp2) (zs:=rs.take x.toNat++(ys++rs.drop x.toNat)) (F:=F1++(g.fp j++F2)) R2 p1 hfr' (dB.append (m1.PC λhd=>(by simp at hd;exact hd.1)) (dB.append (u3.PC λhd=>(by simp at hd;exact hd.2)) (m2.PC λhd=>(by simp at hd;exact hd.1))))
         (λb hb=>by rcases List.mem_append.1 hb with hb | hb;(exact p4 b (by rw [hG];simp [hb]));·rcases List.mem_append.1 hb with hb | hb;(exact u4 b hb);·exact p4 b (by rw [hG];simp [hb]))
         (λz hz=>by rcases List.mem_append.1 hz with hz | hz;(exact p2 z (List.mem_of_mem_take hz));·rcases List.mem_append.1 hz with hz | hz;(exact u2 z hz);·exact p2 z (List.mem_of_mem_drop hz))
         (λhd=>by simp only [qM] at hd;obtain ⟨hd1,hd2⟩:=hd;have hpo:=I2.pool_own.1;rw [hd1,hd2] at hpo ⊢;simp only [if_true,List.nil_append] at hpo ⊢;rw [hG,List.nodup_append] at hpo;obtain ⟨b1,b2,b3⟩:=hpo;rw [List.nodup_append] at b1;obtain ⟨b4,b5,b6⟩:=b1;refine ⟨?_,λz hz => ?_⟩;(rw [List.nodup_append];refine ⟨b4,?_,?_⟩;(rw [List.nodup_append];exact ⟨b2,b5,by rintro z hz z' hz' rfl;exact b3 z (by simp [hz']) z hz rfl⟩);·rintro z hz z' hz' rfl;rcases List.mem_append.1 hz' with hz' | hz';(exact b3 z (by simp [hz]) z hz' rfl);·exact b6 z hz z hz' rfl);·rw [hG];rcases List.mem_append.1 hz with hz | hz;(simp [hz]);·rcases List.mem_append.1 hz with hz | hz<;>simp [hz]) (by rw [hlen];exact r2) r3 (r4.imp_right .inr)
        have hver:(((s.fH i (ver,.none)).fH j (ver2,.none)).h i).1=ver:=by show (sB (sB s.h i _) j _ i).1=_;rw [fO _ _ _ _ (Ne.symm hji),bM]
        rw [hver] at z1 z2
        exact fin z1 z2 k3
       ·exact k3.elim
      ·exact k3.elim
     ·exact k3.elim
    ·exact k3.elim
   ·exact k3.elim
  | sN e sz ys =>
   rcases xs with _ | ⟨x1,_ | ⟨x2,_ | ⟨x4,r⟩⟩⟩<;>simp only [zY,ex] at k3
   obtain ⟨sv1,a1,k4⟩:=bX R k3
   clear k3
   obtain ⟨sv2,a2,k3⟩:=bX R k4
   clear k4
   split at k3
   ·rename_i i ver c
    simp only [ex] at k3
    split at k3
    ·rename_i e' sz' rs dp hh
     split at k3
     ·rename_i hc
      obtain ⟨hc1,hc2,hc3⟩:=hc
      subst hc2 hc3
      obtain ⟨hone,hle,hcap⟩:=eE a1
      have hval:=hcap hc1 _ _ _ _ hh
      have hob:=R.inv.obj i
      rw [hh] at hob
      obtain ⟨cells,p1,p2,p3,p4,p5⟩:=hob
      obtain ⟨I1,hfr⟩:=R.inv.C3 hh
      have T:kL g g s.h (sB s.h i ((s.h i).1,.none)) w w:=kL.drop i g.S λ_ x=>x
      rw [hc1] at I1 hfr T
      have R1:mJ P base w0 N g (s.fH i (ver,.none)) a w (if dp then []++g.fp i else []):=R.sN T rfl R.below I1
      obtain ⟨xs0,gf,caps,hav,hfl,hys,hed⟩:=hed
      subst hav
      simp only [ex] at k3
      obtain ⟨d,F2,d1,d2,k5⟩:=Wq R1.inv (Ae.sN T (eE a2)) k3 (λds hk=>by have h1:=hk.1;simp only [List.cons.injEq,qZ,D.sl.injEq,true_and,and_true] at h1;exact ⟨gf,caps,h1.2.symm⟩)
      clear k3
      obtain ⟨hav,k3⟩:=k5
      simp only [List.cons.injEq,qZ,D.sl.injEq,true_and,and_true] at hav
      obtain ⟨rfl,rfl⟩:=hav
      have hG:g.fp i=[]:=NG p3.rep hfl
      have hcall:=hed base w (g.val i) (a.eval x2) cells F2 R.inv.base_le p1 p2 (by rw [<-hG];exact p3.rep) d1 (λb hb=>by have hf:=hfr b (by rw [pN p1];exact hb);exact λhb'=>d2 b hb' hf)
      have ha:([x1,x2].map a.eval).toArray = #[g.val i,a.eval x2]:=by simp [hval]
      rw [ha]
      refine hcall.mono ?_
      rintro ed w' ⟨v',cells',rfl,r2,r5,r3,r4⟩
      obtain ⟨g',z1,z2⟩:=KI (j:=i) (dp:=dp) (zs:=ys) (F:=[]) R1 p1 hfr (dB.flat (aV.AH _ _ _ r5 qd) hys.2) qd hys.1
       (λhd=>⟨List.nodup_nil,qd⟩) r2 r3 r4
      have hver:((s.fH i (ver,.none)).h i).1=ver:=by show (sB s.h i _ i).1=_;rw [bM]
      rw [hver,St.HC] at z1 z2
      simp only [ex,St.HC] at k3
      exact fin z1 z2 k3
     ·exact k3.elim
    ·exact k3.elim
   ·exact k3.elim
  | pass =>
   rcases xs with _ | ⟨x1,_ | ⟨x2,_ | ⟨x3,r⟩⟩⟩<;>simp only [zY,ex] at k3
   obtain ⟨sv,a2,k4⟩:=bX R k3
   clear k3
   split at k4
   ·rename_i ag cs
    have ha:([x1,x2].map a.eval).toArray = #[a.eval x1,a.eval x2]:=by simp
    rw [ha]
    refine (hed w (a.eval x1) (a.eval x2) Fa (by simpa using k1)).mono ?_
    rintro e w' ⟨rfl,hbl⟩
    have I':=R.inv.grow hbl.size hbl.block
    have T:kL g g s.h s.h w w':=kL.grow R.inv.S_lt hbl.block
    have R1:mJ P base w0 N g s a w' []:=R.sN T rfl (R.bel (hbl.mono R.inv.base_le)) I'
    refine fin R1 (sv:=.tup [(ag,cs),(false,[.dat (.bool true)])]) ⟨#[a.eval x2,.bool true],rfl,a.eval x2,[.bool true],rfl,?_,.bool true,[],rfl,?_,rfl⟩ k4
    ·exact F7.sN T a2
    ·exact ⟨.bool true,[],rfl,⟨[],by simp [Rep],qd⟩,rfl⟩
   ·exact k4.elim
  | sel c k sz =>
   rcases xs with _ | ⟨x1,r⟩<;>simp only [zY,ex] at k3
   obtain ⟨sv,a1,k4⟩:=bX R k3
   clear k3
   split at k4
   ·rename_i cs
    split at k4
    ·rename_i i ver hcs
     simp only [ex] at k4
     split at k4
     ·rename_i e' sz' rs dp ho
      split at k4
      ·rename_i hc
       split at k4
       ·rename_i y hy
        obtain ⟨vs1,hv1,hcells⟩:=a1
        obtain ⟨u,hu,hrow⟩:=hcells.at_ hcs
        have hgv:u=g.val i:=hrow.2.2 hc.1 _ _ _ _ ho
        have hvl:((x1::r).map a.eval).toArray.toList = .agg vs1::r.map a.eval:=by simp [hv1]
        refine (hed w _ Fa (by rw [hvl];simpa [hv1] using k1)).mono ?_
        rintro e w' ⟨hbl,us,hus,rfl,cs',rest,b,o,n,cap,hvs',hcell,hlie⟩
        rw [hvl] at hvs'
        simp only [List.cons.injEq,Value.agg.injEq] at hvs'
        obtain ⟨rfl,_⟩:=hvs'
        rw [hu] at hcell
        cases hcell
        have I':=R.inv.grow hbl.size hbl.block
        have T:kL g g s.h s.h w w':=kL.grow R.inv.S_lt hbl.block
        have R1:mJ P base w0 N g s a w' []:=R.sN T rfl (R.bel (hbl.mono R.inv.base_le)) I'
        have hoff:o=0:=by have hob:=R.inv.obj i;rw [ho] at hob;obtain ⟨cells,p1,p2,p3,p4,p5⟩:=hob;rcases p1.2 with ⟨q1,q2⟩ | ⟨b',c2,cur,q1,q2⟩;(rw [<-hgv] at q1;cases q1);·rw [<-hgv] at q1;cases q1;rfl
        subst hoff
        obtain ⟨cells,cur,rfl,m1,m2,m3,m4,m5,m6,m7,m8,m9,aa,ae,af⟩:=Uj R.inv ho hgv.symm
        obtain ⟨v1,v2,v3,F1,F2,F3,rfl,hF,hl1,hr1,hr2,hr3⟩:=aa.at_ m9 hy
        have hlen2:=hr2.length
        have hyl:y.length=sz':=m9 y (List.mem_of_getElem? hy)
        have q1:=(m7.drop (k*sz')).take sz'
        rw [Nat.zero_add] at q1
        rw [show (v1++(v2++v3)).drop (k*sz')=v2++v3 by rw [<-hl1,List.drop_left],List.take_append_of_le_length qb,List.take_of_length_le qb] at q1
        rw [Nat.zero_add] at hlie
        have huv:us.toList=v2:=by
         apply List.ext_getElem?
         intro j
         rcases Nat.lt_or_ge j sz with hj | hj
         ·have j1:j<us.toList.length:=by simpa [hus] using hj
          have j2:j<v2.length:=by have:=hc.2;omega
          rw [qF j1,qF j2]
          have x1:=hlie j _ (qF j1)
          have x2:=q1 j _ (qF j2)
          rw [<-hc.2] at x1
          exact x1.symm.trans x2
         ·rw [qX (by simpa [hus] using hj),qX (by have:=hc.2;omega)]
        refine fin R1 (sv:=.tup [(true,y.map .dat),(false,[.dat (.bool true)])]) ⟨#[.agg us,.bool true],rfl,.agg us,[.bool true],rfl,?_,.bool true,[],rfl,?_,rfl⟩ k4
        ·exact F7.sN T ⟨us,rfl,by rw [huv];exact aT.GA hr2 λb hb=>ae b (by rw [hF];simp [hb])⟩
        ·exact ⟨.bool true,[],rfl,⟨[],by simp [Rep],qd⟩,rfl⟩
       ·exact k4.elim
      ·exact k4.elim
     ·exact k4.elim
    ·exact k4.elim
   ·exact k4.elim
  | lend t es=>exact hed.elim
  | newb t es =>
   cases dst with
   | none=>simp only [zY,ex] at k3
   | some d =>
    simp only [zY] at k3
    obtain ⟨g2,s2,as2,F2,R2,_,q1,q2,q3⟩:=Gj R k3
    obtain ⟨rfl,k4⟩:=q3
    simp only [ex] at k4
    refine (hed w _ F2 (by simpa using q1)).mono ?_
    rintro e w' ⟨hbl,b,vals,G,rfl,hbs,hw',hr,hbG,hG⟩
    have I':=R2.inv.grow hbl.size hbl.block
    have T:kL g2 g2 s2.h s2.h w w':=kL.grow R2.inv.S_lt hbl.block
    have R3:mJ P base w0 N g2 s2 a w' []:=R2.sN T rfl (R2.bel (hbl.mono R2.inv.base_le)) I'
    have hfr : ∀x,w.heap.size<=x->D3 g2 s2.h x:=λx hx=>⟨λhS=>absurd (R2.inv.S_lt x hS) qb,λj hl hb'=>absurd (R2.inv.EP hl hb').2.lt qb⟩
    have I2:=I'.ZZ (X:=λx=>x∈G) (λx hx=>⟨(hG x hx).1.elim (λy=>.inl (q2 x y)) (λy=>.inr (Nat.le_trans R2.inv.base_le y)),(hG x hx).2⟩) (λx hx hn=>(hG x hx).1.elim (λy=>absurd (q2 x y) hn) (λy=>hfr x y))
    have R3':mJ P base w0 N { g2 with S:=λx=>g2.S x\/x∈G } s2 a w' []:=R3.sN (kL.ZZ g2 s2.h w' λx=>x∈G) rfl R3.below I2
    have hfree:D3 { g2 with S:=λx=>g2.S x\/x∈G } s2.h b:=⟨λhS=>hS.elim (hfr b hbs).1 hbG,(hfr b hbs).2⟩
    have I3:=R3'.inv.O4 (i:=d) (cells:=es.map .dat) (Nat.le_trans R2.inv.base_le hbs) hfree hw' (aT.GA hr λx hx=>.inr hx)
    have T3:=kL.create (g:={ g2 with S:=λx=>g2.S x\/x∈G }) (h:=s2.h) (w:=w') d (.pointer (some ⟨b,0,none⟩)) [] (.box t (es.map .dat))
    have R4:mJ P base w0 N _ (s2.fH d ((s2.h d).1+1,.box t (es.map .dat))) a w' []:=R3'.sN T3 rfl R3'.below I3
    refine fin R4 (sv:=.v false [.bp d ((s2.h d).1+1) 0]) ⟨_,[],rfl,⟨rfl,?_,?_⟩,rfl⟩ k4
    ·show _<=(sB s2.h d _ d).1;rw [bM];exact Nat.le_refl _
    ·intro _ t' cs' _;exact ⟨b,dS _ _ _,rfl⟩
theorem Xf {f:FuncId} {xs:List Operand} {vs:Array Value} {avs:List (Bool×List D)} {t:TypeId} {es:List D} {dst:Option Tmp} {Fa:List Nat} {R':Ending->World->Prop} (R:mJ P base w0 N g s a w []) (hvs:vs=(xs.map a.eval).toArray)
  (k1:xJ w vs.toList avs Fa) {rs:List (Bool×List RC)} (hq:PB rs=some (.lend t es)) (k2:kR P f avs rs) (k3:ex P (Pg N dst t es rs.tail xs avs) s K)
  (hnext : ∀v w',(∃s',K s'/\Rel P base w0 N s' (a.put dst v) w')->R' (.returned v) w'):Calls P f vs w R':=by
 rcases k2 with k2 | ⟨q',hq',hb,hed⟩ | ⟨t',es',rs',hr,hb,hL⟩
 ·refine (k2.2 w vs Fa k1).mono λe w' hh => ?_
  obtain ⟨v,rfl,⟨F,X,_,_,_,hv⟩,_⟩:=hh
  exact (OZ hq hv).elim
 ·rw [hq'] at hq;simp only [PB,RC.ed,qa] at hq;subst hq;exact hed.elim
 subst hr hvs
 simp only [PB,RC.ed,qa,Ed.lend.injEq] at hq
 obtain ⟨rfl,rfl⟩:=hq
 obtain ⟨han,hesf,d0,ds,rest,rfl,hdsf,hlen,hcall⟩:=hL
 cases xs with
 | nil=>exact k3.elim
 | cons x1 bs =>
  simp only [Pg,List.tail] at k3
  obtain ⟨sv1,a1,k4⟩:=bX R k3
  clear k3
  split at k4
  ·rename_i i ver
   simp only [ex] at k4
   split at k4
   ·rename_i t1 c0 cells hh
    split at k4
    ·rename_i hc
     obtain ⟨hc1,hc2⟩:=hc
     subst hc2
     obtain ⟨hone,hle,hcap⟩:=eE a1
     obtain ⟨b,hb1,hb2⟩:=hcap hc1 _ _ hh
     have hob:=R.inv.obj i
     rw [hh] at hob
     obtain ⟨b',vals,h3,h4,h5,h6⟩:=hob
     have hbb:b'=b:=by rw [hb1] at h3;simp at h3;exact h3.symm
     subst hbb
     have hlive:live s.h i:=by unfold live;rw [hh];simp
     have hown:Bj (g.val i)=some b':=by rw [h3];rfl
     have hnS:=R.inv.mtb i b' hlive hown
     obtain ⟨v0,vs0,hvl,r0,r1⟩:=h6
     obtain ⟨ds0,Fb,q1,q2,k5⟩:=Dv R.inv hh (cs:=[c0]) (vs:=[v0]) ⟨v0,[],rfl,r0,rfl⟩ k4
     obtain ⟨ds1,F1,q3,q4,k6⟩:=Dv R.inv hh r1 k5
     obtain ⟨hcells,k7⟩:=k6
     obtain ⟨as,F,q5,q6,k8⟩:=KX R hh k7
     obtain ⟨hav,k9⟩:=k8
     have hl0:=q1.length
     match ds0,q1,hl0,hav with
     | [e0],q1,_,hav =>
      simp only [List.cons_append,List.nil_append,List.cons.injEq,qZ,D.ptr.injEq,true_and,and_true] at hav
      obtain ⟨⟨rfl,rfl⟩,rfl⟩:=hav
      simp only [aJ] at q1
      obtain ⟨v0',vs',F2,F3,e1,rfl,q7,_,rfl⟩:=q1
      simp at e1
      obtain ⟨rfl,rfl⟩:=e1
      have hF1:F1=[]:=K9 q3 hdsf
      subst hF1
      have apart : ∀x,(g.S x \/ ∃j,j≠i/\live s.h j/\Bj (g.val j)=some x)->x≠b':=by rintro x (hx | ⟨j,hj,hl,hx⟩) rfl;(exact hnS hx);·exact R.inv.inj j i x hj hl hlive hx hown
      have ha:((x1::bs).map a.eval).toArray=(.pointer (some ⟨b',0,none⟩)::bs.map a.eval).toArray:=by simp [hb2]
      rw [ha]
      refine (hcall w b' vals v0 vs0 (bs.map a.eval) (F2++[]) F h5 hvl (by simpa using q7) q3 (λhx=>apart _ (q2 _ hx) rfl) q5 (λhx=>apart _ (q6 _ hx) rfl)).mono ?_
      rintro e w' ⟨v,us,rfl,hres,hgrow,hw',hus⟩
      refine hnext v w' ?_
      let w1:=w'.setRow b' vals
      have hw1:w1.heap[b']? = some (.cells vals t1 (0,0)):=setRow_heap w' b' _ vals t1 (0,0) hw'
      have hoth : ∀k,k≠b'->w'.heap[k]? = w1.heap[k]? := λk hk=>(setRow_other w' b' k _ hk).symm
      have hsz1:w1.heap.size=w'.heap.size:=setRow_size _ _ _
      have hb1' : ∀k,k<w.heap.size->w1.heap[k]? = w.heap[k]? := λk hk=>by by_cases hkb:k=b';(rw [hkb,hw1,h5]);·rw [<-hoth k hkb];exact hgrow.block k hk (λe=>hkb (Option.some.inj e))
      have hbel:Below w.heap.size w w1:=⟨hgrow.os,hgrow.tape,hgrow.output,by rw [hsz1];exact hgrow.size,hb1'⟩
      have I1:=R.inv.grow hbel.size hbel.block
      have T1:kL g g s.h s.h w w1:=kL.grow R.inv.S_lt hbel.block
      have R1:mJ P base w0 N g s a w1 []:=R.sN T1 rfl (R.bel (hbel.mono R.inv.base_le)) I1
      have T2:kL g { g with fp:=E8 g.fp i (g.fp i) } s.h (sB s.h i ((s.h i).1,.box t1 (c0::es'.map .dat))) w1 w':=
       kL.D4 hnS hoth (by intro e sz xs dp hh';cases hh') (by intro t0 cs0 hh';cases hh';exact ⟨_,hh⟩)
      have I2:=R1.inv.D4 (i:=i) (b:=b') (F:=g.fp i) (pool':=[]) (w':=w') hlive hown hsz1.symm hoth T2
       ⟨b',_,h3,h4,hw',v0,us,qd,(r0.sN T1).sN T2,aT.GA hus qd⟩ qd List.nodup_nil (by rintro ⟨_,_,_,hh'⟩;cases hh')
      have hbel2:Below w0.Q.fb w0.w w':=R.below.trans ⟨hgrow.os,hgrow.tape,hgrow.output,hgrow.size,λk hk=>hgrow.block k (Nat.lt_of_lt_of_le hk (Nat.le_trans R.fbb R.inv.base_le)) (λe=>by have:=Option.some.inj e;have:=R.q.2.1;omega)⟩
      rw [hc1] at T2 I2
      have R2:mJ P base w0 N { g with fp:=E8 g.fp i (g.fp i) } (s.fH i (ver,.box t1 (c0::es'.map .dat))) a w' []:=R1.sN T2 rfl hbel2 I2
      obtain ⟨Fr,X,p1,_,_,p4⟩:=hres
      have hfr : ∀x∈Fr,D3 { g with fp:=E8 g.fp i (g.fp i) } (s.fH i (ver,.box t1 (c0::es'.map .dat))).h x:=λx hx=>by
       have hge:=(p1.2 x hx).1
       refine ⟨λhS=>absurd (R.inv.S_lt x hS) qb,λj hl hb' => ?_⟩
       have hl':live s.h j:=by rcases ED hl with rfl | ⟨_,hl⟩;(exact hlive);·exact hl
       exact absurd (R.inv.EP hl' hb').2.lt qb
      obtain ⟨g',s',m1,m2⟩:=GQ R.inv.base_le (s:=s.fH i (ver,.box t1 (c0::es'.map .dat))) R2 p1 p4 hfr (λhh=>by rw [han] at hh;cases hh) k9
      exact ⟨s',m1,g',m2⟩
    ·exact k4.elim
   ·exact k4.elim
  ·exact k4.elim
theorem RV {f:FuncId} {as:Array Operand} {ts:Array TypeId} (ho:o.op = .call { callee:=.value (.func f),args:=as,argTypes:=ts }) (R:mJ P base w0 N g s a w []) (h:ex P (AL (fN P) N o) s K)
  (hQ:True):o.wp P a w (Aft P base w0 N K) Q:=by
 simp only [AL,ho] at h
 obtain ⟨avs,Fa,k1,rs,k2,k3⟩:=Du R h
 unfold Oper.wp
 have hrun:(execOp a.eval o).run P w = .ok (.enter f (as.map a.eval)) w:=by simp [execOp,ho,resolve,Act.eval,Deferred.ofValue,invoke,Fl k2.body]
 rw [hrun]
 unfold Oper.upon
 unfold Kp at k3
 dsimp only at k3
 split at k3
 ·rename_i han
  cases hq:PB rs with
  | some q =>
   rw [hq] at k3
   have hvs:as.map a.eval=(as.toList.map a.eval).toArray:=by apply Array.ext';simp
   by_cases hl : ∃t es,q = .lend t es
   ·obtain ⟨t,es,rfl⟩:=hl;exact Xf (vs:=as.map a.eval) R hvs (by simpa using k1) hq k2 k3 λv w' hh=>hh
   ·have k3':ex P (zY N o.dst as.toList avs q) s K:=by
     cases q with
     | lend t es=>exact absurd ⟨t,es,rfl⟩ hl
     | _=>exact k3
    exact Xh (vs:=as.map a.eval) R hvs (by simpa using k1) hq k2 k3' λv w' hh=>hh
  | none =>
   rw [hq] at k3
   have k2':NZ P f avs rs:=by rcases k2 with k2 | ⟨q,rfl,_⟩ | ⟨t1,es1,rs1,rfl,_⟩;(exact k2);(simp [PB,RC.ed] at hq);·simp [PB,RC.ed] at hq
   obtain ⟨g2,s2,as2,F2,R2,_,q1,q2,q3⟩:=Gj R k3
   obtain ⟨rfl,q4⟩:=q3
   exact Nx R2 (by simpa using q1) (λ_=>q2) k2' q4 λv w' hh=>hh
 ·rename_i han;exact Nx R (by simpa using k1) (λhh=>absurd hh han) (k2.old (by simpa using han)) k3 λv w' hh=>hh
end
end Go.Sh
