/-
  Helper text. No conditions.
-/
import Derived.Test.YtipmihbgjolaaaaGreatStorageShA
import Derived.Great.FillDense
import Derived.Great.BuildSlice
import Derived.DataReads
import Derived.Laws.StructEq
import Derived.Laws.BytesString
import Derived.Laws.IdiomStrings
import Derived.Maps.AppendAt
import Derived.Lib.AppendStr
set_option linter.unusedVariables false
set_option linter.unusedSimpArgs false
namespace Go.Sh
open Go.RowKit
section
variable {P:Program}{base N:Nat}{w0:W0}{w:World}{g:Gh}{s:St}{a:Act}{K:St->Prop}{Q:Exit->Act->World->Prop}{o:Oper}
def Aft(P:Program)(base:Nat)(J:W0)(N:Nat)(K:St->Prop):Act->World->Prop:=λC I=>∃j,K j/\Rel P base J N j C I
theorem Aa{v:Value}{w':World}{j:Act->World->Prop}(hrun:(execOp a.eval o).run P w=.ok (.value v) w')(h:j (a.put o.dst v) w'):o.wp P a w j Q:=by unfold Oper.wp;rw[hrun];exact h
theorem Qp{w':World}{j:Act->World->Prop}(hrun:(execOp a.eval o).run P w=.ok .skip w')(C:o.dst=none)(h:j a w'):o.wp P a w j Q:=by unfold Oper.wp;rw[hrun];unfold Oper.upon;rw[C];exact h
theorem Bw{v:Value}{sv:SV}(R:jS P base w0 N g s a w [])(hrun:(execOp a.eval o).run P w=.ok (.value v) w)(I:sU g s.h w sv v)(h:ex P (put N o.dst sv) s K):o.wp P a w (Aft P base w0 N K) Q:=by obtain⟨J,C,j⟩:=yC R I h;exact Aa hrun ⟨J,C,g,j⟩
theorem rL{v:Value}{sv:SV}(R:jS P base w0 N g s a w [])(h:ex P (put N o.dst sv) s K)(hrun:(execOp a.eval o).run P w=.ok (.value v) w)(j:sU g s.h w sv v):o.wp P a w (Aft P base w0 N K) Q:=Bw R hrun j h
theorem EP{d:D}{v:Value}{F:List Nat}(h:Rep w d v F)(j:∀b∈F,g.S b):sU g s.h w (one d) v:=⟨v,[],rfl,⟨F,h,j⟩,rfl⟩
theorem yD{k:IntKind}{n:Int}:sU g s.h w (one (.int k n)) (.int k n):=EP (F:=[]) (by simp[Rep]) qe
theorem D1{b:Bool}:sU g s.h w (one (.bool b)) (.bool b):=EP (F:=[]) (by simp[Rep]) qe
theorem Jh{b:ByteArray}:sU g s.h w (one (.str b)) (.string b):=EP (F:=[]) (by simp[Rep]) qe
theorem dH{c:SC}{v:Value}(h:sU g s.h w (.v false [c]) v):wG g s.h w c v:=by obtain⟨J,I,j,C,U⟩:=h;simp at j;rw[j.1];exact C
theorem jQ{k:IntKind}{n:Int}{v:Value}(h:sU g s.h w (.v false [.dat (.int k n)]) v):v=.int k n:=by obtain⟨F,j,_⟩:=dH h;simp only[Rep]at j;exact j.1
theorem Aw{b:Bool}{v:Value}(h:sU g s.h w (.v false [.dat (.bool b)]) v):v=.bool b:=by obtain⟨F,j,_⟩:=dH h;simp only[Rep]at j;exact j.1
theorem Cg{b:ByteArray}{v:Value}(h:sU g s.h w (.v false [.dat (.str b)]) v):v=.string b:=by obtain⟨F,j,_⟩:=dH h;simp only[Rep]at j;exact j.1
theorem KF{v:Value}(h:v.oneCell'=true):v.cells= #[v]:=by cases v<;>first|rfl|simp[Value.oneCell']at h
theorem AX{I:Bool}{cs:List SC}{v:Value}(h:sU g s.h w (.v I cs) v):aR g s.h w cs v.cells.toList:=by
 cases I with
 |false=>
  have C:aR g s.h w cs [v]:=h
  have j:=C.one v qe
  rw[KF j];exact C
 |true=>obtain⟨J,rfl,j⟩:=h;exact j
theorem Ru{x:Operand}(j:o.op=.move x\/o.op=.assign x)(R:jS P base w0 N g s a w [])(h:ex P (vOp x λv=>put N o.dst v) s K):o.wp P a w (Aft P base w0 N K) Q:=by obtain⟨J,I,C⟩:=bK R h;refine Bw R (v:=a.eval x) ?_ I C;rcases j with j|j<;>simp[execOp,j]
theorem Re{c x y:Operand}(C:o.op=.pick c x y)(R:jS P base w0 N g s a w [])(h:ex P (vT (jP P) N o) s K):o.wp P a w (Aft P base w0 N K) Q:=by simp only[vT,C]at h;obtain⟨sv,h1,j⟩:=bK R h;split at j;(rename_i t;have hb:=Aw h1;split at j;(rename_i J;obtain⟨su,I,U⟩:=bK R j;refine Bw R (v:=a.eval x) ?_ I U;simp[execOp,C,hb,asBool,J]);·rename_i J;obtain⟨su,I,U⟩:=bK R j;refine Bw R (v:=a.eval y) ?_ I U;simp[execOp,C,hb,asBool,J]);·exact j.elim
theorem QE(I:Inv base g s.h w []):A3 g s.h w.heap.size:=
 ⟨λJ=>absurd (I.S_lt _ J) qc,λj U C=>absurd (I.BI U C).2.lt qc⟩
theorem H8(R:jS P base w0 N g s a w [])(d:Nat)(vals:Array Value)(t:TypeId)(cells:List SC)(U:aR g s.h w cells vals.toList):
  ∃J,jS P base w0 N J (s.eV d ((s.h d).1+1,.box t cells)) a (w.alloc (.cells vals t)) []/\sU J (s.eV d ((s.h d).1+1,.box t cells)).h (w.alloc (.cells vals t)) (.v false [.bp d ((s.h d).1+1) 0]) (.pointer (some ⟨w.heap.size,0,none⟩)):=by
 have C:w.heap.size<=(w.alloc (.cells vals t)).heap.size:=by simp
 have j:∀b,b<w.heap.size->(w.alloc (.cells vals t)).heap[b]? =w.heap[b]? :=λb hb=>Below.heap_alloc w _ b hb
 have I1:=R.inv.grow C j
 have I:iC g g s.h s.h w (w.alloc (.cells vals t)):=iC.grow R.inv.S_lt j
 have I2:=I1.Ke (i:=d) (b:=w.heap.size) (cells:=cells) R.inv.base_le (QE R.inv) (heap_alloc_new w _) (U.nV I)
 have T2:=iC.create (g:=g) (h:=s.h) (w:=w.alloc (.cells vals t)) d (.pointer (some ⟨w.heap.size,0,none⟩)) [] (.box t cells)
 refine⟨_,R.nV (I.trans T2) rfl (R.below.alloc (Nat.le_trans R.fbb R.inv.base_le) _) I2,⟨_,[],rfl,⟨rfl,?_,?_⟩,rfl⟩⟩
 ·show _<=(nP s.h d _ d).1;rw[bE];exact Nat.le_refl _
 ·intro _ t' cs' _;exact⟨w.heap.size,cZ _ _ _,rfl⟩
theorem O4{t:TypeId}(C:o.op=.alloc t)(R:jS P base w0 N g s a w [])(h:ex P (vT (jP P) N o) s K):o.wp P a w (Aft P base w0 N K) Q:=by simp only[vT,C]at h;split at h;(rename_i d ti hd j;obtain⟨i,ds,z,U,h2,J,h4,I,h6,h7,h8⟩:=(cY j).ok;simp only[ex]at h;obtain⟨g',R',hv⟩:=H8 R d z.cells t ti.zero (Bi I _ _ _);obtain⟨s',k1,k2⟩:=yC R' hv h;refine Aa (v:=.pointer (some ⟨w.heap.size,0,none⟩)) (w':=w.alloc (.cells z.cells t)) ?_ ⟨s',k1,g',hd ▸ k2⟩;simp[execOp,C,Instr.alloc,zeroValue,typeInfo,U,J,newVar,newRow]);·exact h.elim
theorem RY{t:TypeId}{x:Operand}(C:o.op=.box t x)(R:jS P base w0 N g s a w [])(h:ex P (vT (jP P) N o) s K):o.wp P a w (Aft P base w0 N K) Q:=by simp only[vT,C]at h;split at h;(rename_i d hd;obtain⟨sv,J,j⟩:=bK R h;split at j;(rename_i ag I;simp only[ex]at j;obtain⟨g',R',hv⟩:=H8 R d (a.eval x).cells t I (AX J);obtain⟨U,k1,k2⟩:=yC R' hv j;refine Aa (v:=.pointer (some ⟨w.heap.size,0,none⟩)) (w':=w.alloc (.cells (a.eval x).cells t)) ?_ ⟨U,k1,g',hd ▸ k2⟩;simp[execOp,C,Instr.box,newVar,newRow]);·exact j.elim);·exact h.elim
theorem Ra(u:Array Value)(off:Nat)(cs:Array Value)(h:off+u.size<=cs.size):
  (u.zipIdx.foldl (λcs (x:Value×Nat)=>cs.setIfInBounds (off+x.2) x.1) cs).toList=cs.toList.take off++(u.toList++cs.toList.drop (off+u.size)):=by
 obtain⟨C,j⟩:=Great.foldl_set off u.toList 0 cs
 rw[<-Array.foldl_toList,Array.toList_zipIdx]
 apply List.ext_getElem?
 intro k
 rw[Array.getElem?_toList,j k]
 simp only[Nat.add_zero,Array.length_toList]
 rw[List.getElem?_append,List.getElem?_append,qU,Array.length_toList,Nat.min_eq_left qc,List.getElem?_take]
 by_cases h1:k<off
 ·rw[if_neg qc,if_pos h1,if_pos h1];simp
 ·rw[if_neg h1];by_cases h2:k<off+u.size;(rw[if_pos ⟨qc,h2,qc⟩,if_pos qd]);·rw[if_neg qc,if_neg qd];simp only[List.getElem?_drop,Array.length_toList,Array.getElem?_toList];congr 1;omega
theorem Bn(R:jS P base w0 N g s a w [])(place:Nat->Option (Nat×Nat)):∀{parts:List (Nat×Operand)} {cells:List SC} {vals:Array Value} {k:List SC->Prog},
  aR g s.h w cells vals.toList->ex P (zH place cells parts k) s K->∃I vals',Instr.fill place vals (parts.map λx=>(x.1,a.eval x.2))=some vals'/\aR g s.h w I vals'.toList/\ex P (k I) s K
 |[],cells,vals,k,U,h=>⟨cells,vals,rfl,U,h⟩
 |(i,x)::rest,cells,vals,k,U,h=>by
  simp only[zH]at h
  obtain⟨sv,h1,J⟩:=bK R h
  split at J
  ·rename_i ag I j sz hp
   split at J
   ·rename_i hh
    have hvc:=AX h1
    have C:=hvc.length
    have hl2:=U.length
    simp only[Array.length_toList]at C hl2
    have hfs:=Ra (a.eval x).cells j vals qc
    have hc':aR g s.h w (cells.take j++(I++cells.drop (j+sz))) ((a.eval x).cells.zipIdx.foldl (λI (x:Value×Nat)=>I.setIfInBounds (j+x.2) x.1) vals).toList:=by rw[hfs,C,hh.1];exact(U.take j).append (hvc.append (U.drop _))
    obtain⟨cs',vals',k1,k2,k3⟩:=Bn R place hc' J
    refine⟨cs',vals',?_,k2,k3⟩
    simp only[List.map_cons,Instr.fill,hp]
    rw[if_neg (by simp[C,hh.1];omega)]
    exact k1
   ·exact J.elim
  ·exact J.elim
theorem Kp{P:Program}{d:TypeDesc}{C:List (Nat×Nat×Bool)}(h:KC P d=some (.struct C)):
  ∃fields pl,d=.struct fields/\fields.toList.mapM (λf=>(P.info? f.type).map λi=>(f.offset,i.size))=some pl/\C=((pl.zip (fields.toList.map λf=>Fl P f.type)).map λx=>(x.1.1,x.1.2,x.2))/\fields.toList.all (λf=>(P.underlying f.type).isSome)=true:=by
 unfold KC at h
 split at h
 ·rename_i fields;split at h;(rename_i pl j;split at h;(rename_i hall;simp at h;exact⟨fields,pl,rfl,j,h.symm,hall⟩);·cases h);·cases h
 all_goals simp at h
theorem Ry{P:Program}{d:TypeDesc}{e:TypeId}{n:Nat}(h:KC P d=some (.arr e n)):d=.array n e:=by unfold KC at h;split at h;(split at h;(split at h<;>cases h);·cases h);all_goals first|(cases h;rfl)|cases h
theorem yR{P:Program}{d:TypeDesc}{e:TypeId}(h:KC P d=some (.slice e)):d=.slice e:=by
 unfold KC at h
 split at h
 ·split at h;(split at h<;>simp at h);·simp at h
 all_goals simp at h
 rw[h]
theorem ND{P:Program}{d:TypeDesc}{k:IntKind}(h:KC P d=some (.int k)):d=.int k:=by
 unfold KC at h
 split at h
 ·split at h;(split at h<;>simp at h);·simp at h
 all_goals simp at h
 rw[h]
theorem Pj{P:Program}{d:TypeDesc}(h:KC P d=some .bool):d=.bool:=by
 unfold KC at h
 split at h
 ·split at h;(split at h<;>simp at h);·simp at h
 all_goals simp at h
 rfl
theorem J3{P:Program}{d:TypeDesc}(h:KC P d=some .str):d=.string:=by
 unfold KC at h
 split at h
 ·split at h;(split at h<;>simp at h);·simp at h
 all_goals simp at h
 rfl
theorem RG{P:Program}{d:TypeDesc}{j:TI}(h:KC P d=some j.k):PT d=j.agg:=by
 unfold KC at h
 unfold TI.agg
 split at h
 ·split at h;(split at h;(simp at h;rw[<-h];rfl);·cases h);·cases h
 ·simp at h;rw[<-h];rfl
 all_goals (simp at h;rw[<-h])
 all_goals first|rfl|(unfold PT;split<;>simp_all)
theorem OO{t:TypeId}{parts:Array (Nat×Operand)}(ho:o.op=.build t parts)(R:jS P base w0 N g s a w [])(h:ex P (vT (jP P) N o) s K):o.wp P a w (Aft P base w0 N K) Q:=by
 simp only[vT,ho]at h
 split at h
 ·rename_i fs sz by' z cm sl j
  obtain⟨i,ds,C,h1,h2,U,h4,J,h6,h7,h8⟩:=(cY j).ok
  obtain⟨fields,pl,rfl,I,hfs,_⟩:=Kp h4
  have hlen:=mapM_some_length I
  obtain⟨cs,vals',k1,k2,k3⟩:=Bn R _ (Bi J g s.h w) h
  refine Bw R (v:=.agg vals') (sv:=.v true cs) ?_ ⟨vals',rfl,k2⟩ k3
  have hb:P.built t (parts.map λ(i,x)=>(i,a.eval x)).toList=some vals':=by
   unfold Program.built
   simp only[h1,h2,U,I]
   rw[Array.toList_map,<-k1]
   congr 1
   funext i
   simp only[List.getElem?_toArray,hfs,List.getElem?_map]
   have:(pl.zip (fields.toList.map λf=>Fl P f.type))[i]?.map (λx=>(x.1.1,x.1.2))=pl[i]? :=by
    rw[<-List.getElem?_map]
    have:(pl.zip (fields.toList.map λf=>Fl P f.type)).map (λx=>(x.1.1,x.1.2))=pl:=by have:=List.map_fst_zip (l₁:=pl) (l₂:=fields.toList.map λf=>Fl P f.type) (by simp[hlen]);simpa using this
    rw[this]
   rw[<-this]
   simp[Option.map_map,Function.comp_def]
  simp[execOp,ho,run_build w t _ vals' hb]
 ·rename_i e n sz by' z cm sl j
  obtain⟨i,ds,C,h1,h2,U,h4,J,h6,h7,h8⟩:=(cY j).ok
  obtain rfl:=Ry h4
  split at h
  ·rename_i te hte hp
   obtain⟨ie,de,ze,e1,_⟩:=(cY hte).ok
   refine Bw R (v:=.agg C.cells) (sv:=.v true z) ?_ ⟨C.cells,rfl,Bi J g s.h w⟩ h
   have hb:P.built t (parts.map λ(i,x)=>(i,a.eval x)).toList=some C.cells:=by unfold Program.built;simp only[h1,h2,U,e1];rw[Array.toList_map,hp];rfl
   simp[execOp,ho,run_build w t _ C.cells hb]
  ·exact h.elim
 ·exact h.elim
end
end Go.Sh
namespace Go.Sh
open Go.RowKit
section
variable {P:Program}{base N:Nat}{w0:W0}{w:World}{g:Gh}{s:St}{a:Act}{K:St->Prop}{Q:Exit->Act->World->Prop}{o:Oper}
theorem Be{t:TypeId}{d:TypeDesc}(h:P.underlying t=some d)(w:World):(isAgg t).run P w=.ok (PT d) w:=by unfold isAgg;rw[Sem.run_bind,run_underlying h w];cases d<;>rfl
theorem xX.take{b off:Nat}{cells:List Value}(h:xX w b off cells)(n:Nat):xX w b off (cells.take n):=by intro j u C;rw[List.getElem?_take]at C;split at C;(exact h j u C);·cases C
theorem xX.drop{b off:Nat}{cells:List Value}(h:xX w b off cells)(n:Nat):xX w b (off+n) (cells.drop n):=by intro j u C;rw[List.getElem?_drop]at C;have:=h (n+j) u C;rwa [show off+n+j=off+(n+j)from by omega]
theorem OZ{b:Nat}{vals:Array Value}{t:TypeId}(h:w.heap[b]? =some (.cells vals t (0,0))):xX w b 0 vals.toList:=by intro j u C;rw[cell_of_row w b _ vals t (0,0) h];simpa using C
theorem KE{t:TypeId}{I:TI}(U:jP P t=some I){b off:Nat}{cells:List Value}{cs:List SC}(hl:xX w b off cells)(hlen:cells.length=I.size)(hc:aR g s.h w cs cells):
  ∃v,(Instr.loadAt t (.pointer (some ⟨b,off,none⟩))).run P w=.ok v w/\sU g s.h w (.v I.agg cs) v:=by
 obtain⟨i,d,z,h1,h2,h3,h4,h5,h6,h7,h8,J⟩:=(cY U).ok
 have C:=RG h4
 cases hb:I.agg with
 |true=>
  refine⟨.agg cells.toArray,?_,⟨cells.toArray,rfl,by simpa using hc⟩⟩
  have hrun:=run_loadCells_list (P:=P) w ⟨b,off,none⟩ cells (λj u hu=>by rw[Addr.add_lit];exact hl j u hu)
  simp only[Instr.loadAt,Instr.sureAddr,loadVar,Sem.run_bind,Sem.run_pure,Result.andThen_ok,Be h2 w,C,hb,if_true,sizeOf,typeInfo,run_program,h1,h7,<-hlen,hrun]
 |false=>
  have hsz:I.size=1:=by rcases J with J|J;(rw[C,hb]at J;cases J);·omega
  match cells,hlen.trans hsz with
  |[v],_=>
   refine⟨v,?_,hc⟩
   have:=hl 0 v rfl
   simp only[Nat.add_zero]at this
   simp only[Instr.loadAt,Instr.sureAddr,loadVar,Sem.run_bind,Sem.run_pure,Result.andThen_ok,Be h2 w,C,hb,if_false,run_load,this,qD]
theorem Lt{ds:List D}{v:Value}(h:sU g s.h w (.v false [.dat (.ptr ds)]) v):
  ∃b j cells F,v=.pointer (some ⟨b,j,none⟩)/\b<w.heap.size/\g.S b/\xX w b j cells/\aG w ds cells F/\∀x∈F,g.S x:=by
 obtain⟨F,I,C⟩:=dH h
 simp only[Rep]at I
 obtain⟨b,j,cells,G,U,h4,rfl,J,h6⟩:=I
 exact⟨b,j,cells,G,U,h4,C b qe,J,h6,λx hx=>C x (by simp[hx])⟩
theorem OM(I:Inv base g s.h w []){i:Nat}{e:TypeId}{sz:Nat}{xs:List (List D)}{dp:Bool}(ho:(s.h i).2=.row e sz xs dp){b n c:Nat}(hv:g.val i=.slice (some ⟨b,0,none⟩) n c):
  ∃cells C,n=xs.length/\base<=b/\w.heap[b]? =some (.cells C e (0,0))/\n<=c/\c<=maxLen/\C.size=c*sz/\C.toList.take (n*sz)=cells/\xX w b 0 cells/\cells.length=n*sz/\(∀x∈xs,x.length=sz)/\
   aQ w xs cells (g.fp i)/\(∀y∈g.fp i,g.S y)/\(dp=true->vF base w (g.fp i)):=by
 have hob:=I.obj i
 rw[ho]at hob
 obtain⟨cells,h1,h2,h3,h4,h5⟩:=hob
 have U:=h1
 rcases h1.2 with⟨J,_⟩|⟨gg,cap,C,J,h7,h8,h9,aa,ae,af⟩
 ·rw[hv]at J;cases J
 ·rw[hv]at J;simp at J;obtain⟨rfl,rfl,rfl⟩:=J;refine⟨cells,C,rfl,h7,h8,h9,aa,ae,af,?_,U.1,h2,h3.rep,h4,h5⟩;intro j u hu;have:=U.cells (g:=b) (by rw[hv];rfl) j u hu;rw[Addr.add_lit]at this;exact this
theorem RI{W:World}{ds:List D}{p v:Value}(h:sU g s.h w (.v false [.exa W (.ptr ds) p]) v):v=p/\∃b j cells F,p=.pointer (some ⟨b,j,none⟩)/\xX w b j cells/\xX W b j cells/\aG W ds cells F/\∀y∈F,g.S y/\w.heap[y]? =W.heap[y]? :=by obtain⟨v',I,e,⟨h0,F,U,J⟩,h3⟩:=h;have C:I=[]:=h3;subst C;simp only[List.cons.injEq,and_true]at e;subst e h0;simp only[Rep]at U;obtain⟨b,j,cells,G,rfl,h5,rfl,h6,h7⟩:=U;exact⟨rfl,b,j,cells,G,rfl,h6.vY (J b qe).2,h6,h7,λy hy=>J y (by simp[hy])⟩
theorem MF{W:World}{b off:Nat}:∀{ds:List D} {cells:List Value} {F:List Nat} (j:Nat),aG W ds cells F->(∀y∈F,g.S y/\w.heap[y]? =W.heap[y]?)->(∀i u,cells[i]? =some u->W.cell? ⟨b,off+(j+i),none⟩=some u)->
  aR g s.h w (UK W (.pointer (some ⟨b,off,none⟩)) j ds) cells
 |[],cells,F,j,C,_,_=>by simp only[aG]at C;exact C.1
 |d::ds,cells,F,j,C,hF,U=>by
  simp only[aG]at C
  obtain⟨v,I,F1,F2,rfl,rfl,h3,h4⟩:=C
  have h0:cellAt W (.pointer (some ⟨b,off,none⟩)) j=v:=by have:=U 0 v rfl;simp only[cellAt,Nat.add_zero]at this⊢;rw[this];rfl
  refine⟨v,I,rfl,⟨h0.symm,F1,by rw[h0];exact h3,λy J=>hF y (by simp[J])⟩,MF (j+1) h4 (λy J=>hF y (by simp[J])) λi u hi=> ?_⟩
  rw[show off+(j+1+i)=off+(j+(i+1))by omega]
  exact U (i+1) u (by simpa using hi)
theorem Qm{t:TypeId}{x:Operand}(ho:o.op=.load t x)(R:jS P base w0 N g s a w [])(h:ex P (vT (jP P) N o) s K):o.wp P a w (Aft P base w0 N K) Q:=by
 simp only[vT,ho]at h
 split at h
 ·rename_i J hti
  obtain⟨sv,h1,C⟩:=bK R h
  have fin:∀{b I:Nat} {cells:List Value} {cs:List SC},a.eval x=.pointer (some ⟨b,I,none⟩)->xX w b I cells->cells.length=J.size->aR g s.h w cs cells->ex P (put N o.dst (.v J.agg cs)) s K->o.wp P a w (Aft P base w0 N K) Q:=by intro b I cells cs hx hl hlen hc hk;obtain⟨v,hrun,hv⟩:=KE hti hl hlen hc;refine Bw R (v:=v) ?_ hv hk;simp only[execOp,ho,hx,Sem.run_bind,hrun,Result.andThen_ok,Sem.run_pure]
  unfold GU at C
  split at C
  ·rename_i i ver I
   obtain⟨hone,hle,hcap⟩:=dH h1
   simp only[ex]at C
   split at C
   ·rename_i t' cells hh
    split at C
    ·rename_i hc
     obtain⟨b,hb1,hb2⟩:=hcap hc.1 _ _ hh
     have U:=R.inv.obj i
     rw[hh]at U
     obtain⟨b',vals,h3,h4,h5,h6⟩:=U
     have hbb:b'=b:=by rw[hb1]at h3;simp at h3;exact h3.symm
     subst hbb
     have hlv:=h6.length
     have hl1:=((OZ h5).drop I).take J.size
     rw[Nat.zero_add]at hl1
     refine fin hb2 hl1 ?_ ((h6.drop I).take J.size) C
     have:=hc.2
     simp only[qU,qV,hlv]
     omega
    ·exact C.elim
   ·exact C.elim
  ·rename_i ds;obtain⟨b,I,cells,F,h3,h4,h5,h6,h7,h8⟩:=Lt h1;split at C;(rename_i hc;have:=h7.length;refine fin h3 (h6.take J.size) (by rw[qU];omega) ?_ C;rw[List.map_take];exact(aR.DQ h7 h8).take _);·exact C.elim
  ·rename_i i ver j I
   obtain⟨hone,hle,hcap⟩:=dH h1
   simp only[ex]at C
   split at C
   ·rename_i e sz xs dp hh
    split at C
    ·rename_i hc
     obtain⟨b,n,c,hb1,hb2⟩:=hcap hc _ _ _ _ hh
     split at C
     ·rename_i y hy
      split at C
      ·rename_i hy2
       obtain⟨cells,cur,rfl,m1,m2,m3,m4,m5,m6,m7,m8,m9,aa,ae,af⟩:=OM R.inv hh hb1
       obtain⟨v1,v2,v3,F1,F2,F3,rfl,hF,hl1,hr1,hr2,hr3⟩:=aa.at_ m9 hy
       have hlen2:=hr2.length
       have q1:=((m7.drop (j*sz)).drop I).take J.size
       rw[Nat.zero_add]at q1
       have q2:((v1++(v2++v3)).drop (j*sz))=v2++v3:=by rw[<-hl1,List.drop_left]
       rw[q2]at q1
       have q3:((v2++v3).drop I).take J.size=(v2.drop I).take J.size:=by rw[List.drop_append_of_le_length qc,List.take_append_of_le_length (by rw[qV];omega)]
       rw[q3]at q1
       have hcr:aR g s.h w (List.map SC.dat (List.take J.size (List.drop I y))) ((v2.drop I).take J.size):=by rw[List.map_take,List.map_drop];exact((aR.DQ hr2 λb hb=>ae b (by rw[hF];simp[hb])).drop I).take _
       have hql:((v2.drop I).take J.size).length=J.size:=by rw[qU,qV];omega
       split at C
       ·rename_i u hu
        simp only[ex]at C
        split at C
        ·rename_i i' ver' u' hp
         obtain⟨⟨hu',hag⟩,C⟩:=C
         simp only[ex]at C
         split at C
         ·rename_i e2 sz2 xs2 dp2 hh2
          split at C
          ·rename_i hv2
           have hsz:J.size=1:=by obtain⟨ii,dd,zz,a1,a2,a3,a4,a5,a6,a7,a8,a9⟩:=(cY hti).ok;have:=RG a4;rw[hag]at this;rcases a9 with a9|a9;(rw[this]at a9;cases a9);·omega
           have U:=R.inv.obj 7058000
           rw[hp]at U
           obtain⟨_,p1,p2⟩:=U
           have hpv:=p2 hv2 _ _ _ _ hh2
           rw[hsz]at hu hcr q1 hql
           cases hd:List.take 1 (List.drop I y)with
           |nil=>rw[hd]at hu;simp[FN]at hu
           |cons d ds=>
            rw[hd]at hu hcr
            obtain⟨v,vs',e3,⟨F,k1,k2⟩,k3⟩:=hcr
            have hvs:vs'=[]:=by rw[e3]at hql;exact List.length_eq_zero_iff.1 (by simpa using hql)
            subst hvs
            have hval:v=u/\v.oneCell'=true:=by
             cases d<;>simp[FN]at hu
             subst hu
             simp only[Rep]at k1
             exact k1.1
            rw[e3]at q1
            refine fin (cs:=[.row i' ver']) hb2 q1 (by rw[hsz];rfl) ⟨v,[],rfl,⟨hval.2,p1,λ_ _ _ _ _ _=> ?_⟩,rfl⟩ (by rw[hag];exact C)
            rw[hpv,hval.1,hu']
          ·exact C.elim
         ·exact C.elim
        ·exact C.elim
       ·exact fin hb2 q1 hql hcr C
      ·exact C.elim
     ·exact C.elim
    ·exact C.elim
   ·exact C.elim
  ·rename_i W ds p;obtain⟨hx,b,I,cells,F,rfl,h5,h6,h7,h8⟩:=RI h1;split at C;(rename_i hc;have:=h7.length;refine fin hx (h5.take J.size) (by rw[qU];omega) ?_ C;refine(MF 0 h7 h8 λi u hi=> ?_).take _;rw[Nat.zero_add];exact h6 i u hi);·exact C.elim
  ·exact C.elim
 ·exact h.elim
theorem Ej:∀(n:Nat) {ds:List D} {j:List Value} {F:List Nat},aG w ds j F->∃C,aG w (ds.drop n) (j.drop n) C/\∀y∈C,y∈F
 |0,ds,j,F,h=>⟨F,by simpa using h,λ_ x=>x⟩
 |n+1,[],j,F,h=>by simp only[aG]at h;exact⟨[],by simp[aG,h.1],qe⟩
 |n+1,d::ds,j,F,h=>by simp only[aG]at h;obtain⟨v,I,F1,F2,rfl,rfl,h3,h4⟩:=h;obtain⟨C,U,J⟩:=Ej n h4;exact⟨C,by simpa using U,λy hy=>by simp[J y hy]⟩
theorem OW{t f:Nat}{fs:List (Nat×Nat×Bool)}{off sz:Nat}{ag:Bool}{d:TypeDesc}(hd:KC P d=some (.struct fs))(I:fs[f]? =some (off,sz,ag)):
  ∃fields j i,d=.struct fields/\fields[f]? =some j/\j.offset=off/\P.info? j.type=some i/\i.size=sz/\Fl P j.type=ag/\∃dsc,P.underlying j.type=some dsc:=by
 obtain⟨fields,pl,rfl,J,rfl,hall⟩:=Kp hd
 rw[List.getElem?_map]at I
 cases hz:(pl.zip (fields.toList.map λf=>Fl P f.type))[f]? with
 |none=>rw[hz]at I;simp at I
 |some x=>
  rw[hz]at I
  simp at I
  obtain⟨U,C⟩:=List.getElem?_zip_eq_some.1 hz
  rw[List.getElem?_map]at C
  cases hfl:fields.toList[f]? with
  |none=>rw[hfl]at C;simp at C
  |some j=>
   rw[hfl]at C
   simp at C
   have:=mapM_some_get J f j hfl
   rw[U]at this
   cases hi:P.info? j.type with
   |none=>rw[hi]at this;simp at this
   |some i=>
    rw[hi]at this
    simp at this
    obtain⟨⟨a1,a2⟩,b2⟩:=x
    simp at this I C
    refine⟨fields,j,i,rfl,by simpa using hfl,?_,hi,?_,?_,?_⟩
    ·rw[this.1];exact I.1
    ·rw[this.2];exact I.2.1
    ·rw[C];exact I.2.2
    ·rw[qQ]at hall;exact Option.isSome_iff_exists.1 (hall j (List.mem_of_getElem? hfl))
theorem It{t:TypeId}{x:Operand}{f:Nat}(ho:o.op=.fieldAddr t x f)(R:jS P base w0 N g s a w [])(h:ex P (vT (jP P) N o) s K):o.wp P a w (Aft P base w0 N K) Q:=by
 simp only[vT,ho]at h
 split at h
 ·rename_i fs sz0 by0 z0 cm0 sl0 hti
  obtain⟨i,d,z,h1,h2,h3,h4,h5,h6,h7,h8,h9⟩:=(cY hti).ok
  split at h
  ·rename_i I sz ag hf
   obtain⟨fields,fld,fi,rfl,k1,k2,k3,k4,k5,dsc,hdsc⟩:=OW (t:=t) h4 hf
   split at h
   ·rename_i hpos
    obtain⟨sv,q1,C⟩:=bK R h
    have hrun:∀b J,a.eval x=.pointer (some ⟨b,J,none⟩)->(execOp a.eval o).run P w=.ok (.value (.pointer (some ⟨b,J+I,none⟩))) w:=by
     intro b J hx
     have hne:¬fi.size=0:=by omega
     simp[execOp,ho,hx,Instr.fieldAt,run_underlying h2,k1,Instr.sureAddr,fieldPlace,sizeOf,typeInfo,k3,hne,Addr.add_lit,k2]
    unfold EU at C
    split at C
    ·rename_i j ver J;obtain⟨hone,hle,hcap⟩:=dH q1;simp only[ex]at C;split at C;(rename_i t' cs' e2;split at C;(rename_i e1;obtain⟨b,e3,e4⟩:=hcap e1 t' cs' e2;exact rL R C (hrun b J e4) ⟨_,[],rfl,⟨rfl,hle,λ_ _ _ _=>⟨b,e3,rfl⟩⟩,rfl⟩);·exact C.elim);·exact C.elim
    ·rename_i j ver jj J;obtain⟨hone,hle,hcap⟩:=dH q1;simp only[ex]at C;split at C;(rename_i e sz' xs dp e2;split at C;(rename_i e1;obtain⟨b,n,c,e3,e4⟩:=hcap e1 _ _ _ _ e2;refine rL R C (hrun b _ e4) ⟨_,[],rfl,⟨rfl,hle,λ_ e' sz'' xs' dp' hh=>⟨b,n,c,e3,?_⟩⟩,rfl⟩;rw[e2]at hh;cases hh;simp[Nat.add_assoc]);·exact C.elim);·exact C.elim
    ·rename_i ds;obtain⟨b,J,cells,F,e1,e2,e3,e4,e5,e6⟩:=Lt q1;split at C;(rename_i hle;refine rL R C (hrun b J e1) ⟨_,[],rfl,?_,rfl⟩;have hsp:∃U,aG w (ds.drop I) (cells.drop I) U/\∀y∈U,y∈F:=Ej I e5;obtain⟨U,e7,e8⟩:=hsp;refine⟨b::U,?_,?_⟩;(simp only[Rep];exact⟨b,J+I,cells.drop I,U,rfl,e2,rfl,e4.drop I,e7⟩);·intro y hy;rcases List.mem_cons.1 hy with rfl|hy;(exact e3);·exact e6 y (e8 y hy));·exact C.elim
    ·exact C.elim
   ·exact h.elim
  ·exact h.elim
 ·exact h.elim
theorem On{t:TypeId}{x:Operand}{f:Nat}(ho:o.op=.field t x f)(R:jS P base w0 N g s a w [])(h:ex P (vT (jP P) N o) s K):o.wp P a w (Aft P base w0 N K) Q:=by
 simp only[vT,ho]at h
 split at h
 ·rename_i fs sz0 by0 z0 cm0 sl0 hti
  obtain⟨i,d,z,h1,h2,h3,h4,h5,h6,h7,h8,h9⟩:=(cY hti).ok
  split at h
  ·rename_i j sz ag hf
   obtain⟨fields,fld,fi,rfl,k1,k2,k3,k4,k5,dsc,hdsc⟩:=OW (t:=t) h4 hf
   obtain⟨sv,q1,I⟩:=bK R h
   split at I
   ·rename_i cs
    split at I
    ·rename_i hc
     obtain⟨C,hx,U⟩:=q1
     have hl:=U.length
     simp only[Array.length_toList]at hl
     have hsub:=(U.drop j).take sz
     have hag:PT dsc=ag:=by unfold Fl at k5;rw[hdsc]at k5;exact k5
     cases ag with
     |true=>
      refine rL R I (v:=.agg (C.extract j (j+sz))) ?_ ⟨_,rfl,?_⟩
      ·simp[execOp,ho,hx,Instr.field,run_underlying h2,k1,asAgg,part,Be hdsc,hag,sizeOf,typeInfo,k3,k4,k2]
      ·have:(C.extract j (j+sz)).toList=(C.toList.drop j).take sz:=by simp
       rw[this];exact hsub
     |false=>
      have hsz:sz=1:=by simpa using hc.2
      subst hsz
      have J:j<C.size:=by omega
      have hone:(C.toList.drop j).take 1=[C[j]]:=by rw[qW (by simpa using J)];simp
      rw[hone]at hsub
      refine rL R I (v:=C[j]) ?_ hsub
      simp[execOp,ho,hx,Instr.field,run_underlying h2,k1,asAgg,part,Be hdsc,hag,k2,J]
    ·exact I.elim
   ·exact I.elim
  ·exact h.elim
 ·exact h.elim
end
end Go.Sh
namespace Go.Sh
open Go.RowKit
section
variable {P:Program}{base N:Nat}{w0:W0}{w:World}{g:Gh}{s:St}{a:Act}{K:St->Prop}{Q:Exit->Act->World->Prop}{o:Oper}
theorem GK{xs:List (List D)}{v:Value}(h:sU g s.h w (.v false [.dat (.sl xs)]) v):
  ∃C n c,v=.slice C n c/\n=xs.length/\n<=c/\(n=0 \/∃b j cells sz G,C=some ⟨b,j,none⟩/\b<w.heap.size/\g.S b/\xX w b j cells/\cells.length=n*sz/\(∀x∈xs,x.length=sz)/\aQ w xs cells G/\∀y∈G,g.S y):=by
 obtain⟨F,U,J⟩:=dH h
 simp only[Rep]at U
 obtain⟨C,n,c,h3,h4,h5,I⟩:=U
 refine⟨C,n,c,h3,h4,h5,?_⟩
 rcases I with⟨I,_⟩|⟨b,j,cells,sz,G,k1,k2,rfl,k4,k5,k6,k7⟩
 ·exact .inl I
 ·exact .inr ⟨b,j,cells,sz,G,k1,k2,J b qe,k4,k5,k6,k7,λy hy=>J y (by simp[hy])⟩
theorem Ot{B:Nat}{d:D}{u:Option Value}{v:Value}(h:sU g s.h w (.v false [.old B d u]) v):sU g s.h w (.v false [.dat d]) v:=by obtain⟨C,vs,e,⟨F,U,j,_⟩,J⟩:=h;exact⟨C,vs,e,⟨F,U,λb I=>(j b I).1⟩,J⟩
theorem Iw{t:TypeId}{x ix:Operand}(ho:o.op=.indexAddr t x ix)(R:jS P base w0 N g s a w [])(h:ex P (vT (jP P) N o) s K):o.wp P a w (Aft P base w0 N K) Q:=by
 simp only[vT,ho]at h
 split at h
 ·rename_i e sz0 by0 z0 cm0 sl0 hti
  obtain⟨i,d,z,h1,h2,h3,h4,h5,h6,h7,h8,h9⟩:=(cY hti).ok
  obtain rfl:=yR h4
  split at h
  ·rename_i te hte
   obtain⟨ie,de,ze,e1,e2,e3,e4,e5,e6,e7,e8,e9⟩:=(cY hte).ok
   obtain⟨sx,q1,q2⟩:=bK R h
   obtain⟨si,q3,C⟩:=bK R q2
   have hrun:∀b I n c k (m:Int),a.eval x=.slice (some ⟨b,I,none⟩) n c->a.eval ix=.int k m->0<=m->m.toNat<n->
     (execOp a.eval o).run P w=.ok (.value (.pointer (some ⟨b,I+m.toNat*te.size,none⟩))) w:=by
    intro b I n c k m hx hi hm hlt
    have hlt':m<(n:Int):=by omega
    simp[execOp,ho,hx,hi,Instr.indexAt,asIntOf,run_underlying h2,sizeOf,typeInfo,e1,e7,hm,hlt',Addr.add_lit]
   unfold wR at C
   split at C
   ·rename_i xs k m
    obtain⟨ad,n,c,k1,k2,k3,k4⟩:=GK q1
    obtain⟨hm,C⟩:=C
    split at C
    ·rename_i y hy
     split at C
     ·rename_i hyl
      have hlt:m.toNat<xs.length:=(List.getElem?_eq_some_iff.1 hy).1
      rcases k4 with k4|⟨b,I,cells,sz,G,rfl,m2,m3,m4,m5,m6,m7,m8⟩
      ·omega
      ·have hsz:sz=te.size:=by rw[<-hyl];exact(m6 y (List.mem_of_getElem? hy)).symm
       subst hsz
       refine rL R C (hrun b I n c k m k1 (jQ q3) hm qc) ⟨_,[],rfl,?_,rfl⟩
       obtain⟨v1,v2,v3,F1,F2,F3,rfl,hF,hl1,hr1,J,hr3⟩:=m7.at_ m6 hy
       refine⟨b::F2,?_,?_⟩
       ·simp only[Rep];refine⟨b,I+m.toNat*te.size,v2,F2,rfl,m2,rfl,?_,J⟩;have q:=(m4.drop (m.toNat*te.size)).take te.size;rw[<-hl1,List.drop_left,List.take_append_of_le_length (by rw[J.length];omega),List.take_of_length_le (by rw[J.length];omega)]at q;rw[<-hl1];exact q
       ·intro yy U;rcases List.mem_cons.1 U with rfl|U;(exact m3);·exact m8 yy (by rw[hF];simp[U])
     ·exact C.elim
    ·exact C.elim
   ·rename_i B xs u k m
    obtain⟨ad,n,c,k1,k2,k3,k4⟩:=GK (Ot q1)
    obtain⟨hm,C⟩:=C
    split at C
    ·rename_i y hy
     split at C
     ·rename_i hyl
      have hlt:m.toNat<xs.length:=(List.getElem?_eq_some_iff.1 hy).1
      rcases k4 with k4|⟨b,I,cells,sz,G,rfl,m2,m3,m4,m5,m6,m7,m8⟩
      ·omega
      ·have hsz:sz=te.size:=by rw[<-hyl];exact(m6 y (List.mem_of_getElem? hy)).symm
       subst hsz
       refine rL R C (hrun b I n c k m k1 (jQ q3) hm qc) ⟨_,[],rfl,?_,rfl⟩
       obtain⟨v1,v2,v3,F1,F2,F3,rfl,hF,hl1,hr1,J,hr3⟩:=m7.at_ m6 hy
       refine⟨b::F2,?_,?_⟩
       ·simp only[Rep];refine⟨b,I+m.toNat*te.size,v2,F2,rfl,m2,rfl,?_,J⟩;have q:=(m4.drop (m.toNat*te.size)).take te.size;rw[<-hl1,List.drop_left,List.take_append_of_le_length (by rw[J.length];omega),List.take_of_length_le (by rw[J.length];omega)]at q;rw[<-hl1];exact q
       ·intro yy U;rcases List.mem_cons.1 U with rfl|U;(exact m3);·exact m8 yy (by rw[hF];simp[U])
     ·exact C.elim
    ·exact C.elim
   ·rename_i j ver k m;obtain⟨hone,hle,hcap⟩:=dH q1;simp only[ex]at C;split at C;(rename_i e' sz' xs dp hh;split at C;(rename_i hc;obtain⟨⟨hm,hlt⟩,C⟩:=C;have hval:=hcap hc.1 _ _ _ _ hh;have hob:=R.inv.obj j;rw[hh]at hob;obtain⟨cells,r1,r2,r3,r4,r5⟩:=hob;rcases r1.2 with⟨r6,r7⟩|⟨gg,cap,cur,r6,r7,r8,r9⟩;(omega);·refine rL R C (hrun gg 0 _ cap k m (hval.trans r6) (jQ q3) hm hlt) ⟨_,[],rfl,⟨rfl,hle,λ_ e'' sz'' xs'' dp'' hh'=>⟨gg,_,cap,r6,?_⟩⟩,rfl⟩;rw[hh]at hh';cases hh';rw[<-hc.2];simp);·exact C.elim);·exact C.elim
   ·rename_i W xs v k m
    obtain⟨v',vs',e0,⟨h0,F,k1,k2⟩,h3'⟩:=q1
    have h3'':vs'=[]:=h3'
    subst h3''
    simp only[List.cons.injEq,and_true]at e0
    rw[h0]at e0
    obtain⟨hm,C⟩:=C
    split at C
    ·rename_i y hy
     split at C
     ·rename_i hyl
      have hlt:m.toNat<xs.length:=(List.getElem?_eq_some_iff.1 hy).1
      simp only[Rep]at k1
      obtain⟨ad,n,c,rfl,kn,kc,k4⟩:=k1
      rcases k4 with k4|⟨b,I,cells,sz,G,rfl,m2,rfl,m4,m5,m6,m7⟩
      ·omega
      ·have hsz:sz=te.size:=by rw[<-hyl];exact(m6 y (List.mem_of_getElem? hy)).symm
       subst hsz
       refine rL R C (hrun b I n c k m e0 (jQ q3) hm qc) ⟨_,[],rfl,⟨rfl,?_⟩,rfl⟩
       obtain⟨v1,v2,v3,F1,F2,F3,rfl,hF,hl1,hr1,J,hr3⟩:=m7.at_ m6 hy
       refine⟨b::F2,?_,?_⟩
       ·simp only[Rep];refine⟨b,I+m.toNat*te.size,v2,F2,rfl,m2,rfl,?_,J⟩;have q:=(m4.drop (m.toNat*te.size)).take te.size;rw[<-hl1,List.drop_left,List.take_append_of_le_length (by rw[J.length];omega),List.take_of_length_le (by rw[J.length];omega)]at q;rw[<-hl1];exact q
       ·intro yy U;rcases List.mem_cons.1 U with rfl|U;(exact k2 yy qe);·exact k2 yy (by rw[hF];simp[U])
     ·exact C.elim
    ·exact C.elim
   ·exact C.elim
  ·exact h.elim
 ·rename_i e n sz0 by0 z0 cm0 sl0 hti
  obtain⟨i,d,z,h1,h2,h3,h4,h5,h6,h7,h8,h9⟩:=(cY hti).ok
  obtain rfl:=Ry h4
  split at h
  ·rename_i te hte
   obtain⟨ie,de,ze,e1,e2,e3,e4,e5,e6,e7,e8,e9⟩:=(cY hte).ok
   obtain⟨sx,q1,q2⟩:=bK R h
   obtain⟨si,q3,C⟩:=bK R q2
   split at C
   ·rename_i j ver I k m
    simp only[ex]at C
    split at C
    ·rename_i t' cells hh
     split at C
     ·rename_i hc
      obtain⟨⟨hm0,hmn⟩,C⟩:=C
      obtain⟨hone,hle,hcap⟩:=dH q1
      obtain⟨b,hb1,hb2⟩:=hcap hc _ _ hh
      have hlt:m<(n:Int):=by omega
      refine rL R C (v:=.pointer (some ⟨b,I+m.toNat*te.size,none⟩)) ?_ ⟨_,[],rfl,⟨rfl,hle,λ_ t'' cs'' hh'=>⟨b,hb1,rfl⟩⟩,rfl⟩
      simp[execOp,ho,hb2,jQ q3,Instr.indexAt,Instr.sureAddr,asIntOf,run_underlying h2,sizeOf,typeInfo,e1,e7,hm0,hlt,Addr.add_lit]
     ·exact C.elim
    ·exact C.elim
   ·exact C.elim
  ·exact h.elim
 ·exact h.elim
theorem OB{t:TypeId}{x ix:Operand}(I:o.op=.index t x ix)(R:jS P base w0 N g s a w [])(h:ex P (vT (jP P) N o) s K):o.wp P a w (Aft P base w0 N K) Q:=by simp only[vT,I]at h;split at h;(rename_i sz0 by0 z0 cm0 sl0 C;obtain⟨i,d,z,h1,h2,h3,h4,h5,h6,h7,h8,h9⟩:=(cY C).ok;obtain rfl:=J3 h4;obtain⟨sx,q1,U⟩:=bK R h;obtain⟨si,J,j⟩:=bK R U;split at j;(rename_i str k n;obtain⟨hn,j⟩:=j;split at j;(rename_i b hb;refine rL R j (v:=.int .u8 b.toNat) ?_ yD;simp[execOp,I,Cg q1,jQ J,Instr.index,asIntOf,run_underlying h2,hn,hb]);·exact j.elim);·exact j.elim);·exact h.elim
theorem Nn{op:BinOp}{t:TypeId}{k C:IntKind}{m n:Int}{d:D}(I:k=C\/op=.shr\/op=.shl)(h:pY op k m n=some d)(w:World):∃v,(binOp op t (.int k m) (.int C n)).run P w=.ok v w/\Rep w d v []:=by
 cases op
 case shl=>
  simp only[pY]at h
  split at h
  ·cases h
  ·rename_i j;cases h;exact⟨.int k (k.wrap (m*2^(min n.toNat k.bits))),by simp only[binOp,Op.shift,j,if_false,Sem.run_pure],by simp[Rep]⟩
 case shr=>
  simp only[pY]at h
  split at h
  ·cases h
  ·rename_i j;cases h;exact⟨.int k (m.fdiv (2^(min n.toNat k.bits))),by simp only[binOp,Op.shift,j,if_false,Sem.run_pure],by simp[Rep]⟩
 all_goals (obtain rfl:k=C:=by simpa using I)
 case quo=>
  simp only[pY]at h
  split at h
  ·cases h
  ·rename_i j;cases h;exact⟨.int k (k.wrap (m.tdiv n)),by simp[binOp,Op.intDiv,j],by simp[Rep]⟩
 case rem=>
  simp only[pY]at h
  split at h
  ·cases h
  ·rename_i j;cases h;exact⟨.int k (m.tmod n),by simp[binOp,Op.intDiv,j],by simp[Rep]⟩
 case and=>simp only[pY]at h;cases h;exact⟨.int k (k.wrap (BitVec.ofInt k.bits m&&&BitVec.ofInt k.bits n).toNat),by simp only[binOp,ne_eq,not_true_eq_false,if_false,Op.intBits,Sem.run_pure],by simp only[Rep,and_self]⟩
 case or=>simp only[pY]at h;cases h;exact⟨.int k (k.wrap (BitVec.ofInt k.bits m|||BitVec.ofInt k.bits n).toNat),by simp only[binOp,ne_eq,not_true_eq_false,if_false,Op.intBits,Sem.run_pure],by simp only[Rep,and_self]⟩
 case xor=>simp only[pY]at h;cases h;exact⟨.int k (k.wrap (BitVec.ofInt k.bits m ^^^ BitVec.ofInt k.bits n).toNat),by simp only[binOp,ne_eq,not_true_eq_false,if_false,Op.intBits,Sem.run_pure],by simp only[Rep,and_self]⟩
 case andNot=>simp only[pY]at h;cases h;exact⟨.int k (k.wrap (BitVec.ofInt k.bits m &&& ~~~BitVec.ofInt k.bits n).toNat),by simp only[binOp,ne_eq,not_true_eq_false,if_false,Op.intBits,Sem.run_pure],by simp only[Rep,and_self]⟩
 all_goals (simp[pY]at h;subst h;simp[binOp,Op.intArith,Op.intCmp,Rep])
theorem Ni{op:BinOp}{t:TypeId}{m n:ByteArray}{d:D}(h:CY op m n=some d)(w:World):∃v,(binOp op t (.string m) (.string n)).run P w=.ok v w/\Rep w d v []:=by cases op<;>simp[CY]at h<;>subst h<;>simp[binOp,Op.stringOp,Rep]
def nH:List LK->List Value->List Value->Option Bool
 |[],[],[]=>some true
 | .int::ls,.int k a::j,.int I b::C=>if k=I then(nH ls j C).map ((a==b) && ·)else none
 | .bool::ls,.bool a::j,.bool b::C=>(nH ls j C).map ((a==b) && ·)
 | .str::ls,.string a::j,.string b::C=>(nH ls j C).map ((a.toList==b.toList) && ·)
 |_,_,_=>none
theorem JZ:∀(ls:List LK) {j ds:List SC} {vs us:List Value} {b:Bool},aR g s.h w j vs->aR g s.h w ds us->wS ls j ds=some b->nH ls vs us=some b:=by
 intro ls
 induction ls with
 |nil=>
  intro j ds vs us b h1 J h
  match j,ds,h with
  |[],[],h=>rw[show vs=[]from h1,show us=[]from J];exact h
 |cons l ls ih=>
  intro j ds vs us b h1 J h
  cases l with
  |int=>
   match j,ds,h with
   | .dat (.int k x)::j,.dat (.int k' y)::ds,h=>
    obtain⟨v,vs',rfl,⟨F,C,_⟩,h3⟩:=h1
    obtain⟨u,U,rfl,⟨G,I,_⟩,h4⟩:=J
    simp only[Rep]at C I
    rw[C.1,I.1]
    simp only[wS,nH]at h⊢
    split at h
    ·rename_i hk
     rw[if_pos hk]
     cases hh:wS ls j ds with
     |none=>rw[hh]at h;cases h
     |some b'=>rw[hh]at h;rw[ih h3 h4 hh];exact h
    ·cases h
  |bool=>
   match j,ds,h with
   | .dat (.bool x)::j,.dat (.bool y)::ds,h=>
    obtain⟨v,vs',rfl,⟨F,C,_⟩,h3⟩:=h1
    obtain⟨u,U,rfl,⟨G,I,_⟩,h4⟩:=J
    simp only[Rep]at C I
    rw[C.1,I.1]
    simp only[wS,nH]at h⊢
    cases hh:wS ls j ds with
    |none=>rw[hh]at h;cases h
    |some b'=>rw[hh]at h;rw[ih h3 h4 hh];exact h
  |str=>
   match j,ds,h with
   | .dat (.str x)::j,.dat (.str y)::ds,h=>
    obtain⟨v,vs',rfl,⟨F,C,_⟩,h3⟩:=h1
    obtain⟨u,U,rfl,⟨G,I,_⟩,h4⟩:=J
    simp only[Rep]at C I
    rw[C.1,I.1]
    simp only[wS,nH]at h⊢
    cases hh:wS ls j ds with
    |none=>rw[hh]at h;cases h
    |some b'=>rw[hh]at h;rw[ih h3 h4 hh];exact h
theorem Cu:∀(a b:List LK) {C j:List Value} {r:Bool},nH (a++b) C j=some r->a.length<=C.length/\a.length<=j.length/\
  ∃J I,nH a (C.take a.length) (j.take a.length)=some J/\nH b (C.drop a.length) (j.drop a.length)=some I/\r=(J&&I)
 |[],b,C,j,r,h=>⟨Nat.zero_le _,Nat.zero_le _,true,r,by simp[nH],by simpa using h,qe⟩
 |l::a,b,C,j,r,h=>by
  have key:∀{C j:List Value} {r:Bool},nH (a++b) C j=some r->_:=λh=>Cu a b h
  simp only[List.cons_append]at h
  cases l with
  |int=>
   match C,j,h with
   | .int k x::C,.int k' y::j,h=>
    simp only[nH]at h
    split at h
    ·rename_i hk
     cases hh:nH (a++b) C j with
     |none=>rw[hh]at h;cases h
     |some b'=>
      rw[hh]at h
      simp at h
      obtain⟨k1,k2,J,I,U,k4,k5⟩:=key hh
      exact⟨by simpa using k1,by simpa using k2,(x==y)&&J,I,by simp[nH,hk,U],by simpa using k4,by rw[<-h,k5,Bool.and_assoc]⟩
    ·cases h
  |bool=>
   match C,j,h with
   | .bool x::C,.bool y::j,h=>
    simp only[nH]at h
    cases hh:nH (a++b) C j with
    |none=>rw[hh]at h;cases h
    |some b'=>
     rw[hh]at h
     simp at h
     obtain⟨k1,k2,J,I,U,k4,k5⟩:=key hh
     exact⟨by simpa using k1,by simpa using k2,(x==y)&&J,I,by simp[nH,U],by simpa using k4,by rw[<-h,k5,Bool.and_assoc]⟩
  |str=>
   match C,j,h with
   | .string x::C,.string y::j,h=>
    simp only[nH]at h
    cases hh:nH (a++b) C j with
    |none=>rw[hh]at h;cases h
    |some b'=>
     rw[hh]at h
     simp at h
     obtain⟨k1,k2,J,I,U,k4,k5⟩:=key hh
     exact⟨by simpa using k1,by simpa using k2,(x.toList==y.toList)&&J,I,by simp[nH,U],by simpa using k4,by rw[<-h,k5,Bool.and_assoc]⟩
def valOf(P:Program)(t:TypeId)(vs:List Value):Value:=if Fl P t=true then .agg vs.toArray else vs.headD .nilIface
theorem QK{t:TypeId}{C:TypeDesc}(J:P.underlying t=some C)(I:(P.info? t).isSome=true){vs:List Value}{off:Nat}(ha:Fl P t=false->off<vs.length/\P.cellsOf t=1):(part t vs.toArray off).run P w=.ok (valOf P t ((vs.drop off).take (P.cellsOf t))) w:=by
 obtain⟨i,I⟩:=Option.isSome_iff_exists.1 I
 have j:Fl P t=PT C:=by unfold Fl;rw[J]
 unfold part valOf
 cases hb:PT C with
 |true=>
  simp only[Sem.run_bind,Be J w,hb,Result.andThen_ok,if_true,sizeOf,typeInfo,run_program,I,Sem.run_pure,j,Program.cellsOf,Option.map_some,Option.getD_some]
  simp[List.extract_toArray,List.extract_eq_take_drop]
 |false=>
  obtain⟨U,h2⟩:=ha (by rw[j,hb])
  simp only[Sem.run_bind,Be J w,hb,Result.andThen_ok,if_false,j,h2,qD]
  have:vs.toArray[off]? =some vs[off]:=by simp[U]
  rw[this]
  have:((vs.drop off).take 1).headD .nilIface=vs[off]:=by rw[qW U];rfl
  rw[this]
  rfl
theorem Nj:∀(ls:List LK) {C j:List Value} {b:Bool},nH ls C j=some b->C.length=ls.length/\j.length=ls.length:=by
 intro ls C j b h
 have:=Cu ls [] (by simpa using h)
 obtain⟨h1,J,U,r2,h3,I,h5⟩:=this
 match hv:C.drop ls.length,hu:j.drop ls.length,I with
 |[],[],I=>
  rw[List.drop_eq_nil_iff]at hv hu
  omega
theorem GC{n:Nat}(ih:∀(t:TypeId) (ls:List LK),BO P n t=some ls->∀d,n<=d->∀(vs C:List Value) (b:Bool),nH ls vs C=some b->(Op.equalIn d t (valOf P t vs) (valOf P t C)).run P w=.ok b w)
  {d:Nat}(hd:n<=d):∀(fs:List Field) (j:Nat) (ls:List LK) (vs C:List Value) (b:Bool),A0 P (BO P n) j fs=some ls->nH ls (vs.drop j) (C.drop j)=some b->
   (Op.eqFields d vs.toArray C.toArray fs).run P w=.ok b w
 |[],j,ls,vs,C,b,h,U=>by
  simp[A0]at h
  subst h
  have hl:=Nj _ U
  match vs.drop j,C.drop j,U with
  |[],[],U=>simp[nH]at U;subst U;simp[Op.eqFields]
 |f::fs,j,ls,vs,C,b,h,U=>by
  simp only[A0]at h
  split at h
  ·rename_i hf
   split at h
   ·rename_i a c J hc
    split at h
    ·rename_i hlen
     cases h
     obtain⟨k1,k2,r1,r2,k3,k4,rfl⟩:=Cu a c U
     have hun:∃dsc,P.underlying f.type=some dsc:=by
      cases n with
      |zero=>simp[BO]at J
      |succ n=>
       simp only[BO]at J
       split at J
       all_goals first|exact⟨_,by assumption⟩|cases J
     obtain⟨dsc,hdsc⟩:=hun
     have hone:Fl P f.type=false->a.length=1:=by
      intro I
      unfold Fl at I
      rw[hdsc]at I
      cases n with
      |zero=>simp[BO]at J
      |succ n=>
       simp only[BO,hdsc]at J
       split at J<;>first|(cases J;rfl)|(rename_i e;cases e;simp[PT]at I)|cases J
     have hp:∀(C:List Value),a.length<=(C.drop j).length->(part f.type C.toArray f.offset).run P w=.ok (valOf P f.type ((C.drop j).take a.length)) w:=by
      intro C hl
      rw[hlen,<-hf.1]
      refine QK hdsc hf.2.2 λI=> ?_
      have:=hone I
      rw[qV]at hl
      omega
     have h1:=hp vs k1
     have h2:=hp C k2
     have h3:=ih f.type a J d hd _ _ r1 k3
     have h4:=GC ih hd fs (j+P.cellsOf f.type) c vs C r2 hc (by rw[List.drop_drop,List.drop_drop,hlen]at k4;exact k4)
     simp only[Op.eqFields,hf.2.1,ne_eq,not_false_eq_true,if_true,Sem.run_bind,h1,h2,h3,Result.andThen_ok]
     cases r1 with
     |true=>simp[h4]
     |false=>simp
    ·cases h
   ·cases h
  ·cases h
theorem FJ:∀(n:Nat) (t:TypeId) (ls:List LK),BO P n t=some ls->∀d,n<=d->∀(J I:List Value) (b:Bool),nH ls J I=some b->(Op.equalIn d t (valOf P t J) (valOf P t I)).run P w=.ok b w
 |0,t,ls,h,_,_,_,_,_,_=>by simp[BO]at h
 |n+1,t,ls,h,d,hd,J,I,b,j=>by
  obtain⟨d,rfl⟩:∃d',d=d'+1:=⟨d-1,qc⟩
  simp only[BO]at h
  split at h
  ·rename_i k U
   cases h
   have C:Fl P t=false:=by unfold Fl;rw[U];rfl
   match J,I,j with
   | .int k1 x::J,.int k2 y::I,j=>
    simp only[nH]at j
    split at j
    ·rename_i hk
     subst hk
     match J,I,j with
     |[],[],j=>
      simp[nH]at j
      simp only[valOf,C,List.headD_cons,qD,if_false]
      rw[run_equalIn_int w d t _ _ x y U,<-j]
    ·cases j
  ·rename_i U
   cases h
   have C:Fl P t=false:=by unfold Fl;rw[U];rfl
   match J,I,j with
   | .bool x::J,.bool y::I,j=>
    simp only[nH]at j
    match J,I,j with
    |[],[],j=>
     simp[nH]at j
     simp only[valOf,C,List.headD_cons,qD,if_false]
     rw[run_equalIn_bool' w d t x y U,<-j]
  ·rename_i U
   cases h
   have C:Fl P t=false:=by unfold Fl;rw[U];rfl
   match J,I,j with
   | .string x::J,.string y::I,j=>
    simp only[nH]at j
    match J,I,j with
    |[],[],j=>
     simp[nH]at j
     simp only[valOf,C,List.headD_cons,qD,if_false]
     rw[run_equalIn_string w d t x y U,<-j]
  ·rename_i fs U
   split at h
   ·rename_i hst
    have C:Fl P t=true:=by unfold Fl;rw[U];rfl
    have hfo:P.fieldsOf t=fs:=by unfold Program.fieldsOf;rw[U]
    simp only[valOf,C,if_true]
    rw[run_equalIn_struct w d t _ _ (by rw[hfo];exact U) hst,hfo]
    exact GC (λt ls=>FJ n t ls) qc fs.toList 0 ls J I b h (by simpa using j)
   ·cases h
  ·cases h
theorem Fv{t:TypeId}{ti:TI}(U:jP P t=some ti){l:LK}{ls:List LK}(hc:ti.cmp=l::ls){op:BinOp}(J:op=.eql\/op=.neq){vs C:Array Value}{b:Bool}{x y:Operand}(hb:nH (l::ls) vs.toList C.toList=some b):
  (do eqGuard op t x y (.agg vs) (.agg C);binOp op t (.agg vs) (.agg C):Sem Value).run P w=.ok (.bool (if op=.eql then b else !b)) w:=by
 have j:=(cY U).cmp
 rw[hc]at j
 unfold SO at j
 split at j
 ·rename_i I
  cases hl:BO P 8 t with
  |none=>rw[hl]at j;simp at j
  |some ls'=>
   rw[hl]at j
   simp only[Option.getD_some]at j
   subst j
   have:=FJ (w:=w) 8 t _ hl 10000 qc _ _ b hb
   simp only[valOf,I.1,if_true,Array.toArray_toList]at this
   rcases J with rfl|rfl
   ·simp only[Sem.run_bind,run_eqGuard_agg w _ t x y vs C I.2,Result.andThen_ok,run_eql_struct w t vs C,this];rfl
   ·simp only[Sem.run_bind,run_eqGuard_agg w _ t x y vs C I.2,Result.andThen_ok,run_neq_struct w t vs C,this];rfl
 ·cases j
theorem NC{op:BinOp}{t ty:TypeId}{x y:Operand}(I:o.op=.binOp op t x y ty)(R:jS P base w0 N g s a w [])(h:ex P (vT (jP P) N o) s K):o.wp P a w (Aft P base w0 N K) Q:=by
 simp only[vT,I]at h
 obtain⟨sx,U,q2⟩:=bK R h
 obtain⟨sy,J,j⟩:=bK R q2
 split at j
 ·rename_i k m k' n;split at j;(rename_i hk;split at j;(rename_i d hd;obtain⟨v,hv,hr⟩:=Nn (P:=P) (t:=t) hk hd w;refine rL R j (v:=v) ?_ (EP hr qe);simp[execOp,I,jQ U,jQ J,eqGuard,hv]);·exact j.elim);·exact j.elim
 ·rename_i m n
  split at j
  ·rename_i hop
   subst hop
   obtain⟨hlen,j⟩:=j
   refine rL R j (v:=.string (m++n)) ?_ Jh
   have hmax:IntKind.i64.max=9223372036854775807:=by decide
   have hle:¬(((m.size+n.size:Nat):Int)>IntKind.i64.max):=by rw[hmax];omega
   simp only[execOp,I,Cg U,Cg J,eqGuard,Sem.run_bind,binOp,Op.stringOp,hle,if_false,Sem.run_pure,Result.andThen_ok]
   rfl
  ·split at j;(rename_i d hd;obtain⟨v,hv,hr⟩:=Ni (P:=P) (t:=t) hd w;refine rL R j (v:=v) ?_ (EP hr qe);simp[execOp,I,Cg U,Cg J,eqGuard,hv]);·exact j.elim
 ·rename_i m n
  split at j
  ·rename_i sz0 by0 z0 cm0 sl0 C
   obtain⟨i,d,z,h1,h2,h3,h4,h5,h6,h7,h8,h9⟩:=(cY C).ok
   obtain rfl:=Pj h4
   refine rL R j (v:=.bool (m==n)) ?_ D1
   have:∀dd,(Op.equalIn (dd+1) t (.bool m) (.bool n)).run P w=.ok (m==n) w:=λdd=>by simp[Op.equalIn,run_underlying h2]
   have:=this 9999
   simp[execOp,I,Aw U,Aw J,eqGuard,binOp,Op.equal,Op.maxDepth,this]
  ·rename_i sz0 by0 z0 cm0 sl0 C
   obtain⟨i,d,z,h1,h2,h3,h4,h5,h6,h7,h8,h9⟩:=(cY C).ok
   obtain rfl:=Pj h4
   refine rL R j (v:=.bool !(m==n)) ?_ D1
   have:∀dd,(Op.equalIn (dd+1) t (.bool m) (.bool n)).run P w=.ok (m==n) w:=λdd=>by simp[Op.equalIn,run_underlying h2]
   have:=this 9999
   simp[execOp,I,Aw U,Aw J,eqGuard,binOp,Op.equal,Op.maxDepth,this]
  ·exact j.elim
 ·rename_i cs ds
  split at j
  ·rename_i l ls C
   split at j
   ·rename_i b hb
    obtain⟨vs,hx,hcs⟩:=U
    obtain⟨us,hy,hds⟩:=J
    have hbv:=JZ _ hcs hds hb
    split at j
    ·refine rL R j (v:=.bool b) ?_ D1
     have:=Fv (w:=w) (x:=x) (y:=y) C rfl (.inl rfl) hbv
     simp only[Sem.run_bind]at this
     simp only[execOp,I,hx,hy,Sem.run_bind]
     cases hg:(eqGuard .eql t x y (.agg vs) (.agg us)).run P w with
     |ok u w1=>
      rw[hg]at this
      simp only[Result.andThen_ok,if_true]at this⊢
      rw[this]
      rfl
     |halt z w1=>rw[hg]at this;cases this
    ·refine rL R j (v:=.bool !b) ?_ D1
     have:=Fv (w:=w) (x:=x) (y:=y) C rfl (.inr rfl) hbv
     simp only[Sem.run_bind]at this
     simp only[execOp,I,hx,hy,Sem.run_bind]
     cases hg:(eqGuard .neq t x y (.agg vs) (.agg us)).run P w with
     |ok u w1=>
      rw[hg]at this
      simp only[Result.andThen_ok]at this⊢
      rw[this]
      rfl
     |halt z w1=>rw[hg]at this;cases this
    ·exact j.elim
   ·exact j.elim
  ·exact j.elim
 ·exact j.elim
theorem SP{t:TypeId}{x:Operand}(C:o.op=.unOp .not t x)(R:jS P base w0 N g s a w [])(h:ex P (vT (jP P) N o) s K):o.wp P a w (Aft P base w0 N K) Q:=by simp only[vT,C]at h;obtain⟨J,I,j⟩:=bK R h;split at j;(rename_i b;refine rL R j (v:=.bool !b) ?_ D1;simp[execOp,C,Aw I,Op.unary]);·exact j.elim
theorem Sg{t:TypeId}{x:Operand}(C:o.op=.unOp .neg t x)(R:jS P base w0 N g s a w [])(h:ex P (vT (jP P) N o) s K):o.wp P a w (Aft P base w0 N K) Q:=by simp only[vT,C]at h;obtain⟨J,I,j⟩:=bK R h;split at j;(rename_i k n;refine rL R j (v:=.int k (k.wrap (0-n))) ?_ yD;simp[execOp,C,jQ I,Op.unary,Op.intArith]);·exact j.elim
theorem QU{α:Type}{xs:Array α}{x:α}(h:xs.toList=[x]):xs= #[x]:=by cases xs;simp at h;simp[h]
theorem Ui{α:Type}{xs:Array α}{x y z:α}(h:xs.toList=[x,y,z]):xs= #[x,y,z]:=by cases xs;simp at h;simp[h]
theorem P9{α:Type}{xs:Array α}{x y:α}(h:xs.toList=[x,y]):xs= #[x,y]:=by cases xs;simp at h;simp[h]
theorem RJ{as:Array Operand}{ts:Array TypeId}(ho:o.op=.call { callee:=.builtin .len,args:=as,argTypes:=ts })(R:jS P base w0 N g s a w [])(h:ex P (vT (jP P) N o) s K):o.wp P a w (Aft P base w0 N K) Q:=by
 simp only[vT,ho]at h
 split at h
 ·rename_i x t hx ht
  have hx:=QU hx
  have ht:=QU ht
  subst hx ht
  split at h
  ·rename_i e sz0 by0 z0 cm0 sl0 hti
   obtain⟨i,d,z,h1,h2,h3,h4,_⟩:=(cY hti).ok
   obtain rfl:=yR h4
   obtain⟨sx,q1,q2⟩:=bK R h
   have hrun:∀ad n c,a.eval x=.slice ad n c->(execOp a.eval o).run P w=.ok (.value (.int .i64 n)) w:=by intro ad n c hx;simp[execOp,ho,resolve,invoke,builtin,Builtin.len_,hx,run_underlying h2,goInt]
   unfold lenOf at q2
   split at q2
   ·rename_i xs;obtain⟨ad,n,c,k1,k2,_⟩:=GK q1;subst k2;exact rL R q2 (hrun _ _ _ k1) yD
   ·rename_i B xs u;obtain⟨ad,n,c,k1,k2,_⟩:=GK (Ot q1);subst k2;exact rL R q2 (hrun _ _ _ k1) yD
   ·exact rL R q2 (hrun _ _ _ (dH q1)) yD
   ·rename_i j ver;obtain⟨hone,hle,hcap⟩:=dH q1;simp only[ex]at q2;split at q2;(rename_i e' sz' xs dp hh;split at q2;(rename_i hc;have hval:=hcap hc _ _ _ _ hh;have hob:=R.inv.obj j;rw[hh]at hob;obtain⟨cells,r1,r2,r3,r4,r5⟩:=hob;rcases r1.2 with⟨r6,r7⟩|⟨gg,cap,cur,r6,r7,r8,r9⟩;(have hx:=hrun _ _ _ (hval.trans r6);rw[<-r7]at hx;exact rL R q2 hx yD);·exact rL R q2 (hrun _ _ _ (hval.trans r6)) yD);·exact q2.elim);·exact q2.elim
   ·rename_i j ver lo n;have hp:=dH q1;simp only[ex]at q2;split at q2;(rename_i e' sz' xs dp hh;split at q2;(rename_i hc;obtain⟨ad,c,hval,_⟩:=Gm R.inv hp hc hh;exact rL R q2 (hrun _ _ _ hval) yD);·exact q2.elim);·exact q2.elim
   ·exact q2.elim
  ·rename_i sz0 by0 z0 cm0 sl0 hti;obtain⟨i,d,z,h1,h2,h3,h4,_⟩:=(cY hti).ok;obtain rfl:=J3 h4;obtain⟨sx,q1,q2⟩:=bK R h;split at q2;(rename_i str;refine rL R q2 (v:=.int .i64 str.size) ?_ yD;simp[execOp,ho,resolve,invoke,builtin,Builtin.len_,Cg q1,run_underlying h2,goInt]);·exact q2.elim
  ·exact h.elim
 ·exact h.elim
theorem IK(R:jS P base w0 N g s a w []){x:Option Operand}{k:Option SV->Prog}(h:ex P (S4 x k) s K):
  (x=none/\ex P (k none) s K) \/∃y j,x=some y/\sU g s.h w j (a.eval y)/\ex P (k (some j)) s K:=by
 cases x with
 |none=>exact .inl ⟨rfl,h⟩
 |some y=>obtain⟨j,I,C⟩:=bK R h;exact .inr ⟨y,j,rfl,I,C⟩
theorem RP{xs:List (List D)}{ad:Option Addr}{n c l m sz:Nat}(hl:l<=m)(hm:m<=n)(hn:n=xs.length)(hc:n<=c)
  (h:n=0 \/∃b off cells sz' G,ad=some ⟨b,off,none⟩/\b<w.heap.size/\g.S b/\xX w b off cells/\cells.length=n*sz'/\(∀x∈xs,x.length=sz')/\aQ w xs cells G/\∀y∈G,g.S y)
  (U:∀x∈xs,x.length=sz):
  ∃F,Rep w (.sl ((xs.take m).drop l)) (.slice (if c=l then ad else ad.map (·.add (l*sz))) (m-l) (c-l)) F/\∀y∈F,g.S y:=by
 by_cases h0:m-l=0
 ·refine⟨[],?_,qe⟩;simp only[Rep];exact⟨_,_,_,rfl,qd,qc,.inl ⟨h0,trivial⟩⟩
 ·rcases h with h|⟨b,off,cells,sz',G,rfl,k2,k3,k4,k5,J,k7,k8⟩
  ·omega
  ·have hx0:0<xs.length:=by omega
   have hsz':sz'=sz:=by have h1:=J xs[0] (qG _);have h2:=U xs[0] (qG _);omega
   subst hsz'
   have hsplit:xs=(xs.take m).take l++((xs.take m).drop l++xs.drop m):=by rw[<-qS,List.take_append_drop,List.take_append_drop]
   rw[hsplit]at k7
   obtain⟨v1,v2,F1,F2,rfl,rfl,r1,r2⟩:=aQ.split k7
   obtain⟨u1,u2,G1,G2,rfl,rfl,r3,r4⟩:=aQ.split r2
   have j:v1.length=l*sz':=by rw[aQ.length r1 λx I=>J x (List.mem_of_mem_take (List.mem_of_mem_take I)),qU,qU];congr 1;omega
   have C:u1.length=(m-l)*sz':=by rw[aQ.length r3 λx I=>J x (List.mem_of_mem_take (List.mem_of_mem_drop I)),qV,qU];congr 1;omega
   refine⟨b::G1,?_,?_⟩
   ·simp only[Rep];refine⟨_,_,_,rfl,qd,qc,.inr ⟨b,off+l*sz',u1,sz',G1,?_,k2,rfl,?_,C,λx I=>J x (List.mem_of_mem_take (List.mem_of_mem_drop I)),r3⟩⟩;(rw[if_neg qc];simp[Addr.add_lit]);·have q:=(k4.drop (l*sz')).take ((m-l)*sz');rw[<-j,List.drop_left,<-C,List.take_left]at q;rw[<-j];exact q
   ·intro y hy;rcases List.mem_cons.1 hy with rfl|hy;(exact k3);·exact k8 y (by simp[hy])
theorem run_sliceBound{v:Value}{k:IntKind}{j:Int}{y:Nat}{code:BoundsCode}(J:v=.int k j)(I:0<=j)(U:j.toNat<=y)(w:World):(Instr.sliceBound v y code).run P w=.ok j.toNat w:=by
 have C:j<=(y:Int):=by omega
 subst J
 simp only[Instr.sliceBound,asIntOf,Sem.run_bind,Sem.run_pure,Result.andThen_ok,I,C,and_self,if_true]
theorem GP(lo hi:Option Value)(n c l m:Nat)(U:(hi=none/\m=n) \/∃k j,hi=some (.int k j)/\0<=j/\j.toNat=m/\m<=c)(J:(lo=none/\l=0) \/∃k j,lo=some (.int k j)/\0<=j/\j.toNat=l/\l<=m)(w:World):
  (Instr.sliceBounds true n c lo hi none).run P w=.ok (l,m,c) w:=by
 rcases U with⟨rfl,rfl⟩|⟨k,j,rfl,hj,rfl,hc⟩
 ·rcases J with⟨rfl,rfl⟩|⟨k',j',rfl,C,rfl,I⟩;(simp only[Instr.sliceBounds,Sem.run_bind,Sem.run_pure,Result.andThen_ok]);·simp only[Instr.sliceBounds,Sem.run_bind,Sem.run_pure,Result.andThen_ok,run_sliceBound rfl C I]
 ·rcases J with⟨rfl,rfl⟩|⟨k',j',rfl,C,rfl,I⟩;(simp only[Instr.sliceBounds,Sem.run_bind,Sem.run_pure,Result.andThen_ok,run_sliceBound rfl hj hc]);·simp only[Instr.sliceBounds,Sem.run_bind,Sem.run_pure,Result.andThen_ok,run_sliceBound rfl hj hc,run_sliceBound rfl C I]
theorem Hl{t e:TypeId}{U:TypeInfo}(h2:P.underlying t=some (.slice e))(e1:P.info? e=some U)(ad:Option Addr)(lo C:Option Value)(n c l m:Nat)
  (J:(C=none/\m=n) \/∃k j,C=some (.int k j)/\0<=j/\j.toNat=m/\m<=c)(I:(lo=none/\l=0) \/∃k j,lo=some (.int k j)/\0<=j/\j.toNat=l/\l<=m)(w:World):
  (Instr.sliceAt t (.slice ad n c) lo C none).run P w=.ok (.slice (if c=l then ad else ad.map (·.add (l*U.size))) (m-l) (c-l)) w:=by
 simp only[Instr.sliceAt,Instr.slice,Sem.run_bind,run_underlying h2,Result.andThen_ok,GP lo C n c l m J I w,sizeOf,typeInfo,run_program,e1,Sem.run_pure]
theorem M5{t e:TypeId}{ie:TypeInfo}{te:TI}{x:Operand}{lo J:Option Operand}{xs:List (List D)}(ho:o.op=.slice t x lo J none)(R:jS P base w0 N g s a w [])(h2:P.underlying t=some (.slice e))(e1:P.info? e=some ie)(e7:ie.size=te.size)
  (q1:sU g s.h w (.v false [.dat (.sl xs)]) (a.eval x))(hlen:∀x∈xs,x.length=te.size)(l m:Nat)(hlm:l<=m)(hm:m<=xs.length)
  (U:(J=none/\m=xs.length) \/∃y k j,J=some y/\a.eval y=.int k j/\0<=j/\j.toNat=m)(hlo:(lo=none/\l=0) \/∃y k j,lo=some y/\a.eval y=.int k j/\0<=j/\j.toNat=l)
  (hk:ex P (put N o.dst (one (.sl ((xs.take m).drop l)))) s K):o.wp P a w (Aft P base w0 N K) Q:=by
 obtain⟨ad,n,c,k1,k2,k3,k4⟩:=GK q1
 obtain⟨F,r1,r2⟩:=RP (l:=l) (m:=m) hlm qc k2 k3 k4 hlen
 refine rL R hk ?_ (EP r1 r2)
 have hr:=Hl (P:=P) h2 e1 ad (lo.map a.eval) (J.map a.eval) n c l m (by
  rcases U with⟨rfl,hh⟩|⟨y,k,j,rfl,hj,C,I⟩
  ·exact .inl ⟨rfl,qc⟩
  ·exact .inr ⟨k,j,by simp[hj],C,I,qc⟩) (by
  rcases hlo with⟨rfl,hh⟩|⟨y,k,j,rfl,hj,C,I⟩
  ·exact .inl ⟨rfl,hh⟩
  ·exact .inr ⟨k,j,by simp[hj],C,I,qc⟩) w
 simp only[execOp,ho,Option.map_none,k1,Sem.run_bind,hr,Result.andThen_ok,Sem.run_pure,e7]
theorem NJ{t e:TypeId}{ie:TypeInfo}{te:TI}{x:Operand}{lo hi:Option Operand}{j ver:Nat}(ho:o.op=.slice t x lo hi none)(R:jS P base w0 N g s a w [])(h2:P.underlying t=some (.slice e))(e1:P.info? e=some ie)(e7:ie.size=te.size)
  (q1:sU g s.h w (.v false [.row j ver]) (a.eval x))(l:Nat)(U:Nat->Nat)(p:Nat->Prop)(hp:∀n,p n->l<=U n/\U n<=n)
  (hhi:(hi=none/\U=λn=>n) \/∃y k z,hi=some y/\a.eval y=.int k z/\(∀n,p n->0<=z)/\U=λ_=>z.toNat)(hlo:(lo=none/\l=0) \/∃y k z,lo=some y/\a.eval y=.int k z/\(∀n,p n->0<=z)/\z.toNat=l)
  (C:ex P (H3 N o.dst te.size j ver l U p) s K):o.wp P a w (Aft P base w0 N K) Q:=by
 unfold H3 at C
 simp only[ex]at C
 split at C
 ·rename_i e' sz I dp hh
  split at C
  ·rename_i hc
   obtain⟨hc1,hc2⟩:=hc
   subst hc2
   obtain⟨hpp,C⟩:=C
   obtain⟨hl,hm⟩:=hp _ hpp
   obtain⟨hone,hle,hcap⟩:=dH q1
   have hval:=hcap hc1 _ _ _ _ hh
   have hob:=R.inv.obj j
   rw[hh]at hob
   obtain⟨cells,r1,r2,r3,r4,r5⟩:=hob
   have hshape:∃J c,a.eval x=.slice J I.length c/\I.length<=c/\(I.length=0 \/∃b,J=some ⟨b,0,none⟩):=by rcases r1.2 with⟨r6,r7⟩|⟨gg,cap,cur,r6,r7,r8,r9,_⟩;(exact⟨none,0,by rw[hval,r6,r7],qc,.inl r7⟩);·exact⟨_,cap,hval.trans r6,r9,.inr ⟨gg,rfl⟩⟩
   obtain⟨J,c,k1,k2,k3⟩:=hshape
   have hr:=Hl (P:=P) h2 e1 J (lo.map a.eval) (hi.map a.eval) I.length c l (U I.length) (by
    rcases hhi with⟨rfl,rfl⟩|⟨y,k,z,rfl,hz,hz0,rfl⟩
    ·exact .inl ⟨rfl,rfl⟩
    ·exact .inr ⟨k,z,by simp[hz],hz0 _ hpp,rfl,Nat.le_trans hm k2⟩) (by
    rcases hlo with⟨rfl,hh⟩|⟨y,k,z,rfl,hz,hz0,hzm⟩
    ·exact .inl ⟨rfl,hh⟩
    ·exact .inr ⟨k,z,by simp[hz],hz0 _ hpp,hzm,hl⟩) w
   refine rL R C (v:=.slice (if c=l then J else J.map (·.add (l*ie.size))) (U I.length-l) (c-l)) ?_ ?_
   ·simp only[execOp,ho,Option.map_none,k1,Sem.run_bind,hr,Result.andThen_ok,Sem.run_pure]
   ·refine⟨_,[],rfl,⟨rfl,Nat.le_of_eq hc1.symm,λ_ e2 sz2 xs2 dp2 hh2=> ?_⟩,rfl⟩
    rw[hh]at hh2
    cases hh2
    refine⟨_,_,rfl,qc,?_,?_⟩
    ·by_cases hn:U I.length-l=0;(exact .inl hn);·right;rcases k3 with k3|⟨b,rfl⟩;(omega);·refine⟨b,I.length,c,by rw[<-hval,k1],qc,?_⟩;rw[if_neg qc,e7];simp[Addr.add_lit]
    ·rintro rfl
     refine⟨I.length,?_,qc⟩
     rw[<-hval,k1]
     congr 1
     ·split
      ·rfl
      ·cases J with
       |none=>rfl
       |some J=>simp[Addr.add]
  ·exact C.elim
 ·exact C.elim
theorem N1{t:TypeId}{x:Operand}{lo hi:Option Operand}(ho:o.op=.slice t x lo hi none)(R:jS P base w0 N g s a w [])(h:ex P (vT (jP P) N o) s K):o.wp P a w (Aft P base w0 N K) Q:=by simp only[vT,ho]at h;split at h;(rename_i e sz0 by0 z0 cm0 sl0 hti;obtain⟨i,d,z,h1,h2,h3,h4,_⟩:=(cY hti).ok;obtain rfl:=yR h4;split at h;(rename_i te hte;obtain⟨ie,de,ze,e1,e2,e3,e4,e5,e6,e7,e8,e9⟩:=(cY hte).ok;obtain⟨sx,q1,q2⟩:=bK R h;have fin:=@M5 P base N w0 w g s a K Q o t e ie te x lo hi;have fip:=@NJ P base N w0 w g s a K Q o t e ie te x lo hi;rcases IK R q2 with⟨hlo,q3⟩|⟨yl,sl,hlo,rl,q3⟩;(rcases IK R q3 with⟨I,C⟩|⟨yh,sh,I,rh,C⟩;(simp only[ex]at C);·split at C;(rename_i e1 e2;cases e1);(rename_i xs k j U J;cases J;obtain⟨⟨hj,hjl,hlen⟩,C⟩:=C;exact fin ho R h2 e1 e7 q1 hlen 0 j.toNat (Nat.zero_le _) hjl (.inr ⟨yh,k,j,I,jQ rh,hj,rfl⟩) (.inl ⟨hlo,rfl⟩) (by simpa using C));(rename_i e1 e2;cases e1);(rename_i e1 e2;cases e1);(rename_i i2 ver k j U J;cases J;exact fip ho R h2 e1 e7 q1 0 _ _ (λn hn=>⟨Nat.zero_le _,hn.2⟩) (.inr ⟨yh,k,j,I,jQ rh,λn hn=>hn.1,rfl⟩) (.inl ⟨hlo,rfl⟩) C);(rename_i e1 e2;cases e1);·exact C.elim);·rcases IK R q3 with⟨I,C⟩|⟨yh,sh,I,rh,C⟩;(split at C;(rename_i xs k j U J;cases U;obtain⟨⟨hj,hjl,hlen⟩,C⟩:=C;exact fin ho R h2 e1 e7 q1 hlen j.toNat xs.length hjl (Nat.le_refl _) (.inl ⟨I,rfl⟩) (.inr ⟨yl,k,j,hlo,jQ rl,hj,rfl⟩) (by simpa using C));(rename_i e1 e2;cases e2);(rename_i e1 e2;cases e2);(rename_i i2 ver k j U J;cases U;exact fip ho R h2 e1 e7 q1 j.toNat _ _ (λn hn=>⟨hn.2,Nat.le_refl _⟩) (.inl ⟨I,rfl⟩) (.inr ⟨yl,k,j,hlo,jQ rl,λn hn=>hn.1,rfl⟩) C);(rename_i e1 e2;cases e2);(rename_i e1 e2;cases e2);·exact C.elim);·split at C;(rename_i e1 e2;cases e2);(rename_i e1 e2;cases e1);(rename_i xs k i k' j U J;cases U;cases J;obtain⟨⟨hi0,hij,hjl,hlen⟩,C⟩:=C;exact fin ho R h2 e1 e7 q1 hlen i.toNat j.toNat qc hjl (.inr ⟨yh,k',j,I,jQ rh,qc,rfl⟩) (.inr ⟨yl,k,i,hlo,jQ rl,hi0,rfl⟩) C);(rename_i e1 e2;cases e2);(rename_i e1 e2;cases e1);(rename_i i2 ver k i k' j U J;cases U;cases J;exact fip ho R h2 e1 e7 q1 i.toNat _ _ (λn hn=>⟨by have:=hn.1;have:=hn.2.1;omega,hn.2.2⟩) (.inr ⟨yh,k',j,I,jQ rh,λn hn=>by have:=hn.1;have:=hn.2.1;omega,rfl⟩) (.inr ⟨yl,k,i,hlo,jQ rl,λn hn=>hn.1,rfl⟩) C);·exact C.elim);·exact h.elim);·exact h.elim
end
end Go.Sh
namespace Go.Sh
open Go.RowKit
section
variable {P:Program}{base N:Nat}{w0:W0}{w:World}{g:Gh}{s:St}{a:Act}{K:St->Prop}{Q:Exit->Act->World->Prop}{o:Oper}
theorem Inv.Qb{h:Heap}(I:Inv base g h w []){b:Nat}(U:base<=b)(hb:b<w.heap.size)(hf:A3 g h b):Inv base { g with S:=λx=>g.S x\/x=b } h w []/\iC g { g with S:=λx=>g.S x\/x=b } h h w w:=by
 have T:iC g { g with S:=λx=>g.S x\/x=b } h h w w:=
  ⟨λ_ x=>.inl x,λ_ _=>rfl,λ_=>Nat.le_refl _,λi e sz xs dp _ hr=>⟨rfl,xs,dp,hr⟩,λi t cs _ C=>⟨rfl,cs,C⟩,rfl⟩
 refine⟨⟨I.base_le,λx C J=>C.elim (λy=>I.S_old x y J) (λy=>absurd U qc),?_,λj=>zD.nV T rfl rfl (λ_ _=>rfl) (I.obj j),?_,I.inj,I.dis,vF.nil _ _,qe,λ_ _ _ _=>by simp,I.fb⟩,T⟩
 ·rintro x (C|rfl);(exact I.S_lt x C);·exact hb
 ·rintro j x hl C (hS|rfl);(exact I.mtb j x hl C hS);·exact hf.2 j hl C
theorem Fe{w:World}:∀(l:List UInt8),aQ w (zF l) (l.map λb=>Value.int .u8 (b.toNat:Int)) []
 |[]=>by simp[zF,aQ]
 |b::l=>by have j:=Fe (w:=w) l;simp only[zF,List.map_cons,aQ];refine⟨[.int .u8 b.toNat],_,[],[],rfl,rfl,?_,j⟩;simp only[aG];exact⟨_,[],[],[],rfl,rfl,by simp[Rep],rfl,rfl⟩
theorem Ig{w:World}:∀{j:List (List D)} {cells:List Value} {G:List Nat},(∀x∈j,∃b:UInt8,x=[.int .u8 (b.toNat:Int)])->aQ w j cells G->cells=(j.map byteOf).map (λb=>Value.int .u8 (b.toNat:Int))
 |[],cells,G,_,h=>by simp only[aQ]at h;simp[h.1]
 |x::j,cells,G,I,h=>by simp only[aQ]at h;obtain⟨v1,v2,F1,F2,rfl,rfl,C,h4⟩:=h;obtain⟨b,rfl⟩:=I x qe;have J:=Ig (λy hy=>I y (by simp[hy])) h4;simp only[aG,Rep]at C;obtain⟨v,U,_,_,rfl,_,⟨rfl,_⟩,rfl,_⟩:=C;rw[J];simp[byteOf]
theorem Ik{src C e:TypeId}{ad:Option Addr}{n c:Nat}{xs:List (List D)}(U:P.underlying src=some (.slice e))(he:P.underlying e=some (.int .u8))(J:P.underlying C=some .string)(hn:n=xs.length)
  (hb:∀x∈xs,∃b:UInt8,x=[.int .u8 (b.toNat:Int)])(h:n=0 \/∃I off cells G,ad=some ⟨I,off,none⟩/\xX w I off cells/\aQ w xs cells G)(h0:n=0->ad=none \/∃a,ad=some a):
  (convert src C (.slice ad n c)).run P w=.ok (.string (strOf xs)) w:=by
 rcases Nat.eq_zero_or_pos n with hz|hz
 ·have hx:xs=[]:=List.eq_nil_of_length_eq_zero qc
  subst hx hz
  rw[run_convert_bytes_string w src C e ad 0 c U he J]
  cases ad with
  |none=>simp[Conv.bytesToString,strOf];rfl
  |some a=>
   have:=run_bytesToString (P:=P) w a 0 c [] (by simp[loadCells,loadCellsFrom])
   simp[strOf]at this⊢;exact this
 ·rcases h with h|⟨I,off,cells,G,rfl,hl,hr⟩
  ·omega
  ·have hc:=Ig hb hr
   have hlen:n=(xs.map byteOf).length:=by simp[hn]
   rw[hlen]
   have:=run_convert_bytes_back (P:=P) w src C e ⟨I,off,none⟩ c (xs.map byteOf) U he J (λj hj=>by rw[Addr.add_lit];refine hl j _ ?_;rw[hc,List.getElem?_map,qF hj];rfl)
   exact this
theorem KU{t u:TypeId}{x:Operand}(ho:o.op=.convert t u x)(R:jS P base w0 N g s a w [])(h:ex P (vT (jP P) N o) s K):o.wp P a w (Aft P base w0 N K) Q:=by
 simp only[vT,ho]at h
 split at h
 ·rename_i ti k sz0 by0 z0 cm0 sl0 hti hti';obtain⟨i,d,z,h1,h2,h3,h4,_⟩:=(cY hti).ok;obtain⟨i',d',z',h1',I,h3',U,_⟩:=(cY hti').ok;obtain rfl:=ND U;obtain⟨sx,q1,C⟩:=bK R h;split at C;(rename_i k' n;refine rL R C (v:=.int k (k.wrap n)) ?_ yD;simp[execOp,ho,jQ q1,convert,run_underlying h2,run_underlying I,Conv.intToInt]);·exact C.elim
 ·rename_i sz0 by0 z0 cm0 sl0 e sz1 by1 z1 cm1 sl1 hti hti'
  obtain⟨i,d,z,h1,h2,h3,h4,_⟩:=(cY hti).ok
  obtain⟨i',d',z',h1',I,h3',U,_⟩:=(cY hti').ok
  obtain rfl:=J3 h4
  obtain rfl:=yR U
  split at h
  ·rename_i sz2 by2 z2 cm2 sl2 hte
   obtain⟨ie,de,ze,e1,e2,e3,e4,_⟩:=(cY hte).ok
   obtain rfl:=ND e4
   obtain⟨sx,q1,C⟩:=bK R h
   split at C
   ·rename_i b
    have hrun:=run_bytes_of_string (P:=P) w t u e b h2 I e2
    generalize J:(w.drew.alloc (.cells (bytesRow b (grownCap w b.size 0 e)) e ((bytesRow b (grownCap w b.size 0 e)).size,(bytesRow b (grownCap w b.size 0 e)).size+1)))=w' at hrun
    have hsz:w'.heap.size=w.heap.size+1:=by rw[<-J];simp
    have hbl:∀k,k<w.heap.size->w'.heap[k]? =w.heap[k]? :=λk hk=>by rw[<-J];exact Below.heap_alloc w.drew _ k hk
    have hnew:w'.heap[w.heap.size]? =some (.cells (bytesRow b (grownCap w b.size 0 e)) e ((bytesRow b (grownCap w b.size 0 e)).size,(bytesRow b (grownCap w b.size 0 e)).size+1)):=by rw[<-J];exact heap_alloc_new w.drew _
    have I1:=R.inv.grow (w':=w') qc hbl
    have T1:iC g g s.h s.h w w':=iC.grow R.inv.S_lt hbl
    have hfree:A3 g s.h w.heap.size:=⟨λhS=>absurd (R.inv.S_lt _ hS) qc,λj hl hb=>absurd (R.inv.BI hl hb).2.lt qc⟩
    obtain⟨I2,T2⟩:=I1.Qb (b:=w.heap.size) R.inv.base_le qc hfree
    have R2:jS P base w0 N _ s a w' []:=R.nV (T1.trans T2) rfl (R.bel ⟨by rw[<-J];rfl,by rw[<-J];rfl,by rw[<-J];rfl,qc,λk hk=>hbl k (Nat.lt_of_lt_of_le hk R.inv.base_le)⟩) I2
    have hv:sU { g with S:=λx=>g.S x\/x=w.heap.size } s.h w' (one (.sl (zF b.data.toList))) (.slice (some ⟨w.heap.size,0,none⟩) b.size (grownCap w b.size 0 e)):=by
     refine⟨_,[],rfl,⟨if b.size=0 then[]else[w.heap.size],?_,?_⟩,rfl⟩
     ·simp only[Rep]
      refine⟨_,_,_,rfl,by simp[zF],grownCap_ge w b.size 0 e,?_⟩
      by_cases h0:b.size=0
      ·rw[if_pos h0];exact .inl ⟨h0,rfl⟩
      ·rw[if_neg h0]
       refine .inr ⟨w.heap.size,0,b.data.toList.map (λc=>Value.int .u8 (c.toNat:Int)),1,[],rfl,qc,rfl,?_,qe,?_,Fe _⟩
       ·intro j v hj
        rw[Nat.zero_add,cell_of_row w' _ _ _ _ _ hnew]
        unfold bytesRow
        rw[List.getElem?_map]at hj
        have hjl:j<b.data.size:=by rcases Nat.lt_or_ge j b.data.size with hh|hh;(exact hh);·rw[qY (by simpa using hh)]at hj;simp at hj
        rw[Array.getElem?_append_left (by simpa using hjl)]
        simpa using hj
       ·intro y hy;unfold zF at hy;obtain⟨c,_,rfl⟩:=List.mem_map.1 hy;rfl
     ·intro y hy;split at hy;(simp at hy);·simp at hy;exact .inr hy
    obtain⟨s2,m1,m2⟩:=yC R2 hv C
    refine Aa (v:=.slice (some ⟨w.heap.size,0,none⟩) b.size (grownCap w b.size 0 e)) (w':=w') ?_ ⟨s2,m1,_,m2⟩
    simp only[execOp,ho,Cg q1,Sem.run_bind,hrun,Result.andThen_ok,Sem.run_pure]
   ·exact C.elim
  ·exact h.elim
 ·rename_i e sz0 by0 z0 cm0 sl0 sz1 by1 z1 cm1 sl1 hti hti';obtain⟨i,d,z,h1,h2,h3,h4,_⟩:=(cY hti).ok;obtain⟨i',d',z',h1',I,h3',U,_⟩:=(cY hti').ok;obtain rfl:=yR h4;obtain rfl:=J3 U;split at h;(rename_i sz2 by2 z2 cm2 sl2 hte;obtain⟨ie,de,ze,e1,e2,e3,e4,_⟩:=(cY hte).ok;obtain rfl:=ND e4;obtain⟨sx,q1,C⟩:=bK R h;split at C;(rename_i xs;obtain⟨hb,C⟩:=C;obtain⟨ad,n,c,k1,k2,k3,k4⟩:=GK q1;refine rL R C (v:=.string (strOf xs)) ?_ Jh;have hrun:=Ik (P:=P) (w:=w) (c:=c) (ad:=ad) h2 e2 I k2 hb (by rcases k4 with k4|⟨bb,off,cells,sz,G,m1,m2,m3,m4,m5,m6,m7,m8⟩;(exact .inl k4);·exact .inr ⟨bb,off,cells,G,m1,m4,m7⟩) (λ_=>by cases ad<;>simp);simp only[execOp,ho,k1,Sem.run_bind,hrun,Result.andThen_ok,Sem.run_pure]);(refine rL R C (v:=.string ByteArray.empty) ?_ Jh;have hx:a.eval x=.slice none 0 0:=dH q1;simp only[execOp,ho,hx,Sem.run_bind,run_convert_bytes_string w t u e none 0 0 h2 e2 I,Conv.bytesToString,Result.andThen_ok,Sem.run_pure]);(rename_i j ver;obtain⟨hone,hle,hcap⟩:=dH q1;simp only[ex]at C;split at C;(rename_i e' sz' xs dp hh;split at C;(rename_i hc;obtain⟨hb,C⟩:=C;have hval:=hcap hc _ _ _ _ hh;obtain⟨F,hr⟩:=Cq R.inv hh;simp only[Rep]at hr;obtain⟨ad,n,c,k1,k2,k3,k4⟩:=hr;refine rL R C (v:=.string (strOf xs)) ?_ Jh;have hrun:=Ik (P:=P) (w:=w) (c:=c) (ad:=ad) h2 e2 I k2 hb (by rcases k4 with⟨k4,_⟩|⟨bb,off,cells,sz,G,m1,m2,m3,m4,m5,m6,m7⟩;(exact .inl k4);·exact .inr ⟨bb,off,cells,G,m1,m4,m7⟩) (λ_=>by cases ad<;>simp);simp only[execOp,ho,hval,k1,Sem.run_bind,hrun,Result.andThen_ok,Sem.run_pure]);·exact C.elim);·exact C.elim);·exact C.elim);·exact h.elim
 ·exact h.elim
theorem J0{x:Operand}(J:o.op=.nilCheck x)(R:jS P base w0 N g s a w [])(h:ex P (vT (jP P) N o) s K):o.wp P a w (Aft P base w0 N K) Q:=by simp only[vT,J]at h;obtain⟨sx,I,C⟩:=bK R h;split at C;(rename_i i ver U;obtain⟨hone,hle,hcap⟩:=dH I;simp only[ex]at C;split at C;(rename_i t' cs' e2;split at C;(rename_i e1;obtain⟨b,e3,e4⟩:=hcap e1 t' cs' e2;exact rL R C (v:=a.eval x) (by simp[execOp,J,e4]) I);·exact C.elim);·exact C.elim);(rename_i i ver j U;obtain⟨hone,hle,hcap⟩:=dH I;simp only[ex]at C;split at C;(rename_i e sz' xs dp e2;split at C;(rename_i e1;obtain⟨b,n,c,e3,e4⟩:=hcap e1 _ _ _ _ e2;exact rL R C (v:=a.eval x) (by simp[execOp,J,e4]) I);·exact C.elim);·exact C.elim);(rename_i ds;obtain⟨b,U,cells,F,e1,_⟩:=Lt I;exact rL R C (v:=a.eval x) (by simp[execOp,J,e1]) I);(rename_i f ds;obtain⟨F,r1,r2⟩:=dH I;simp only[Rep]at r1;obtain⟨cv,r3,r4⟩:=r1;exact rL R C (v:=a.eval x) (by simp[execOp,J,r3]) I);(rename_i f cs;obtain⟨cv,r3,r4⟩:=dH I;exact rL R C (v:=a.eval x) (by simp[execOp,J,r3]) I);·exact C.elim
theorem Ss{as:Array Operand}{ts:Array TypeId}(ho:o.op=.call { callee:=.builtin .min,args:=as,argTypes:=ts })(R:jS P base w0 N g s a w [])(h:ex P (vT (jP P) N o) s K):o.wp P a w (Aft P base w0 N K) Q:=by simp only[vT,ho]at h;split at h;(rename_i x y hx;have hx:=P9 hx;subst hx;obtain⟨sx,q1,q2⟩:=bK R h;obtain⟨sy,q3,q4⟩:=bK R q2;split at q4;(rename_i k m k' n;refine rL R q4 (v:=.int k (if n<m then n else m)) ?_ yD;simp[execOp,ho,resolve,invoke,builtin,Builtin.min_,Builtin.min2,jQ q1,jQ q3]);·exact q4.elim);·exact h.elim
theorem R0{as:Array Operand}{ts:Array TypeId}(ho:o.op=.call { callee:=.builtin .max,args:=as,argTypes:=ts })(R:jS P base w0 N g s a w [])(h:ex P (vT (jP P) N o) s K):o.wp P a w (Aft P base w0 N K) Q:=by simp only[vT,ho]at h;split at h;(rename_i x y hx;have hx:=P9 hx;subst hx;obtain⟨sx,q1,q2⟩:=bK R h;obtain⟨sy,q3,q4⟩:=bK R q2;split at q4;(rename_i k m k' n;refine rL R q4 (v:=.int k (if n>m then n else m)) ?_ yD;simp[execOp,ho,resolve,invoke,builtin,Builtin.max_,Builtin.max2,jQ q1,jQ q3]);·exact q4.elim);(rename_i x y z hx;have hx:=Ui hx;subst hx;obtain⟨sx,q1,q2⟩:=bK R h;obtain⟨sy,q3,q4⟩:=bK R q2;obtain⟨sz,q5,q6⟩:=bK R q4;split at q6;(rename_i k m k' n k'' q;refine rL R q6 (v:=.int k (if q>(if n>m then n else m)then q else if n>m then n else m)) ?_ yD;simp[execOp,ho,resolve,invoke,builtin,Builtin.max_,Builtin.max2,jQ q1,jQ q3,jQ q5]);·exact q6.elim);·exact h.elim
theorem HW(R:jS P base w0 N g s a w []):∀{j:List Operand} {k:List (Nat×Nat×Nat)->Prog},ex P (Im j k) s K->∃C,Ag g s.h C (j.map a.eval)/\ex P (k C) s K
 |[],k,h=>⟨[],rfl,h⟩
 |x::j,k,h=>by obtain⟨sv,h1,I⟩:=bK R h;split at I;(rename_i i ver J;obtain⟨_,U⟩:=dH h1;obtain⟨C,k1,k2⟩:=HW R I;exact⟨(i,ver,J)::C,⟨a.eval x,j.map a.eval,rfl,U,k1⟩,k2⟩);·exact I.elim
theorem JQ{f:FuncId}{first captured:Array Operand}(I:o.op=.makeFunc (.func f) first captured)(R:jS P base w0 N g s a w [])(h:ex P (vT (jP P) N o) s K):o.wp P a w (Aft P base w0 N K) Q:=by
 simp only[vT,I]at h
 split at h
 ·rename_i C
  have C:first= #[]:=Array.eq_empty_of_size_eq_zero C
  subst C
  obtain⟨U,J,k2⟩:=HW R h
  have hrun:(execOp a.eval o).run P w=.ok (.value (.func (.func f) #[] (captured.map a.eval))) w:=by simp[execOp,I,Instr.makeFunc]
  refine rL R k2 hrun ⟨_,[],rfl,?_,rfl⟩
  have j:captured.map a.eval=(captured.toList.map a.eval).toArray:=by rw[<-Array.toList_map,Array.toArray_toList]
  cases U with
  |nil=>
   refine⟨[],?_,qe⟩
   simp only[Rep]
   have:captured.toList.map a.eval=[]:=J
   exact⟨[],by rw[j,this],by simp[aG]⟩
  |cons c U=>exact⟨_,by rw[j],J⟩
 ·exact h.elim
theorem HY:∀{I:List (Bool×List SC)} {C:List Value},Aq g s.h w I C->∀{i:Nat} {x:Bool×List SC},I[i]? =some x->∃v,C[i]? =some v/\Cx g s.h w x v
 |[],C,h,i,x,j=>by simp at j
 |y::I,C,h,i,x,j=>by
  obtain⟨v,vs',rfl,U,J⟩:=h
  cases i with
  |zero=>simp at j;subst j;exact⟨v,qe,U⟩
  |succ i=>simp at j;obtain⟨u,k1,k2⟩:=HY J j;exact⟨u,by simpa using k1,k2⟩
theorem KT{x:Operand}{i:Nat}(C:o.op=.extract x i)(R:jS P base w0 N g s a w [])(h:ex P (vT (jP P) N o) s K):o.wp P a w (Aft P base w0 N K) Q:=by
 simp only[vT,C]at h
 obtain⟨sx,q1,j⟩:=bK R h
 split at j
 ·rename_i vs
  split at j
  ·rename_i ag cs I
   obtain⟨U,k1,k2⟩:=q1
   obtain⟨v,J,k4⟩:=HY k2 I
   refine rL R j (v:=v) ?_ k4
   have:U[i]? =some v:=by simpa using J
   simp[execOp,C,k1,Instr.extract,this]
  ·exact j.elim
 ·exact j.elim
theorem Fm {f:FuncId} (hb:GM P f) (args:Array Value) (w:World):(callFunc f args).run P w = .ok (.enter f args) w:=by
 obtain ⟨fn,c,h1,h2,h3⟩:=hb
 have h3' : ¬ fn.name = "runtime.NumGoroutine" := by simpa using h3
 simp [callFunc,h1,h2,h3']
theorem C5{w:World}:∀{J j:List Value} {I C:List (Bool×List D)} {F G:List Nat},sH w J I F->sH w j C G->sH w (J++j) (I++C) (F++G)
 |[],j,[],C,F,G,e,h=>by rw[show F=[]from e];exact h
 |v::J,j,x::I,C,F,G,⟨F1,U,e,h1,h2⟩,h=>⟨F1,U++G,by rw[e,qS],h1,C5 h2 h⟩
theorem FH{w:World}:∀{ds:List D} {j:List Value} {F:List Nat},aG w ds j F->sH w j (ds.map λc=>(false,[c])) F
 |[],j,F,h=>by simp only[aG]at h;rw[h.1,h.2];rfl
 |d::ds,j,F,h=>by simp only[aG]at h;obtain⟨v,vs',U,C,rfl,rfl,J,I⟩:=h;exact⟨U,C,rfl,⟨d,rfl,J⟩,FH I⟩
theorem ML{t:Nat}{as:Array Operand}{ts:Array TypeId}(ho:o.op=.call { callee:=.value (.tmp t),args:=as,argTypes:=ts })(R:jS P base w0 N g s a w [])(h:ex P (vT (jP P) N o) s K):o.wp P a w (Aft P base w0 N K) Q:=by
 simp only[vT,ho]at h
 obtain⟨avs,Fa,k1,k2⟩:=Av R h
 simp only[ex]at k2
 have hfn:=R.tmp t
 have fin:∀{f:FuncId} {caps:List Value} {ds:List D} {F:List Nat},a.tmps.getD t undef=.func (.func f) #[] caps.toArray->aG w ds caps F->ex P (Prog.call f (avs++ds.map λc=>(false,[c])) λrs=>if vQ rs=true then .fail else yL N o.dst rs) s K->o.wp P a w (Aft P base w0 N K) Q:=by
  rintro f caps ds F hf hr ⟨rs,hs,hk⟩
  unfold Oper.wp
  have hf':a.tmps[t]?.getD undef=.func (.func f) #[] caps.toArray:=by simpa using hf
  have hrun:(execOp a.eval o).run P w=.ok (.enter f (as.map a.eval++caps.toArray)) w:=by simp[execOp,ho,resolve,Act.eval,hf',Deferred.ofValue,invoke,Fm hs.body]
  rw[hrun]
  unfold Oper.upon
  dsimp only at hk
  split at hk
  ·exact hk.elim
  ·rename_i han
   refine IX (Fa:=Fa++F) R ?_ (λhh=>absurd hh han) (hs.old (by simpa using han)) hk λv w' hh=>hh
   simpa using C5 k1 (FH hr)
 split at k2
 ·rename_i f caps hv;rw[hv]at hfn;obtain⟨F,r1,r2⟩:=dH hfn;simp only[Rep]at r1;obtain⟨cv,r3,r4⟩:=r1;exact fin r3 r4 k2
 ·rename_i f caps hv;rw[hv]at hfn;obtain⟨cv,r3,r4⟩:=dH hfn;obtain⟨ds,F,r5,r6⟩:=B4 R.inv r4 k2;exact fin r3 r5 r6
 ·exact k2.elim
end
end Go.Sh
namespace Go.Sh
open Go.RowKit Go.Lib
section
variable {P:Program}{base N:Nat}{w0:W0}{w:World}{g:Gh}{s:St}{a:Act}{K:St->Prop}{Q:Exit->Act->World->Prop}{o:Oper}{pool:List Nat}
theorem St.Yr{s τ:St}(h1:s.t=τ.t)(h2:s.h=τ.h)(h3:s.fr=τ.fr:=by rfl):s=τ:=by cases s;cases τ;simp at h1 h2 h3;rw[h1,h2,h3]
theorem Inv.Tt{h:Heap}{w':World}(I:Inv base g h w pool)(hs:w.heap.size<=w'.heap.size)(U:∀b,b<w.heap.size->¬A3 g h b->w'.heap[b]? =w.heap[b]?):Inv base g h w' pool/\iC g g h h w w':=by
 have hS:∀b,g.S b->w'.heap[b]? =w.heap[b]? :=λb x=>U b (I.S_lt b x) λJ=>J.1 x
 have T:iC g g h h w w':=⟨λ_ x=>x,hS,λ_=>Nat.le_refl _,λi e sz xs dp _ hr=>⟨rfl,xs,dp,hr⟩,λi t cs _ hx=>⟨rfl,cs,hx⟩,rfl⟩
 refine⟨⟨Nat.le_trans I.base_le hs,I.S_old,λb x=>Nat.lt_of_lt_of_le (I.S_lt b x) hs,λi=> ?_,I.mtb,I.inj,I.dis,I.pool_own.vY λb x=>hS b (I.pool_S b x),I.pool_S,I.pool_dis,I.fb⟩,T⟩
 by_cases hl:live h i
 ·exact zD.nV T rfl rfl (λb C=>U b (I.BI hl C).2.lt λJ=>J.2 i hl C) (I.obj i)
 ·unfold live at hl
  have:(h i).2=.none:=by
   cases hh:(h i).2 with
   |none=>rfl
   |box t c=>exact absurd (by rw[hh];simp) hl
   |row e z x d=>exact absurd (by rw[hh];simp) hl
   |pin j v u=>exact absurd (by rw[hh];simp) hl
  rw[this];trivial
theorem Inv.zZ{h:Heap}(I:Inv base g h w pool){i:Nat}{e:TypeId}{sz:Nat}{xs:List (List D)}{dp:Bool}(hi:(h i).2=.row e sz xs dp):
  Inv base g (nP h i ((h i).1,.none)) w (if dp then pool++g.fp i else pool)/\(∀b,wV (g.val i)=some b->A3 g (nP h i ((h i).1,.none)) b):=by
 have hlive:live h i:=by unfold live;rw[hi];simp
 have hfree:∀b,wV (g.val i)=some b->A3 g (nP h i ((h i).1,.none)) b:=by intro b C;refine⟨I.mtb i b hlive C,λj hl J=> ?_⟩;obtain⟨hne,hl⟩:=uN hl;exact I.inj j i b hne hl hlive J C
 have U:=I.drop i
 cases dp with
 |false=>exact⟨U,hfree⟩
 |true=>
  refine⟨?_,hfree⟩
  have ho:=I.obj i
  rw[hi]at ho
  obtain⟨cells,h1,h2,h3,h4,h5⟩:=ho
  have hown:=h5 rfl
  have hdi:gD h i:=⟨e,sz,xs,hi⟩
  refine⟨U.base_le,U.S_old,U.S_lt,U.obj,U.mtb,U.inj,U.dis,⟨?_,?_⟩,?_,?_,I.fb⟩
  ·simp only[if_true];rw[List.nodup_append];exact⟨I.pool_own.1,hown.1,by rintro x hx y hy rfl;exact I.pool_dis i hdi _ hy hx⟩
  ·simp only[if_true];intro b C;rcases List.mem_append.1 C with C|C;(exact I.pool_own.2 b C);·exact hown.2 b C
  ·simp only[if_true];intro b C;rcases List.mem_append.1 C with C|C;(exact I.pool_S b C);·exact h4 b C
  ·simp only[if_true];intro j hd b C J;obtain⟨hne,hd⟩:=wL hd;rcases List.mem_append.1 J with J|J;(exact I.pool_dis j hd b C J);·exact I.dis j i hne hd hdi b C J
theorem Inv.A4{h:Heap}{w':World}(I:Inv base g h w pool){i b:Nat}{o':At}{F:List Nat}{pool':List Nat}(hl:live h i)(hv:wV (g.val i)=some b)
  (hs:w'.heap.size=w.heap.size)(hb:∀k,k≠b->w'.heap[k]? =w.heap[k]?)
  (T:iC g { g with fp:=BT g.fp i F } h (nP h i ((h i).1,o')) w w')
  (ho:zD base { g with fp:=BT g.fp i F } (nP h i ((h i).1,o')) w' i o')(hpl:∀x∈pool',x∈pool)(hpn:pool'.Nodup)
  (hd:(∃e sz xs,o'=.row e sz xs true)->∀x∈F,(x∈pool\/(gD h i/\x∈g.fp i))/\x∉pool'):
  Inv base { g with fp:=BT g.fp i F } (nP h i ((h i).1,o')) w' pool':=by
 have hnS:¬g.S b:=I.mtb i b hl hv
 have lv:∀j,live (nP h i ((h i).1,o')) j->live h j:=by intro j hj;rcases Bz hj with rfl|⟨_,hj⟩;(exact hl);·exact hj
 have hdi:gD (nP h i ((h i).1,o')) i->∃e sz xs,o'=.row e sz xs true:=by rintro⟨e,sz,xs,hh⟩;rw[bE]at hh;exact⟨e,sz,xs,hh⟩
 refine⟨by rw[hs];exact I.base_le,I.S_old,λk x=>by rw[hs];exact I.S_lt k x,λj=> ?_,λj k hj hk=>I.mtb j k (lv j hj) hk,λj k x hne hj hk=>I.inj j k x hne (lv j hj) (lv k hk),λj k hne hj hk x hx hx'=> ?_,
  ⟨hpn,λx hx=>⟨(I.pool_own.2 x (hpl x hx)).1,(I.pool_own.2 x (hpl x hx)).2.vY (hb x λe=>hnS (e ▸ I.pool_S x (hpl x hx)))⟩⟩,λx hx=>I.pool_S x (hpl x hx),λj hj x hx hx'=> ?_,I.fb⟩
 ·by_cases hj:j=i
  ·subst hj;rw[bE];exact ho
  ·rw[eW _ _ _ _ hj]
   by_cases hlj:live h j
   ·refine zD.nV T rfl (yE _ _ _ _ hj) (λk hk=>hb k λe=> ?_) (I.obj j);subst e;exact I.inj j i k hj hlj hl hk hv
   ·unfold live at hlj
    have:(h j).2=.none:=by
     cases hh:(h j).2 with
     |none=>rfl
     |box t c=>exact absurd (by rw[hh];simp) hlj
     |row e z x d=>exact absurd (by rw[hh];simp) hlj
     |pin j v u=>exact absurd (by rw[hh];simp) hlj
    rw[this];trivial
 ·have hin:∀j',gD h j'->∀y∈g.fp j',y∉pool:=I.pool_dis
  rcases Ay hj with rfl|⟨hj',hjd⟩
  ·rcases Ay hk with rfl|⟨hk',hkd⟩
   ·exact hne rfl
   ·have hx1:x∈F:=by simpa[cZ]using hx
    have hx2:x∈g.fp k:=by simpa[yE _ _ _ _ hk']using hx'
    rcases(hd (hdi hj) x hx1).1 with hp|⟨hdj,hp⟩
    ·exact hin k hkd x hx2 hp
    ·exact I.dis j k hne hdj hkd x hp hx2
  ·have hx1:x∈g.fp j:=by simpa[yE _ _ _ _ hj']using hx
   rcases Ay hk with rfl|⟨hk',hkd⟩
   ·have hx2:x∈F:=by simpa[cZ]using hx'
    rcases(hd (hdi hk) x hx2).1 with hp|⟨hdk,hp⟩
    ·exact hin j hjd x hx1 hp
    ·exact I.dis j k hne hjd hdk x hx1 hp
   ·have hx2:x∈g.fp k:=by simpa[yE _ _ _ _ hk']using hx'
    exact I.dis j k hne hjd hkd x hx1 hx2
 ·rcases Ay hj with rfl|⟨hj',hjd⟩
  ·have hx1:x∈F:=by simpa[cZ]using hx
   exact(hd (hdi hj) x hx1).2 hx'
  ·have hx1:x∈g.fp j:=by simpa[yE _ _ _ _ hj']using hx
   exact I.pool_dis j hjd x hx1 (hpl x hx')
theorem iC.A4{h:Heap}{w':World}{i b:Nat}{U:At}{F:List Nat}(hnS:¬g.S b)(hb:∀k,k≠b->w'.heap[k]? =w.heap[k]?)
  (hr:∀e sz xs dp,U=.row e sz xs dp->∃xs0 dp0,(h i).2=.row e sz xs0 dp0)(hx:∀t cs,U=.box t cs->∃cs0,(h i).2=.box t cs0):
  iC g { g with fp:=BT g.fp i F } h (nP h i ((h i).1,U)) w w':=by
 refine⟨λ_ x=>x,λk x=>hb k λe=>hnS (e ▸ x),λj=> ?_,λj e sz xs dp J I=> ?_,λj t cs J C=> ?_,rfl⟩
 ·by_cases J:j=i;(subst J;rw[bE];exact Nat.le_refl _);·rw[eW _ _ _ _ J];exact Nat.le_refl _
 ·by_cases hji:j=i;(subst hji;rw[bE]at I;exact⟨rfl,hr _ _ _ _ I⟩);·rw[eW _ _ _ _ hji]at I;exact⟨rfl,xs,dp,I⟩
 ·by_cases hji:j=i;(subst hji;rw[bE]at C;exact⟨rfl,hx _ _ C⟩);·rw[eW _ _ _ _ hji]at C;exact⟨rfl,cs,C⟩
theorem Ft:∀{I:List (List D)} {U:List Value} {G:List Nat},aQ w I U G->I.all (λy=>y.all D.flat)=true->G=[]
 |[],U,G,h,_=>by simp only[aQ]at h;exact h.2
 |x::I,U,G,h,j=>by
  simp only[aQ]at h
  obtain⟨v1,v2,F1,F2,rfl,rfl,C,h4⟩:=h
  simp only[List.all_cons,qM]at j
  rw[Ft h4 j.2]
  have:∀{ds:List D} {J:List Value} {F:List Nat},aG w ds J F->ds.all D.flat=true->F=[]:=by
   intro ds
   induction ds with
   |nil=>intro J F h _;simp only[aG]at h;exact h.2
   |cons d ds ih=>
    intro J F h j
    simp only[aG]at h
    obtain⟨v,vs',F1,F2,rfl,rfl,C,h4⟩:=h
    simp only[List.all_cons,qM]at j
    rw[Es C j.1,ih h4 j.2];rfl
  rw[this C j.1];rfl
theorem DD{w:World}{sz:Nat}:∀{n:Nat} {C:List Value},C.length=n*sz->(∀u∈C,u.oneCell'=true)->aQ w (List.replicate n (List.replicate sz .opq)) C []
 |0,C,h,_=>by simp only[List.replicate_zero,aQ];exact⟨List.eq_nil_of_length_eq_zero qc,trivial⟩
 |n+1,C,h,U=>by
  have hc:∀{m:Nat} {j:List Value},j.length=m->(∀u∈j,u.oneCell'=true)->aG w (List.replicate m .opq) j []:=by
   intro m
   induction m with
   |zero=>intro j J _;simp only[List.replicate_zero,aG];exact⟨List.eq_nil_of_length_eq_zero J,trivial⟩
   |succ m ih=>
    intro j J I
    cases j with
    |nil=>simp at J
    |cons u j=>
     simp only[List.replicate_succ,aG]
     refine⟨u,j,[],[],rfl,rfl,?_,ih (by simpa using J) λx hx=>I x (by simp[hx])⟩
     simp only[Rep];exact⟨I u qe,trivial⟩
  have J:(n+1)*sz=n*sz+sz:=Nat.succ_mul _ _
  simp only[List.replicate_succ,aQ]
  exact⟨C.take sz,C.drop sz,[],[],(List.take_append_drop sz C).symm,rfl,hc (by rw[qU];omega) λu I=>U u (List.mem_of_mem_take I),DD (by rw[qV];omega) λu I=>U u (List.mem_of_mem_drop I)⟩
theorem Mp(n sz:Nat):∀x∈List.replicate n (List.replicate sz D.opq),x.all D.flat=true:=by intro x C;rw[(List.mem_replicate.1 C).2,qQ];intro d j;rw[(List.mem_replicate.1 j).2];rfl
theorem cF.Ua{L:TL}{e:TypeId}{ys:List (List D)}{vs:List Value}{G:List Nat}(h:aQ w ys vs G):cF L (ys.all λy=>y.all D.flat) w e ys vs G:=by
 cases hb:(ys.all λy=>y.all D.flat)with
 |true=>exact cF.flat h (List.all_eq_true.1 hb)
 |false=>exact h
theorem Nl{l:List UInt8}:∀x∈zF l,x.all D.flat=true:=by intro x j;obtain⟨b,_,rfl⟩:=List.mem_map.1 j;rfl
theorem Inv.UR{h:Heap}(I:Inv base g h w pool){i:Nat}{e:TypeId}{sz:Nat}{xs U:List (List D)}{dp:Bool}{cells:List Value}{F pool':List Nat}(hi:(h i).2=.row e sz xs dp)(ho:w.ownsRow base e sz (g.val i) U.length cells)
  (hx:∀x∈U,x.length=sz)(hr:cF g.Q.L dp w e U cells F)(hF:∀b∈F,b∈g.fp i)(hFn:dp=true->F.Nodup)(hp:∀b∈pool',b∈pool\/(dp=true/\b∈g.fp i/\b∉F))(hpn:pool'.Nodup):
  Inv base (HL g i (g.val i) F) (nP h i ((h i).1,.row e sz U dp)) w pool'/\iC g (HL g i (g.val i) F) h (nP h i ((h i).1,.row e sz U dp)) w w:=by
 have hlive:live h i:=by unfold live;rw[hi];simp
 have hob:=I.obj i
 rw[hi]at hob
 obtain⟨cells0,p1,p2,p3,p4,p5⟩:=hob
 have vv:∀j,(HL g i (g.val i) F).val j=g.val j:=λj=>by by_cases C:j=i;(subst C;exact cZ _ _ _);·exact yE _ _ _ _ C
 have fi:(HL g i (g.val i) F).fp i=F:=cZ _ _ _
 have fn:∀j,j≠i->(HL g i (g.val i) F).fp j=g.fp j:=λj C=>yE _ _ _ _ C
 have T:iC g (HL g i (g.val i) F) h (nP h i ((h i).1,.row e sz U dp)) w w:=by refine⟨λ_ x=>x,λ_ _=>rfl,λj=> ?_,λj e' sz' ys dp' _ C=> ?_,λj t cs _ C=> ?_,rfl⟩;(by_cases C:j=i;(subst C;rw[bE];exact Nat.le_refl _);·rw[eW _ _ _ _ C];exact Nat.le_refl _);(refine⟨vv j,?_⟩;by_cases hji:j=i;(subst hji;rw[bE]at C;cases C;exact⟨xs,dp,hi⟩);·rw[eW _ _ _ _ hji]at C;exact⟨ys,dp',C⟩);·refine⟨vv j,?_⟩;by_cases hji:j=i;(subst hji;rw[bE]at C;cases C);·rw[eW _ _ _ _ hji]at C;exact⟨cs,C⟩
 have lv:∀j,live (nP h i ((h i).1,.row e sz U dp)) j->live h j:=λj hl=>by by_cases C:j=i;(subst C;exact hlive);·unfold live at hl⊢;rw[eW _ _ _ _ C]at hl;exact hl
 have dv:∀j,gD (nP h i ((h i).1,.row e sz U dp)) j->gD h j:=λj hl=>by by_cases C:j=i;(subst C;obtain⟨e',sz',ys,hh⟩:=hl;rw[bE]at hh;cases hh;exact⟨e,sz,xs,hi⟩);·obtain⟨e',sz',ys,hh⟩:=hl;rw[eW _ _ _ _ C]at hh;exact⟨e',sz',ys,hh⟩
 have fsub:∀j,∀b∈(HL g i (g.val i) F).fp j,b∈g.fp j:=λj b J=>by by_cases C:j=i;(subst C;rw[fi]at J;exact hF b J);·rw[fn j C]at J;exact J
 have down:dp=true->gD h i:=λhd=>by subst hd;exact⟨e,sz,xs,hi⟩
 refine⟨⟨I.base_le,I.S_old,I.S_lt,λj=> ?_,λj b hl J=> ?_,λj k b hne hl hk J hb'=> ?_,λj k hne C hk b J hb'=> ?_,⟨hpn,λb J=> ?_⟩,λb J=> ?_,λj C b J hb'=> ?_,I.fb⟩,T⟩
 ·by_cases C:j=i;(subst C;rw[bE];exact⟨cells,by rw[vv];exact ho,hx,by rw[fi];exact hr,by rw[fi];exact λb J=>p4 b (hF b J),λhd=>by rw[fi];exact⟨hFn hd,λb J=>(p5 hd).2 b (hF b J)⟩⟩);·rw[eW _ _ _ _ C];exact zD.nV T (vv j) (fn j C) (λ_ _=>rfl) (I.obj j)
 ·rw[vv]at J;exact I.mtb j b (lv j hl) J
 ·rw[vv]at J hb';exact I.inj j k b hne (lv j hl) (lv k hk) J hb'
 ·exact I.dis j k hne (dv j C) (dv k hk) b (fsub j b J) (fsub k b hb')
 ·rcases hp b J with h1|⟨hd,h1,_⟩;(exact I.pool_own.2 b h1);·exact(p5 hd).2 b h1
 ·rcases hp b J with h1|⟨hd,h1,_⟩;(exact I.pool_S b h1);·exact p4 b h1
 ·rcases hp b hb' with h1|⟨hd,h1,h2⟩;(exact I.pool_dis j (dv j C) b (fsub j b J) h1);·by_cases hji:j=i;(subst hji;rw[fi]at J;exact h2 J);·exact I.dis j i hji (dv j C) (down hd) b (fsub j b J) h1
theorem Cn{e0:TypeId}(R:jS P base w0 N g s a w pool){sv:SV}{xv:Value}{k:List (List D)->Bool->Prog}(hv:sU g s.h w sv xv)(h:ex P (yU e0 sv k) s K):
  ∃g' s' J b ad m c pool' cells G,ex P (k J b) s' K/\jS P base w0 N g' s' a w pool'/\iC g g' s.h s'.h w w/\s'.t=s.t/\xv=.slice ad m c/\m=J.length/\(∀b,A3 g s.h b->A3 g' s'.h b)/\(∀j,(s'.h j).1=(s.h j).1)/\
   cF g.Q.L b w e0 J cells G/\(∀y∈G,g'.S y)/\(b=true->(pool++G).Nodup/\∀x∈pool++G,x∈pool')/\
    (m=0 \/∃bb off sz,ad=some ⟨bb,off,none⟩/\xX w bb off cells/\cells.length=m*sz/\∀x∈J,x.length=sz):=by
 unfold yU at h
 split at h
 ·rename_i J;obtain⟨ad,n,c,k1,k2,k3,k4⟩:=GK hv;rcases k4 with k4|⟨b,off,cells,sz,G,rfl,m2,m3,m4,m5,m6,m7,m8⟩;(have hy:J=[]:=List.eq_nil_of_length_eq_zero qc;subst hy;exact⟨g,s,[],_,ad,n,c,pool,[],[],h,R,iC.refl _ _ _,rfl,k1,k2,λ_ x=>x,λ_=>rfl,cF.nil,qe,λ_=>by simpa using R.inv.pool_own.1,.inl k4⟩);·refine⟨g,s,J,_,_,n,c,pool,cells,G,h,R,iC.refl _ _ _,rfl,k1,k2,λ_ x=>x,λ_=>rfl,cF.Ua m7,m8,λI=> ?_,.inr ⟨b,off,sz,rfl,m4,m5,m6⟩⟩;rw[Ft m7 I];simpa using R.inv.pool_own.1
 ·have C:=dH hv;exact⟨g,s,[],true,none,0,0,pool,[],[],h,R,iC.refl _ _ _,rfl,C,rfl,λ_ x=>x,λ_=>rfl,cF.nil,qe,λ_=>by simpa using R.inv.pool_own.1,.inl rfl⟩
 ·rename_i i ver
  obtain⟨hone,hle,hcap⟩:=dH hv
  simp only[ex]at h
  split at h
  ·rename_i e sz J dp hh
   split at h
   ·rename_i hc
    have hval:=hcap hc _ _ _ _ hh
    obtain⟨S',F,t1,t1b,t2,tS,tF,t3,t4,t5⟩:=R.inv.take hh
    have T:iC g { g with S:=S' } s.h (nP s.h i ((s.h i).1,.none)) w w:=iC.drop i S' t1
    rw[hc]at T t5
    have R':jS P base w0 N { g with S:=S' } (s.eV i (ver,.none)) a w (if dp then pool++F else pool):=R.nV T rfl R.below t5
    have hlive:live s.h i:=by unfold live;rw[hh];simp
    have hfree:∀b,A3 g s.h b->A3 { g with S:=S' } (s.eV i (ver,.none)).h b:=by intro b I;refine⟨λhS=> ?_,λj hl=>I.2 j (uN hl).2⟩;rcases t1b b hS with hS|hS;(exact I.1 hS);·exact I.2 i hlive hS
    have hver:∀j,((s.eV i (ver,.none)).h j).1=(s.h j).1:=by intro j;show(nP s.h i (ver,.none) j).1=_;by_cases hj:j=i;(subst hj;rw[bE];exact hc.symm);·rw[eW _ _ _ _ hj]
    have hob:=R.inv.obj i
    rw[hh]at hob
    obtain⟨cells,p1,p2,p3,p4,p5⟩:=hob
    have p3':cF g.Q.L (if e=e0 then dp else false) w e0 J cells (g.fp i):=by by_cases he:e=e0;(subst he;rw[if_pos rfl];exact p3);·rw[if_neg he];exact p3.rep
    have hpo:(if e=e0 then dp else false)=true->(pool++g.fp i).Nodup/\∀x∈pool++g.fp i,x∈(if dp then pool++F else pool):=by
     intro hd
     have hd':dp=true:=by split at hd;(exact hd);·cases hd
     subst hd'
     have U:=t5.pool_own.1
     simp only[if_true]at U⊢
     rw[tF]at U⊢
     refine⟨U.sublist (List.Sublist.append (List.Sublist.refl _) (List.sublist_append_right _ _)),λx C=> ?_⟩
     rcases List.mem_append.1 C with C|C<;>simp[C]
    rcases p1.2 with⟨r1,r2⟩|⟨gg,cap,cur,r1,r2⟩
    ·exact⟨_,_,J,_,none,0,0,_,cells,g.fp i,h,R',T,rfl,hval.trans r1,r2.symm,hfree,hver,p3',λy hy=>t1 y (p4 y hy),hpo,.inl rfl⟩
    ·exact⟨_,_,J,_,_,_,cap,_,cells,g.fp i,h,R',T,rfl,hval.trans r1,rfl,hfree,hver,p3',λy hy=>t1 y (p4 y hy),hpo,.inr ⟨gg,0,sz,rfl,He (r1 ▸ p1),p1.1,p2⟩⟩
   ·exact h.elim
  ·exact h.elim
 ·rename_i i ver lo n
  have hp:=dH hv
  simp only[ex]at h
  split at h
  ·rename_i e sz J dp hh
   split at h
   ·rename_i hc
    obtain⟨ad,c,rfl,q1,q2,q3,_⟩:=Gm R.inv hp hc hh
    have hob:=R.inv.obj i
    rw[hh]at hob
    obtain⟨cells,p1,p2,p3,p4,p5⟩:=hob
    obtain⟨c1,c2,c3,F1,F2,F3,hcs,hG,m1,m2,m3,m4,m5⟩:=I0 (lo:=lo) (n:=n) p3 p2 q2
    have hin:∀x,x∈F2->x∈g.fp i:=λx C=>by rw[hG];simp[C]
    have hrl:=aQ.length p3.rep p2
    have hone:∀u∈c2,u.oneCell'=true:=m4.rep.one
    have hr':cF g.Q.L dp w e (J.take lo++(List.replicate n (List.replicate sz .opq)++J.drop (lo+n))) cells (F1++F3):=by rw[hcs];exact cF.append m3 (cF.append (G:=F3) (F:=[]) (cF.flat (DD m2 hone) (Mp n sz)) m5)
    have hx':∀x∈J.take lo++(List.replicate n (List.replicate sz .opq)++J.drop (lo+n)),x.length=sz:=by intro x C;rcases List.mem_append.1 C with C|C;(exact p2 x (List.mem_of_mem_take C));·rcases List.mem_append.1 C with C|C;(rw[(List.mem_replicate.1 C).2,List.length_replicate]);·exact p2 x (List.mem_of_mem_drop C)
    have hlen':(J.take lo++(List.replicate n (List.replicate sz D.opq)++J.drop (lo+n))).length=J.length:=by simp only[qE,qU,List.length_replicate,qV];rcases q2 with h0|h0<;>omega
    have U:dp=true->(pool++F2).Nodup/\(F1++F3).Nodup/\∀b∈F2,b∉F1++F3:=λhd=>by
     have hn:=(p5 hd).1
     rw[hG]at hn
     have hd':gD s.h i:=by subst hd;exact⟨e,sz,J,hh⟩
     rw[List.nodup_append]at hn
     obtain⟨a1,a2,a3⟩:=hn
     rw[List.nodup_append]at a2
     obtain⟨b1,b2,b3⟩:=a2
     refine⟨?_,?_,?_⟩
     ·rw[List.nodup_append];exact⟨R.inv.pool_own.1,b1,by rintro x C y hy rfl;exact R.inv.pool_dis i hd' _ (hin _ hy) C⟩
     ·rw[List.nodup_append];exact⟨a1,b2,λx C y hy=>a3 x C y (by simp[hy])⟩
     ·intro b I hb';rcases List.mem_append.1 hb' with hb'|hb';(exact a3 b hb' b (by simp[I]) rfl);·exact b3 b I b hb' rfl
    obtain⟨I',T⟩:=R.inv.UR (pool':=if dp then pool++F2 else pool) hh (by rw[hlen'];exact p1) hx' hr' (λb I=>by
      rw[hG]
      rcases List.mem_append.1 I with I|I<;>simp[I]) (λhd=>(U hd).2.1) (λb I=>by
      cases dp with
      |false=>exact .inl I
      |true=>
       simp only[if_true]at I
       rcases List.mem_append.1 I with I|I
       ·exact .inl I
       ·exact .inr ⟨rfl,hin b I,(U rfl).2.2 b I⟩) (by
      cases dp with
      |false=>exact R.inv.pool_own.1
      |true=>exact(U rfl).1)
    rw[hc]at I' T
    have R':=R.nV (s':=s.eV i (ver,.row e sz (F8 sz lo n J) dp)) T rfl R.below I'
    have vv:∀j,(HL g i (g.val i) (F1++F3)).val j=g.val j:=λj=>by by_cases hj:j=i;(subst hj;exact cZ _ _ _);·exact yE _ _ _ _ hj
    refine⟨_,_,(J.drop lo).take n,_,ad,n,c,_,c2,F2,h,R',T,rfl,rfl,?_,?_,?_,?_,λy hy=>p4 y (hin y hy),λhd=> ?_,?_⟩
    ·rw[qU,qV];rcases q2 with h0|h0<;>omega
    ·intro b I;refine⟨I.1,λj hl=> ?_⟩;rw[vv];refine I.2 j ?_;by_cases hj:j=i;(subst hj;unfold live;rw[hh];simp);·unfold live at hl⊢;rw[KD,eW _ _ _ _ hj]at hl;exact hl
    ·intro j;show(nP s.h i _ j).1=_;by_cases hj:j=i;(subst hj;rw[bE];exact hc.symm);·rw[eW _ _ _ _ hj]
    ·by_cases he:e=e0;(subst he;rw[if_pos rfl];exact m4);·rw[if_neg he];exact m4.rep
    ·have hd':dp=true:=by
      split at hd
      ·exact hd
      ·cases hd
     subst hd'
     exact⟨(U rfl).1,λx C=>by simpa using C⟩
    ·rcases q3 with q3|⟨b,cells',q3,q4,q5,q6⟩;(exact .inl q3);·by_cases hn:n=0;(exact .inl hn);·right;have hcc:cells'=cells:=FG q5 p1;subst hcc;refine⟨b,lo*sz,sz,q3,?_,m2,λx C=>p2 x (List.mem_of_mem_drop (List.mem_of_mem_take C))⟩;rw[hcs]at q6;have:=OC q6;rw[m1 (Nat.le_trans (Nat.le_add_right lo n) (q2.resolve_left hn)),Nat.zero_add]at this;exact this
   ·exact h.elim
  ·exact h.elim
 ·exact h.elim
theorem GF{t ty e:TypeId}{J:TypeInfo}(I:P.underlying t=some (.slice e))(C:P.info? e=some J){sz:Nat}{v:Value}{n:Nat}{xs:List Value}(hown:w.ownsRow base e sz v n xs)(ad:Option Addr)(c:Nat):
  (Builtin.append_ #[t,t] ty #[v,.slice ad 0 c]).run P w=.ok v w:=by
 rcases hown.2 with⟨rfl,rfl⟩|⟨gg,cap,U,rfl,_,_,j,_⟩
 ·cases ad<;>simp[Builtin.append_,run_underlying I,sizeOf,typeInfo,C,Builtin.lenOf,Builtin.firstCells,loadCells,loadCellsFrom]
 ·cases ad<;>simp[Builtin.append_,run_underlying I,sizeOf,typeInfo,C,Builtin.lenOf,Builtin.firstCells,j,storeCells,loadCells,loadCellsFrom]
theorem JF{e:TypeId}{sz k m c n:Nat}{ad:Option Addr}{cells:List Value}(h:w.ownsRow base e sz (.slice ad m c) n cells)(C:k<=m):m=n/\w.ownsRow base e sz (.slice ad k c) k (cells.take (k*sz)):=by
 obtain⟨U,I⟩:=h
 rcases I with⟨e1,e0⟩|⟨J,cap,j,e1,e2,e3,e4,e5,e6,e7⟩
 ·cases e1
  have:k=0:=by omega
  subst this
  exact⟨e0.symm,qe,.inl ⟨rfl,rfl⟩⟩
 ·cases e1;refine⟨rfl,?_,.inr ⟨J,c,j,rfl,e2,e3,qc,e5,e6,?_⟩⟩;(rw[qU,U,Nat.min_eq_left (Nat.mul_le_mul_right _ C)]);·rw[<-e7,List.take_take,Nat.min_eq_left (Nat.mul_le_mul_right _ C)]
theorem St.DR(s:St)(i:Nat)(x y:Nat×At):(s.eV i x).eV i y=s.eV i y:=by unfold St.eV;congr 1;funext j;by_cases hj:j=i<;>simp[hj]
theorem GD{e:TypeId}{sz:Nat}{w':World}(R:jS P base w0 N g s a w pool){v v':Value}{zs:List (List D)}{n:Nat}{cells1 cells':List Value}{F:List Nat}{j:Nat}{dp:Bool}
  (hown:w.ownsRow base e sz v n cells1)(hfree:∀b,wV v=some b->A3 g s.h b)(hr:cF g.Q.L dp w e zs cells' F)(hF:∀b∈F,g.S b)(hx:∀x∈zs,x.length=sz)
  (hdp:dp=true->F.Nodup/\∀x∈F,x∈pool)
  (r2:w'.ownsRow base e sz v' zs.length cells')(I:w.grownBy w' v.ownBlock)(J:v'.ownBlock=v.ownBlock\/v'.ownBlock=none \/∃b,w.heap.size<=b/\v'.ownBlock=some b):
  ∃g',jS P base w0 N g' (s.eV j ((s.h j).1+1,.row e sz zs dp)) a w' []/\sU g' (s.eV j ((s.h j).1+1,.row e sz zs dp)).h w' (.v false [.row j ((s.h j).1+1)]) v':=by
 have hob:wV v=v.ownBlock:=mF hown
 have hgb:∀b,b<w.heap.size->¬A3 g s.h b->w'.heap[b]? =w.heap[b]? :=by
  intro b C hnf
  refine I.block b C λU=>hnf (hfree b ?_)
  rw[hob,<-U]
 obtain⟨I1,T1⟩:=R.inv.Tt I.size hgb
 have hob':wV v'=v'.ownBlock:=mF r2
 have hfree':∀b,wV v'=some b->A3 g s.h b:=by intro b C;rw[hob']at C;rcases J with J|J|⟨b',hle,J⟩;(exact hfree b (by rw[hob,<-J,C]));(rw[J]at C;cases C);·rw[J]at C;simp at C;subst C;exact⟨λhS=>absurd (R.inv.S_lt _ hS) qc,λj hl hb'=>absurd (R.inv.BI hl hb').2.lt qc⟩
 have hrr:cF g.Q.L dp w' e zs cells' F:=hr.vY λb C=>T1.Sw b (hF b C)
 have I2:=I1.Af (i:=j) (v:=v') (e:=e) (sz:=sz) (xs:=zs) (dp:=dp) (cells:=cells') (F:=F) (pool':=[]) r2 hx hrr hF hfree' qe List.nodup_nil
  (λhd=>⟨(hdp hd).1,λb C=>⟨(hdp hd).2 b C,qe⟩⟩)
 have T2:=iC.create (g:=g) (h:=s.h) (w:=w') j v' F (.row e sz zs dp)
 have hbel:Below w0.Q.fb w0.w w':=R.bel ⟨I.os,I.tape,I.output,I.size,λb C=>I.block b (Nat.lt_of_lt_of_le C R.inv.base_le) λU=>by rcases hown.2 with⟨e1,_⟩|⟨gg,cap,cur,e1,e2,_⟩;(rw[e1]at U;simp[Value.ownBlock]at U);·rw[e1]at U;simp[Value.ownBlock]at U;omega⟩
 refine⟨_,R.nV (T1.trans T2) rfl hbel I2,⟨_,[],rfl,⟨?_,?_,?_⟩,rfl⟩⟩
 ·rcases r2.2 with⟨rfl,_⟩|⟨gg,cap,cur,rfl,_⟩<;>rfl
 ·show _<=(nP s.h j _ j).1;rw[bE];exact Nat.le_refl _
 ·intro _ e' sz' xs' dp' _;show v'=BT g.val _ v' _;rw[cZ]
theorem Km{e:TypeId}{sz:Nat}{w':World}(R:jS P base w0 N g s a w pool){v v':Value}{xs ys:List (List D)}{cells1 cells2:List Value}{F G:List Nat}{j:Nat}{dp:Bool}
  (hown:w.ownsRow base e sz v xs.length cells1)(hx1:∀x∈xs,x.length=sz)(hr1:cF g.Q.L dp w e xs cells1 F)(hF1:∀b∈F,g.S b)(hfree:∀b,wV v=some b->A3 g s.h b)
  (hr2:cF g.Q.L dp w e ys cells2 G)(hG:∀b∈G,g.S b)(hx2:∀x∈ys,x.length=sz)(hdp:dp=true->(F++G).Nodup/\∀x∈F++G,x∈pool)
  (r2:w'.ownsRow base e sz v' (xs.length+ys.length) (cells1++cells2))(I:w.grownBy w' v.ownBlock)(r4:v'.ownBlock=v.ownBlock\/v'.ownBlock=some w.heap.size):
  ∃g',jS P base w0 N g' (s.eV j ((s.h j).1+1,.row e sz (xs++ys) dp)) a w' []/\sU g' (s.eV j ((s.h j).1+1,.row e sz (xs++ys) dp)).h w' (.v false [.row j ((s.h j).1+1)]) v':=by
 have hob:wV v=v.ownBlock:=mF hown
 have hgb:∀b,b<w.heap.size->¬A3 g s.h b->w'.heap[b]? =w.heap[b]? :=by
  intro b C hnf
  refine I.block b C λJ=>hnf (hfree b ?_)
  rw[hob,<-J]
 obtain⟨I1,T1⟩:=R.inv.Tt I.size hgb
 have hob':wV v'=v'.ownBlock:=mF r2
 have hfree':∀b,wV v'=some b->A3 g s.h b:=by intro b C;rw[hob']at C;rcases r4 with r4|r4;(exact hfree b (by rw[hob,<-r4,C]));·rw[r4]at C;simp at C;subst C;exact⟨λhS=>absurd (R.inv.S_lt _ hS) qc,λj hl hb'=>absurd (R.inv.BI hl hb').2.lt qc⟩
 have U:∀b∈F++G,g.S b:=by intro b C;rcases List.mem_append.1 C with C|C;(exact hF1 b C);·exact hG b C
 have hrr:cF g.Q.L dp w' e (xs++ys) (cells1++cells2) (F++G):=(hr1.append hr2).vY λb C=>T1.Sw b (U b C)
 have hxx:∀x∈xs++ys,x.length=sz:=by intro x hx;rcases List.mem_append.1 hx with hx|hx;(exact hx1 x hx);·exact hx2 x hx
 have I2:=I1.Af (i:=j) (v:=v') (e:=e) (sz:=sz) (xs:=xs++ys) (dp:=dp) (cells:=cells1++cells2) (F:=F++G) (pool':=[]) (by rw[qE];exact r2) hxx hrr U hfree' qe List.nodup_nil
  (λhd=>⟨(hdp hd).1,λb C=>⟨(hdp hd).2 b C,qe⟩⟩)
 have T2:=iC.create (g:=g) (h:=s.h) (w:=w') j v' (F++G) (.row e sz (xs++ys) dp)
 have hbel:Below w0.Q.fb w0.w w':=R.bel ⟨I.os,I.tape,I.output,I.size,λb C=>I.block b (Nat.lt_of_lt_of_le C R.inv.base_le) λJ=>by rcases hown.2 with⟨e1,_⟩|⟨gg,cap,cur,e1,e2,_⟩;(rw[e1]at J;simp[Value.ownBlock]at J);·rw[e1]at J;simp[Value.ownBlock]at J;omega⟩
 refine⟨_,R.nV (T1.trans T2) rfl hbel I2,⟨_,[],rfl,⟨?_,?_,?_⟩,rfl⟩⟩
 ·rcases r2.2 with⟨rfl,_⟩|⟨gg,cap,cur,rfl,_⟩<;>rfl
 ·show _<=(nP s.h j _ j).1;rw[bE];exact Nat.le_refl _
 ·intro _ e' sz' xs' dp' _;show v'=BT g.val _ v' _;rw[cZ]
theorem Dn{t ty e:TypeId}{ti C:TI}(hti:jP P t=some ti)(htk:ti.k=.slice e)(hte:jP P e=some C)(R:jS P base w0 N g s a w pool){v xv:Value}{xs ys:List (List D)}{cells1 cells2:List Value}{F G:List Nat}{ad:Option Addr}{m c j:Nat}{dp:Bool}
  (hown:w.ownsRow base e C.size v xs.length cells1)(hx1:∀x∈xs,x.length=C.size)(hr1:cF g.Q.L dp w e xs cells1 F)(hF1:∀b∈F,g.S b)(hfree:∀b,wV v=some b->A3 g s.h b)
  (hxv:xv=.slice ad m c)(hm:m=ys.length)(U:cF g.Q.L dp w e ys cells2 G)(hG:∀b∈G,g.S b)(hx2:∀x∈ys,x.length=C.size)
  (hlie:m=0 \/∃bb off sz,ad=some ⟨bb,off,none⟩/\xX w bb off cells2/\cells2.length=m*sz/\∀x∈ys,x.length=sz)
  (hdp:dp=true->(F++G).Nodup/\∀x∈F++G,x∈pool)(hbytes:(xs.length+ys.length)*C.bytes<=140737488355328)(hp1:0<C.size)(hp2:0<C.bytes):
  ∃I J g',(Builtin.append_ #[t,t] ty #[v,xv]).run P w=.ok I J/\jS P base w0 N g' (s.eV j ((s.h j).1+1,.row e C.size (xs++ys) dp)) a J []/\
   sU g' (s.eV j ((s.h j).1+1,.row e C.size (xs++ys) dp)).h J (.v false [.row j ((s.h j).1+1)]) I:=by
 obtain⟨i,d,z,h1,h2,h3,h4,_⟩:=(cY hti).ok
 rw[htk]at h4
 obtain rfl:=yR h4
 obtain⟨ie,de,ze,e1,e2,e3,e4,e5,e6,e7,e8,e9⟩:=(cY hte).ok
 have hob:wV v=v.ownBlock:=mF hown
 have key:∃I J,(Builtin.append_ #[t,t] ty #[v,xv]).run P w=.ok I J/\J.ownsRow base e C.size I (xs.length+ys.length) (cells1++cells2)/\w.grownBy J v.ownBlock/\(I.ownBlock=v.ownBlock\/I.ownBlock=some w.heap.size):=by
  have hlen2:=aQ.length U.rep hx2
  rcases Nat.eq_zero_or_pos m with h0|h0
  ·have hy:ys=[]:=List.eq_nil_of_length_eq_zero qc;subst hy;have hc2:cells2=[]:=List.eq_nil_of_length_eq_zero (by simpa using hlen2);subst hc2 hxv h0;exact⟨v,w,GF h2 e1 hown ad c,by simpa using hown,World.grownBy.refl w _,.inl rfl⟩
  ·rcases hlie with hl|⟨bb,off,sz,rfl,hl1,hl2,hl3⟩
   ·omega
   ·subst hxv hm
    obtain⟨I,J,r1,r2,r3,_,r5⟩:=run_append_own_at (P:=P) w base t ty e ie ze C.size C.bytes h2 e1 e3 e7 e8 (e6.trans e7) hp1 v xs.length cells1 hown ⟨bb,off,none⟩ ys.length c cells2 hlen2
     (λj u hu=>by rw[Addr.add_lit];exact hl1 j u hu) U.rep.one (by simp only[maxLen];have:=Nat.le_mul_of_pos_right (xs.length+ys.length) hp2;omega) hbytes R.inv.base_le
    exact⟨I,J,r1,r2,r3,r5⟩
 obtain⟨I,J,r1,r2,r3,r4⟩:=key
 obtain⟨g',k1,k2⟩:=Km (j:=j) (dp:=dp) R hown hx1 hr1 hF1 hfree U hG hx2 hdp r2 r3 r4
 exact⟨I,J,g',r1,k1,k2⟩
theorem M8{t u ty e:TypeId}{i:TypeInfo}{z:Value}(ht:P.underlying t=some (.slice e))(hu:P.underlying u=some .string)(hi:P.info? e=some i)(hz:i.zero=some z)(hzs:z.cells.size=1)(hsize:i.size=1)(U:i.bytes=1)
  {v:Value}{n:Nat}{xs:List Value}(hown:w.ownsRow base e 1 v n xs)(s:ByteArray)(hbytes:n+s.size<=140737488355328)(hbase:base<=w.heap.size):
  ∃v' w',(Builtin.append_ #[t,u] ty #[v,.string s]).run P w=.ok v' w'/\w'.ownsRow base e 1 v' (n+s.size) (xs++strCells s)/\w.grownBy w' v.ownBlock/\(v'.ownBlock=v.ownBlock\/v'.ownBlock=some w.heap.size):=by
 have aa:n+s.size<=maxLen:=by simp only[maxLen];omega
 have C:xs.length=n:=by simpa using hown.1
 have hlen:(xs++strCells s).length=(n+s.size)*1:=by rw[qE,C,strCells_length,Nat.mul_one]
 have fresh:∀(old:Nat) (cells:Array Value),cells=xs.toArray++(strCells s).toArray++Builtin.zeroCells z.cells (grownCap w (n+s.size) old e-(n+s.size))->∀(row:Option Nat),
   (w.drew.alloc (.cells cells e)).ownsRow base e 1 (.slice (some ⟨w.heap.size,0,none⟩) (n+s.size) (grownCap w (n+s.size) old e)) (n+s.size) (xs++strCells s)/\w.grownBy (w.drew.alloc (.cells cells e)) row:=by
  rintro old cells rfl row
  have hge:=grownCap_ge w (n+s.size) old e
  refine⟨⟨hlen,.inr ⟨w.heap.size,_,_,rfl,hbase,heap_alloc_new w.drew _,hge,grownCap_le_maxLen w (n+s.size) old e aa,?_,?_⟩⟩,⟨rfl,rfl,rfl,qe,λk hk _=>Below.heap_alloc w.drew _ k hk⟩⟩
  ·simp only[Array.size_append,List.size_toArray,size_zeroCells,hzs,C,strCells_length];omega
  ·simp only[Array.toList_append,qS];rw[<-qS,<-hlen];exact List.take_left
 rcases hown.2 with⟨rfl,rfl⟩|⟨b,cap,I,rfl,hb,hg,hnc,hcm,hcs,htk⟩
 ·have hx:xs=[]:=List.eq_nil_of_length_eq_zero C
  subst hx
  by_cases hm:s.size=0
  ·have hn:strCells s=[]:=List.eq_nil_of_length_eq_zero (by rw[strCells_length];exact hm);have hf:=run_firstCells_string (P:=P) w 1 s;rw[hm]at hf;exact⟨.slice none 0 0,w,by simp[Builtin.append_,run_underlying ht,run_underlying hu,sizeOf,typeInfo,hi,hsize,Builtin.lenOf,hm,hf],by rw[hm,hn];exact World.ownsRow_nil w base e 1,World.grownBy.refl w _,.inl rfl⟩
  ·have J:=run_append_nil_string (P:=P) w t u ty e i z ht hu hi hz s qc qc (by rw[U];omega)
   have e1:(s.data.map λb=>Value.int .u8 b.toNat)=(strCells s).toArray:=by apply Array.ext';simp[strCells]
   have j:=fresh 0 ((s.data.map λb=>Value.int .u8 b.toNat)++Builtin.zeroCells z.cells (grownCap w s.size 0 e-s.size)) (by rw[e1];simp) (Value.ownBlock (.slice none 0 0))
   rw[Nat.zero_add]at j⊢
   exact⟨_,_,J,j.1,j.2,.inr rfl⟩
 ·by_cases hroom:n+s.size<=cap
  ·have J:=run_append_room_string (P:=P) w t u ty e i ht hu hi hsize b n cap I hg s hroom qc
   refine⟨_,_,J,⟨hlen,.inr ⟨b,cap,_,rfl,hb,setRow_heap w b I _ e _ hg,hroom,hcm,?_,?_⟩⟩,⟨rfl,rfl,rfl,qe,λk _ hk=>setRow_other w b k _ (λe=>hk (by simp[Value.ownBlock,e]))⟩,.inl rfl⟩
   ·simp only[List.size_toArray,qE,qU,qV,Array.length_toList,strCells_length];omega
   ·have ht':I.toList.take n=xs:=by simpa using htk
    rw[ht',<-hlen]
    exact List.take_left
  ·have J:=run_append_grow_string (P:=P) w t u ty e i z ht hu hi hz ⟨b,0,none⟩ n cap xs (by rw[hsize];simpa using C) (hown.cells (g:=b) rfl) s qc qc (by rw[U];exact growslice_fits qc qc);have j:=fresh cap _ rfl (Value.ownBlock (.slice (some ⟨b,0,none⟩) n cap));exact⟨_,_,J,j.1,j.2,.inr rfl⟩
theorem M0{as:Array Operand}{ts:Array TypeId}(ho:o.op=.call { callee:=.builtin .append,args:=as,argTypes:=ts })(R:jS P base w0 N g s a w [])(h:ex P (vT (jP P) N o) s K):o.wp P a w (Aft P base w0 N K) Q:=by
 simp only[vT,ho]at h
 split at h
 ·rename_i sx xx t t' hs ht
  have hs:=P9 hs
  have ht:=P9 ht
  subst hs ht
  split at h
  ·rename_i htt
   subst htt
   split at h
   ·rename_i e sz0 by0 z0 cm0 sl0 hti
    split at h
    ·rename_i te hte
     obtain⟨sv1,q1,q2⟩:=bK R h
     obtain⟨sv2,q3,q4⟩:=bK R q2
     have fin:∀{v':Value} {w':World} {g':Gh} {s':St} {sv:SV},(Builtin.append_ #[t,t] o.type #[a.eval sx,a.eval xx]).run P w=.ok v' w'->jS P base w0 N g' s' a w' []->sU g' s'.h w' sv v'->ex P (put N o.dst sv) s' K->o.wp P a w (Aft P base w0 N K) Q:=by intro v' w' g' s' sv hrun R' hv hk;obtain⟨s2,m1,m2⟩:=yC R' hv hk;refine Aa (v:=v') (w':=w') ?_ ⟨s2,m1,g',m2⟩;simp[execOp,ho,resolve,invoke,builtin,hrun]
     unfold Bq at q4
     split at q4
     ·exact q4.elim
     ·rename_i dd hdd
      split at q4
      ·rename_i i ver
       obtain⟨hone,hle,hcap⟩:=dH q1
       simp only[ex]at q4
       split at q4
       ·rename_i e' sz' xs dp hh
        split at q4
        ·rename_i hc
         obtain⟨hc1,hc2,hc3⟩:=hc
         subst hc2 hc3
         have hval:=hcap hc1 _ _ _ _ hh
         have hob:=R.inv.obj i
         rw[hh]at hob
         obtain⟨cells,p1,p2,p3,p4,p5⟩:=hob
         obtain⟨I1,hfr⟩:=R.inv.zZ hh
         have T:iC g g s.h (nP s.h i ((s.h i).1,.none)) w w:=iC.drop i g.S λ_ x=>x
         rw[hc1]at I1 hfr T
         have R1:jS P base w0 N g (s.eV i (ver,.none)) a w (if dp then[]++g.fp i else[]):=R.nV T rfl R.below I1
         obtain⟨g2,s2,ys,b,ad,m,c,pool2,cells2,G,k1,k2,k3,k4,k5,k6,k7,k8,k9,aa,ae,af⟩:=Cn R1 (q3.nV T) q4
         obtain⟨⟨n1,n2,n3,n4⟩,k1⟩:=k1
         simp only[ex]at k1
         have hver:(s2.h i).1=ver:=by rw[k8];show(nP s.h i _ i).1=_;rw[bE]
         obtain⟨v',w',g',r1,r2,r3⟩:=Dn (j:=i) (dp:=dp&&b) (ty:=o.type) hti rfl hte k2 p1 p2 (by rw[k3.Q];exact p3.KI λhd=>(by simp at hd;exact hd.1)) (λb hb=>k3.S b (p4 b hb)) (λb hb=>k7 b (hfr b hb)) k5 k6 (by rw[k3.Q];exact k9.KI λhd=>(by simp at hd;exact hd.2)) aa n1 af (λhd=>by simp at hd;have:=ae hd.2;rw[hd.1]at this;simpa using this) n2 n3 n4
         rw[hver]at r2 r3
         exact fin (by rw[hval];exact r1) r2 r3 k1
        ·exact q4.elim
       ·exact q4.elim
      ·rename_i i ver n
       have hp:=dH q1
       simp only[ex]at q4
       split at q4
       rotate_left
       ·exact q4.elim
       rename_i e0 sz0 xs0 dp0 hh0
       obtain⟨g2,s2,ys,b,ad,m,c,pool2,cells2,G,k1,k2,k3,k4,k5,k6,k7,k8,k9,aa,ae,af⟩:=Cn R q3 q4
       simp only[ex]at k1
       split at k1
       ·rename_i e' sz' xs dp hh
        split at k1
        ·rename_i hc
         obtain⟨hc1,hc2,hc3⟩:=hc
         subst hc2 hc3
         obtain⟨ad',c',hval,z1,z2,z3,z4⟩:=Gm k2.inv (wG.nV k3 hp) hc1 hh
         obtain⟨mm,z5,z6⟩:=z4 rfl
         have hob:=k2.inv.obj i
         rw[hh]at hob
         obtain⟨cells,p1,p2,p3,p4,p5⟩:=hob
         rw[z5]at p1
         obtain⟨hmm,p1t⟩:=JF p1 z6
         subst hmm
         have p3':cF g2.Q.L dp w e' (xs.take n++xs.drop n) cells (g2.fp i):=by rw[List.take_append_drop];exact p3
         obtain⟨u1,u2,F1,F2,hcs,hG,m1,m2⟩:=cF.split p3'
         have hu1:cells.take (n*te.size)=u1:=by
          have hl:=aQ.length m1.rep λx hx=>p2 x (List.mem_of_mem_take hx)
          rw[qU,Nat.min_eq_left z6]at hl
          rw[hcs,<-hl,List.take_left]
         rw[hu1]at p1t
         obtain⟨I1,hfr⟩:=k2.inv.zZ hh
         have T:iC g2 g2 s2.h (nP s2.h i ((s2.h i).1,.none)) w w:=iC.drop i g2.S λ_ x=>x
         rw[hc1]at I1 hfr T
         have R1:jS P base w0 N g2 (s2.eV i (ver,.none)) a w (if dp then pool2++g2.fp i else pool2):=k2.nV T rfl k2.below I1
         obtain⟨⟨n0,n1,n2,n3,n4⟩,k1⟩:=k1
         rw[<-n0]at k1
         have hlt:(xs.take n).length=n:=by rw[qU,Nat.min_eq_left z6]
         obtain⟨v',w',g',r1,r2,r3⟩:=Dn (j:=i) (dp:=dp&&b) (ty:=o.type) (xs:=xs.take n) hti rfl hte R1 (by rw[hlt];exact p1t) (λx hx=>p2 x (List.mem_of_mem_take hx)) (m1.KI λhd=>(by simp at hd;exact hd.1)) (λb hb=>p4 b (by rw[hG];simp[hb])) (λb hb=>hfr b (by rw[z5];cases ad'<;>exact hb)) k5 k6 (by rw[k3.Q];exact k9.KI λhd=>(by simp at hd;exact hd.2)) aa n1 af (λhd=>by simp only[qM]at hd;obtain⟨hd1,hd2⟩:=hd;have ah:=ae hd2;rw[hd1]at I1;simp only[if_true]at I1;have hnd:=I1.pool_own.1;rw[hG,List.nodup_append]at hnd;obtain⟨a1,a2,a3⟩:=hnd;rw[List.nodup_append]at a2;rw[hd1];simp only[if_true];refine⟨?_,?_⟩;(rw[List.nodup_append];exact⟨a2.1,by simpa using ah.1,by rintro x hx y hy rfl;exact a3 x (ah.2 x (by simp[hy])) x (by simp[hx]) rfl⟩);·intro x hx;rcases List.mem_append.1 hx with hx|hx;(rw[hG];simp[hx]);·exact List.mem_append.2 (.inl (ah.2 x (by simp[hx])))) (by rw[hlt];exact n2) n3 n4
         have hver:((s2.eV i (ver,.none)).h i).1=ver:=by show(nP s2.h i _ i).1=_;rw[bE]
         rw[hver,St.DR]at r2 r3
         exact fin (by rw[hval];exact r1) r2 r3 k1
        ·exact k1.elim
       ·exact k1.elim
      ·have hx:=dH q1;obtain⟨g2,s2,ys,b,ad,m,c,pool2,cells2,G,k1,k2,k3,k4,k5,k6,k7,k8,k9,aa,ae,af⟩:=Cn R q3 q4;obtain⟨⟨n1,n2,n3,n4⟩,k1⟩:=k1;simp only[ex]at k1;obtain⟨v',w',g',r1,r2,r3⟩:=Dn (j:=rid dd 0) (dp:=b) (ty:=o.type) (xs:=[]) (cells1:=[]) (F:=[]) (v:=.slice none 0 0) hti rfl hte k2 (World.ownsRow_nil w base e te.size) qe cF.nil qe (by intro b hb;simp[wV]at hb) k5 k6 (by rw[k3.Q];exact k9) aa n1 af (λhd=>by have:=ae hd;simpa using this) (by simpa using n2) n3 n4;exact fin (by rw[show a.eval sx=.slice none 0 0 from hx];exact r1) r2 r3 k1
      ·exact q4.elim
    ·exact h.elim
   ·exact h.elim
  ·rename_i hne
   split at h
   ·rename_i e sz0 by0 z0 cm0 sl0 sz1 by1 z1 cm1 sl1 hti hti'
    split at h
    ·rename_i cm2 sl2 hte
     obtain⟨i,d,z,h1,h2,h3,h4,_⟩:=(cY hti).ok
     obtain rfl:=yR h4
     obtain⟨i',d',z',h1',h2',h3',h4',_⟩:=(cY hti').ok
     obtain rfl:=J3 h4'
     obtain⟨ie,de,ze,e1,e2,e3,e4,e5,e6,e7,e8,e9⟩:=(cY hte).ok
     obtain⟨sv1,q1,q2⟩:=bK R h
     obtain⟨sv2,q3,q4⟩:=bK R q2
     unfold Jn at q4
     split at q4
     ·rename_i j ver b
      obtain⟨hone,hle,hcap⟩:=dH q1
      simp only[ex]at q4
      split at q4
      ·rename_i e' xs dp hh
       split at q4
       ·rename_i hc
        obtain⟨hc1,hc2⟩:=hc
        subst hc2
        obtain⟨hb,q4⟩:=q4
        have hval:=hcap hc1 _ _ _ _ hh
        have hob:=R.inv.obj j
        rw[hh]at hob
        obtain⟨cells,p1,p2,p3,p4,p5⟩:=hob
        obtain⟨I1,hfr⟩:=R.inv.zZ hh
        have T:iC g g s.h (nP s.h j ((s.h j).1,.none)) w w:=iC.drop j g.S λ_ x=>x
        have R1:jS P base w0 N g (s.eV j ((s.h j).1,.none)) a w (if dp then[]++g.fp j else[]):=R.nV T rfl R.below I1
        obtain⟨v',w',k1,k2,k3,k4⟩:=M8 (P:=P) (ty:=o.type) h2 h2' e1 e3 (e6.trans e7) e7 e8 p1 b hb R.inv.base_le
        have hvl:(zF b.data.toList).length=b.size:=by simp[zF]
        have hcore:=Km (j:=j) (dp:=dp) (v':=v') (w':=w') (ys:=zF b.data.toList) (cells2:=strCells b) (G:=[]) R1 p1 p2 p3 p4 hfr (cF.flat (Fe _) Nl) qe (by intro y hy;unfold zF at hy;obtain⟨c,_,rfl⟩:=List.mem_map.1 hy;rfl) (λhd=>by subst hd;simp only[if_true,List.nil_append,qX];exact⟨(p5 rfl).1,λ_ x=>x⟩) (by rw[hvl];exact k2) k3 k4
        obtain⟨g',m1,m2⟩:=hcore
        have hst:((s.eV j ((s.h j).1,.none)).eV j (((s.eV j ((s.h j).1,.none)).h j).1+1,.row e' 1 (xs++zF b.data.toList) dp))=s.eV j (ver+1,.row e' 1 (xs++zF b.data.toList) dp):=by refine St.Yr rfl (funext λk=> ?_);show nP _ _ _ k=nP _ _ _ k;by_cases hk:k=j;(subst hk;rw[bE,bE];rw[show((s.eV k ((s.h k).1,.none)).h k).1=(s.h k).1 from by show(nP _ _ _ k).1=_;rw[bE],hc1]);·rw[eW _ _ _ _ hk,eW _ _ _ _ hk];show nP _ _ _ k=_;rw[eW _ _ _ _ hk]
        have hver:((s.eV j ((s.h j).1,.none)).h j).1+1=ver+1:=by show(nP _ _ _ j).1+1=_;rw[bE,hc1]
        rw[hst]at m1 m2
        rw[hver]at m2
        obtain⟨s2,n1,n2⟩:=yC m1 m2 q4
        refine Aa (v:=v') (w':=w') ?_ ⟨s2,n1,g',n2⟩
        have hrun:(Builtin.append_ #[t,t'] o.type #[a.eval sx,a.eval xx]).run P w=.ok v' w':=by rw[hval,Cg q3];exact k1
        simp[execOp,ho,resolve,invoke,builtin,hrun]
       ·exact q4.elim
      ·exact q4.elim
     ·exact q4.elim
    ·exact h.elim
   ·exact h.elim
 ·exact h.elim
theorem DG(I:Inv base g s.h w pool):∀{cs:List SC} {vs:List Value} {k:List D->Prog},aR g s.h w cs vs->ex P (Bh cs k) s K->∃ds F,aG w ds vs F/\(∀b∈F,¬A3 g s.h b)/\ex P (k ds) s K
 |[],vs,k,J,h=>⟨[],[],by simp only[aG];exact⟨J,trivial⟩,qe,h⟩
 | .dat d::cs,vs,k,J,h=>by obtain⟨v,C,rfl,⟨U,h1,h2⟩,h3⟩:=J;obtain⟨ds,F,h4,h6,h5⟩:=DG I h3 h;refine⟨d::ds,U++F,by simp only[aG];exact⟨v,C,U,F,rfl,rfl,h1,h4⟩,λb j=> ?_,h5⟩;rcases List.mem_append.1 j with j|j;(exact λhf=>hf.1 (h2 b j));·exact h6 b j
 | .old B d u::cs,vs,k,J,h=>by obtain⟨v,C,rfl,⟨U,h1,h2,_⟩,h3⟩:=J;obtain⟨ds,F,h4,h6,h5⟩:=DG I h3 h;refine⟨d::ds,U++F,by simp only[aG];exact⟨v,C,U,F,rfl,rfl,h1,h4⟩,λb j=> ?_,h5⟩;rcases List.mem_append.1 j with j|j;(exact λhf=>hf.1 (h2 b j).1);·exact h6 b j
 | .nil::cs,vs,k,J,h=>by obtain⟨v,C,rfl,h1,h3⟩:=J;obtain⟨ds,F,h4,h6,h5⟩:=DG I h3 h;refine⟨.sl []::ds,F,?_,h6,h5⟩;simp only[aG];refine⟨v,C,[],F,rfl,rfl,?_,h4⟩;simp only[Rep];exact⟨none,0,0,h1,rfl,Nat.le_refl _,.inl qe⟩
 | .row i ver::cs,vs,k,J,h=>by
  obtain⟨v,C,rfl,⟨h0,h1,h2⟩,h3⟩:=J
  simp only[Bh,ex]at h
  split at h
  ·rename_i e sz xs dp ho
   split at h
   ·rename_i hv
    have hval:=h2 hv e sz xs dp ho
    obtain⟨S',U,_,hS,hr,_,_,hF,_⟩:=I.take ho
    obtain⟨ds,F,h4,h6,h5⟩:=DG I h3 h
    have hlive:live s.h i:=by unfold live;rw[ho];simp
    refine⟨.sl xs::ds,U++F,by simp only[aG];exact⟨v,C,U,F,rfl,rfl,hval ▸ hr,h4⟩,λb j=> ?_,h5⟩
    rcases List.mem_append.1 j with j|j
    ·intro hf;rcases hS b (hF b j)with hx|hx;(exact hf.1 hx);·exact hf.2 i hlive hx
    ·exact h6 b j
   ·exact h.elim
  ·exact h.elim
 | .bp _ _ _::_,_,_,_,h=>h.elim
 | .rp _ _ _ _::_,_,_,_,h=>h.elim
 | .clo _ _::_,_,_,_,h=>h.elim
 | .part _ _ _ _::_,_,_,_,h=>h.elim
 | .exa _ _ _::_,_,_,_,h=>h.elim
theorem Ax(I:Inv base g s.h w pool){i:Nat}{tt:TypeId}{bc:List SC}(hi:(s.h i).2=.box tt bc):∀{cs:List SC} {vs:List Value} {k:List D->Prog},aR g s.h w cs vs->ex P (Bh cs k) s K->
  ∃ds F,aG w ds vs F/\(∀b∈F,g.S b \/∃j,j≠i/\live s.h j/\wV (g.val j)=some b)/\ex P (k ds) s K
 |[],vs,k,U,h=>⟨[],[],by simp only[aG];exact⟨U,trivial⟩,qe,h⟩
 | .dat d::cs,vs,k,U,h=>by obtain⟨v,J,rfl,⟨F1,h1,h2⟩,h3⟩:=U;obtain⟨ds,F,h4,h6,h5⟩:=Ax I hi h3 h;refine⟨d::ds,F1++F,by simp only[aG];exact⟨v,J,F1,F,rfl,rfl,h1,h4⟩,λb C=> ?_,h5⟩;rcases List.mem_append.1 C with C|C;(exact .inl (h2 b C));·exact h6 b C
 | .old B d u::cs,vs,k,U,h=>by obtain⟨v,J,rfl,⟨F1,h1,h2,_⟩,h3⟩:=U;obtain⟨ds,F,h4,h6,h5⟩:=Ax I hi h3 h;refine⟨d::ds,F1++F,by simp only[aG];exact⟨v,J,F1,F,rfl,rfl,h1,h4⟩,λb C=> ?_,h5⟩;rcases List.mem_append.1 C with C|C;(exact .inl (h2 b C).1);·exact h6 b C
 | .nil::cs,vs,k,U,h=>by obtain⟨v,J,rfl,h1,h3⟩:=U;obtain⟨ds,F,h4,h6,h5⟩:=Ax I hi h3 h;refine⟨.sl []::ds,F,?_,h6,h5⟩;simp only[aG];refine⟨v,J,[],F,rfl,rfl,?_,h4⟩;simp only[Rep];exact⟨none,0,0,h1,rfl,Nat.le_refl _,.inl qe⟩
 | .row j ver::cs,vs,k,U,h=>by
  obtain⟨v,J,rfl,⟨h0,h1,h2⟩,h3⟩:=U
  simp only[Bh,ex]at h
  split at h
  ·rename_i e sz xs dp ho
   split at h
   ·rename_i hv
    have hval:=h2 hv e sz xs dp ho
    obtain⟨S',F1,_,hS,hr,_,_,hF,_⟩:=I.take ho
    obtain⟨ds,F,h4,h6,h5⟩:=Ax I hi h3 h
    have hlive:live s.h j:=by unfold live;rw[ho];simp
    refine⟨.sl xs::ds,F1++F,by simp only[aG];exact⟨v,J,F1,F,rfl,rfl,hval ▸ hr,h4⟩,λb C=> ?_,h5⟩
    rcases List.mem_append.1 C with C|C
    ·rcases hS b (hF b C)with hx|hx;(exact .inl hx);·exact .inr ⟨j,⟨(λe=>by rw[e,hi]at ho;cases ho),hlive,hx⟩⟩
    ·exact h6 b C
   ·exact h.elim
  ·exact h.elim
 | .bp _ _ _::_,_,_,_,h=>h.elim
 | .rp _ _ _ _::_,_,_,_,h=>h.elim
 | .clo _ _::_,_,_,_,h=>h.elim
 | .part _ _ _ _::_,_,_,_,h=>h.elim
 | .exa _ _ _::_,_,_,_,h=>h.elim
theorem GS(R:jS P base w0 N g s a w pool){i:Nat}{tt:TypeId}{bc:List SC}(hi:(s.h i).2=.box tt bc):∀{xs:List Operand} {k:List (Bool×List D)->Prog},ex P (Jz xs k) s K->
  ∃as F,sH w (xs.map a.eval) as F/\(∀b∈F,g.S b \/∃j,j≠i/\live s.h j/\wV (g.val j)=some b)/\ex P (k as) s K
 |[],k,h=>⟨[],[],rfl,qe,h⟩
 |x::xs,k,h=>by
  obtain⟨sv,h1,h2⟩:=bK R h
  cases sv with
  |v ag cs=>
   simp only at h2
   cases ag with
   |false=>
    obtain⟨ds,F,I,J,h4⟩:=Ax R.inv hi h1 h2
    obtain⟨as,Fa,h5,U,h6⟩:=GS R hi h4
    refine⟨(false,ds)::as,_,⟨F,Fa,rfl,?_,h5⟩,λb C=> ?_,h6⟩
    ·have hl:=I.length
     match ds,I,hl with
     |[d],I,_=>
      simp only[aG]at I
      obtain⟨v,vs',F1,F2,e1,rfl,h7,_,rfl⟩:=I
      simp at e1
      rw[qX]
      exact⟨d,rfl,e1.1 ▸ h7⟩
    ·rcases List.mem_append.1 C with C|C;(exact J b C);·exact U b C
   |true=>
    obtain⟨vs,hv,hc⟩:=h1
    obtain⟨ds,F,I,J,h4⟩:=Ax R.inv hi hc h2
    obtain⟨as,Fa,h5,U,h6⟩:=GS R hi h4
    refine⟨(true,ds)::as,_,⟨F,Fa,rfl,⟨vs,hv,I⟩,h5⟩,λb C=> ?_,h6⟩
    rcases List.mem_append.1 C with C|C
    ·exact J b C
    ·exact U b C
  |unk=>exact h2.elim
  |undef=>exact h2.elim
  |tup vs=>exact h2.elim
theorem Ic(I:Inv base g s.h w pool){i ver off:Nat}{v:Value}{k:List D->Prog}(hc:Ei g s.h (i,ver,off) v)(h:ex P (Ct i ver off k) s K):
  ∃ds F,Rep w (.ptr ds) v F/\(∀b∈F,¬A3 g s.h b)/\ex P (k ds) s K:=by
 simp only[Ct,ex]at h
 split at h
 ·rename_i t cells U
  split at h
  ·rename_i hv
   obtain⟨b,hval,J⟩:=hc.2 hv t cells U
   have C:=I.obj i
   rw[U]at C
   obtain⟨b',vals,k1,k2,k3,k4⟩:=C
   rw[hval]at k1
   simp at k1
   subst k1
   obtain⟨ds,F,h4,h6,h5⟩:=DG I (k4.drop off) h
   have hlive:live s.h i:=by unfold live;rw[U];simp
   refine⟨ds,b::F,?_,λx hx=> ?_,h5⟩
   ·simp only[Rep];refine⟨b,off,vals.toList.drop off,F,J,(Array.getElem?_eq_some_iff.1 k3).1,rfl,?_,h4⟩;intro j u hu;rw[List.getElem?_drop]at hu;simp[World.cell?,k3];simpa using hu
   ·rcases List.mem_cons.1 hx with rfl|hx;(exact λhf=>hf.2 i hlive (by rw[hval];rfl));·exact h6 x hx
  ·exact h.elim
 ·exact h.elim
theorem GW(I:Inv base g s.h w pool):∀{cs:List (Nat×Nat×Nat)} {C:List Value} {k:List D->Prog},Ag g s.h cs C->ex P (AG cs k) s K->∃ds F,aG w ds C F/\(∀b∈F,¬A3 g s.h b)/\ex P (k ds) s K
 |[],C,k,U,h=>⟨[],[],by simp only[aG];exact⟨U,trivial⟩,qe,h⟩
 |(i,ver,off)::cs,C,k,U,h=>by obtain⟨v,vs',rfl,h1,h3⟩:=U;obtain⟨ds,F,h4,h4f,h5⟩:=Ic I h1 h;obtain⟨es,G,h6,J,h7⟩:=GW I h3 h5;refine⟨.ptr ds::es,F++G,by simp only[aG];exact⟨v,vs',F,G,rfl,rfl,h4,h6⟩,λb j=> ?_,h7⟩;rcases List.mem_append.1 j with j|j;(exact h4f b j);·exact J b j
theorem QC(I:Inv base g s.h w pool){c:SC}{v:Value}{k:List D->Prog}(hc:wG g s.h w c v)(h:ex P (xZ [c] k) s K)(hk:∀ds,ex P (k ds) s K->∃f cs,ds=[.fn f cs]):
  ∃d F,Rep w d v F/\(∀b∈F,¬A3 g s.h b)/\ex P (k [d]) s K:=by
 cases c with
 |dat d=>
  obtain⟨F,J,U⟩:=hc
  exact⟨d,F,J,λb C hf=>hf.1 (U b C),h⟩
 |clo f caps=>
  obtain⟨us,h0,J⟩:=hc
  obtain⟨ds,F,h4,h6,h5⟩:=GW I J h
  exact⟨.fn f ds,F,by simp only[Rep];exact⟨us,h0,h4⟩,h6,h5⟩
 |nil=>obtain⟨f,cs,e⟩:=hk _ h;cases e
 |row i ver=>
  simp only[xZ,ex]at h
  split at h
  ·split at h;(obtain⟨f,cs,e⟩:=hk _ h;cases e);·exact h.elim
  ·exact h.elim
 |bp i ver off=>
  obtain⟨ds,F,h4,h6,h5⟩:=Ic I hc.2 h
  obtain⟨f,cs,e⟩:=hk _ h5;cases e
 |rp i ver j off=>exact h.elim
 |old B d u=>
  obtain⟨F,J,U,_⟩:=hc
  exact⟨d,F,J,λb C hf=>hf.1 (U b C).1,h⟩
 |part i ver lo n=>
  simp only[xZ,ex]at h
  split at h
  ·split at h;(obtain⟨f,cs,e⟩:=hk _ h;cases e);·exact h.elim
  ·exact h.elim
 |exa W d x=>
  obtain⟨rfl,F,J,U⟩:=hc
  exact⟨d,F,Rep.vY _ _ _ J λb C=>(U b C).2,λb C hf=>hf.1 (U b C).1,h⟩
theorem G4:∀{ds:List D} {C:List Value} {F:List Nat},aG w ds C F->ds.all D.flat=true->F=[]
 |[],C,F,h,_=>by simp only[aG]at h;exact h.2
 |d::ds,C,F,h,j=>by simp only[aG]at h;obtain⟨v,U,F1,F2,rfl,rfl,J,I⟩:=h;simp only[List.all_cons,qM]at j;rw[Es J j.1,G4 I j.2];rfl
theorem I9:∀{j:List (List D)} {cells:List Value} {F:List Nat},aQ w j cells F->(∀x∈j,x.all D.flat=true)->F=[]
 |[],cells,F,h,_=>by simp only[aQ]at h;exact h.2
 |x::j,cells,F,h,C=>by simp only[aQ]at h;obtain⟨v1,v2,F1,F2,rfl,rfl,I,J⟩:=h;rw[G4 I (C x qe),I9 J λy U=>C y (by simp[U])];rfl
theorem Ii{L:TL}{X:Nat->Prop}{b:Nat}{vs:List Value}{r:RC}{C:List RC}{F:List Nat}{q:Ed}(j:r.ed=some q)(h:mM L b w X vs (r::C) F):False:=by
 cases r with
 |edit I=>cases vs<;>exact h
 |any d=>simp[RC.ed]at j
 |ro d=>simp[RC.ed]at j
 |own e sz J=>simp[RC.ed]at j
theorem Mt{L:TL}{X:Nat->Prop}{b:Nat}{v:Value}{C:Bool}{r:RC}{I:List RC}{F:List Nat}{q:Ed}(j:r.ed=some q)(h:Ha L b w X v (C,r::I) F):False:=by
 cases C with
 |false=>exact Ii j h
 |true=>obtain⟨J,_,h⟩:=h;exact Ii j h
theorem J8{L:TL}{X:Nat->Prop}{b:Nat}{v:Value}{C:List (Bool×List RC)}{F:List Nat}{q:Ed}(j:KH C=some q)(h:LH L b w X v C F):False:=by
 match C,j,h with
 |[],j,_=>simp[KH]at j
 |(_,[])::_,j,_=>simp[KH]at j
 |[(I,r::l)],j,h=>exact Mt j h
 |(I,r::l)::y::ys,j,h=>
  obtain⟨U,_,h⟩:=h
  match U.toList,h with
  |[],h=>exact h
  |u::us,h=>obtain⟨F1,F2,_,J,_⟩:=h;exact Mt j J
theorem aR.at_{g:Gh}{h:Heap}{w:World}:∀{I:List SC} {C:List Value} {i:Nat} {c:SC},aR g h w I C->I[i]? =some c->∃v,C[i]? =some v/\wG g h w c v
 |[],_,_,_,_,h=>by simp at h
 |c::I,C,0,c',h,j=>by obtain⟨v,J,rfl,h1,U⟩:=h;simp at j;subst j;exact⟨v,rfl,h1⟩
 |c::I,C,i+1,c',h,j=>by obtain⟨v,J,rfl,h1,U⟩:=h;obtain⟨u,k1,k2⟩:=aR.at_ U (by simpa using j);exact⟨u,by simpa using k1,k2⟩
theorem Rb{f:FuncId}{xs:List Operand}{vs:Array Value}{avs:List (Bool×List D)}{q:Ed}{dst:Option Tmp}{Fa:List Nat}{R':Ending->World->Prop}(R:jS P base w0 N g s a w [])(hvs:vs=(xs.map a.eval).toArray)
  (k1:sH w vs.toList avs Fa){rs:List (Bool×List RC)}(hq:KH rs=some q)(k2:kM P f avs rs)(C:ex P (uL N dst xs avs q) s K)
  (hnext:∀v w',(∃s',K s'/\Rel P base w0 N s' (a.put dst v) w')->R' (.returned v) w'):Calls P f vs w R':=by
 rcases k2 with k2|⟨q',hq',hb,hed⟩|⟨t1,es1,rs1,hr1,_⟩
 ·refine(k2.2 w vs Fa k1).mono λe w' hh=> ?_
  obtain⟨v,rfl,⟨F,X,_,_,_,hv⟩,_⟩:=hh
  exact(J8 hq hv).elim
 rotate_left
 ·rw[hr1]at hq;simp only[KH,RC.ed,qb]at hq;subst hq;unfold uL at C;exact C.elim
 ·rw[hq']at hq
  simp only[KH,RC.ed,qb]at hq
  subst hq
  subst hvs
  have fin:∀{v':Value} {w':World} {g':Gh} {s':St} {sv:SV},jS P base w0 N g' s' a w' []->sU g' s'.h w' sv v'->ex P (put N dst sv) s' K->R' (.returned v') w':=by intro v' w' g' s' sv R2 hv hk;obtain⟨s2,m1,m2⟩:=yC R2 hv hk;exact hnext v' w' ⟨s2,m1,g',m2⟩
  cases q' with
  |del e sz=>
   rcases xs with _|⟨x1,_|⟨x2,_|⟨x3,_|⟨x4,r⟩⟩⟩⟩<;>simp only[uL,ex]at C
   obtain⟨sv1,a1,U⟩:=bK R C
   obtain⟨sv2,a2,k5⟩:=bK R U
   clear C
   obtain⟨sv3,a3,C⟩:=bK R k5
   clear U k5
   split at C
   ·rename_i i ver x y
    simp only[ex]at C
    split at C
    ·rename_i e' sz' rs dp hh
     split at C
     ·rename_i hc
      obtain⟨hc1,hc2,hc3⟩:=hc
      subst hc2 hc3
      obtain⟨⟨hx0,hxy,hy⟩,C⟩:=C
      obtain⟨hone,hle,hcap⟩:=dH a1
      have hval:=hcap hc1 _ _ _ _ hh
      have hob:=R.inv.obj i
      rw[hh]at hob
      obtain⟨cells,p1,p2,p3,p4,p5⟩:=hob
      obtain⟨I1,J⟩:=R.inv.zZ hh
      have T:iC g g s.h (nP s.h i ((s.h i).1,.none)) w w:=iC.drop i g.S λ_ x=>x
      rw[hc1]at I1 J T
      have R1:jS P base w0 N g (s.eV i (ver,.none)) a w (if dp then[]++g.fp i else[]):=R.nV T rfl R.below I1
      have hcall:=hed base w (g.val i) rs.length cells x.toNat y.toNat R.inv.base_le p1 qc hy p3.rep.one
      have ha:([x1,x2,x3].map a.eval).toArray= #[g.val i,.int .i64 (x.toNat:Int),.int .i64 (y.toNat:Int)]:=by
       have e2:a.eval x2=.int .i64 (x.toNat:Int):=by rw[jQ a2,Int.toNat_of_nonneg hx0]
       have e3:a.eval x3=.int .i64 (y.toNat:Int):=by rw[jQ a3,Int.toNat_of_nonneg qc]
       simp[hval,e2,e3]
      rw[ha]
      refine hcall.mono ?_
      rintro ed w' ⟨v',rfl,r2,r3,r4⟩
      obtain⟨c1,c2,c3,F1,F2,F3,hcs,hG,m1,m2,m3,m4,m5⟩:=I0 (lo:=x.toNat) (n:=y.toNat-x.toNat) p3 p2 (.inr qc)
      rw[show x.toNat+(y.toNat-x.toNat)=y.toNat by omega]at m5
      have hl1:=m1 qc
      have e1:cells.take (x.toNat*sz')=c1:=by rw[hcs,<-hl1,List.take_left]
      have e2:cells.drop (y.toNat*sz')=c3:=by
       have:y.toNat*sz'=(c1++c2).length:=by rw[qE,hl1,m2,<-Nat.add_mul];congr 1;omega
       rw[hcs,<-qS,this,List.drop_left]
      rw[e1,e2]at r2
      have hlen:(rs.take x.toNat++rs.drop y.toNat).length=x.toNat+(rs.length-y.toNat):=by rw[qE,qU,qV,Nat.min_eq_left qc]
      obtain⟨g',z1,z2⟩:=GD (j:=i) (dp:=dp) (zs:=rs.take x.toNat++rs.drop y.toNat) (F:=F1++F3) R1 p1 J (m3.append m5)
       (λb hb=>p4 b (by rw[hG];rcases List.mem_append.1 hb with hb|hb<;>simp[hb]))
       (λz I=>by rcases List.mem_append.1 I with I|I;(exact p2 z (List.mem_of_mem_take I));·exact p2 z (List.mem_of_mem_drop I))
       (λhd=>by have hn:=(p5 hd).1;rw[hG]at hn;rw[hd];simp only[if_true,List.nil_append];refine⟨hn.sublist (List.Sublist.append (List.Sublist.refl _) (List.sublist_append_right _ _)),λz I=> ?_⟩;rw[hG];rcases List.mem_append.1 I with I|I<;>simp[I]) (by rw[hlen];exact r2) r3 (r4.imp_right .inr)
      have hver:((s.eV i (ver,.none)).h i).1=ver:=by show(nP s.h i _ i).1=_;rw[bE]
      rw[hver,St.DR]at z1 z2
      exact fin z1 z2 C
     ·exact C.elim
    ·exact C.elim
   ·exact C.elim
  |ins e sz bytes=>
   rcases xs with _|⟨x1,_|⟨x2,_|⟨x3,_|⟨x4,r⟩⟩⟩⟩<;>simp only[uL,ex]at C
   obtain⟨sv1,a1,U⟩:=bK R C
   obtain⟨sv2,a2,k5⟩:=bK R U
   clear C
   obtain⟨sv3,a3,C⟩:=bK R k5
   clear U k5
   split at C
   ·rename_i i ver x j ver2
    simp only[ex]at C
    split at C
    ·rename_i e' sz' rs dp hh
     split at C
     ·rename_i hc
      obtain⟨hc1,hc2,hc3⟩:=hc
      subst hc2 hc3
      simp only[ex]at C
      split at C
      ·rename_i e2 sz2 ys dp2 hh2
       split at C
       ·rename_i hc'
        obtain⟨hd1,hd2,hd3⟩:=hc'
        subst hd2 hd3
        obtain⟨⟨hx0,hxl,hy0,hby⟩,C⟩:=C
        have hji:j≠i:=by rintro rfl;rw[KD,bE]at hh2;cases hh2
        rw[KD,eW _ _ _ _ hji]at hh2 hd1
        obtain⟨hone,hle,hcap⟩:=dH a1
        have hval:=hcap hc1 _ _ _ _ hh
        obtain⟨hone2,hle2,hcap2⟩:=dH a3
        have hval2:=hcap2 hd1 _ _ _ _ hh2
        have hob:=R.inv.obj i
        rw[hh]at hob
        obtain⟨cells,p1,p2,p3,p4,p5⟩:=hob
        have hob2:=R.inv.obj j
        rw[hh2]at hob2
        obtain⟨cells2,u1,u2,u3,u4,u5⟩:=hob2
        obtain⟨I1,J⟩:=R.inv.zZ hh
        have T:iC g g s.h (nP s.h i ((s.h i).1,.none)) w w:=iC.drop i g.S λ_ x=>x
        rw[hc1]at I1 J T
        have R1:jS P base w0 N g (s.eV i (ver,.none)) a w (if dp then[]++g.fp i else[]):=R.nV T rfl R.below I1
        have hh2':((s.eV i (ver,.none)).h j).2=.row e2 sz2 ys dp2:=by rw[KD,eW _ _ _ _ hji];exact hh2
        have hd1':((s.eV i (ver,.none)).h j).1=ver2:=by rw[KD,eW _ _ _ _ hji];exact hd1
        obtain⟨I2,hfr2⟩:=R1.inv.zZ hh2'
        have T2:iC g g (s.eV i (ver,.none)).h (nP (s.eV i (ver,.none)).h j (((s.eV i (ver,.none)).h j).1,.none)) w w:=iC.drop j g.S λ_ x=>x
        rw[hd1']at I2 hfr2 T2
        have R2:jS P base w0 N g ((s.eV i (ver,.none)).eV j (ver2,.none)) a w _:=R1.nV T2 rfl R1.below I2
        have hli:live s.h i:=by unfold live;rw[hh];simp
        have hlj:live s.h j:=by unfold live;rw[hh2];simp
        have hcall:=hed base w (g.val i) (g.val j) rs.length ys.length cells cells2 x.toNat R.inv.base_le p1 u1 (λb hb hb'=>R.inv.inj i j b (Ne.symm hji) hli hlj (by rw[mF p1];exact hb) (by rw[mF u1];exact hb')) hxl hy0 hby p3.rep.one u3.rep.one
        have ha:([x1,x2,x3].map a.eval).toArray= #[g.val i,.int .i64 (x.toNat:Int),g.val j]:=by
         have e2:a.eval x2=.int .i64 (x.toNat:Int):=by rw[jQ a2,Int.toNat_of_nonneg hx0]
         simp[hval,e2,hval2]
        rw[ha]
        refine hcall.mono ?_
        rintro ed w' ⟨v',rfl,r2,r3,r4⟩
        have p3':cF g.Q.L dp w e2 (rs.take x.toNat++rs.drop x.toNat) cells (g.fp i):=by rw[List.take_append_drop];exact p3
        obtain⟨c1,c2,F1,F2,hcs,hG,m1,m2⟩:=cF.split p3'
        have hl1:c1.length=x.toNat*sz2:=by rw[aQ.length m1.rep λz I=>p2 z (List.mem_of_mem_take I),qU,Nat.min_eq_left hxl]
        have e1:cells.take (x.toNat*sz2)=c1:=by rw[hcs,<-hl1,List.take_left]
        have e2':cells.drop (x.toNat*sz2)=c2:=by rw[hcs,<-hl1,List.drop_left]
        rw[e1,e2']at r2
        have hlen:(rs.take x.toNat++(ys++rs.drop x.toNat)).length=rs.length+ys.length:=by simp only[qE,qU,qV];omega
        have hfr':∀b,wV (g.val i)=some b->A3 g ((s.eV i (ver,.none)).eV j (ver2,.none)).h b:=λb hb=>
         ⟨(J b hb).1,λl hl=>(J b hb).2 l (uN hl).2⟩
        obtain⟨g',z1,z2⟩:=GD (j:=i) (dp:=dp&&dp2) (zs:=rs.take x.toNat++(ys++rs.drop x.toNat)) (F:=F1++(g.fp j++F2)) R2 p1 hfr' (cF.append (m1.KI λhd=>(by simp at hd;exact hd.1)) (cF.append (u3.KI λhd=>(by simp at hd;exact hd.2)) (m2.KI λhd=>(by simp at hd;exact hd.1))))
         (λb hb=>by rcases List.mem_append.1 hb with hb|hb;(exact p4 b (by rw[hG];simp[hb]));·rcases List.mem_append.1 hb with hb|hb;(exact u4 b hb);·exact p4 b (by rw[hG];simp[hb]))
         (λz I=>by rcases List.mem_append.1 I with I|I;(exact p2 z (List.mem_of_mem_take I));·rcases List.mem_append.1 I with I|I;(exact u2 z I);·exact p2 z (List.mem_of_mem_drop I))
         (λhd=>by simp only[qM]at hd;obtain⟨hd1,hd2⟩:=hd;have hpo:=I2.pool_own.1;rw[hd1,hd2]at hpo⊢;simp only[if_true,List.nil_append]at hpo⊢;rw[hG,List.nodup_append]at hpo;obtain⟨b1,b2,b3⟩:=hpo;rw[List.nodup_append]at b1;obtain⟨b4,b5,b6⟩:=b1;refine⟨?_,λz I=> ?_⟩;(rw[List.nodup_append];refine⟨b4,?_,?_⟩;(rw[List.nodup_append];exact⟨b2,b5,by rintro z I z' hz' rfl;exact b3 z (by simp[hz']) z I rfl⟩);·rintro z I z' hz' rfl;rcases List.mem_append.1 hz' with hz'|hz';(exact b3 z (by simp[I]) z hz' rfl);·exact b6 z I z hz' rfl);·rw[hG];rcases List.mem_append.1 I with I|I;(simp[I]);·rcases List.mem_append.1 I with I|I<;>simp[I]) (by rw[hlen];exact r2) r3 (r4.imp_right .inr)
        have hver:(((s.eV i (ver,.none)).eV j (ver2,.none)).h i).1=ver:=by show(nP (nP s.h i _) j _ i).1=_;rw[eW _ _ _ _ (Ne.symm hji),bE]
        rw[hver]at z1 z2
        exact fin z1 z2 C
       ·exact C.elim
      ·exact C.elim
     ·exact C.elim
    ·exact C.elim
   ·exact C.elim
  |nV e sz ys=>
   rcases xs with _|⟨x1,_|⟨x2,_|⟨x4,r⟩⟩⟩<;>simp only[uL,ex]at C
   obtain⟨sv1,a1,U⟩:=bK R C
   clear C
   obtain⟨sv2,a2,C⟩:=bK R U
   clear U
   split at C
   ·rename_i i ver c
    simp only[ex]at C
    split at C
    ·rename_i e' sz' rs dp hh
     split at C
     ·rename_i hc
      obtain⟨hc1,hc2,hc3⟩:=hc
      subst hc2 hc3
      obtain⟨hone,hle,hcap⟩:=dH a1
      have hval:=hcap hc1 _ _ _ _ hh
      have hob:=R.inv.obj i
      rw[hh]at hob
      obtain⟨cells,p1,p2,p3,p4,p5⟩:=hob
      obtain⟨I1,J⟩:=R.inv.zZ hh
      have T:iC g g s.h (nP s.h i ((s.h i).1,.none)) w w:=iC.drop i g.S λ_ x=>x
      rw[hc1]at I1 J T
      have R1:jS P base w0 N g (s.eV i (ver,.none)) a w (if dp then[]++g.fp i else[]):=R.nV T rfl R.below I1
      obtain⟨xs0,gf,caps,hav,hfl,hys,hed⟩:=hed
      subst hav
      simp only[ex]at C
      obtain⟨d,F2,d1,d2,k5⟩:=QC R1.inv (wG.nV T (dH a2)) C (λds hk=>by have h1:=hk.1;simp only[List.cons.injEq,qa,D.sl.injEq,true_and,and_true]at h1;exact⟨gf,caps,h1.2.symm⟩)
      clear C
      obtain⟨hav,C⟩:=k5
      simp only[List.cons.injEq,qa,D.sl.injEq,true_and,and_true]at hav
      obtain⟨rfl,rfl⟩:=hav
      have hG:g.fp i=[]:=I9 p3.rep hfl
      have hcall:=hed base w (g.val i) (a.eval x2) cells F2 R.inv.base_le p1 p2 (by rw[<-hG];exact p3.rep) d1 (λb hb=>by have hf:=J b (by rw[mF p1];exact hb);exact λhb'=>d2 b hb' hf)
      have ha:([x1,x2].map a.eval).toArray= #[g.val i,a.eval x2]:=by simp[hval]
      rw[ha]
      refine hcall.mono ?_
      rintro ed w' ⟨v',cells',rfl,r2,r5,r3,r4⟩
      obtain⟨g',z1,z2⟩:=GD (j:=i) (dp:=dp) (zs:=ys) (F:=[]) R1 p1 J (cF.flat (aQ.vY _ _ _ r5 qe) hys.2) qe hys.1
       (λhd=>⟨List.nodup_nil,qe⟩) r2 r3 r4
      have hver:((s.eV i (ver,.none)).h i).1=ver:=by show(nP s.h i _ i).1=_;rw[bE]
      rw[hver,St.DR]at z1 z2
      simp only[ex,St.DR]at C
      exact fin z1 z2 C
     ·exact C.elim
    ·exact C.elim
   ·exact C.elim
  |pass=>
   rcases xs with _|⟨x1,_|⟨x2,_|⟨x3,r⟩⟩⟩<;>simp only[uL,ex]at C
   obtain⟨sv,a2,U⟩:=bK R C
   clear C
   split at U
   ·rename_i ag cs
    have ha:([x1,x2].map a.eval).toArray= #[a.eval x1,a.eval x2]:=by simp
    rw[ha]
    refine(hed w (a.eval x1) (a.eval x2) Fa (by simpa using k1)).mono ?_
    rintro e w' ⟨rfl,hbl⟩
    have I':=R.inv.grow hbl.size hbl.block
    have T:iC g g s.h s.h w w':=iC.grow R.inv.S_lt hbl.block
    have R1:jS P base w0 N g s a w' []:=R.nV T rfl (R.bel (hbl.mono R.inv.base_le)) I'
    refine fin R1 (sv:=.tup [(ag,cs),(false,[.dat (.bool true)])]) ⟨#[a.eval x2,.bool true],rfl,a.eval x2,[.bool true],rfl,?_,.bool true,[],rfl,?_,rfl⟩ U
    ·exact Cx.nV T a2
    ·exact⟨.bool true,[],rfl,⟨[],by simp[Rep],qe⟩,rfl⟩
   ·exact U.elim
  |sel c k sz=>
   rcases xs with _|⟨x1,r⟩<;>simp only[uL,ex]at C
   obtain⟨sv,a1,U⟩:=bK R C
   clear C
   split at U
   ·rename_i cs
    split at U
    ·rename_i i ver hcs
     simp only[ex]at U
     split at U
     ·rename_i e' sz' rs dp ho
      split at U
      ·rename_i hc
       split at U
       ·rename_i y hy
        obtain⟨vs1,hv1,hcells⟩:=a1
        obtain⟨u,hu,hrow⟩:=hcells.at_ hcs
        have hgv:u=g.val i:=hrow.2.2 hc.1 _ _ _ _ ho
        have hvl:((x1::r).map a.eval).toArray.toList=.agg vs1::r.map a.eval:=by simp[hv1]
        refine(hed w _ Fa (by rw[hvl];simpa[hv1]using k1)).mono ?_
        rintro e w' ⟨hbl,us,hus,rfl,cs',rest,b,o,n,cap,hvs',hcell,hlie⟩
        rw[hvl]at hvs'
        simp only[List.cons.injEq,Value.agg.injEq]at hvs'
        obtain⟨rfl,_⟩:=hvs'
        rw[hu]at hcell
        cases hcell
        have I':=R.inv.grow hbl.size hbl.block
        have T:iC g g s.h s.h w w':=iC.grow R.inv.S_lt hbl.block
        have R1:jS P base w0 N g s a w' []:=R.nV T rfl (R.bel (hbl.mono R.inv.base_le)) I'
        have hoff:o=0:=by have hob:=R.inv.obj i;rw[ho]at hob;obtain⟨cells,p1,p2,p3,p4,p5⟩:=hob;rcases p1.2 with⟨q1,q2⟩|⟨b',c2,cur,q1,q2⟩;(rw[<-hgv]at q1;cases q1);·rw[<-hgv]at q1;cases q1;rfl
        subst hoff
        obtain⟨cells,cur,rfl,m1,m2,m3,m4,m5,m6,m7,m8,m9,aa,ae,af⟩:=OM R.inv ho hgv.symm
        obtain⟨v1,v2,v3,F1,F2,F3,rfl,hF,hl1,hr1,hr2,hr3⟩:=aa.at_ m9 hy
        have hlen2:=hr2.length
        have hyl:y.length=sz':=m9 y (List.mem_of_getElem? hy)
        have q1:=(m7.drop (k*sz')).take sz'
        rw[Nat.zero_add]at q1
        rw[show(v1++(v2++v3)).drop (k*sz')=v2++v3 by rw[<-hl1,List.drop_left],List.take_append_of_le_length qc,List.take_of_length_le qc]at q1
        rw[Nat.zero_add]at hlie
        have huv:us.toList=v2:=by
         apply List.ext_getElem?
         intro j
         rcases Nat.lt_or_ge j sz with hj|hj
         ·have j1:j<us.toList.length:=by simpa[hus]using hj
          have j2:j<v2.length:=by have:=hc.2;omega
          rw[qF j1,qF j2]
          have x1:=hlie j _ (qF j1)
          have x2:=q1 j _ (qF j2)
          rw[<-hc.2]at x1
          exact x1.symm.trans x2
         ·rw[qY (by simpa[hus]using hj),qY (by have:=hc.2;omega)]
        refine fin R1 (sv:=.tup [(true,y.map .dat),(false,[.dat (.bool true)])]) ⟨#[.agg us,.bool true],rfl,.agg us,[.bool true],rfl,?_,.bool true,[],rfl,?_,rfl⟩ U
        ·exact Cx.nV T ⟨us,rfl,by rw[huv];exact aR.DQ hr2 λb hb=>ae b (by rw[hF];simp[hb])⟩
        ·exact⟨.bool true,[],rfl,⟨[],by simp[Rep],qe⟩,rfl⟩
       ·exact U.elim
      ·exact U.elim
     ·exact U.elim
    ·exact U.elim
   ·exact U.elim
  |lend t es=>exact hed.elim
  |newb t es=>
   cases dst with
   |none=>simp only[uL,ex]at C
   |some d=>
    simp only[uL]at C
    obtain⟨g2,s2,as2,F2,R2,_,q1,q2,q3⟩:=CK R C
    obtain⟨rfl,U⟩:=q3
    simp only[ex]at U
    refine(hed w _ F2 (by simpa using q1)).mono ?_
    rintro e w' ⟨hbl,b,vals,G,rfl,hbs,hw',hr,hbG,hG⟩
    have I':=R2.inv.grow hbl.size hbl.block
    have T:iC g2 g2 s2.h s2.h w w':=iC.grow R2.inv.S_lt hbl.block
    have R3:jS P base w0 N g2 s2 a w' []:=R2.nV T rfl (R2.bel (hbl.mono R2.inv.base_le)) I'
    have J:∀x,w.heap.size<=x->A3 g2 s2.h x:=λx hx=>⟨λhS=>absurd (R2.inv.S_lt x hS) qc,λj hl hb'=>absurd (R2.inv.BI hl hb').2.lt qc⟩
    have I2:=I'.Tr (X:=λx=>x∈G) (λx hx=>⟨(hG x hx).1.elim (λy=>.inl (q2 x y)) (λy=>.inr (Nat.le_trans R2.inv.base_le y)),(hG x hx).2⟩) (λx hx hn=>(hG x hx).1.elim (λy=>absurd (q2 x y) hn) (λy=>J x y))
    have R3':jS P base w0 N { g2 with S:=λx=>g2.S x\/x∈G } s2 a w' []:=R3.nV (iC.Tr g2 s2.h w' λx=>x∈G) rfl R3.below I2
    have hfree:A3 { g2 with S:=λx=>g2.S x\/x∈G } s2.h b:=⟨λhS=>hS.elim (J b hbs).1 hbG,(J b hbs).2⟩
    have I3:=R3'.inv.Ke (i:=d) (cells:=es.map .dat) (Nat.le_trans R2.inv.base_le hbs) hfree hw' (aR.DQ hr λx hx=>.inr hx)
    have T3:=iC.create (g:={ g2 with S:=λx=>g2.S x\/x∈G }) (h:=s2.h) (w:=w') d (.pointer (some ⟨b,0,none⟩)) [] (.box t (es.map .dat))
    have R4:jS P base w0 N _ (s2.eV d ((s2.h d).1+1,.box t (es.map .dat))) a w' []:=R3'.nV T3 rfl R3'.below I3
    refine fin R4 (sv:=.v false [.bp d ((s2.h d).1+1) 0]) ⟨_,[],rfl,⟨rfl,?_,?_⟩,rfl⟩ U
    ·show _<=(nP s2.h d _ d).1;rw[bE];exact Nat.le_refl _
    ·intro _ t' cs' _;exact⟨b,cZ _ _ _,rfl⟩
theorem Q9{f:FuncId}{xs:List Operand}{vs:Array Value}{avs:List (Bool×List D)}{t:TypeId}{es:List D}{dst:Option Tmp}{Fa:List Nat}{R':Ending->World->Prop}(R:jS P base w0 N g s a w [])(hvs:vs=(xs.map a.eval).toArray)
  (k1:sH w vs.toList avs Fa){rs:List (Bool×List RC)}(hq:KH rs=some (.lend t es))(k2:kM P f avs rs)(k3:ex P (Kq N dst t es rs.tail xs avs) s K)
  (hnext:∀v w',(∃s',K s'/\Rel P base w0 N s' (a.put dst v) w')->R' (.returned v) w'):Calls P f vs w R':=by
 rcases k2 with k2|⟨q',hq',hb,hed⟩|⟨t',U,rs',hr,hb,hL⟩
 ·refine(k2.2 w vs Fa k1).mono λe w' I=> ?_
  obtain⟨v,rfl,⟨F,X,_,_,_,hv⟩,_⟩:=I
  exact(J8 hq hv).elim
 ·rw[hq']at hq;simp only[KH,RC.ed,qb]at hq;subst hq;exact hed.elim
 subst hr hvs
 simp only[KH,RC.ed,qb,Ed.lend.injEq]at hq
 obtain⟨rfl,rfl⟩:=hq
 obtain⟨han,hesf,d0,ds,rest,rfl,hdsf,hlen,hcall⟩:=hL
 cases xs with
 |nil=>exact k3.elim
 |cons x1 bs=>
  simp only[Kq,List.tail]at k3
  obtain⟨sv1,a1,k4⟩:=bK R k3
  clear k3
  split at k4
  ·rename_i i ver
   simp only[ex]at k4
   split at k4
   ·rename_i t1 c0 cells I
    split at k4
    ·rename_i hc
     obtain⟨hc1,hc2⟩:=hc
     subst hc2
     obtain⟨hone,hle,hcap⟩:=dH a1
     obtain⟨b,hb1,hb2⟩:=hcap hc1 _ _ I
     have hob:=R.inv.obj i
     rw[I]at hob
     obtain⟨C,vals,h3,h4,h5,h6⟩:=hob
     have hbb:C=b:=by rw[hb1]at h3;simp at h3;exact h3.symm
     subst hbb
     have hlive:live s.h i:=by unfold live;rw[I];simp
     have hown:wV (g.val i)=some C:=by rw[h3];rfl
     have hnS:=R.inv.mtb i C hlive hown
     obtain⟨v0,vs0,hvl,r0,r1⟩:=h6
     obtain⟨ds0,Fb,q1,q2,k5⟩:=Ax R.inv I (cs:=[c0]) (vs:=[v0]) ⟨v0,[],rfl,r0,rfl⟩ k4
     obtain⟨ds1,F1,q3,q4,k6⟩:=Ax R.inv I r1 k5
     obtain⟨hcells,k7⟩:=k6
     obtain⟨as,F,q5,q6,k8⟩:=GS R I k7
     obtain⟨hav,k9⟩:=k8
     have hl0:=q1.length
     match ds0,q1,hl0,hav with
     |[e0],q1,_,hav=>
      simp only[List.cons_append,List.nil_append,List.cons.injEq,qa,D.ptr.injEq,true_and,and_true]at hav
      obtain⟨⟨rfl,rfl⟩,rfl⟩:=hav
      simp only[aG]at q1
      obtain⟨v0',vs',F2,F3,e1,rfl,q7,_,rfl⟩:=q1
      simp at e1
      obtain⟨rfl,rfl⟩:=e1
      have hF1:F1=[]:=G4 q3 hdsf
      subst hF1
      have apart:∀x,(g.S x \/∃j,j≠i/\live s.h j/\wV (g.val j)=some x)->x≠C:=by rintro x (hx|⟨j,hj,hl,hx⟩) rfl;(exact hnS hx);·exact R.inv.inj j i x hj hl hlive hx hown
      have ha:((x1::bs).map a.eval).toArray=(.pointer (some ⟨C,0,none⟩)::bs.map a.eval).toArray:=by simp[hb2]
      rw[ha]
      refine(hcall w C vals v0 vs0 (bs.map a.eval) (F2++[]) F h5 hvl (by simpa using q7) q3 (λhx=>apart _ (q2 _ hx) rfl) q5 (λhx=>apart _ (q6 _ hx) rfl)).mono ?_
      rintro e w' ⟨v,us,rfl,hres,hgrow,hw',hus⟩
      refine hnext v w' ?_
      let w1:=w'.setRow C vals
      have hw1:w1.heap[C]? =some (.cells vals t1 (0,0)):=setRow_heap w' C _ vals t1 (0,0) hw'
      have hoth:∀k,k≠C->w'.heap[k]? =w1.heap[k]? :=λk hk=>(setRow_other w' C k _ hk).symm
      have hsz1:w1.heap.size=w'.heap.size:=setRow_size _ _ _
      have hb1':∀k,k<w.heap.size->w1.heap[k]? =w.heap[k]? :=λk hk=>by by_cases hkb:k=C;(rw[hkb,hw1,h5]);·rw[<-hoth k hkb];exact hgrow.block k hk (λe=>hkb (Option.some.inj e))
      have hbel:Below w.heap.size w w1:=⟨hgrow.os,hgrow.tape,hgrow.output,by rw[hsz1];exact hgrow.size,hb1'⟩
      have I1:=R.inv.grow hbel.size hbel.block
      have T1:iC g g s.h s.h w w1:=iC.grow R.inv.S_lt hbel.block
      have R1:jS P base w0 N g s a w1 []:=R.nV T1 rfl (R.bel (hbel.mono R.inv.base_le)) I1
      have T2:iC g { g with fp:=BT g.fp i (g.fp i) } s.h (nP s.h i ((s.h i).1,.box t1 (c0::U.map .dat))) w1 w':=
       iC.A4 hnS hoth (by intro e sz xs dp J;cases J) (by intro t0 cs0 J;cases J;exact⟨_,I⟩)
      have I2:=R1.inv.A4 (i:=i) (b:=C) (F:=g.fp i) (pool':=[]) (w':=w') hlive hown hsz1.symm hoth T2
       ⟨C,_,h3,h4,hw',v0,us,qe,(r0.nV T1).nV T2,aR.DQ hus qe⟩ qe List.nodup_nil (by rintro⟨_,_,_,J⟩;cases J)
      have hbel2:Below w0.Q.fb w0.w w':=R.below.trans ⟨hgrow.os,hgrow.tape,hgrow.output,hgrow.size,λk hk=>hgrow.block k (Nat.lt_of_lt_of_le hk (Nat.le_trans R.fbb R.inv.base_le)) (λe=>by have:=Option.some.inj e;have:=R.q.2.1;omega)⟩
      rw[hc1]at T2 I2
      have R2:jS P base w0 N { g with fp:=BT g.fp i (g.fp i) } (s.eV i (ver,.box t1 (c0::U.map .dat))) a w' []:=R1.nV T2 rfl hbel2 I2
      obtain⟨Fr,X,p1,_,_,p4⟩:=hres
      have hfr:∀x∈Fr,A3 { g with fp:=BT g.fp i (g.fp i) } (s.eV i (ver,.box t1 (c0::U.map .dat))).h x:=λx hx=>by
       have hge:=(p1.2 x hx).1
       refine⟨λhS=>absurd (R.inv.S_lt x hS) qc,λj hl hb'=> ?_⟩
       have hl':live s.h j:=by rcases Bz hl with rfl|⟨_,hl⟩;(exact hlive);·exact hl
       exact absurd (R.inv.BI hl' hb').2.lt qc
      obtain⟨g',s',m1,m2⟩:=Dg R.inv.base_le (s:=s.eV i (ver,.box t1 (c0::U.map .dat))) R2 p1 p4 hfr (λI=>by rw[han]at I;cases I) k9
      exact⟨s',m1,g',m2⟩
    ·exact k4.elim
   ·exact k4.elim
  ·exact k4.elim
theorem MM{f:FuncId}{as:Array Operand}{ts:Array TypeId}(ho:o.op=.call { callee:=.value (.func f),args:=as,argTypes:=ts })(R:jS P base w0 N g s a w [])(h:ex P (vT (jP P) N o) s K)
  (hQ:True):o.wp P a w (Aft P base w0 N K) Q:=by
 simp only[vT,ho]at h
 obtain⟨avs,Fa,k1,rs,k2,k3⟩:=Av R h
 unfold Oper.wp
 have hrun:(execOp a.eval o).run P w=.ok (.enter f (as.map a.eval)) w:=by simp[execOp,ho,resolve,Act.eval,Deferred.ofValue,invoke,Fm k2.body]
 rw[hrun]
 unfold Oper.upon
 unfold Gr at k3
 dsimp only at k3
 split at k3
 ·rename_i han
  cases hq:KH rs with
  |some q=>
   rw[hq]at k3
   have hvs:as.map a.eval=(as.toList.map a.eval).toArray:=by apply Array.ext';simp
   by_cases hl:∃t es,q=.lend t es
   ·obtain⟨t,es,rfl⟩:=hl;exact Q9 (vs:=as.map a.eval) R hvs (by simpa using k1) hq k2 k3 λv w' hh=>hh
   ·have k3':ex P (uL N o.dst as.toList avs q) s K:=by
     cases q with
     |lend t es=>exact absurd ⟨t,es,rfl⟩ hl
     |_=>exact k3
    exact Rb (vs:=as.map a.eval) R hvs (by simpa using k1) hq k2 k3' λv w' hh=>hh
  |none=>
   rw[hq]at k3
   have k2':Js P f avs rs:=by rcases k2 with k2|⟨q,rfl,_⟩|⟨t1,es1,rs1,rfl,_⟩;(exact k2);(simp[KH,RC.ed]at hq);·simp[KH,RC.ed]at hq
   obtain⟨g2,s2,as2,F2,R2,_,q1,q2,q3⟩:=CK R k3
   obtain⟨rfl,q4⟩:=q3
   exact IX R2 (by simpa using q1) (λ_=>q2) k2' q4 λv w' hh=>hh
 ·rename_i han;exact IX R (by simpa using k1) (λhh=>absurd hh han) (k2.old (by simpa using han)) k3 λv w' hh=>hh
end
end Go.Sh
