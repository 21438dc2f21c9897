/-
  Helper text. No conditions.
-/
import Derived.Test.YtndidbigdalbnaaGreatNotesShA
import Derived.Great.FillDense
import Derived.Great.BuildSlice
import Derived.DataReads
import Derived.Laws.StructEq
import Derived.Laws.BytesString
import Derived.Laws.IdiomStrings
import Derived.Maps.AppendAt
import Derived.Lib.AppendStr
set_option linter.all false
namespace Go.Sh
open Go.RowKit
section
variable {P:Program}{base N:Nat}{w0:W0}{w:World}{g:Gh}{s:St}{a:Act}{K:St->Prop}{Q:Exit->Act->World->Prop}{o:Oper}
def Aft(P:Program)(base:Nat)(J:W0)(N:Nat)(K:St->Prop):Act->World->Prop:=λC I=>∃j,K j/\Rel P base J N j C I
theorem FN{v:Value}{w':World}{j:Act->World->Prop}(hrun:(execOp a.eval o).run P w=.ok (.value v) w')(h:j (a.put o.dst v) w'):o.wp P a w j Q:=by unfold Oper.wp;rw[hrun];exact h
theorem aAU{w':World}{j:Act->World->Prop}(hrun:(execOp a.eval o).run P w=.ok .skip w')(C:o.dst=none)(h:j a w'):o.wp P a w j Q:=by unfold Oper.wp;rw[hrun];unfold Oper.upon;rw[C];exact h
theorem HP{v:Value}{sv:SV}(R:nV P base w0 N g s a w [])(hrun:(execOp a.eval o).run P w=.ok (.value v) w)(j:yM g s.h w sv v)(h:ex P (put N o.dst sv) s K):o.wp P a w (Aft P base w0 N K) Q:=by obtain⟨C,h1,h2⟩:=Eo R j h;exact FN hrun ⟨C,h1,g,h2⟩
theorem Ap{v:Value}{sv:SV}(R:nV P base w0 N g s a w [])(h:ex P (put N o.dst sv) s K)(hrun:(execOp a.eval o).run P w=.ok (.value v) w)(j:yM g s.h w sv v):o.wp P a w (Aft P base w0 N K) Q:=HP R hrun j h
theorem MC{d:D}{v:Value}{F:List Nat}(h:Rep w d v F)(j:∀b∈F,g.S b):yM g s.h w (one d) v:=⟨v,[],rfl,⟨F,h,j⟩,rfl⟩
theorem Es{k:IntKind}{n:Int}:yM g s.h w (one (.int k n)) (.int k n):=MC (F:=[]) wW wb
theorem Ln{b:Bool}:yM g s.h w (one (.bool b)) (.bool b):=MC (F:=[]) wW wb
theorem RS{b:ByteArray}:yM g s.h w (one (.str b)) (.string b):=MC (F:=[]) wW wb
theorem eZ{c:SC}{v:Value}(h:yM g s.h w (.v false [c]) v):B3 g s.h w c v:=by obtain⟨C,j,h1,h2,h3⟩:=h;simp at h1;rw[h1.1];exact h2
theorem oN{k:IntKind}{n:Int}{v:Value}(h:yM g s.h w (.v false [.dat (.int k n)]) v):v=.int k n:=by obtain⟨F,h1,_⟩:=eZ h;simp only[Rep]at h1;exact h1.1
theorem Fw{b:Bool}{v:Value}(h:yM g s.h w (.v false [.dat (.bool b)]) v):v=.bool b:=by obtain⟨F,h1,_⟩:=eZ h;simp only[Rep]at h1;exact h1.1
theorem Jb{b:ByteArray}{v:Value}(h:yM g s.h w (.v false [.dat (.str b)]) v):v=.string b:=by obtain⟨F,h1,_⟩:=eZ h;simp only[Rep]at h1;exact h1.1
theorem TQ{v:Value}(h:v.oneCell'=true):v.cells= #[v]:=by cases v<;>first|rfl|simp[Value.oneCell']at h
theorem G8{j:Bool}{cs:List SC}{v:Value}(h:yM g s.h w (.v j cs) v):aU g s.h w cs v.cells.toList:=by
 cases j with
 |false=>
  have C:aU g s.h w cs [v]:=h
  have h1:=C.one v wb
  rw[TQ h1];exact C
 |true=>obtain⟨I,rfl,h1⟩:=h;exact h1
theorem aBq{x:Operand}(j:o.op=.move x\/o.op=.assign x)(R:nV P base w0 N g s a w [])(h:ex P (vOp x λv=>put N o.dst v) s K):o.wp P a w (Aft P base w0 N K) Q:=by obtain⟨C,h1,h2⟩:=cN R h;refine HP R (v:=a.eval x) ?_ h1 h2;rcases j with j|j<;>simp[execOp,j]
theorem aBV{c x y:Operand}(j:o.op=.pick c x y)(R:nV P base w0 N g s a w [])(h:ex P (CN (fM P) N o) s K):o.wp P a w (Aft P base w0 N K) Q:=by simp only[CN,j]at h;obtain⟨J,h1,h2⟩:=cN R h;split at h2;(rename_i t;have hb:=Fw h1;split at h2;(rename_i C;obtain⟨I,h3,h4⟩:=cN R h2;refine HP R (v:=a.eval x) ?_ h3 h4;simp[execOp,j,hb,asBool,C]);·rename_i C;obtain⟨I,h3,h4⟩:=cN R h2;refine HP R (v:=a.eval y) ?_ h3 h4;simp[execOp,j,hb,asBool,C]);·exact h2.elim
theorem aAl(I:Inv base g s.h w []):Hc g s.h w.heap.size:=
 ⟨λC=>absurd (I.S_lt _ C) wg,λj J hb=>absurd (I.H5 J hb).2.lt wg⟩
theorem Qu(R:nV P base w0 N g s a w [])(d:Nat)(vals:Array Value)(t:TypeId)(cells:List SC)(hc:aU g s.h w cells vals.toList):
  ∃J,nV P base w0 N J (s.fL d ((s.h d).1+1,.box t cells)) a (w.alloc (.cells vals t)) []/\yM J (s.fL d ((s.h d).1+1,.box t cells)).h (w.alloc (.cells vals t)) (.v false [.bp d ((s.h d).1+1) 0]) (.pointer (some ⟨w.heap.size,0,none⟩)):=by
 have C:w.heap.size<=(w.alloc (.cells vals t)).heap.size:=by simp
 have j:∀b,b<w.heap.size->(w.alloc (.cells vals t)).heap[b]? =w.heap[b]? :=λb hb=>Below.heap_alloc w _ b hb
 have U:=R.inv.grow C j
 have I:mA g g s.h s.h w (w.alloc (.cells vals t)):=mA.grow R.inv.S_lt j
 have I2:=U.Tj (i:=d) (b:=w.heap.size) (cells:=cells) R.inv.base_le (aAl R.inv) (heap_alloc_new w _) (hc.turn I)
 have T2:=mA.create (g:=g) (h:=s.h) (w:=w.alloc (.cells vals t)) d (.pointer (some ⟨w.heap.size,0,none⟩)) [] (.box t cells)
 refine⟨_,R.turn (I.trans T2) rfl (R.below.alloc (qh R.fbb R.inv.base_le) _) I2,⟨_,[],rfl,⟨rfl,?_,?_⟩,rfl⟩⟩
 ·show _<=(pZ s.h d _ d).1;rw[bR];exact qg _
 ·intro _ t' cs' _;exact⟨w.heap.size,eM _ _ _,rfl⟩
theorem Y4{t:TypeId}(C:o.op=.alloc t)(R:nV P base w0 N g s a w [])(h:ex P (CN (fM P) N o) s K):o.wp P a w (Aft P base w0 N K) Q:=by simp only[CN,C]at h;split at h;(rename_i d ti U j;obtain⟨i,ds,z,h1,h2,h3,h4,h5,h6,h7,h8⟩:=(eH j).ok;simp only[ex]at h;obtain⟨J,I,hv⟩:=Qu R d z.cells t ti.zero (Hv h5 _ _ _);obtain⟨s',k1,k2⟩:=Eo I hv h;refine FN (v:=.pointer (some ⟨w.heap.size,0,none⟩)) (w':=w.alloc (.cells z.cells t)) ?_ ⟨s',k1,J,U ▸ k2⟩;simp[execOp,C,Instr.alloc,zeroValue,typeInfo,h1,h3,newVar,newRow]);·exact h.elim
theorem aCT{t:TypeId}{x:Operand}(j:o.op=.box t x)(R:nV P base w0 N g s a w [])(h:ex P (CN (fM P) N o) s K):o.wp P a w (Aft P base w0 N K) Q:=by simp only[CN,j]at h;split at h;(rename_i d U;obtain⟨sv,h1,h2⟩:=cN R h;split at h2;(rename_i ag I;simp only[ex]at h2;obtain⟨J,C,hv⟩:=Qu R d (a.eval x).cells t I (G8 h1);obtain⟨s',k1,k2⟩:=Eo C hv h2;refine FN (v:=.pointer (some ⟨w.heap.size,0,none⟩)) (w':=w.alloc (.cells (a.eval x).cells t)) ?_ ⟨s',k1,J,U ▸ k2⟩;simp[execOp,j,Instr.box,newVar,newRow]);·exact h2.elim);·exact h.elim
theorem aBQ(u:Array Value)(off:Nat)(cs:Array Value)(h:off+u.size<=cs.size):
  (u.zipIdx.foldl (λcs (x:Value×Nat)=>cs.setIfInBounds (off+x.2) x.1) cs).toList=cs.toList.take off++(u.toList++cs.toList.drop (off+u.size)):=by
 obtain⟨C,j⟩:=Great.foldl_set off u.toList 0 cs
 rw[<-Array.foldl_toList,Array.toList_zipIdx]
 apply List.ext_getElem?
 intro k
 rw[Array.getElem?_toList,j k]
 simp only[Nat.add_zero,qn]
 rw[List.getElem?_append,List.getElem?_append,qV,qn,jW wg,List.getElem?_take]
 by_cases h1:k<off
 ·rw[jG wg,jF h1,jF h1];simp
 ·rw[jG h1];by_cases h2:k<off+u.size;(rw[jF ⟨wg,h2,wg⟩,jF wV]);·rw[jG wg,jG wV];simp only[List.getElem?_drop,qn,Array.getElem?_toList];congr 1;omega
theorem HD(R:nV P base w0 N g s a w [])(place:Nat->Option (Nat×Nat)):∀{parts:List (Nat×Operand)} {cells:List SC} {vals:Array Value} {k:List SC->Prog},
  aU g s.h w cells vals.toList->ex P (E2 place cells parts k) s K->∃I vals',Instr.fill place vals (parts.map λx=>(x.1,a.eval x.2))=some vals'/\aU g s.h w I vals'.toList/\ex P (k I) s K
 |[],cells,vals,k,hc,h=>⟨cells,vals,rfl,hc,h⟩
 |(i,x)::rest,cells,vals,k,hc,h=>by
  simp only[E2]at h
  obtain⟨sv,h1,h2⟩:=cN R h
  split at h2
  ·rename_i ag I j sz hp
   split at h2
   ·rename_i hh
    have J:=G8 h1
    have C:=J.length
    have hl2:=hc.length
    simp only[qn]at C hl2
    have hfs:=aBQ (a.eval x).cells j vals wg
    have hc':aU g s.h w (cells.take j++(I++cells.drop (j+sz))) ((a.eval x).cells.zipIdx.foldl (λI (x:Value×Nat)=>I.setIfInBounds (j+x.2) x.1) vals).toList:=by rw[hfs,C,hh.1];exact(hc.take j).append (J.append (hc.drop _))
    obtain⟨U,vals',k1,k2,k3⟩:=HD R place hc' h2
    refine⟨U,vals',?_,k2,k3⟩
    simp only[jJ,Instr.fill,hp]
    rw[jG (by simp[C,hh.1];omega)]
    exact k1
   ·exact h2.elim
  ·exact h2.elim
theorem Tu{P:Program}{d:TypeDesc}{C:List (Nat×Nat×Bool)}(h:TN P d=some (.struct C)):
  ∃fields pl,d=.struct fields/\fields.toList.mapM (λf=>(P.info? f.type).map λi=>(f.offset,i.size))=some pl/\C=((pl.zip (fields.toList.map λf=>MZ P f.type)).map λx=>(x.1.1,x.1.2,x.2))/\fields.toList.all (λf=>(P.underlying f.type).isSome)=true:=by
 unfold TN at h
 split at h
 ·rename_i fields;split at h;(rename_i pl j;split at h;(rename_i hall;simp at h;exact⟨fields,pl,rfl,j,h.symm,hall⟩);·cases h);·cases h
 all_goals simp at h
theorem aBt{P:Program}{d:TypeDesc}{e:TypeId}{n:Nat}(h:TN P d=some (.arr e n)):d=.array n e:=by unfold TN at h;split at h;(split at h;(split at h<;>cases h);·cases h);all_goals first|(cases h;rfl)|cases h
theorem EL{P:Program}{d:TypeDesc}{e:TypeId}(h:TN P d=some (.slice e)):d=.slice e:=by
 unfold TN at h
 split at h
 ·split at h;(split at h<;>simp at h);·simp at h
 all_goals simp at h
 rw[h]
theorem XC{P:Program}{d:TypeDesc}{k:IntKind}(h:TN P d=some (.int k)):d=.int k:=by
 unfold TN at h
 split at h
 ·split at h;(split at h<;>simp at h);·simp at h
 all_goals simp at h
 rw[h]
theorem Zd{P:Program}{d:TypeDesc}(h:TN P d=some .bool):d=.bool:=by
 unfold TN at h
 split at h
 ·split at h;(split at h<;>simp at h);·simp at h
 all_goals simp at h
 rfl
theorem S5{P:Program}{d:TypeDesc}(h:TN P d=some .str):d=.string:=by
 unfold TN at h
 split at h
 ·split at h;(split at h<;>simp at h);·simp at h
 all_goals simp at h
 rfl
theorem aB2{P:Program}{d:TypeDesc}{j:TI}(h:TN P d=some j.k):ZS d=j.agg:=by
 unfold TN at h
 unfold TI.agg
 split at h
 ·split at h;(split at h;(simp at h;rw[<-h];rfl);·cases h);·cases h
 ·simp at h;rw[<-h];rfl
 all_goals (simp at h;rw[<-h])
 all_goals first|rfl|(unfold ZS;split<;>simp_all)
theorem YI{t:TypeId}{parts:Array (Nat×Operand)}(ho:o.op=.build t parts)(R:nV P base w0 N g s a w [])(h:ex P (CN (fM P) N o) s K):o.wp P a w (Aft P base w0 N K) Q:=by
 simp only[CN,ho]at h
 split at h
 ·rename_i fs sz J z cm sl j
  obtain⟨i,ds,I,h1,h2,h3,h4,h5,h6,h7,h8⟩:=(eH j).ok
  obtain⟨fields,pl,rfl,C,U,_⟩:=Tu h4
  have hlen:=mapM_some_length C
  obtain⟨cs,vals',k1,k2,k3⟩:=HD R _ (Hv h5 g s.h w) h
  refine HP R (v:=.agg vals') (sv:=.v true cs) ?_ ⟨vals',rfl,k2⟩ k3
  have hb:P.built t (parts.map λ(i,x)=>(i,a.eval x)).toList=some vals':=by
   unfold Program.built
   simp only[h1,h2,h3,C]
   rw[Array.toList_map,<-k1]
   congr 1
   funext i
   simp only[List.getElem?_toArray,U,List.getElem?_map]
   have:(pl.zip (fields.toList.map λf=>MZ P f.type))[i]?.map (λx=>(x.1.1,x.1.2))=pl[i]? :=by
    rw[<-List.getElem?_map]
    have:(pl.zip (fields.toList.map λf=>MZ P f.type)).map (λx=>(x.1.1,x.1.2))=pl:=by have:=List.map_fst_zip (l₁:=pl) (l₂:=fields.toList.map λf=>MZ P f.type) (by simp[hlen]);simpa using this
    rw[this]
   rw[<-this]
   simp[Option.map_map,Function.comp_def]
  simp[execOp,ho,run_build w t _ vals' hb]
 ·rename_i e n sz J z cm sl j
  obtain⟨i,ds,I,h1,h2,h3,h4,h5,h6,h7,h8⟩:=(eH j).ok
  obtain rfl:=aBt h4
  split at h
  ·rename_i te hte hp
   obtain⟨ie,de,ze,e1,_⟩:=(eH hte).ok
   refine HP R (v:=.agg I.cells) (sv:=.v true z) ?_ ⟨I.cells,rfl,Hv h5 g s.h w⟩ h
   have hb:P.built t (parts.map λ(i,x)=>(i,a.eval x)).toList=some I.cells:=by unfold Program.built;simp only[h1,h2,h3,e1];rw[Array.toList_map,hp];rfl
   simp[execOp,ho,run_build w t _ I.cells hb]
  ·exact h.elim
 ·exact h.elim
end
section
variable {P:Program}{base N:Nat}{w0:W0}{w:World}{g:Gh}{s:St}{a:Act}{K:St->Prop}{Q:Exit->Act->World->Prop}{o:Oper}
theorem Ho{t:TypeId}{d:TypeDesc}(h:P.underlying t=some d)(w:World):(isAgg t).run P w=.ok (ZS d) w:=by unfold isAgg;rw[qs,run_underlying h w];cases d<;>rfl
theorem Ee.take{b off:Nat}{cells:List Value}(h:Ee w b off cells)(n:Nat):Ee w b off (cells.take n):=by intro j u C;rw[List.getElem?_take]at C;split at C;(exact h j u C);·cases C
theorem Ee.drop{b off:Nat}{cells:List Value}(h:Ee w b off cells)(n:Nat):Ee w b (off+n) (cells.drop n):=by intro j u C;rw[List.getElem?_drop]at C;have:=h (n+j) u C;rwa [show off+n+j=off+(n+j)from by omega]
theorem YZ{b:Nat}{vals:Array Value}{t:TypeId}(h:w.heap[b]? =some (.cells vals t (0,0))):Ee w b 0 vals.toList:=by intro j u C;rw[cell_of_row w b _ vals t (0,0) h];simpa using C
theorem TP{t:TypeId}{I:TI}(U:fM P t=some I){b off:Nat}{cells:List Value}{cs:List SC}(hl:Ee w b off cells)(hlen:cells.length=I.size)(hc:aU g s.h w cs cells):
  ∃v,(Instr.loadAt t (.pointer (some ⟨b,off,none⟩))).run P w=.ok v w/\yM g s.h w (.v I.agg cs) v:=by
 obtain⟨i,d,z,h1,h2,h3,h4,h5,h6,h7,h8,h9⟩:=(eH U).ok
 have C:=aB2 h4
 cases hb:I.agg with
 |true=>
  refine⟨.agg cells.toArray,?_,⟨cells.toArray,rfl,by simpa using hc⟩⟩
  have hrun:=run_loadCells_list (P:=P) w ⟨b,off,none⟩ cells (λj u hu=>by rw[Addr.add_lit];exact hl j u hu)
  simp only[Instr.loadAt,Instr.sureAddr,loadVar,qs,qu,qi,Ho h2 w,C,hb,jI,sizeOf,typeInfo,run_program,h1,h7,<-hlen,hrun]
 |false=>
  have J:I.size=1:=by rcases h9 with h9|h9;(rw[C,hb]at h9;cases h9);·omega
  match cells,hlen.trans J with
  |[v],_=>
   refine⟨v,?_,hc⟩
   have:=hl 0 v rfl
   simp only[Nat.add_zero]at this
   simp only[Instr.loadAt,Instr.sureAddr,loadVar,qs,qu,qi,Ho h2 w,C,hb,jH,run_load,this,qD]
theorem UX{ds:List D}{v:Value}(h:yM g s.h w (.v false [.dat (.ptr ds)]) v):
  ∃b j cells F,v=.pointer (some ⟨b,j,none⟩)/\b<w.heap.size/\g.S b/\Ee w b j cells/\aM w ds cells F/\∀x∈F,g.S x:=by
 obtain⟨F,h1,h2⟩:=eZ h
 simp only[Rep]at h1
 obtain⟨b,j,cells,G,h3,h4,rfl,h5,h6⟩:=h1
 exact⟨b,j,cells,G,h3,h4,h2 b wb,h5,h6,λx C=>h2 x (by simp[C])⟩
theorem YH(I:Inv base g s.h w []){i:Nat}{e:TypeId}{sz:Nat}{xs:List (List D)}{dp:Bool}(ho:(s.h i).2=.row e sz xs dp){b n c:Nat}(hv:g.val i=.slice (some ⟨b,0,none⟩) n c):
  ∃cells C,n=xs.length/\base<=b/\w.heap[b]? =some (.cells C e (0,0))/\n<=c/\c<=maxLen/\C.size=c*sz/\C.toList.take (n*sz)=cells/\Ee w b 0 cells/\cells.length=n*sz/\(∀x∈xs,x.length=sz)/\
   bC w xs cells (g.fp i)/\(∀y∈g.fp i,g.S y)/\(dp=true->Ck base w (g.fp i)):=by
 have U:=I.obj i
 rw[ho]at U
 obtain⟨cells,h1,h2,h3,h4,h5⟩:=U
 have J:=h1
 rcases h1.2 with⟨h6,_⟩|⟨gg,cap,C,h6,h7,h8,h9,aa,ae,af⟩
 ·rw[hv]at h6;cases h6
 ·rw[hv]at h6;simp at h6;obtain⟨rfl,rfl,rfl⟩:=h6;refine⟨cells,C,rfl,h7,h8,h9,aa,ae,af,?_,J.1,h2,h3.rep,h4,h5⟩;intro j u hu;have:=J.cells (g:=b) (by rw[hv];rfl) j u hu;rw[Addr.add_lit]at this;exact this
theorem aB4{W:World}{ds:List D}{p v:Value}(h:yM g s.h w (.v false [.exa W (.ptr ds) p]) v):v=p/\∃b j cells F,p=.pointer (some ⟨b,j,none⟩)/\Ee w b j cells/\Ee W b j cells/\aM W ds cells F/\∀y∈F,g.S y/\w.heap[y]? =W.heap[y]? :=by obtain⟨v',I,e,⟨J,F,h1,h2⟩,h3⟩:=h;have C:I=[]:=h3;subst C;simp only[List.cons.injEq,and_true]at e;subst e J;simp only[Rep]at h1;obtain⟨b,j,cells,G,rfl,h5,rfl,h6,h7⟩:=h1;exact⟨rfl,b,j,cells,G,rfl,h6.B8 (h2 b wb).2,h6,h7,λy U=>h2 y (by simp[U])⟩
theorem Wh{W:World}{b off:Nat}:∀{ds:List D} {cells:List Value} {F:List Nat} (j:Nat),aM W ds cells F->(∀y∈F,g.S y/\w.heap[y]? =W.heap[y]?)->(∀i u,cells[i]? =some u->W.cell? ⟨b,off+(j+i),none⟩=some u)->
  aU g s.h w (aFo W (.pointer (some ⟨b,off,none⟩)) j ds) cells
 |[],cells,F,j,C,_,_=>by simp only[aM]at C;exact C.1
 |d::ds,cells,F,j,C,hF,hu=>by
  simp only[aM]at C
  obtain⟨v,J,F1,F2,rfl,rfl,h3,h4⟩:=C
  have U:cellAt W (.pointer (some ⟨b,off,none⟩)) j=v:=by have:=hu 0 v rfl;simp only[cellAt,Nat.add_zero]at this⊢;rw[this];rfl
  refine⟨v,J,rfl,⟨U.symm,F1,by rw[U];exact h3,λy I=>hF y (by simp[I])⟩,Wh (j+1) h4 (λy I=>hF y (by simp[I])) λi u hi=> ?_⟩
  rw[show off+(j+1+i)=off+(j+(i+1))by omega]
  exact hu (i+1) u (by simpa using hi)
theorem aAR{t:TypeId}{x:Operand}(ho:o.op=.load t x)(R:nV P base w0 N g s a w [])(h:ex P (CN (fM P) N o) s K):o.wp P a w (Aft P base w0 N K) Q:=by
 simp only[CN,ho]at h
 split at h
 ·rename_i C hti
  obtain⟨sv,h1,h2⟩:=cN R h
  have fin:∀{b off:Nat} {cells:List Value} {cs:List SC},a.eval x=.pointer (some ⟨b,off,none⟩)->Ee w b off cells->cells.length=C.size->aU g s.h w cs cells->ex P (put N o.dst (.v C.agg cs)) s K->o.wp P a w (Aft P base w0 N K) Q:=by intro b off cells cs hx hl hlen hc hk;obtain⟨v,hrun,hv⟩:=TP hti hl hlen hc;refine HP R (v:=v) ?_ hv hk;simp only[execOp,ho,hx,qs,hrun,qi,qu]
  unfold OP at h2
  split at h2
  ·rename_i i ver off
   obtain⟨hone,hle,hcap⟩:=eZ h1
   simp only[ex]at h2
   split at h2
   ·rename_i t' cells hh
    split at h2
    ·rename_i hc
     obtain⟨b,hb1,hb2⟩:=hcap hc.1 _ _ hh
     have I:=R.inv.obj i
     rw[hh]at I
     obtain⟨b',vals,h3,h4,h5,h6⟩:=I
     have hbb:b'=b:=by rw[hb1]at h3;simp at h3;exact h3.symm
     subst hbb
     have hlv:=h6.length
     have U:=((YZ h5).drop off).take C.size
     rw[qp]at U
     refine fin hb2 U ?_ ((h6.drop off).take C.size) h2
     have:=hc.2
     simp only[qV,qW,hlv]
     omega
    ·exact h2.elim
   ·exact h2.elim
  ·rename_i ds;obtain⟨b,off,cells,F,h3,h4,h5,h6,h7,h8⟩:=UX h1;split at h2;(rename_i hc;have:=h7.length;refine fin h3 (h6.take C.size) wO ?_ h2;rw[List.map_take];exact(aU.J7 h7 h8).take _);·exact h2.elim
  ·rename_i i ver j off
   obtain⟨hone,hle,hcap⟩:=eZ h1
   simp only[ex]at h2
   split at h2
   ·rename_i e sz xs dp hh
    split at h2
    ·rename_i hc
     obtain⟨b,n,c,hb1,hb2⟩:=hcap hc _ _ _ _ hh
     split at h2
     ·rename_i y hy
      split at h2
      ·rename_i hy2
       obtain⟨cells,cur,rfl,m1,m2,m3,m4,m5,m6,m7,m8,m9,aa,ae,af⟩:=YH R.inv hh hb1
       obtain⟨v1,v2,v3,F1,F2,F3,rfl,hF,U,hr1,hr2,hr3⟩:=aa.at_ m9 hy
       have hlen2:=hr2.length
       have q1:=((m7.drop (j*sz)).drop off).take C.size
       rw[qp]at q1
       have q2:((v1++(v2++v3)).drop (j*sz))=v2++v3:=by rw[<-U,List.drop_left]
       rw[q2]at q1
       have q3:((v2++v3).drop off).take C.size=(v2.drop off).take C.size:=by rw[List.drop_append_of_le_length wg,jX wQ]
       rw[q3]at q1
       have J:aU g s.h w (List.map SC.dat (List.take C.size (List.drop off y))) ((v2.drop off).take C.size):=by rw[List.map_take,List.map_drop];exact((aU.J7 hr2 λb hb=>ae b (by rw[hF];simp[hb])).drop off).take _
       have hql:((v2.drop off).take C.size).length=C.size:=by rw[qV,qW];omega
       split at h2
       ·rename_i u hu
        simp only[ex]at h2
        split at h2
        ·rename_i i' ver' u' hp
         obtain⟨⟨hu',hag⟩,h2⟩:=h2
         simp only[ex]at h2
         split at h2
         ·rename_i e2 sz2 xs2 dp2 hh2
          split at h2
          ·rename_i hv2
           have hsz:C.size=1:=by obtain⟨ii,dd,zz,a1,a2,a3,a4,a5,a6,a7,a8,a9⟩:=(eH hti).ok;have:=aB2 a4;rw[hag]at this;rcases a9 with a9|a9;(rw[this]at a9;cases a9);·omega
           have I:=R.inv.obj 7058000
           rw[hp]at I
           obtain⟨_,p1,p2⟩:=I
           have hpv:=p2 hv2 _ _ _ _ hh2
           rw[hsz]at hu J q1 hql
           cases hd:List.take 1 (List.drop off y)with
           |nil=>rw[hd]at hu;simp[Nm]at hu
           |cons d ds=>
            rw[hd]at hu J
            obtain⟨v,vs',e3,⟨F,k1,k2⟩,k3⟩:=J
            have hvs:vs'=[]:=by rw[e3]at hql;exact List.length_eq_zero_iff.1 (by simpa using hql)
            subst hvs
            have hval:v=u/\v.oneCell'=true:=by
             cases d<;>simp[Nm]at hu
             subst hu
             simp only[Rep]at k1
             exact k1.1
            rw[e3]at q1
            refine fin (cs:=[.row i' ver']) hb2 q1 (by rw[hsz];rfl) ⟨v,[],rfl,⟨hval.2,p1,λ_ _ _ _ _ _=> ?_⟩,rfl⟩ (by rw[hag];exact h2)
            rw[hpv,hval.1,hu']
          ·exact h2.elim
         ·exact h2.elim
        ·exact h2.elim
       ·exact fin hb2 q1 hql J h2
      ·exact h2.elim
     ·exact h2.elim
    ·exact h2.elim
   ·exact h2.elim
  ·rename_i W ds p;obtain⟨hx,b,off,cells,F,rfl,h5,h6,h7,h8⟩:=aB4 h1;split at h2;(rename_i hc;have:=h7.length;refine fin hx (h5.take C.size) wO ?_ h2;refine(Wh 0 h7 h8 λi u hi=> ?_).take _;rw[qp];exact h6 i u hi);·exact h2.elim
  ·exact h2.elim
 ·exact h.elim
theorem L5:∀(n:Nat) {ds:List D} {vs:List Value} {F:List Nat},aM w ds vs F->∃j,aM w (ds.drop n) (vs.drop n) j/\∀y∈j,y∈F
 |0,ds,vs,F,h=>⟨F,wM,λ_ x=>x⟩
 |n+1,[],vs,F,h=>by simp only[aM]at h;exact⟨[],by simp[aM,h.1],wb⟩
 |n+1,d::ds,vs,F,h=>by simp only[aM]at h;obtain⟨v,U,F1,F2,rfl,rfl,h3,h4⟩:=h;obtain⟨j,I,J⟩:=L5 n h4;exact⟨j,by simpa using I,λy C=>by simp[J y C]⟩
theorem YT{t f:Nat}{fs:List (Nat×Nat×Bool)}{off sz:Nat}{ag:Bool}{d:TypeDesc}(hd:TN P d=some (.struct fs))(I:fs[f]? =some (off,sz,ag)):
  ∃fields j i,d=.struct fields/\fields[f]? =some j/\j.offset=off/\P.info? j.type=some i/\i.size=sz/\MZ P j.type=ag/\∃J,P.underlying j.type=some J:=by
 obtain⟨fields,pl,rfl,U,rfl,hall⟩:=Tu hd
 rw[List.getElem?_map]at I
 cases hz:(pl.zip (fields.toList.map λf=>MZ P f.type))[f]? with
 |none=>rw[hz]at I;simp at I
 |some x=>
  rw[hz]at I
  simp at I
  obtain⟨hz1,C⟩:=List.getElem?_zip_eq_some.1 hz
  rw[List.getElem?_map]at C
  cases hfl:fields.toList[f]? with
  |none=>rw[hfl]at C;simp at C
  |some j=>
   rw[hfl]at C
   simp at C
   have:=mapM_some_get U f j hfl
   rw[hz1]at this
   cases hi:P.info? j.type with
   |none=>rw[hi]at this;simp at this
   |some i=>
    rw[hi]at this
    simp at this
    obtain⟨⟨a1,a2⟩,b2⟩:=x
    simp at this I C
    refine⟨fields,j,i,rfl,by simpa using hfl,?_,hi,?_,?_,?_⟩
    ·rw[this.1];exact I.1
    ·rw[this.2];exact I.2.1
    ·rw[C];exact I.2.2
    ·rw[qR]at hall;exact Option.isSome_iff_exists.1 (hall j (jD hfl))
theorem QT{t:TypeId}{x:Operand}{f:Nat}(ho:o.op=.fieldAddr t x f)(R:nV P base w0 N g s a w [])(h:ex P (CN (fM P) N o) s K):o.wp P a w (Aft P base w0 N K) Q:=by
 simp only[CN,ho]at h
 split at h
 ·rename_i fs sz0 by0 z0 cm0 sl0 hti
  obtain⟨i,d,z,h1,h2,h3,h4,h5,h6,h7,h8,h9⟩:=(eH hti).ok
  split at h
  ·rename_i I sz ag hf
   obtain⟨fields,fld,fi,rfl,k1,k2,k3,k4,k5,dsc,hdsc⟩:=YT (t:=t) h4 hf
   split at h
   ·rename_i hpos
    obtain⟨sv,q1,C⟩:=cN R h
    have hrun:∀b J,a.eval x=.pointer (some ⟨b,J,none⟩)->(execOp a.eval o).run P w=.ok (.value (.pointer (some ⟨b,J+I,none⟩))) w:=by
     intro b J hx
     have hne:¬fi.size=0:=by omega
     simp[execOp,ho,hx,Instr.fieldAt,run_underlying h2,k1,Instr.sureAddr,fieldPlace,sizeOf,typeInfo,k3,hne,Addr.add_lit,k2]
    unfold ME at C
    split at C
    ·rename_i j ver J;obtain⟨hone,hle,hcap⟩:=eZ q1;simp only[ex]at C;split at C;(rename_i t' cs' e2;split at C;(rename_i e1;obtain⟨b,e3,e4⟩:=hcap e1 t' cs' e2;exact Ap R C (hrun b J e4) ⟨_,[],rfl,⟨rfl,hle,λ_ _ _ _=>⟨b,e3,rfl⟩⟩,rfl⟩);·exact C.elim);·exact C.elim
    ·rename_i j ver jj J;obtain⟨hone,hle,hcap⟩:=eZ q1;simp only[ex]at C;split at C;(rename_i e sz' xs dp e2;split at C;(rename_i e1;obtain⟨b,n,c,e3,e4⟩:=hcap e1 _ _ _ _ e2;refine Ap R C (hrun b _ e4) ⟨_,[],rfl,⟨rfl,hle,λ_ e' sz'' xs' dp' hh=>⟨b,n,c,e3,?_⟩⟩,rfl⟩;rw[e2]at hh;cases hh;simp[jA]);·exact C.elim);·exact C.elim
    ·rename_i ds;obtain⟨b,J,cells,F,e1,e2,e3,e4,e5,e6⟩:=UX q1;split at C;(rename_i hle;refine Ap R C (hrun b J e1) ⟨_,[],rfl,?_,rfl⟩;have hsp:∃U,aM w (ds.drop I) (cells.drop I) U/\∀y∈U,y∈F:=L5 I e5;obtain⟨U,e7,e8⟩:=hsp;refine⟨b::U,?_,?_⟩;(simp only[Rep];exact⟨b,J+I,cells.drop I,U,rfl,e2,rfl,e4.drop I,e7⟩);·intro y hy;rcases qq.1 hy with rfl|hy;(exact e3);·exact e6 y (e8 y hy));·exact C.elim
    ·exact C.elim
   ·exact h.elim
  ·exact h.elim
 ·exact h.elim
theorem Yn{t:TypeId}{x:Operand}{f:Nat}(ho:o.op=.field t x f)(R:nV P base w0 N g s a w [])(h:ex P (CN (fM P) N o) s K):o.wp P a w (Aft P base w0 N K) Q:=by
 simp only[CN,ho]at h
 split at h
 ·rename_i fs sz0 by0 z0 cm0 sl0 hti
  obtain⟨i,d,z,h1,h2,h3,h4,h5,h6,h7,h8,h9⟩:=(eH hti).ok
  split at h
  ·rename_i j sz ag hf
   obtain⟨fields,fld,fi,rfl,k1,k2,k3,k4,k5,dsc,hdsc⟩:=YT (t:=t) h4 hf
   obtain⟨sv,q1,I⟩:=cN R h
   split at I
   ·rename_i cs
    split at I
    ·rename_i hc
     obtain⟨C,hx,U⟩:=q1
     have hl:=U.length
     simp only[qn]at hl
     have hsub:=(U.drop j).take sz
     have J:ZS dsc=ag:=by unfold MZ at k5;rw[hdsc]at k5;exact k5
     cases ag with
     |true=>
      refine Ap R I (v:=.agg (C.extract j (j+sz))) ?_ ⟨_,rfl,?_⟩
      ·simp[execOp,ho,hx,Instr.field,run_underlying h2,k1,asAgg,part,Ho hdsc,J,sizeOf,typeInfo,k3,k4,k2]
      ·have:(C.extract j (j+sz)).toList=(C.toList.drop j).take sz:=by simp
       rw[this];exact hsub
     |false=>
      have hsz:sz=1:=by simpa using hc.2
      subst hsz
      have hlt:j<C.size:=by omega
      have hone:(C.toList.drop j).take 1=[C[j]]:=by rw[qX (by simpa using hlt)];simp
      rw[hone]at hsub
      refine Ap R I (v:=C[j]) ?_ hsub
      simp[execOp,ho,hx,Instr.field,run_underlying h2,k1,asAgg,part,Ho hdsc,J,k2,hlt]
    ·exact I.elim
   ·exact I.elim
  ·exact h.elim
 ·exact h.elim
end
section
variable {P:Program}{base N:Nat}{w0:W0}{w:World}{g:Gh}{s:St}{a:Act}{K:St->Prop}{Q:Exit->Act->World->Prop}{o:Oper}
theorem Oy{xs:List (List D)}{v:Value}(h:yM g s.h w (.v false [.dat (.sl xs)]) v):
  ∃C n c,v=.slice C n c/\n=xs.length/\n<=c/\(n=0 \/∃b j cells sz G,C=some ⟨b,j,none⟩/\b<w.heap.size/\g.S b/\Ee w b j cells/\cells.length=n*sz/\(∀x∈xs,x.length=sz)/\bC w xs cells G/\∀y∈G,g.S y):=by
 obtain⟨F,h1,h2⟩:=eZ h
 simp only[Rep]at h1
 obtain⟨C,n,c,h3,h4,h5,h6⟩:=h1
 refine⟨C,n,c,h3,h4,h5,?_⟩
 rcases h6 with⟨h6,_⟩|⟨b,j,cells,sz,G,J,U,rfl,k4,k5,k6,k7⟩
 ·exact .inl h6
 ·exact .inr ⟨b,j,cells,sz,G,J,U,h2 b wb,k4,k5,k6,k7,λy I=>h2 y (by simp[I])⟩
theorem Yp{B:Nat}{d:D}{u:Option Value}{v:Value}(h:yM g s.h w (.v false [.old B d u]) v):yM g s.h w (.v false [.dat d]) v:=by obtain⟨j,C,e,⟨F,h1,h2,_⟩,h3⟩:=h;exact⟨j,C,e,⟨F,h1,λb hb=>(h2 b hb).1⟩,h3⟩
theorem QV{t:TypeId}{x ix:Operand}(ho:o.op=.indexAddr t x ix)(R:nV P base w0 N g s a w [])(h:ex P (CN (fM P) N o) s K):o.wp P a w (Aft P base w0 N K) Q:=by
 simp only[CN,ho]at h
 split at h
 ·rename_i e sz0 by0 z0 cm0 sl0 hti
  obtain⟨i,d,z,h1,h2,h3,h4,h5,h6,h7,h8,h9⟩:=(eH hti).ok
  obtain rfl:=EL h4
  split at h
  ·rename_i te hte
   obtain⟨ie,de,ze,e1,e2,e3,e4,e5,e6,e7,e8,e9⟩:=(eH hte).ok
   obtain⟨sx,q1,q2⟩:=cN R h
   obtain⟨si,q3,C⟩:=cN R q2
   have hrun:∀b I n c k (m:Int),a.eval x=.slice (some ⟨b,I,none⟩) n c->a.eval ix=.int k m->0<=m->m.toNat<n->
     (execOp a.eval o).run P w=.ok (.value (.pointer (some ⟨b,I+m.toNat*te.size,none⟩))) w:=by
    intro b I n c k m hx hi hm hlt
    have hlt':m<(n:Int):=by omega
    simp[execOp,ho,hx,hi,Instr.indexAt,asIntOf,run_underlying h2,sizeOf,typeInfo,e1,e7,hm,hlt',Addr.add_lit]
   unfold Dn at C
   split at C
   ·rename_i xs k m
    obtain⟨ad,n,c,k1,k2,k3,k4⟩:=Oy q1
    obtain⟨hm,C⟩:=C
    split at C
    ·rename_i y hy
     split at C
     ·rename_i hyl
      have hlt:m.toNat<xs.length:=(qe.1 hy).1
      rcases k4 with k4|⟨b,I,cells,sz,G,rfl,m2,m3,m4,m5,m6,m7,m8⟩
      ·omega
      ·have hsz:sz=te.size:=by rw[<-hyl];exact(m6 y (jD hy)).symm
       subst hsz
       refine Ap R C (hrun b I n c k m k1 (oN q3) hm wg) ⟨_,[],rfl,?_,rfl⟩
       obtain⟨v1,v2,v3,F1,F2,F3,rfl,hF,hl1,hr1,J,hr3⟩:=m7.at_ m6 hy
       refine⟨b::F2,?_,?_⟩
       ·simp only[Rep];refine⟨b,I+m.toNat*te.size,v2,F2,rfl,m2,rfl,?_,J⟩;have q:=(m4.drop (m.toNat*te.size)).take te.size;rw[<-hl1,List.drop_left,jX (by rw[J.length];omega),jf (by rw[J.length];omega)]at q;rw[<-hl1];exact q
       ·intro yy U;rcases qq.1 U with rfl|U;(exact m3);·exact m8 yy (by rw[hF];simp[U])
     ·exact C.elim
    ·exact C.elim
   ·rename_i B xs u k m
    obtain⟨ad,n,c,k1,k2,k3,k4⟩:=Oy (Yp q1)
    obtain⟨hm,C⟩:=C
    split at C
    ·rename_i y hy
     split at C
     ·rename_i hyl
      have hlt:m.toNat<xs.length:=(qe.1 hy).1
      rcases k4 with k4|⟨b,I,cells,sz,G,rfl,m2,m3,m4,m5,m6,m7,m8⟩
      ·omega
      ·have hsz:sz=te.size:=by rw[<-hyl];exact(m6 y (jD hy)).symm
       subst hsz
       refine Ap R C (hrun b I n c k m k1 (oN q3) hm wg) ⟨_,[],rfl,?_,rfl⟩
       obtain⟨v1,v2,v3,F1,F2,F3,rfl,hF,hl1,hr1,J,hr3⟩:=m7.at_ m6 hy
       refine⟨b::F2,?_,?_⟩
       ·simp only[Rep];refine⟨b,I+m.toNat*te.size,v2,F2,rfl,m2,rfl,?_,J⟩;have q:=(m4.drop (m.toNat*te.size)).take te.size;rw[<-hl1,List.drop_left,jX (by rw[J.length];omega),jf (by rw[J.length];omega)]at q;rw[<-hl1];exact q
       ·intro yy U;rcases qq.1 U with rfl|U;(exact m3);·exact m8 yy (by rw[hF];simp[U])
     ·exact C.elim
    ·exact C.elim
   ·rename_i j ver k m;obtain⟨hone,hle,hcap⟩:=eZ q1;simp only[ex]at C;split at C;(rename_i e' sz' xs dp hh;split at C;(rename_i hc;obtain⟨⟨hm,hlt⟩,C⟩:=C;have hval:=hcap hc.1 _ _ _ _ hh;have hob:=R.inv.obj j;rw[hh]at hob;obtain⟨cells,r1,r2,r3,r4,r5⟩:=hob;rcases r1.2 with⟨r6,r7⟩|⟨gg,cap,cur,r6,r7,r8,r9⟩;(omega);·refine Ap R C (hrun gg 0 _ cap k m (hval.trans r6) (oN q3) hm hlt) ⟨_,[],rfl,⟨rfl,hle,λ_ e'' sz'' xs'' dp'' hh'=>⟨gg,_,cap,r6,?_⟩⟩,rfl⟩;rw[hh]at hh';cases hh';rw[<-hc.2];simp);·exact C.elim);·exact C.elim
   ·rename_i W xs v k m
    obtain⟨v',vs',e0,⟨h0,F,k1,k2⟩,h3'⟩:=q1
    have h3'':vs'=[]:=h3'
    subst h3''
    simp only[List.cons.injEq,and_true]at e0
    rw[h0]at e0
    obtain⟨hm,C⟩:=C
    split at C
    ·rename_i y hy
     split at C
     ·rename_i hyl
      have hlt:m.toNat<xs.length:=(qe.1 hy).1
      simp only[Rep]at k1
      obtain⟨ad,n,c,rfl,kn,kc,k4⟩:=k1
      rcases k4 with k4|⟨b,I,cells,sz,G,rfl,m2,rfl,m4,m5,m6,m7⟩
      ·omega
      ·have hsz:sz=te.size:=by rw[<-hyl];exact(m6 y (jD hy)).symm
       subst hsz
       refine Ap R C (hrun b I n c k m e0 (oN q3) hm wg) ⟨_,[],rfl,⟨rfl,?_⟩,rfl⟩
       obtain⟨v1,v2,v3,F1,F2,F3,rfl,hF,hl1,hr1,J,hr3⟩:=m7.at_ m6 hy
       refine⟨b::F2,?_,?_⟩
       ·simp only[Rep];refine⟨b,I+m.toNat*te.size,v2,F2,rfl,m2,rfl,?_,J⟩;have q:=(m4.drop (m.toNat*te.size)).take te.size;rw[<-hl1,List.drop_left,jX (by rw[J.length];omega),jf (by rw[J.length];omega)]at q;rw[<-hl1];exact q
       ·intro yy U;rcases qq.1 U with rfl|U;(exact k2 yy wb);·exact k2 yy (by rw[hF];simp[U])
     ·exact C.elim
    ·exact C.elim
   ·exact C.elim
  ·exact h.elim
 ·rename_i e n sz0 by0 z0 cm0 sl0 hti
  obtain⟨i,d,z,h1,h2,h3,h4,h5,h6,h7,h8,h9⟩:=(eH hti).ok
  obtain rfl:=aBt h4
  split at h
  ·rename_i te hte
   obtain⟨ie,de,ze,e1,e2,e3,e4,e5,e6,e7,e8,e9⟩:=(eH hte).ok
   obtain⟨sx,q1,q2⟩:=cN R h
   obtain⟨si,q3,C⟩:=cN R q2
   split at C
   ·rename_i j ver I k m
    simp only[ex]at C
    split at C
    ·rename_i t' cells hh
     split at C
     ·rename_i hc
      obtain⟨⟨hm0,hmn⟩,C⟩:=C
      obtain⟨hone,hle,hcap⟩:=eZ q1
      obtain⟨b,hb1,hb2⟩:=hcap hc _ _ hh
      have hlt:m<(n:Int):=by omega
      refine Ap R C (v:=.pointer (some ⟨b,I+m.toNat*te.size,none⟩)) ?_ ⟨_,[],rfl,⟨rfl,hle,λ_ t'' cs'' hh'=>⟨b,hb1,rfl⟩⟩,rfl⟩
      simp[execOp,ho,hb2,oN q3,Instr.indexAt,Instr.sureAddr,asIntOf,run_underlying h2,sizeOf,typeInfo,e1,e7,hm0,hlt,Addr.add_lit]
     ·exact C.elim
    ·exact C.elim
   ·exact C.elim
  ·exact h.elim
 ·exact h.elim
theorem Yv{t:TypeId}{x ix:Operand}(I:o.op=.index t x ix)(R:nV P base w0 N g s a w [])(h:ex P (CN (fM P) N o) s K):o.wp P a w (Aft P base w0 N K) Q:=by simp only[CN,I]at h;split at h;(rename_i sz0 J z0 U sl0 C;obtain⟨i,d,z,h1,h2,h3,h4,h5,h6,h7,h8,h9⟩:=(eH C).ok;obtain rfl:=S5 h4;obtain⟨sx,q1,q2⟩:=cN R h;obtain⟨si,q3,j⟩:=cN R q2;split at j;(rename_i str k n;obtain⟨hn,j⟩:=j;split at j;(rename_i b hb;refine Ap R j (v:=.int .u8 b.toNat) ?_ Es;simp[execOp,I,Jb q1,oN q3,Instr.index,asIntOf,run_underlying h2,hn,hb]);·exact j.elim);·exact j.elim);·exact h.elim
theorem Xa{op:BinOp}{t:TypeId}{k C:IntKind}{m n:Int}{d:D}(hk:k=C\/op=.shr\/op=.shl)(h:Ac op k m n=some d)(w:World):∃v,(binOp op t (.int k m) (.int C n)).run P w=.ok v w/\Rep w d v []:=by
 cases op
 case shl=>
  simp only[Ac]at h
  split at h
  ·cases h
  ·rename_i j;cases h;exact⟨.int k (k.wrap (m*2^(min n.toNat k.bits))),by simp only[binOp,Op.shift,j,jH,qu],wW⟩
 case shr=>
  simp only[Ac]at h
  split at h
  ·cases h
  ·rename_i j;cases h;exact⟨.int k (m.fdiv (2^(min n.toNat k.bits))),by simp only[binOp,Op.shift,j,jH,qu],wW⟩
 all_goals (obtain rfl:k=C:=by simpa using hk)
 case quo=>
  simp only[Ac]at h
  split at h
  ·cases h
  ·rename_i j;cases h;exact⟨.int k (k.wrap (m.tdiv n)),by simp[binOp,Op.intDiv,j],wW⟩
 case rem=>
  simp only[Ac]at h
  split at h
  ·cases h
  ·rename_i j;cases h;exact⟨.int k (m.tmod n),by simp[binOp,Op.intDiv,j],wW⟩
 case and=>simp only[Ac]at h;cases h;exact⟨.int k (k.wrap (BitVec.ofInt k.bits m&&&BitVec.ofInt k.bits n).toNat),by simp only[binOp,ne_eq,not_true_eq_false,jH,Op.intBits,qu],jy⟩
 case or=>simp only[Ac]at h;cases h;exact⟨.int k (k.wrap (BitVec.ofInt k.bits m|||BitVec.ofInt k.bits n).toNat),by simp only[binOp,ne_eq,not_true_eq_false,jH,Op.intBits,qu],jy⟩
 case xor=>simp only[Ac]at h;cases h;exact⟨.int k (k.wrap (BitVec.ofInt k.bits m ^^^ BitVec.ofInt k.bits n).toNat),by simp only[binOp,ne_eq,not_true_eq_false,jH,Op.intBits,qu],jy⟩
 case andNot=>simp only[Ac]at h;cases h;exact⟨.int k (k.wrap (BitVec.ofInt k.bits m &&& ~~~BitVec.ofInt k.bits n).toNat),by simp only[binOp,ne_eq,not_true_eq_false,jH,Op.intBits,qu],jy⟩
 all_goals (simp[Ac]at h;subst h;simp[binOp,Op.intArith,Op.intCmp,Rep])
theorem W3{op:BinOp}{t:TypeId}{m n:ByteArray}{d:D}(h:J8 op m n=some d)(w:World):∃v,(binOp op t (.string m) (.string n)).run P w=.ok v w/\Rep w d v []:=by cases op<;>simp[J8]at h<;>subst h<;>simp[binOp,Op.stringOp,Rep]
def vH:List LK->List Value->List Value->Option Bool
 |[],[],[]=>some true
 | .int::ls,.int k a::j,.int I b::C=>if k=I then(vH ls j C).map ((a==b) && ·)else none
 | .bool::ls,.bool a::j,.bool b::C=>(vH ls j C).map ((a==b) && ·)
 | .str::ls,.string a::j,.string b::C=>(vH ls j C).map ((a.toList==b.toList) && ·)
 |_,_,_=>none
theorem SZ:∀(ls:List LK) {cs ds:List SC} {vs I:List Value} {b:Bool},aU g s.h w cs vs->aU g s.h w ds I->Dp ls cs ds=some b->vH ls vs I=some b:=by
 intro ls
 induction ls with
 |nil=>
  intro cs ds vs I b h1 h2 h
  match cs,ds,h with
  |[],[],h=>rw[show vs=[]from h1,show I=[]from h2];exact h
 |cons l ls ih=>
  intro cs ds vs I b h1 h2 h
  cases l with
  |int=>
   match cs,ds,h with
   | .dat (.int k x)::cs,.dat (.int k' y)::ds,h=>
    obtain⟨v,U,rfl,⟨F,j,_⟩,h3⟩:=h1
    obtain⟨u,J,rfl,⟨G,C,_⟩,h4⟩:=h2
    simp only[Rep]at j C
    rw[j.1,C.1]
    simp only[Dp,vH]at h⊢
    split at h
    ·rename_i hk
     rw[jF hk]
     cases hh:Dp ls cs ds with
     |none=>rw[hh]at h;cases h
     |some b'=>rw[hh]at h;rw[ih h3 h4 hh];exact h
    ·cases h
  |bool=>
   match cs,ds,h with
   | .dat (.bool x)::cs,.dat (.bool y)::ds,h=>
    obtain⟨v,U,rfl,⟨F,j,_⟩,h3⟩:=h1
    obtain⟨u,J,rfl,⟨G,C,_⟩,h4⟩:=h2
    simp only[Rep]at j C
    rw[j.1,C.1]
    simp only[Dp,vH]at h⊢
    cases hh:Dp ls cs ds with
    |none=>rw[hh]at h;cases h
    |some b'=>rw[hh]at h;rw[ih h3 h4 hh];exact h
  |str=>
   match cs,ds,h with
   | .dat (.str x)::cs,.dat (.str y)::ds,h=>
    obtain⟨v,U,rfl,⟨F,j,_⟩,h3⟩:=h1
    obtain⟨u,J,rfl,⟨G,C,_⟩,h4⟩:=h2
    simp only[Rep]at j C
    rw[j.1,C.1]
    simp only[Dp,vH]at h⊢
    cases hh:Dp ls cs ds with
    |none=>rw[hh]at h;cases h
    |some b'=>rw[hh]at h;rw[ih h3 h4 hh];exact h
theorem Jv:∀(a b:List LK) {vs j:List Value} {r:Bool},vH (a++b) vs j=some r->a.length<=vs.length/\a.length<=j.length/\
  ∃C I,vH a (vs.take a.length) (j.take a.length)=some C/\vH b (vs.drop a.length) (j.drop a.length)=some I/\r=(C&&I)
 |[],b,vs,j,r,h=>⟨Nat.zero_le _,Nat.zero_le _,true,r,by simp[vH],wM,wb⟩
 |l::a,b,vs,j,r,h=>by
  have key:∀{vs j:List Value} {r:Bool},vH (a++b) vs j=some r->_:=λh=>Jv a b h
  simp only[jQ]at h
  cases l with
  |int=>
   match vs,j,h with
   | .int k x::vs,.int k' y::j,h=>
    simp only[vH]at h
    split at h
    ·rename_i hk
     cases hh:vH (a++b) vs j with
     |none=>rw[hh]at h;cases h
     |some b'=>
      rw[hh]at h
      simp at h
      obtain⟨J,U,C,I,k3,k4,k5⟩:=key hh
      exact⟨by simpa using J,by simpa using U,(x==y)&&C,I,by simp[vH,hk,k3],by simpa using k4,by rw[<-h,k5,Bool.and_assoc]⟩
    ·cases h
  |bool=>
   match vs,j,h with
   | .bool x::vs,.bool y::j,h=>
    simp only[vH]at h
    cases hh:vH (a++b) vs j with
    |none=>rw[hh]at h;cases h
    |some b'=>
     rw[hh]at h
     simp at h
     obtain⟨J,U,C,I,k3,k4,k5⟩:=key hh
     exact⟨by simpa using J,by simpa using U,(x==y)&&C,I,by simp[vH,k3],by simpa using k4,by rw[<-h,k5,Bool.and_assoc]⟩
  |str=>
   match vs,j,h with
   | .string x::vs,.string y::j,h=>
    simp only[vH]at h
    cases hh:vH (a++b) vs j with
    |none=>rw[hh]at h;cases h
    |some b'=>
     rw[hh]at h
     simp at h
     obtain⟨J,U,C,I,k3,k4,k5⟩:=key hh
     exact⟨by simpa using J,by simpa using U,(x.toList==y.toList)&&C,I,by simp[vH,k3],by simpa using k4,by rw[<-h,k5,Bool.and_assoc]⟩
def valOf(P:Program)(t:TypeId)(vs:List Value):Value:=if MZ P t=true then .agg vs.toArray else vs.headD .nilIface
theorem aAp{t:TypeId}{j:TypeDesc}(I:P.underlying t=some j)(J:(P.info? t).isSome=true){vs:List Value}{off:Nat}(U:MZ P t=false->off<vs.length/\P.cellsOf t=1):(part t vs.toArray off).run P w=.ok (valOf P t ((vs.drop off).take (P.cellsOf t))) w:=by
 obtain⟨i,J⟩:=Option.isSome_iff_exists.1 J
 have C:MZ P t=ZS j:=by unfold MZ;rw[I]
 unfold part valOf
 cases hb:ZS j with
 |true=>
  simp only[qs,Ho I w,hb,qi,jI,sizeOf,typeInfo,run_program,J,qu,C,Program.cellsOf,Option.map_some,Option.getD_some]
  simp[List.extract_toArray,List.extract_eq_take_drop]
 |false=>
  obtain⟨h1,h2⟩:=U (by rw[C,hb])
  simp only[qs,Ho I w,hb,qi,jH,C,h2,qD]
  have:vs.toArray[off]? =some vs[off]:=by simp[h1]
  rw[this]
  have:((vs.drop off).take 1).headD .nilIface=vs[off]:=by rw[qX h1];rfl
  rw[this]
  rfl
theorem W4:∀(ls:List LK) {vs j:List Value} {b:Bool},vH ls vs j=some b->vs.length=ls.length/\j.length=ls.length:=by
 intro ls vs j b h
 have:=Jv ls [] wM
 obtain⟨h1,h2,C,I,h3,h4,h5⟩:=this
 match hv:vs.drop ls.length,hu:j.drop ls.length,h4 with
 |[],[],h4=>
  rw[List.drop_eq_nil_iff]at hv hu
  omega
theorem Oo{n:Nat}(ih:∀(t:TypeId) (ls:List LK),Ik P n t=some ls->∀d,n<=d->∀(vs j:List Value) (b:Bool),vH ls vs j=some b->(Op.equalIn d t (valOf P t vs) (valOf P t j)).run P w=.ok b w)
  {d:Nat}(hd:n<=d):∀(U:List Field) (off:Nat) (ls:List LK) (vs j:List Value) (b:Bool),Ha P (Ik P n) off U=some ls->vH ls (vs.drop off) (j.drop off)=some b->
   (Op.eqFields d vs.toArray j.toArray U).run P w=.ok b w
 |[],off,ls,vs,j,b,h,hb=>by
  simp[Ha]at h
  subst h
  have hl:=W4 _ hb
  match vs.drop off,j.drop off,hb with
  |[],[],hb=>simp[vH]at hb;subst hb;simp[Op.eqFields]
 |f::U,off,ls,vs,j,b,h,hb=>by
  simp only[Ha]at h
  split at h
  ·rename_i hf
   split at h
   ·rename_i a c I hc
    split at h
    ·rename_i hlen
     cases h
     obtain⟨k1,k2,r1,r2,k3,k4,rfl⟩:=Jv a c hb
     have hun:∃J,P.underlying f.type=some J:=by
      cases n with
      |zero=>simp[Ik]at I
      |succ n=>
       simp only[Ik]at I
       split at I
       all_goals first|exact⟨_,by assumption⟩|cases I
     obtain⟨J,hdsc⟩:=hun
     have hone:MZ P f.type=false->a.length=1:=by
      intro C
      unfold MZ at C
      rw[hdsc]at C
      cases n with
      |zero=>simp[Ik]at I
      |succ n=>
       simp only[Ik,hdsc]at I
       split at I<;>first|(cases I;rfl)|(rename_i e;cases e;simp[ZS]at C)|cases I
     have hp:∀(j:List Value),a.length<=(j.drop off).length->(part f.type j.toArray f.offset).run P w=.ok (valOf P f.type ((j.drop off).take a.length)) w:=by
      intro j hl
      rw[hlen,<-hf.1]
      refine aAp hdsc hf.2.2 λC=> ?_
      have:=hone C
      rw[qW]at hl
      omega
     have h1:=hp vs k1
     have h2:=hp j k2
     have h3:=ih f.type a I d hd _ _ r1 k3
     have h4:=Oo ih hd U (off+P.cellsOf f.type) c vs j r2 hc (by rw[List.drop_drop,List.drop_drop,hlen]at k4;exact k4)
     simp only[Op.eqFields,hf.2.1,ne_eq,not_false_eq_true,jI,qs,h1,h2,h3,qi]
     cases r1 with
     |true=>simp[h4]
     |false=>simp
    ·cases h
   ·cases h
  ·cases h
theorem Ni:∀(n:Nat) (t:TypeId) (ls:List LK),Ik P n t=some ls->∀d,n<=d->∀(vs C:List Value) (b:Bool),vH ls vs C=some b->(Op.equalIn d t (valOf P t vs) (valOf P t C)).run P w=.ok b w
 |0,t,ls,h,_,_,_,_,_,_=>by simp[Ik]at h
 |n+1,t,ls,h,d,hd,vs,C,b,hb=>by
  obtain⟨d,rfl⟩:∃d',d=d'+1:=⟨d-1,wg⟩
  simp only[Ik]at h
  split at h
  ·rename_i k I
   cases h
   have j:MZ P t=false:=by unfold MZ;rw[I];rfl
   match vs,C,hb with
   | .int k1 x::vs,.int k2 y::C,hb=>
    simp only[vH]at hb
    split at hb
    ·rename_i hk
     subst hk
     match vs,C,hb with
     |[],[],hb=>
      simp[vH]at hb
      simp only[valOf,j,List.headD_cons,qD,jH]
      rw[run_equalIn_int w d t _ _ x y I,<-hb]
    ·cases hb
  ·rename_i I
   cases h
   have j:MZ P t=false:=by unfold MZ;rw[I];rfl
   match vs,C,hb with
   | .bool x::vs,.bool y::C,hb=>
    simp only[vH]at hb
    match vs,C,hb with
    |[],[],hb=>
     simp[vH]at hb
     simp only[valOf,j,List.headD_cons,qD,jH]
     rw[run_equalIn_bool' w d t x y I,<-hb]
  ·rename_i I
   cases h
   have j:MZ P t=false:=by unfold MZ;rw[I];rfl
   match vs,C,hb with
   | .string x::vs,.string y::C,hb=>
    simp only[vH]at hb
    match vs,C,hb with
    |[],[],hb=>
     simp[vH]at hb
     simp only[valOf,j,List.headD_cons,qD,jH]
     rw[run_equalIn_string w d t x y I,<-hb]
  ·rename_i fs I
   split at h
   ·rename_i U
    have j:MZ P t=true:=by unfold MZ;rw[I];rfl
    have J:P.fieldsOf t=fs:=by unfold Program.fieldsOf;rw[I]
    simp only[valOf,j,jI]
    rw[run_equalIn_struct w d t _ _ (by rw[J];exact I) U,J]
    exact Oo (λt ls=>Ni n t ls) wg fs.toList 0 ls vs C b h (by simpa using hb)
   ·cases h
  ·cases h
theorem M5{t:TypeId}{U:TI}(J:fM P t=some U){l:LK}{ls:List LK}(hc:U.cmp=l::ls){op:BinOp}(I:op=.eql\/op=.neq){vs j:Array Value}{b:Bool}{x y:Operand}(hb:vH (l::ls) vs.toList j.toList=some b):
  (do eqGuard op t x y (.agg vs) (.agg j);binOp op t (.agg vs) (.agg j):Sem Value).run P w=.ok (.bool (if op=.eql then b else !b)) w:=by
 have h1:=(eH J).cmp
 rw[hc]at h1
 unfold aDG at h1
 split at h1
 ·rename_i C
  cases hl:Ik P 8 t with
  |none=>rw[hl]at h1;simp at h1
  |some ls'=>
   rw[hl]at h1
   simp only[Option.getD_some]at h1
   subst h1
   have:=Ni (w:=w) 8 t _ hl 10000 wg _ _ b hb
   simp only[valOf,C.1,jI,Array.toArray_toList]at this
   rcases I with rfl|rfl
   ·simp only[qs,run_eqGuard_agg w _ t x y vs j C.2,qi,run_eql_struct w t vs j,this];rfl
   ·simp only[qs,run_eqGuard_agg w _ t x y vs j C.2,qi,run_neq_struct w t vs j,this];rfl
 ·cases h1
theorem XA{op:BinOp}{t ty:TypeId}{x y:Operand}(I:o.op=.binOp op t x y ty)(R:nV P base w0 N g s a w [])(h:ex P (CN (fM P) N o) s K):o.wp P a w (Aft P base w0 N K) Q:=by
 simp only[CN,I]at h
 obtain⟨sx,J,q2⟩:=cN R h
 obtain⟨sy,U,j⟩:=cN R q2
 split at j
 ·rename_i k m k' n;split at j;(rename_i hk;split at j;(rename_i d hd;obtain⟨v,hv,hr⟩:=Xa (P:=P) (t:=t) hk hd w;refine Ap R j (v:=v) ?_ (MC hr wb);simp[execOp,I,oN J,oN U,eqGuard,hv]);·exact j.elim);·exact j.elim
 ·rename_i m n
  split at j
  ·rename_i hop
   subst hop
   obtain⟨hlen,j⟩:=j
   refine Ap R j (v:=.string (m++n)) ?_ RS
   have hmax:IntKind.i64.max=9223372036854775807:=by decide
   have hle:¬(((m.size+n.size:Nat):Int)>IntKind.i64.max):=by rw[hmax];omega
   simp only[execOp,I,Jb J,Jb U,eqGuard,qs,binOp,Op.stringOp,hle,jH,qu,qi]
   rfl
  ·split at j;(rename_i d hd;obtain⟨v,hv,hr⟩:=W3 (P:=P) (t:=t) hd w;refine Ap R j (v:=v) ?_ (MC hr wb);simp[execOp,I,Jb J,Jb U,eqGuard,hv]);·exact j.elim
 ·rename_i m n
  split at j
  ·rename_i sz0 by0 z0 cm0 sl0 C
   obtain⟨i,d,z,h1,h2,h3,h4,h5,h6,h7,h8,h9⟩:=(eH C).ok
   obtain rfl:=Zd h4
   refine Ap R j (v:=.bool (m==n)) ?_ Ln
   have:∀dd,(Op.equalIn (dd+1) t (.bool m) (.bool n)).run P w=.ok (m==n) w:=λdd=>by simp[Op.equalIn,run_underlying h2]
   have:=this 9999
   simp[execOp,I,Fw J,Fw U,eqGuard,binOp,Op.equal,Op.maxDepth,this]
  ·rename_i sz0 by0 z0 cm0 sl0 C
   obtain⟨i,d,z,h1,h2,h3,h4,h5,h6,h7,h8,h9⟩:=(eH C).ok
   obtain rfl:=Zd h4
   refine Ap R j (v:=.bool !(m==n)) ?_ Ln
   have:∀dd,(Op.equalIn (dd+1) t (.bool m) (.bool n)).run P w=.ok (m==n) w:=λdd=>by simp[Op.equalIn,run_underlying h2]
   have:=this 9999
   simp[execOp,I,Fw J,Fw U,eqGuard,binOp,Op.equal,Op.maxDepth,this]
  ·exact j.elim
 ·rename_i cs ds
  split at j
  ·rename_i l ls C
   split at j
   ·rename_i b hb
    obtain⟨vs,hx,hcs⟩:=J
    obtain⟨us,hy,hds⟩:=U
    have hbv:=SZ _ hcs hds hb
    split at j
    ·refine Ap R j (v:=.bool b) ?_ Ln
     have:=M5 (w:=w) (x:=x) (y:=y) C rfl (.inl rfl) hbv
     simp only[qs]at this
     simp only[execOp,I,hx,hy,qs]
     cases hg:(eqGuard .eql t x y (.agg vs) (.agg us)).run P w with
     |ok u w1=>
      rw[hg]at this
      simp only[qi,jI]at this⊢
      rw[this]
      rfl
     |halt z w1=>rw[hg]at this;cases this
    ·refine Ap R j (v:=.bool !b) ?_ Ln
     have:=M5 (w:=w) (x:=x) (y:=y) C rfl (.inr rfl) hbv
     simp only[qs]at this
     simp only[execOp,I,hx,hy,qs]
     cases hg:(eqGuard .neq t x y (.agg vs) (.agg us)).run P w with
     |ok u w1=>
      rw[hg]at this
      simp only[qi]at this⊢
      rw[this]
      rfl
     |halt z w1=>rw[hg]at this;cases this
    ·exact j.elim
   ·exact j.elim
  ·exact j.elim
 ·exact j.elim
theorem aDH{t:TypeId}{x:Operand}(C:o.op=.unOp .not t x)(R:nV P base w0 N g s a w [])(h:ex P (CN (fM P) N o) s K):o.wp P a w (Aft P base w0 N K) Q:=by simp only[CN,C]at h;obtain⟨J,I,j⟩:=cN R h;split at j;(rename_i b;refine Ap R j (v:=.bool !b) ?_ Ln;simp[execOp,C,Fw I,Op.unary]);·exact j.elim
theorem aCf{t:TypeId}{x:Operand}(C:o.op=.unOp .neg t x)(R:nV P base w0 N g s a w [])(h:ex P (CN (fM P) N o) s K):o.wp P a w (Aft P base w0 N K) Q:=by simp only[CN,C]at h;obtain⟨J,I,j⟩:=cN R h;split at j;(rename_i k n;refine Ap R j (v:=.int k (k.wrap (0-n))) ?_ Es;simp[execOp,C,oN I,Op.unary,Op.intArith]);·exact j.elim
theorem aA8{α:Type}{xs:Array α}{x:α}(h:xs.toList=[x]):xs= #[x]:=by cases xs;simp at h;simp[h]
theorem aFA{α:Type}{xs:Array α}{x y z:α}(h:xs.toList=[x,y,z]):xs= #[x,y,z]:=by cases xs;simp at h;simp[h]
theorem Z6{α:Type}{xs:Array α}{x y:α}(h:xs.toList=[x,y]):xs= #[x,y]:=by cases xs;simp at h;simp[h]
theorem aB5{as:Array Operand}{ts:Array TypeId}(ho:o.op=.call { callee:=.builtin .len,args:=as,argTypes:=ts })(R:nV P base w0 N g s a w [])(h:ex P (CN (fM P) N o) s K):o.wp P a w (Aft P base w0 N K) Q:=by
 simp only[CN,ho]at h
 split at h
 ·rename_i x t hx ht
  have hx:=aA8 hx
  have ht:=aA8 ht
  subst hx ht
  split at h
  ·rename_i e sz0 by0 z0 cm0 sl0 hti
   obtain⟨i,d,z,h1,h2,h3,h4,_⟩:=(eH hti).ok
   obtain rfl:=EL h4
   obtain⟨sx,q1,q2⟩:=cN R h
   have hrun:∀ad n c,a.eval x=.slice ad n c->(execOp a.eval o).run P w=.ok (.value (.int .i64 n)) w:=by intro ad n c hx;simp[execOp,ho,resolve,invoke,builtin,Builtin.len_,hx,run_underlying h2,goInt]
   unfold lenOf at q2
   split at q2
   ·rename_i xs;obtain⟨ad,n,c,k1,k2,_⟩:=Oy q1;subst k2;exact Ap R q2 (hrun _ _ _ k1) Es
   ·rename_i B xs u;obtain⟨ad,n,c,k1,k2,_⟩:=Oy (Yp q1);subst k2;exact Ap R q2 (hrun _ _ _ k1) Es
   ·exact Ap R q2 (hrun _ _ _ (eZ q1)) Es
   ·rename_i j ver;obtain⟨hone,hle,hcap⟩:=eZ q1;simp only[ex]at q2;split at q2;(rename_i e' sz' xs dp hh;split at q2;(rename_i hc;have hval:=hcap hc _ _ _ _ hh;have hob:=R.inv.obj j;rw[hh]at hob;obtain⟨cells,r1,r2,r3,r4,r5⟩:=hob;rcases r1.2 with⟨r6,r7⟩|⟨gg,cap,cur,r6,r7,r8,r9⟩;(have hx:=hrun _ _ _ (hval.trans r6);rw[<-r7]at hx;exact Ap R q2 hx Es);·exact Ap R q2 (hrun _ _ _ (hval.trans r6)) Es);·exact q2.elim);·exact q2.elim
   ·rename_i j ver lo n;have hp:=eZ q1;simp only[ex]at q2;split at q2;(rename_i e' sz' xs dp hh;split at q2;(rename_i hc;obtain⟨ad,c,hval,_⟩:=N0 R.inv hp hc hh;exact Ap R q2 (hrun _ _ _ hval) Es);·exact q2.elim);·exact q2.elim
   ·exact q2.elim
  ·rename_i sz0 by0 z0 cm0 sl0 hti;obtain⟨i,d,z,h1,h2,h3,h4,_⟩:=(eH hti).ok;obtain rfl:=S5 h4;obtain⟨sx,q1,q2⟩:=cN R h;split at q2;(rename_i str;refine Ap R q2 (v:=.int .i64 str.size) ?_ Es;simp[execOp,ho,resolve,invoke,builtin,Builtin.len_,Jb q1,run_underlying h2,goInt]);·exact q2.elim
  ·exact h.elim
 ·exact h.elim
theorem Q6(R:nV P base w0 N g s a w []){x:Option Operand}{k:Option SV->Prog}(h:ex P (aDd x k) s K):
  (x=none/\ex P (k none) s K) \/∃y j,x=some y/\yM g s.h w j (a.eval y)/\ex P (k (some j)) s K:=by
 cases x with
 |none=>exact .inl ⟨rfl,h⟩
 |some y=>obtain⟨j,h1,h2⟩:=cN R h;exact .inr ⟨y,j,rfl,h1,h2⟩
theorem aCI{xs:List (List D)}{ad:Option Addr}{n c l m sz:Nat}(hl:l<=m)(hm:m<=n)(hn:n=xs.length)(hc:n<=c)
  (h:n=0 \/∃b off cells sz' G,ad=some ⟨b,off,none⟩/\b<w.heap.size/\g.S b/\Ee w b off cells/\cells.length=n*sz'/\(∀x∈xs,x.length=sz')/\bC w xs cells G/\∀y∈G,g.S y)
  (U:∀x∈xs,x.length=sz):
  ∃F,Rep w (.sl ((xs.take m).drop l)) (.slice (if c=l then ad else ad.map (·.add (l*sz))) (m-l) (c-l)) F/\∀y∈F,g.S y:=by
 by_cases h0:m-l=0
 ·refine⟨[],?_,wb⟩;simp only[Rep];exact⟨_,_,_,rfl,wV,wg,.inl ⟨h0,trivial⟩⟩
 ·rcases h with h|⟨b,off,cells,sz',G,rfl,k2,k3,k4,k5,J,k7,k8⟩
  ·omega
  ·have hx0:0<xs.length:=by omega
   have hsz':sz'=sz:=by have h1:=J xs[0] (qG _);have h2:=U xs[0] (qG _);omega
   subst hsz'
   have hsplit:xs=(xs.take m).take l++((xs.take m).drop l++xs.drop m):=by rw[<-qT,qo,qo]
   rw[hsplit]at k7
   obtain⟨v1,v2,F1,F2,rfl,rfl,r1,r2⟩:=bC.split k7
   obtain⟨u1,u2,G1,G2,rfl,rfl,r3,r4⟩:=bC.split r2
   have j:v1.length=l*sz':=by rw[bC.length r1 λx I=>J x (qk (qk I)),qV,qV];congr 1;omega
   have C:u1.length=(m-l)*sz':=by rw[bC.length r3 λx I=>J x (qk (qv I)),qW,qV];congr 1;omega
   refine⟨b::G1,?_,?_⟩
   ·simp only[Rep];refine⟨_,_,_,rfl,wV,wg,.inr ⟨b,off+l*sz',u1,sz',G1,?_,k2,rfl,?_,C,λx I=>J x (qk (qv I)),r3⟩⟩;(rw[jG wg];simp[Addr.add_lit]);·have q:=(k4.drop (l*sz')).take ((m-l)*sz');rw[<-j,List.drop_left,<-C,List.take_left]at q;rw[<-j];exact q
   ·intro y hy;rcases qq.1 hy with rfl|hy;(exact k3);·exact k8 y (by simp[hy])
theorem run_sliceBound{v:Value}{k:IntKind}{j:Int}{y:Nat}{code:BoundsCode}(J:v=.int k j)(I:0<=j)(U:j.toNat<=y)(w:World):(Instr.sliceBound v y code).run P w=.ok j.toNat w:=by
 have C:j<=(y:Int):=by omega
 subst J
 simp only[Instr.sliceBound,asIntOf,qs,qu,qi,I,C,and_self,jI]
theorem OM(lo hi:Option Value)(n c l m:Nat)(U:(hi=none/\m=n) \/∃k j,hi=some (.int k j)/\0<=j/\j.toNat=m/\m<=c)(J:(lo=none/\l=0) \/∃k j,lo=some (.int k j)/\0<=j/\j.toNat=l/\l<=m)(w:World):
  (Instr.sliceBounds true n c lo hi none).run P w=.ok (l,m,c) w:=by
 rcases U with⟨rfl,rfl⟩|⟨k,j,rfl,hj,rfl,hc⟩
 ·rcases J with⟨rfl,rfl⟩|⟨k',j',rfl,I,rfl,C⟩;(simp only[Instr.sliceBounds,qs,qu,qi]);·simp only[Instr.sliceBounds,qs,qu,qi,run_sliceBound rfl I C]
 ·rcases J with⟨rfl,rfl⟩|⟨k',j',rfl,I,rfl,C⟩;(simp only[Instr.sliceBounds,qs,qu,qi,run_sliceBound rfl hj hc]);·simp only[Instr.sliceBounds,qs,qu,qi,run_sliceBound rfl hj hc,run_sliceBound rfl I C]
theorem Pp{t e:TypeId}{U:TypeInfo}(h2:P.underlying t=some (.slice e))(e1:P.info? e=some U)(ad:Option Addr)(lo C:Option Value)(n c l m:Nat)
  (I:(C=none/\m=n) \/∃k j,C=some (.int k j)/\0<=j/\j.toNat=m/\m<=c)(J:(lo=none/\l=0) \/∃k j,lo=some (.int k j)/\0<=j/\j.toNat=l/\l<=m)(w:World):
  (Instr.sliceAt t (.slice ad n c) lo C none).run P w=.ok (.slice (if c=l then ad else ad.map (·.add (l*U.size))) (m-l) (c-l)) w:=by
 simp only[Instr.sliceAt,Instr.slice,qs,run_underlying h2,qi,OM lo C n c l m I J w,sizeOf,typeInfo,run_program,e1,qu]
theorem WO{t e:TypeId}{ie:TypeInfo}{te:TI}{x:Operand}{lo J:Option Operand}{xs:List (List D)}(ho:o.op=.slice t x lo J none)(R:nV P base w0 N g s a w [])(h2:P.underlying t=some (.slice e))(e1:P.info? e=some ie)(e7:ie.size=te.size)
  (q1:yM g s.h w (.v false [.dat (.sl xs)]) (a.eval x))(hlen:∀x∈xs,x.length=te.size)(l m:Nat)(hlm:l<=m)(hm:m<=xs.length)
  (U:(J=none/\m=xs.length) \/∃y k j,J=some y/\a.eval y=.int k j/\0<=j/\j.toNat=m)(hlo:(lo=none/\l=0) \/∃y k j,lo=some y/\a.eval y=.int k j/\0<=j/\j.toNat=l)
  (hk:ex P (put N o.dst (one (.sl ((xs.take m).drop l)))) s K):o.wp P a w (Aft P base w0 N K) Q:=by
 obtain⟨ad,n,c,k1,k2,k3,k4⟩:=Oy q1
 obtain⟨F,r1,r2⟩:=aCI (l:=l) (m:=m) hlm wg k2 k3 k4 hlen
 refine Ap R hk ?_ (MC r1 r2)
 have hr:=Pp (P:=P) h2 e1 ad (lo.map a.eval) (J.map a.eval) n c l m (by
  rcases U with⟨rfl,hh⟩|⟨y,k,j,rfl,hj,C,I⟩
  ·exact .inl ⟨rfl,wg⟩
  ·exact .inr ⟨k,j,by simp[hj],C,I,wg⟩) (by
  rcases hlo with⟨rfl,hh⟩|⟨y,k,j,rfl,hj,C,I⟩
  ·exact .inl ⟨rfl,hh⟩
  ·exact .inr ⟨k,j,by simp[hj],C,I,wg⟩) w
 simp only[execOp,ho,Option.map_none,k1,qs,hr,qi,qu,e7]
theorem XJ{t e:TypeId}{ie:TypeInfo}{te:TI}{x:Operand}{lo hi:Option Operand}{j ver:Nat}(ho:o.op=.slice t x lo hi none)(R:nV P base w0 N g s a w [])(h2:P.underlying t=some (.slice e))(e1:P.info? e=some ie)(e7:ie.size=te.size)
  (q1:yM g s.h w (.v false [.row j ver]) (a.eval x))(l:Nat)(J:Nat->Nat)(p:Nat->Prop)(hp:∀n,p n->l<=J n/\J n<=n)
  (hhi:(hi=none/\J=λn=>n) \/∃y k z,hi=some y/\a.eval y=.int k z/\(∀n,p n->0<=z)/\J=λ_=>z.toNat)(hlo:(lo=none/\l=0) \/∃y k z,lo=some y/\a.eval y=.int k z/\(∀n,p n->0<=z)/\z.toNat=l)
  (hk:ex P (Qp N o.dst te.size j ver l J p) s K):o.wp P a w (Aft P base w0 N K) Q:=by
 unfold Qp at hk
 simp only[ex]at hk
 split at hk
 ·rename_i e' sz C dp hh
  split at hk
  ·rename_i hc
   obtain⟨hc1,hc2⟩:=hc
   subst hc2
   obtain⟨U,hk⟩:=hk
   obtain⟨hl,hm⟩:=hp _ U
   obtain⟨hone,hle,hcap⟩:=eZ q1
   have hval:=hcap hc1 _ _ _ _ hh
   have hob:=R.inv.obj j
   rw[hh]at hob
   obtain⟨cells,r1,r2,r3,r4,r5⟩:=hob
   have hshape:∃I c,a.eval x=.slice I C.length c/\C.length<=c/\(C.length=0 \/∃b,I=some ⟨b,0,none⟩):=by rcases r1.2 with⟨r6,r7⟩|⟨gg,cap,cur,r6,r7,r8,r9,_⟩;(exact⟨none,0,by rw[hval,r6,r7],wg,.inl r7⟩);·exact⟨_,cap,hval.trans r6,r9,.inr ⟨gg,rfl⟩⟩
   obtain⟨I,c,k1,k2,k3⟩:=hshape
   have hr:=Pp (P:=P) h2 e1 I (lo.map a.eval) (hi.map a.eval) C.length c l (J C.length) (by
    rcases hhi with⟨rfl,rfl⟩|⟨y,k,z,rfl,hz,hz0,rfl⟩
    ·exact .inl ⟨rfl,rfl⟩
    ·exact .inr ⟨k,z,by simp[hz],hz0 _ U,rfl,qh hm k2⟩) (by
    rcases hlo with⟨rfl,hh⟩|⟨y,k,z,rfl,hz,hz0,hzm⟩
    ·exact .inl ⟨rfl,hh⟩
    ·exact .inr ⟨k,z,by simp[hz],hz0 _ U,hzm,hl⟩) w
   refine Ap R hk (v:=.slice (if c=l then I else I.map (·.add (l*ie.size))) (J C.length-l) (c-l)) ?_ ?_
   ·simp only[execOp,ho,Option.map_none,k1,qs,hr,qi,qu]
   ·refine⟨_,[],rfl,⟨rfl,Nat.le_of_eq hc1.symm,λ_ e2 sz2 xs2 dp2 hh2=> ?_⟩,rfl⟩
    rw[hh]at hh2
    cases hh2
    refine⟨_,_,rfl,wg,?_,?_⟩
    ·by_cases hn:J C.length-l=0;(exact .inl hn);·right;rcases k3 with k3|⟨b,rfl⟩;(omega);·refine⟨b,C.length,c,by rw[<-hval,k1],wg,?_⟩;rw[jG wg,e7];simp[Addr.add_lit]
    ·rintro rfl
     refine⟨C.length,?_,wg⟩
     rw[<-hval,k1]
     congr 1
     ·split
      ·rfl
      ·cases I with
       |none=>rfl
       |some I=>simp[Addr.add]
  ·exact hk.elim
 ·exact hk.elim
theorem X6{t:TypeId}{x:Operand}{lo hi:Option Operand}(ho:o.op=.slice t x lo hi none)(R:nV P base w0 N g s a w [])(h:ex P (CN (fM P) N o) s K):o.wp P a w (Aft P base w0 N K) Q:=by simp only[CN,ho]at h;split at h;(rename_i e sz0 by0 z0 cm0 sl0 hti;obtain⟨i,d,z,h1,h2,h3,h4,_⟩:=(eH hti).ok;obtain rfl:=EL h4;split at h;(rename_i te hte;obtain⟨ie,de,ze,e1,e2,e3,e4,e5,e6,e7,e8,e9⟩:=(eH hte).ok;obtain⟨sx,q1,q2⟩:=cN R h;have fin:=@WO P base N w0 w g s a K Q o t e ie te x lo hi;have fip:=@XJ P base N w0 w g s a K Q o t e ie te x lo hi;rcases Q6 R q2 with⟨hlo,q3⟩|⟨yl,sl,hlo,rl,q3⟩;(rcases Q6 R q3 with⟨U,C⟩|⟨yh,sh,U,rh,C⟩;(simp only[ex]at C);·split at C;(rename_i e1 e2;cases e1);(rename_i xs k j I J;cases J;obtain⟨⟨hj,hjl,hlen⟩,C⟩:=C;exact fin ho R h2 e1 e7 q1 hlen 0 j.toNat (Nat.zero_le _) hjl (.inr ⟨yh,k,j,U,oN rh,hj,rfl⟩) (.inl ⟨hlo,rfl⟩) (by simpa using C));(rename_i e1 e2;cases e1);(rename_i e1 e2;cases e1);(rename_i i2 ver k j I J;cases J;exact fip ho R h2 e1 e7 q1 0 _ _ (λn hn=>⟨Nat.zero_le _,hn.2⟩) (.inr ⟨yh,k,j,U,oN rh,λn hn=>hn.1,rfl⟩) (.inl ⟨hlo,rfl⟩) C);(rename_i e1 e2;cases e1);·exact C.elim);·rcases Q6 R q3 with⟨U,C⟩|⟨yh,sh,U,rh,C⟩;(split at C;(rename_i xs k j I J;cases I;obtain⟨⟨hj,hjl,hlen⟩,C⟩:=C;exact fin ho R h2 e1 e7 q1 hlen j.toNat xs.length hjl (qg _) (.inl ⟨U,rfl⟩) (.inr ⟨yl,k,j,hlo,oN rl,hj,rfl⟩) (by simpa using C));(rename_i e1 e2;cases e2);(rename_i e1 e2;cases e2);(rename_i i2 ver k j I J;cases I;exact fip ho R h2 e1 e7 q1 j.toNat _ _ (λn hn=>⟨hn.2,qg _⟩) (.inl ⟨U,rfl⟩) (.inr ⟨yl,k,j,hlo,oN rl,λn hn=>hn.1,rfl⟩) C);(rename_i e1 e2;cases e2);(rename_i e1 e2;cases e2);·exact C.elim);·split at C;(rename_i e1 e2;cases e2);(rename_i e1 e2;cases e1);(rename_i xs k i k' j I J;cases I;cases J;obtain⟨⟨hi0,hij,hjl,hlen⟩,C⟩:=C;exact fin ho R h2 e1 e7 q1 hlen i.toNat j.toNat wg hjl (.inr ⟨yh,k',j,U,oN rh,wg,rfl⟩) (.inr ⟨yl,k,i,hlo,oN rl,hi0,rfl⟩) C);(rename_i e1 e2;cases e2);(rename_i e1 e2;cases e1);(rename_i i2 ver k i k' j I J;cases I;cases J;exact fip ho R h2 e1 e7 q1 i.toNat _ _ (λn hn=>⟨by have:=hn.1;have:=hn.2.1;omega,hn.2.2⟩) (.inr ⟨yh,k',j,U,oN rh,λn hn=>by have:=hn.1;have:=hn.2.1;omega,rfl⟩) (.inr ⟨yl,k,i,hlo,oN rl,λn hn=>hn.1,rfl⟩) C);·exact C.elim);·exact h.elim);·exact h.elim
end
section
variable {P:Program}{base N:Nat}{w0:W0}{w:World}{g:Gh}{s:St}{a:Act}{K:St->Prop}{Q:Exit->Act->World->Prop}{o:Oper}
theorem Inv.Z8{h:Heap}(I:Inv base g h w []){b:Nat}(J:base<=b)(hb:b<w.heap.size)(hf:Hc g h b):Inv base { g with S:=λx=>g.S x\/x=b } h w []/\mA g { g with S:=λx=>g.S x\/x=b } h h w w:=by
 have T:mA g { g with S:=λx=>g.S x\/x=b } h h w w:=
  ⟨λ_ x=>.inl x,λ_ _=>rfl,λ_=>qg _,λi e sz xs dp _ hr=>⟨rfl,xs,dp,hr⟩,λi t cs _ C=>⟨rfl,cs,C⟩,rfl⟩
 refine⟨⟨I.base_le,λx C U=>C.elim (λy=>I.S_old x y U) (λy=>absurd J wg),?_,λj=>DQ.turn T rfl rfl (λ_ _=>rfl) (I.obj j),?_,I.inj,I.dis,Ck.nil _ _,wb,λ_ _ _ _=>by simp,I.fb⟩,T⟩
 ·rintro x (C|rfl);(exact I.S_lt x C);·exact hb
 ·rintro j x hl C (hS|rfl);(exact I.mtb j x hl C hS);·exact hf.2 j hl C
theorem MQ{w:World}:∀(l:List UInt8),bC w (E1 l) (l.map λb=>Value.int .u8 (b.toNat:Int)) []
 |[]=>by simp[E1,bC]
 |b::l=>by have j:=MQ (w:=w) l;simp only[E1,jJ,bC];refine⟨[.int .u8 b.toNat],_,[],[],rfl,rfl,?_,j⟩;simp only[aM];exact⟨_,[],[],[],rfl,rfl,wW,rfl,rfl⟩
theorem QD{w:World}:∀{xs:List (List D)} {cells:List Value} {G:List Nat},(∀x∈xs,∃b:UInt8,x=[.int .u8 (b.toNat:Int)])->bC w xs cells G->cells=(xs.map byteOf).map (λb=>Value.int .u8 (b.toNat:Int))
 |[],cells,G,_,h=>by simp only[bC]at h;simp[h.1]
 |x::xs,cells,G,j,h=>by simp only[bC]at h;obtain⟨v1,v2,U,F2,rfl,rfl,h3,h4⟩:=h;obtain⟨b,rfl⟩:=j x wb;have I:=QD (λy C=>j y (by simp[C])) h4;simp only[aM,Rep]at h3;obtain⟨v,J,_,_,rfl,_,⟨rfl,_⟩,rfl,_⟩:=h3;rw[I];simp[byteOf]
theorem QN{src C e:TypeId}{ad:Option Addr}{n c:Nat}{xs:List (List D)}(U:P.underlying src=some (.slice e))(he:P.underlying e=some (.int .u8))(J:P.underlying C=some .string)(hn:n=xs.length)
  (hb:∀x∈xs,∃b:UInt8,x=[.int .u8 (b.toNat:Int)])(h:n=0 \/∃I off cells G,ad=some ⟨I,off,none⟩/\Ee w I off cells/\bC w xs cells G)(h0:n=0->ad=none \/∃a,ad=some a):
  (convert src C (.slice ad n c)).run P w=.ok (.string (strOf xs)) w:=by
 rcases Nat.eq_zero_or_pos n with hz|hz
 ·have hx:xs=[]:=ql wg
  subst hx hz
  rw[run_convert_bytes_string w src C e ad 0 c U he J]
  cases ad with
  |none=>simp[Conv.bytesToString,strOf];rfl
  |some a=>
   have:=run_bytesToString (P:=P) w a 0 c [] (by simp[loadCells,loadCellsFrom])
   simp[strOf]at this⊢;exact this
 ·rcases h with h|⟨I,off,cells,G,rfl,hl,hr⟩
  ·omega
  ·have hc:=QD hb hr
   have hlen:n=(xs.map byteOf).length:=by simp[hn]
   rw[hlen]
   have:=run_convert_bytes_back (P:=P) w src C e ⟨I,off,none⟩ c (xs.map byteOf) U he J (λj hj=>by rw[Addr.add_lit];refine hl j _ ?_;rw[hc,List.getElem?_map,qF hj];rfl)
   exact this
theorem Ub{t u:TypeId}{x:Operand}(ho:o.op=.convert t u x)(R:nV P base w0 N g s a w [])(h:ex P (CN (fM P) N o) s K):o.wp P a w (Aft P base w0 N K) Q:=by
 simp only[CN,ho]at h
 split at h
 ·rename_i ti k sz0 by0 z0 cm0 sl0 hti hti';obtain⟨i,d,z,h1,h2,h3,h4,_⟩:=(eH hti).ok;obtain⟨i',d',z',h1',I,h3',U,_⟩:=(eH hti').ok;obtain rfl:=XC U;obtain⟨sx,q1,C⟩:=cN R h;split at C;(rename_i k' n;refine Ap R C (v:=.int k (k.wrap n)) ?_ Es;simp[execOp,ho,oN q1,convert,run_underlying h2,run_underlying I,Conv.intToInt]);·exact C.elim
 ·rename_i sz0 by0 z0 cm0 sl0 e sz1 by1 z1 cm1 sl1 hti hti'
  obtain⟨i,d,z,h1,h2,h3,h4,_⟩:=(eH hti).ok
  obtain⟨i',d',z',h1',I,h3',U,_⟩:=(eH hti').ok
  obtain rfl:=S5 h4
  obtain rfl:=EL U
  split at h
  ·rename_i sz2 by2 z2 cm2 sl2 hte
   obtain⟨ie,de,ze,e1,e2,e3,e4,_⟩:=(eH hte).ok
   obtain rfl:=XC e4
   obtain⟨sx,q1,C⟩:=cN R h
   split at C
   ·rename_i b
    have hrun:=run_bytes_of_string (P:=P) w t u e b h2 I e2
    generalize J:(w.drew.alloc (.cells (bytesRow b (grownCap w b.size 0 e)) e ((bytesRow b (grownCap w b.size 0 e)).size,(bytesRow b (grownCap w b.size 0 e)).size+1)))=w' at hrun
    have hsz:w'.heap.size=w.heap.size+1:=by rw[<-J];simp
    have hbl:∀k,k<w.heap.size->w'.heap[k]? =w.heap[k]? :=λk hk=>by rw[<-J];exact Below.heap_alloc w.drew _ k hk
    have hnew:w'.heap[w.heap.size]? =some (.cells (bytesRow b (grownCap w b.size 0 e)) e ((bytesRow b (grownCap w b.size 0 e)).size,(bytesRow b (grownCap w b.size 0 e)).size+1)):=by rw[<-J];exact heap_alloc_new w.drew _
    have I1:=R.inv.grow (w':=w') wg hbl
    have T1:mA g g s.h s.h w w':=mA.grow R.inv.S_lt hbl
    have hfree:Hc g s.h w.heap.size:=⟨λhS=>absurd (R.inv.S_lt _ hS) wg,λj hl hb=>absurd (R.inv.H5 hl hb).2.lt wg⟩
    obtain⟨I2,T2⟩:=I1.Z8 (b:=w.heap.size) R.inv.base_le wg hfree
    have R2:nV P base w0 N _ s a w' []:=R.turn (T1.trans T2) rfl (R.bel ⟨by rw[<-J];rfl,by rw[<-J];rfl,by rw[<-J];rfl,wg,λk hk=>hbl k (qw hk R.inv.base_le)⟩) I2
    have hv:yM { g with S:=λx=>g.S x\/x=w.heap.size } s.h w' (one (.sl (E1 b.data.toList))) (.slice (some ⟨w.heap.size,0,none⟩) b.size (grownCap w b.size 0 e)):=by
     refine⟨_,[],rfl,⟨if b.size=0 then[]else[w.heap.size],?_,?_⟩,rfl⟩
     ·simp only[Rep]
      refine⟨_,_,_,rfl,by simp[E1],grownCap_ge w b.size 0 e,?_⟩
      by_cases h0:b.size=0
      ·rw[jF h0];exact .inl ⟨h0,rfl⟩
      ·rw[jG h0]
       refine .inr ⟨w.heap.size,0,b.data.toList.map (λc=>Value.int .u8 (c.toNat:Int)),1,[],rfl,wg,rfl,?_,wb,?_,MQ _⟩
       ·intro j v hj
        rw[qp,cell_of_row w' _ _ _ _ _ hnew]
        unfold bytesRow
        rw[List.getElem?_map]at hj
        have hjl:j<b.data.size:=by rcases jS j b.data.size with hh|hh;(exact hh);·rw[qZ (by simpa using hh)]at hj;simp at hj
        rw[Array.getElem?_append_left (by simpa using hjl)]
        simpa using hj
       ·intro y hy;unfold E1 at hy;obtain⟨c,_,rfl⟩:=qx.1 hy;rfl
     ·intro y hy;split at hy;(simp at hy);·simp at hy;exact .inr hy
    obtain⟨s2,m1,m2⟩:=Eo R2 hv C
    refine FN (v:=.slice (some ⟨w.heap.size,0,none⟩) b.size (grownCap w b.size 0 e)) (w':=w') ?_ ⟨s2,m1,_,m2⟩
    simp only[execOp,ho,Jb q1,qs,hrun,qi,qu]
   ·exact C.elim
  ·exact h.elim
 ·rename_i e sz0 by0 z0 cm0 sl0 sz1 by1 z1 cm1 sl1 hti hti';obtain⟨i,d,z,h1,h2,h3,h4,_⟩:=(eH hti).ok;obtain⟨i',d',z',h1',I,h3',U,_⟩:=(eH hti').ok;obtain rfl:=EL h4;obtain rfl:=S5 U;split at h;(rename_i sz2 by2 z2 cm2 sl2 hte;obtain⟨ie,de,ze,e1,e2,e3,e4,_⟩:=(eH hte).ok;obtain rfl:=XC e4;obtain⟨sx,q1,C⟩:=cN R h;split at C;(rename_i xs;obtain⟨hb,C⟩:=C;obtain⟨ad,n,c,k1,k2,k3,k4⟩:=Oy q1;refine Ap R C (v:=.string (strOf xs)) ?_ RS;have hrun:=QN (P:=P) (w:=w) (c:=c) (ad:=ad) h2 e2 I k2 hb (by rcases k4 with k4|⟨bb,off,cells,sz,G,m1,m2,m3,m4,m5,m6,m7,m8⟩;(exact .inl k4);·exact .inr ⟨bb,off,cells,G,m1,m4,m7⟩) (λ_=>by cases ad<;>simp);simp only[execOp,ho,k1,qs,hrun,qi,qu]);(refine Ap R C (v:=.string ByteArray.empty) ?_ RS;have hx:a.eval x=.slice none 0 0:=eZ q1;simp only[execOp,ho,hx,qs,run_convert_bytes_string w t u e none 0 0 h2 e2 I,Conv.bytesToString,qi,qu]);(rename_i j ver;obtain⟨hone,hle,hcap⟩:=eZ q1;simp only[ex]at C;split at C;(rename_i e' sz' xs dp hh;split at C;(rename_i hc;obtain⟨hb,C⟩:=C;have hval:=hcap hc _ _ _ _ hh;obtain⟨F,hr⟩:=Js R.inv hh;simp only[Rep]at hr;obtain⟨ad,n,c,k1,k2,k3,k4⟩:=hr;refine Ap R C (v:=.string (strOf xs)) ?_ RS;have hrun:=QN (P:=P) (w:=w) (c:=c) (ad:=ad) h2 e2 I k2 hb (by rcases k4 with⟨k4,_⟩|⟨bb,off,cells,sz,G,m1,m2,m3,m4,m5,m6,m7⟩;(exact .inl k4);·exact .inr ⟨bb,off,cells,G,m1,m4,m7⟩) (λ_=>by cases ad<;>simp);simp only[execOp,ho,hval,k1,qs,hrun,qi,qu]);·exact C.elim);·exact C.elim);·exact C.elim);·exact h.elim
 ·exact h.elim
theorem S0{x:Operand}(J:o.op=.nilCheck x)(R:nV P base w0 N g s a w [])(h:ex P (CN (fM P) N o) s K):o.wp P a w (Aft P base w0 N K) Q:=by simp only[CN,J]at h;obtain⟨sx,I,C⟩:=cN R h;split at C;(rename_i i ver U;obtain⟨hone,hle,hcap⟩:=eZ I;simp only[ex]at C;split at C;(rename_i t' cs' e2;split at C;(rename_i e1;obtain⟨b,e3,e4⟩:=hcap e1 t' cs' e2;exact Ap R C (v:=a.eval x) (by simp[execOp,J,e4]) I);·exact C.elim);·exact C.elim);(rename_i i ver j U;obtain⟨hone,hle,hcap⟩:=eZ I;simp only[ex]at C;split at C;(rename_i e sz' xs dp e2;split at C;(rename_i e1;obtain⟨b,n,c,e3,e4⟩:=hcap e1 _ _ _ _ e2;exact Ap R C (v:=a.eval x) (by simp[execOp,J,e4]) I);·exact C.elim);·exact C.elim);(rename_i ds;obtain⟨b,U,cells,F,e1,_⟩:=UX I;exact Ap R C (v:=a.eval x) (by simp[execOp,J,e1]) I);(rename_i f ds;obtain⟨F,r1,r2⟩:=eZ I;simp only[Rep]at r1;obtain⟨cv,r3,r4⟩:=r1;exact Ap R C (v:=a.eval x) (by simp[execOp,J,r3]) I);(rename_i f cs;obtain⟨cv,r3,r4⟩:=eZ I;exact Ap R C (v:=a.eval x) (by simp[execOp,J,r3]) I);·exact C.elim
theorem aCo{as:Array Operand}{ts:Array TypeId}(ho:o.op=.call { callee:=.builtin .min,args:=as,argTypes:=ts })(R:nV P base w0 N g s a w [])(h:ex P (CN (fM P) N o) s K):o.wp P a w (Aft P base w0 N K) Q:=by simp only[CN,ho]at h;split at h;(rename_i x y hx;have hx:=Z6 hx;subst hx;obtain⟨sx,q1,q2⟩:=cN R h;obtain⟨sy,q3,q4⟩:=cN R q2;split at q4;(rename_i k m k' n;refine Ap R q4 (v:=.int k (if n<m then n else m)) ?_ Es;simp[execOp,ho,resolve,invoke,builtin,Builtin.min_,Builtin.min2,oN q1,oN q3]);·exact q4.elim);·exact h.elim
theorem aCX{as:Array Operand}{ts:Array TypeId}(ho:o.op=.call { callee:=.builtin .max,args:=as,argTypes:=ts })(R:nV P base w0 N g s a w [])(h:ex P (CN (fM P) N o) s K):o.wp P a w (Aft P base w0 N K) Q:=by simp only[CN,ho]at h;split at h;(rename_i x y hx;have hx:=Z6 hx;subst hx;obtain⟨sx,q1,q2⟩:=cN R h;obtain⟨sy,q3,q4⟩:=cN R q2;split at q4;(rename_i k m k' n;refine Ap R q4 (v:=.int k (if n>m then n else m)) ?_ Es;simp[execOp,ho,resolve,invoke,builtin,Builtin.max_,Builtin.max2,oN q1,oN q3]);·exact q4.elim);(rename_i x y z hx;have hx:=aFA hx;subst hx;obtain⟨sx,q1,q2⟩:=cN R h;obtain⟨sy,q3,q4⟩:=cN R q2;obtain⟨sz,q5,q6⟩:=cN R q4;split at q6;(rename_i k m k' n k'' q;refine Ap R q6 (v:=.int k (if q>(if n>m then n else m)then q else if n>m then n else m)) ?_ Es;simp[execOp,ho,resolve,invoke,builtin,Builtin.max_,Builtin.max2,oN q1,oN q3,oN q5]);·exact q6.elim);·exact h.elim
theorem Qf(R:nV P base w0 N g s a w []):∀{xs:List Operand} {k:List (Nat×Nat×Nat)->Prog},ex P (QP xs k) s K->∃j,FZ g s.h j (xs.map a.eval)/\ex P (k j) s K
 |[],k,h=>⟨[],rfl,h⟩
 |x::xs,k,h=>by obtain⟨U,h1,h2⟩:=cN R h;split at h2;(rename_i i ver C;obtain⟨_,hc⟩:=eZ h1;obtain⟨j,I,J⟩:=Qf R h2;exact⟨(i,ver,C)::j,⟨a.eval x,xs.map a.eval,rfl,hc,I⟩,J⟩);·exact h2.elim
theorem SL{f:FuncId}{first captured:Array Operand}(J:o.op=.makeFunc (.func f) first captured)(R:nV P base w0 N g s a w [])(h:ex P (CN (fM P) N o) s K):o.wp P a w (Aft P base w0 N K) Q:=by
 simp only[CN,J]at h
 split at h
 ·rename_i C
  have C:first= #[]:=Array.eq_empty_of_size_eq_zero C
  subst C
  obtain⟨I,U,k2⟩:=Qf R h
  have hrun:(execOp a.eval o).run P w=.ok (.value (.func (.func f) #[] (captured.map a.eval))) w:=by simp[execOp,J,Instr.makeFunc]
  refine Ap R k2 hrun ⟨_,[],rfl,?_,rfl⟩
  have j:captured.map a.eval=(captured.toList.map a.eval).toArray:=by rw[<-Array.toList_map,Array.toArray_toList]
  cases I with
  |nil=>
   refine⟨[],?_,wb⟩
   simp only[Rep]
   have:captured.toList.map a.eval=[]:=U
   exact⟨[],by rw[j,this],wK⟩
  |cons c I=>exact⟨_,by rw[j],U⟩
 ·exact h.elim
theorem Qi:∀{xs:List (Bool×List SC)} {vs:List Value},Gg g s.h w xs vs->∀{i:Nat} {x:Bool×List SC},xs[i]? =some x->∃v,vs[i]? =some v/\JB g s.h w x v
 |[],vs,h,i,x,j=>by simp at j
 |y::xs,vs,h,i,x,j=>by
  obtain⟨v,J,rfl,h1,h2⟩:=h
  cases i with
  |zero=>simp at j;subst j;exact⟨v,wb,h1⟩
  |succ i=>simp at j;obtain⟨u,C,I⟩:=Qi h2 j;exact⟨u,by simpa using C,I⟩
theorem Ua{x:Operand}{i:Nat}(C:o.op=.extract x i)(R:nV P base w0 N g s a w [])(h:ex P (CN (fM P) N o) s K):o.wp P a w (Aft P base w0 N K) Q:=by
 simp only[CN,C]at h
 obtain⟨sx,q1,j⟩:=cN R h
 split at j
 ·rename_i vs
  split at j
  ·rename_i ag cs I
   obtain⟨us,J,U⟩:=q1
   obtain⟨v,k3,k4⟩:=Qi U I
   refine Ap R j (v:=v) ?_ k4
   have:us[i]? =some v:=by simpa using k3
   simp[execOp,C,J,Instr.extract,this]
  ·exact j.elim
 ·exact j.elim
theorem IE {f:FuncId} (hb:Ms P f) (args:Array Value) (w:World):(callFunc f args).run P w = .ok (.enter f args) w:=by
 obtain ⟨fn,c,h1,h2,h3⟩:=hb
 have h3' : ¬ fn.name = "runtime.NumGoroutine" := by simpa using h3
 simp [callFunc,h1,h2,h3']
theorem Kf{w:World}:∀{vs j:List Value} {xs ys:List (Bool×List D)} {F G:List Nat},AU w vs xs F->AU w j ys G->AU w (vs++j) (xs++ys) (F++G)
 |[],j,[],ys,F,G,e,h=>by rw[show F=[]from e];exact h
 |v::vs,j,x::xs,ys,F,G,⟨C,I,e,h1,h2⟩,h=>⟨C,I++G,by rw[e,qT],h1,Kf h2 h⟩
theorem Nh{w:World}:∀{ds:List D} {vs:List Value} {F:List Nat},aM w ds vs F->AU w vs (ds.map λc=>(false,[c])) F
 |[],vs,F,h=>by simp only[aM]at h;rw[h.1,h.2];rfl
 |d::ds,vs,F,h=>by simp only[aM]at h;obtain⟨v,I,j,C,rfl,rfl,h3,h4⟩:=h;exact⟨j,C,rfl,⟨d,rfl,h3⟩,Nh h4⟩
theorem Wq{t:Nat}{as:Array Operand}{ts:Array TypeId}(ho:o.op=.call { callee:=.value (.tmp t),args:=as,argTypes:=ts })(R:nV P base w0 N g s a w [])(h:ex P (CN (fM P) N o) s K):o.wp P a w (Aft P base w0 N K) Q:=by
 simp only[CN,ho]at h
 obtain⟨avs,Fa,k1,k2⟩:=Gv R h
 simp only[ex]at k2
 have hfn:=R.tmp t
 have fin:∀{f:FuncId} {caps:List Value} {ds:List D} {F:List Nat},a.tmps.getD t undef=.func (.func f) #[] caps.toArray->aM w ds caps F->ex P (Prog.call f (avs++ds.map λc=>(false,[c])) λrs=>if CM rs=true then .fail else EF N o.dst rs) s K->o.wp P a w (Aft P base w0 N K) Q:=by
  rintro f caps ds F hf hr ⟨rs,hs,hk⟩
  unfold Oper.wp
  have hf':a.tmps[t]?.getD undef=.func (.func f) #[] caps.toArray:=by simpa using hf
  have hrun:(execOp a.eval o).run P w=.ok (.enter f (as.map a.eval++caps.toArray)) w:=by simp[execOp,ho,resolve,Act.eval,hf',Deferred.ofValue,invoke,IE hs.body]
  rw[hrun]
  unfold Oper.upon
  dsimp only at hk
  split at hk
  ·exact hk.elim
  ·rename_i han
   refine Rm (Fa:=Fa++F) R ?_ (λhh=>absurd hh han) (hs.old (by simpa using han)) hk λv w' hh=>hh
   simpa using Kf k1 (Nh hr)
 split at k2
 ·rename_i f caps hv;rw[hv]at hfn;obtain⟨F,r1,r2⟩:=eZ hfn;simp only[Rep]at r1;obtain⟨cv,r3,r4⟩:=r1;exact fin r3 r4 k2
 ·rename_i f caps hv;rw[hv]at hfn;obtain⟨cv,r3,r4⟩:=eZ hfn;obtain⟨ds,F,r5,r6⟩:=IP R.inv r4 k2;exact fin r3 r5 r6
 ·exact k2.elim
end
open Go.Lib
section
variable {P:Program}{base N:Nat}{w0:W0}{w:World}{g:Gh}{s:St}{a:Act}{K:St->Prop}{Q:Exit->Act->World->Prop}{o:Oper}{pool:List Nat}
theorem St.aJr{s τ:St}(h1:s.t=τ.t)(h2:s.h=τ.h)(h3:s.fr=τ.fr:=by rfl):s=τ:=by cases s;cases τ;simp at h1 h2 h3;rw[h1,h2,h3]
theorem Inv.aEC{h:Heap}{w':World}(I:Inv base g h w pool)(hs:w.heap.size<=w'.heap.size)(hb:∀b,b<w.heap.size->¬Hc g h b->w'.heap[b]? =w.heap[b]?):Inv base g h w' pool/\mA g g h h w w':=by
 have U:∀b,g.S b->w'.heap[b]? =w.heap[b]? :=λb x=>hb b (I.S_lt b x) λJ=>J.1 x
 have T:mA g g h h w w':=⟨λ_ x=>x,U,λ_=>qg _,λi e sz xs dp _ hr=>⟨rfl,xs,dp,hr⟩,λi t cs _ hx=>⟨rfl,cs,hx⟩,rfl⟩
 refine⟨⟨qh I.base_le hs,I.S_old,λb x=>qw (I.S_lt b x) hs,λi=> ?_,I.mtb,I.inj,I.dis,I.pool_own.B8 λb x=>U b (I.pool_S b x),I.pool_S,I.pool_dis,I.fb⟩,T⟩
 by_cases hl:live h i
 ·exact DQ.turn T rfl rfl (λb C=>hb b (I.H5 hl C).2.lt λJ=>J.2 i hl C) (I.obj i)
 ·unfold live at hl
  have:(h i).2=.none:=by
   cases hh:(h i).2 with
   |none=>rfl
   |box t c=>exact absurd (by rw[hh];simp) hl
   |row e z x d=>exact absurd (by rw[hh];simp) hl
   |pin j v u=>exact absurd (by rw[hh];simp) hl
  rw[this];trivial
theorem Inv.FM{h:Heap}(I:Inv base g h w pool){i:Nat}{e:TypeId}{sz:Nat}{xs:List (List D)}{dp:Bool}(hi:(h i).2=.row e sz xs dp):
  Inv base g (pZ h i ((h i).1,.none)) w (if dp then pool++g.fp i else pool)/\(∀b,Ds (g.val i)=some b->Hc g (pZ h i ((h i).1,.none)) b):=by
 have hlive:live h i:=by unfold live;rw[hi];simp
 have hfree:∀b,Ds (g.val i)=some b->Hc g (pZ h i ((h i).1,.none)) b:=by intro b hb;refine⟨I.mtb i b hlive hb,λj hl C=> ?_⟩;obtain⟨U,hl⟩:=Ci hl;exact I.inj j i b U hl hlive C hb
 have J:=I.drop i
 cases dp with
 |false=>exact⟨J,hfree⟩
 |true=>
  refine⟨?_,hfree⟩
  have ho:=I.obj i
  rw[hi]at ho
  obtain⟨cells,h1,h2,h3,h4,h5⟩:=ho
  have hown:=h5 rfl
  have hdi:kB h i:=⟨e,sz,xs,hi⟩
  refine⟨J.base_le,J.S_old,J.S_lt,J.obj,J.mtb,J.inj,J.dis,⟨?_,?_⟩,?_,?_,I.fb⟩
  ·simp only[jI];rw[qt];exact⟨I.pool_own.1,hown.1,by rintro x hx y hy rfl;exact I.pool_dis i hdi _ hy hx⟩
  ·simp only[jI];intro b hb;rcases qP.1 hb with hb|hb;(exact I.pool_own.2 b hb);·exact hown.2 b hb
  ·simp only[jI];intro b hb;rcases qP.1 hb with hb|hb;(exact I.pool_S b hb);·exact h4 b hb
  ·simp only[jI];intro j hd b hb C;obtain⟨U,hd⟩:=De hd;rcases qP.1 C with C|C;(exact I.pool_dis j hd b hb C);·exact I.dis j i U hd hdi b hb C
theorem Inv.Hd{h:Heap}{w':World}(I:Inv base g h w pool){i b:Nat}{o':E7}{F:List Nat}{pool':List Nat}(hl:live h i)(hv:Ds (g.val i)=some b)
  (hs:w'.heap.size=w.heap.size)(hb:∀k,k≠b->w'.heap[k]? =w.heap[k]?)
  (T:mA g { g with fp:=Iw g.fp i F } h (pZ h i ((h i).1,o')) w w')
  (ho:DQ base { g with fp:=Iw g.fp i F } (pZ h i ((h i).1,o')) w' i o')(hpl:∀x∈pool',x∈pool)(hpn:pool'.Nodup)
  (hd:(∃e sz xs,o'=.row e sz xs true)->∀x∈F,(x∈pool\/(kB h i/\x∈g.fp i))/\x∉pool'):
  Inv base { g with fp:=Iw g.fp i F } (pZ h i ((h i).1,o')) w' pool':=by
 have hnS:¬g.S b:=I.mtb i b hl hv
 have lv:∀j,live (pZ h i ((h i).1,o')) j->live h j:=by intro j hj;rcases HT hj with rfl|⟨_,hj⟩;(exact hl);·exact hj
 have hdi:kB (pZ h i ((h i).1,o')) i->∃e sz xs,o'=.row e sz xs true:=by rintro⟨e,sz,xs,hh⟩;rw[bR]at hh;exact⟨e,sz,xs,hh⟩
 refine⟨by rw[hs];exact I.base_le,I.S_old,λk x=>by rw[hs];exact I.S_lt k x,λj=> ?_,λj k hj hk=>I.mtb j k (lv j hj) hk,λj k x hne hj hk=>I.inj j k x hne (lv j hj) (lv k hk),λj k hne hj hk x hx hx'=> ?_,
  ⟨hpn,λx hx=>⟨(I.pool_own.2 x (hpl x hx)).1,(I.pool_own.2 x (hpl x hx)).2.B8 (hb x λe=>hnS (e ▸ I.pool_S x (hpl x hx)))⟩⟩,λx hx=>I.pool_S x (hpl x hx),λj hj x hx hx'=> ?_,I.fb⟩
 ·by_cases hj:j=i
  ·subst hj;rw[bR];exact ho
  ·rw[eE _ _ _ _ hj]
   by_cases hlj:live h j
   ·refine DQ.turn T rfl (Ex _ _ _ _ hj) (λk hk=>hb k λe=> ?_) (I.obj j);subst e;exact I.inj j i k hj hlj hl hk hv
   ·unfold live at hlj
    have:(h j).2=.none:=by
     cases hh:(h j).2 with
     |none=>rfl
     |box t c=>exact absurd (by rw[hh];simp) hlj
     |row e z x d=>exact absurd (by rw[hh];simp) hlj
     |pin j v u=>exact absurd (by rw[hh];simp) hlj
    rw[this];trivial
 ·have hin:∀j',kB h j'->∀y∈g.fp j',y∉pool:=I.pool_dis
  rcases Gx hj with rfl|⟨hj',hjd⟩
  ·rcases Gx hk with rfl|⟨hk',hkd⟩
   ·exact hne rfl
   ·have hx1:x∈F:=by simpa[eM]using hx
    have hx2:x∈g.fp k:=by simpa[Ex _ _ _ _ hk']using hx'
    rcases(hd (hdi hj) x hx1).1 with hp|⟨hdj,hp⟩
    ·exact hin k hkd x hx2 hp
    ·exact I.dis j k hne hdj hkd x hp hx2
  ·have hx1:x∈g.fp j:=by simpa[Ex _ _ _ _ hj']using hx
   rcases Gx hk with rfl|⟨hk',hkd⟩
   ·have hx2:x∈F:=by simpa[eM]using hx'
    rcases(hd (hdi hk) x hx2).1 with hp|⟨hdk,hp⟩
    ·exact hin j hjd x hx1 hp
    ·exact I.dis j k hne hjd hdk x hx1 hp
   ·have hx2:x∈g.fp k:=by simpa[Ex _ _ _ _ hk']using hx'
    exact I.dis j k hne hjd hkd x hx1 hx2
 ·rcases Gx hj with rfl|⟨hj',hjd⟩
  ·have hx1:x∈F:=by simpa[eM]using hx
   exact(hd (hdi hj) x hx1).2 hx'
  ·have hx1:x∈g.fp j:=by simpa[Ex _ _ _ _ hj']using hx
   exact I.pool_dis j hjd x hx1 (hpl x hx')
theorem mA.Hd{h:Heap}{w':World}{i b:Nat}{o':E7}{F:List Nat}(hnS:¬g.S b)(hb:∀k,k≠b->w'.heap[k]? =w.heap[k]?)
  (hr:∀e sz xs dp,o'=.row e sz xs dp->∃xs0 dp0,(h i).2=.row e sz xs0 dp0)(hx:∀t cs,o'=.box t cs->∃U,(h i).2=.box t U):
  mA g { g with fp:=Iw g.fp i F } h (pZ h i ((h i).1,o')) w w':=by
 refine⟨λ_ x=>x,λk x=>hb k λe=>hnS (e ▸ x),λj=> ?_,λj e sz xs dp J C=> ?_,λj t cs J I=> ?_,rfl⟩
 ·by_cases J:j=i;(subst J;rw[bR];exact qg _);·rw[eE _ _ _ _ J];exact qg _
 ·by_cases hji:j=i;(subst hji;rw[bR]at C;exact⟨rfl,hr _ _ _ _ C⟩);·rw[eE _ _ _ _ hji]at C;exact⟨rfl,xs,dp,C⟩
 ·by_cases hji:j=i;(subst hji;rw[bR]at I;exact⟨rfl,hx _ _ I⟩);·rw[eE _ _ _ _ hji]at I;exact⟨rfl,cs,I⟩
theorem M4:∀{xs:List (List D)} {vs:List Value} {G:List Nat},bC w xs vs G->xs.all (λy=>y.all D.flat)=true->G=[]
 |[],vs,G,h,_=>by simp only[bC]at h;exact h.2
 |x::xs,vs,G,h,j=>by
  simp only[bC]at h
  obtain⟨v1,v2,I,J,rfl,rfl,h3,h4⟩:=h
  simp only[List.all_cons,qM]at j
  rw[M4 h4 j.2]
  have:∀{ds:List D} {C:List Value} {F:List Nat},aM w ds C F->ds.all D.flat=true->F=[]:=by
   intro ds
   induction ds with
   |nil=>intro C F h _;simp only[aM]at h;exact h.2
   |cons d ds U=>
    intro C F h j
    simp only[aM]at h
    obtain⟨v,vs',I,J,rfl,rfl,h3,h4⟩:=h
    simp only[List.all_cons,qM]at j
    rw[Mg h3 j.1,U h4 j.2];rfl
  rw[this h3 j.1];rfl
theorem KP{w:World}{sz:Nat}:∀{n:Nat} {vs:List Value},vs.length=n*sz->(∀u∈vs,u.oneCell'=true)->bC w (List.replicate n (List.replicate sz .opq)) vs []
 |0,vs,h,_=>by simp only[List.replicate_zero,bC];exact⟨ql wg,trivial⟩
 |n+1,vs,h,h1=>by
  have hc:∀{m:Nat} {j:List Value},j.length=m->(∀u∈j,u.oneCell'=true)->aM w (List.replicate m .opq) j []:=by
   intro m
   induction m with
   |zero=>intro j I _;simp only[List.replicate_zero,aM];exact⟨ql I,trivial⟩
   |succ m U=>
    intro j I C
    cases j with
    |nil=>simp at I
    |cons u j=>
     simp only[List.replicate_succ,aM]
     refine⟨u,j,[],[],rfl,rfl,?_,U (by simpa using I) λx J=>C x (by simp[J])⟩
     simp only[Rep];exact⟨C u wb,trivial⟩
  have I:(n+1)*sz=n*sz+sz:=Nat.succ_mul _ _
  simp only[List.replicate_succ,bC]
  exact⟨vs.take sz,vs.drop sz,[],[],(qo sz vs).symm,rfl,hc wO λu C=>h1 u (qk C),KP wQ λu C=>h1 u (qv C)⟩
theorem VU(n sz:Nat):∀x∈List.replicate n (List.replicate sz D.opq),x.all D.flat=true:=by intro x C;rw[(List.mem_replicate.1 C).2,qR];intro d j;rw[(List.mem_replicate.1 j).2];rfl
theorem dR.aE1{L:TL}{e:TypeId}{ys:List (List D)}{vs:List Value}{G:List Nat}(h:bC w ys vs G):dR L (ys.all λy=>y.all D.flat) w e ys vs G:=by
 cases hb:(ys.all λy=>y.all D.flat)with
 |true=>exact dR.flat h (qR.1 hb)
 |false=>exact h
theorem W6{l:List UInt8}:∀x∈E1 l,x.all D.flat=true:=by intro x j;obtain⟨b,_,rfl⟩:=qx.1 j;rfl
theorem Inv.aF1{h:Heap}(I:Inv base g h w pool){i:Nat}{e:TypeId}{sz:Nat}{xs J:List (List D)}{dp:Bool}{cells:List Value}{F pool':List Nat}(hi:(h i).2=.row e sz xs dp)(ho:w.ownsRow base e sz (g.val i) J.length cells)
  (hx:∀x∈J,x.length=sz)(hr:dR g.Q.L dp w e J cells F)(hF:∀b∈F,b∈g.fp i)(hFn:dp=true->F.Nodup)(hp:∀b∈pool',b∈pool\/(dp=true/\b∈g.fp i/\b∉F))(hpn:pool'.Nodup):
  Inv base (PZ g i (g.val i) F) (pZ h i ((h i).1,.row e sz J dp)) w pool'/\mA g (PZ g i (g.val i) F) h (pZ h i ((h i).1,.row e sz J dp)) w w:=by
 have hlive:live h i:=by unfold live;rw[hi];simp
 have hob:=I.obj i
 rw[hi]at hob
 obtain⟨cells0,p1,p2,p3,p4,p5⟩:=hob
 have vv:∀j,(PZ g i (g.val i) F).val j=g.val j:=λj=>by by_cases C:j=i;(subst C;exact eM _ _ _);·exact Ex _ _ _ _ C
 have fi:(PZ g i (g.val i) F).fp i=F:=eM _ _ _
 have fn:∀j,j≠i->(PZ g i (g.val i) F).fp j=g.fp j:=λj C=>Ex _ _ _ _ C
 have T:mA g (PZ g i (g.val i) F) h (pZ h i ((h i).1,.row e sz J dp)) w w:=by refine⟨λ_ x=>x,λ_ _=>rfl,λj=> ?_,λj e' sz' ys dp' _ C=> ?_,λj t cs _ C=> ?_,rfl⟩;(by_cases C:j=i;(subst C;rw[bR];exact qg _);·rw[eE _ _ _ _ C];exact qg _);(refine⟨vv j,?_⟩;by_cases hji:j=i;(subst hji;rw[bR]at C;cases C;exact⟨xs,dp,hi⟩);·rw[eE _ _ _ _ hji]at C;exact⟨ys,dp',C⟩);·refine⟨vv j,?_⟩;by_cases hji:j=i;(subst hji;rw[bR]at C;cases C);·rw[eE _ _ _ _ hji]at C;exact⟨cs,C⟩
 have lv:∀j,live (pZ h i ((h i).1,.row e sz J dp)) j->live h j:=λj hl=>by by_cases C:j=i;(subst C;exact hlive);·unfold live at hl⊢;rw[eE _ _ _ _ C]at hl;exact hl
 have dv:∀j,kB (pZ h i ((h i).1,.row e sz J dp)) j->kB h j:=λj hl=>by by_cases C:j=i;(subst C;obtain⟨e',sz',ys,hh⟩:=hl;rw[bR]at hh;cases hh;exact⟨e,sz,xs,hi⟩);·obtain⟨e',sz',ys,hh⟩:=hl;rw[eE _ _ _ _ C]at hh;exact⟨e',sz',ys,hh⟩
 have fsub:∀j,∀b∈(PZ g i (g.val i) F).fp j,b∈g.fp j:=λj b hb=>by by_cases C:j=i;(subst C;rw[fi]at hb;exact hF b hb);·rw[fn j C]at hb;exact hb
 have down:dp=true->kB h i:=λhd=>by subst hd;exact⟨e,sz,xs,hi⟩
 refine⟨⟨I.base_le,I.S_old,I.S_lt,λj=> ?_,λj b hl hb=> ?_,λj k b hne hl hk hb U=> ?_,λj k hne C hk b hb U=> ?_,⟨hpn,λb hb=> ?_⟩,λb hb=> ?_,λj C b hb U=> ?_,I.fb⟩,T⟩
 ·by_cases C:j=i;(subst C;rw[bR];exact⟨cells,by rw[vv];exact ho,hx,by rw[fi];exact hr,by rw[fi];exact λb hb=>p4 b (hF b hb),λhd=>by rw[fi];exact⟨hFn hd,λb hb=>(p5 hd).2 b (hF b hb)⟩⟩);·rw[eE _ _ _ _ C];exact DQ.turn T (vv j) (fn j C) (λ_ _=>rfl) (I.obj j)
 ·rw[vv]at hb;exact I.mtb j b (lv j hl) hb
 ·rw[vv]at hb U;exact I.inj j k b hne (lv j hl) (lv k hk) hb U
 ·exact I.dis j k hne (dv j C) (dv k hk) b (fsub j b hb) (fsub k b U)
 ·rcases hp b hb with h1|⟨hd,h1,_⟩;(exact I.pool_own.2 b h1);·exact(p5 hd).2 b h1
 ·rcases hp b hb with h1|⟨hd,h1,_⟩;(exact I.pool_S b h1);·exact p4 b h1
 ·rcases hp b U with h1|⟨hd,h1,h2⟩;(exact I.pool_dis j (dv j C) b (fsub j b hb) h1);·by_cases hji:j=i;(subst hji;rw[fi]at hb;exact h2 hb);·exact I.dis j i hji (dv j C) (down hd) b (fsub j b hb) h1
theorem Jo{e0:TypeId}(R:nV P base w0 N g s a w pool){sv:SV}{xv:Value}{k:List (List D)->Bool->Prog}(hv:yM g s.h w sv xv)(h:ex P (EO e0 sv k) s K):
  ∃g' s' I b ad m c pool' cells G,ex P (k I b) s' K/\nV P base w0 N g' s' a w pool'/\mA g g' s.h s'.h w w/\s'.t=s.t/\xv=.slice ad m c/\m=I.length/\(∀b,Hc g s.h b->Hc g' s'.h b)/\(∀j,(s'.h j).1=(s.h j).1)/\
   dR g.Q.L b w e0 I cells G/\(∀y∈G,g'.S y)/\(b=true->(pool++G).Nodup/\∀x∈pool++G,x∈pool')/\
    (m=0 \/∃bb off sz,ad=some ⟨bb,off,none⟩/\Ee w bb off cells/\cells.length=m*sz/\∀x∈I,x.length=sz):=by
 unfold EO at h
 split at h
 ·rename_i I;obtain⟨ad,n,c,k1,k2,k3,k4⟩:=Oy hv;rcases k4 with k4|⟨b,off,cells,sz,G,rfl,m2,m3,m4,m5,m6,m7,m8⟩;(have hy:I=[]:=ql wg;subst hy;exact⟨g,s,[],_,ad,n,c,pool,[],[],h,R,mA.refl _ _ _,rfl,k1,k2,λ_ x=>x,λ_=>rfl,dR.nil,wb,λ_=>by simpa using R.inv.pool_own.1,.inl k4⟩);·refine⟨g,s,I,_,_,n,c,pool,cells,G,h,R,mA.refl _ _ _,rfl,k1,k2,λ_ x=>x,λ_=>rfl,dR.aE1 m7,m8,λhb=> ?_,.inr ⟨b,off,sz,rfl,m4,m5,m6⟩⟩;rw[M4 m7 hb];simpa using R.inv.pool_own.1
 ·have C:=eZ hv;exact⟨g,s,[],true,none,0,0,pool,[],[],h,R,mA.refl _ _ _,rfl,C,rfl,λ_ x=>x,λ_=>rfl,dR.nil,wb,λ_=>by simpa using R.inv.pool_own.1,.inl rfl⟩
 ·rename_i i ver
  obtain⟨hone,hle,hcap⟩:=eZ hv
  simp only[ex]at h
  split at h
  ·rename_i e sz I U hh
   split at h
   ·rename_i hc
    have hval:=hcap hc _ _ _ _ hh
    obtain⟨S',F,t1,t1b,t2,tS,tF,t3,t4,t5⟩:=R.inv.take hh
    have T:mA g { g with S:=S' } s.h (pZ s.h i ((s.h i).1,.none)) w w:=mA.drop i S' t1
    rw[hc]at T t5
    have R':nV P base w0 N { g with S:=S' } (s.fL i (ver,.none)) a w (if U then pool++F else pool):=R.turn T rfl R.below t5
    have hlive:live s.h i:=by unfold live;rw[hh];simp
    have hfree:∀b,Hc g s.h b->Hc { g with S:=S' } (s.fL i (ver,.none)).h b:=by intro b hb;refine⟨λhS=> ?_,λj hl=>hb.2 j (Ci hl).2⟩;rcases t1b b hS with hS|hS;(exact hb.1 hS);·exact hb.2 i hlive hS
    have hver:∀j,((s.fL i (ver,.none)).h j).1=(s.h j).1:=by intro j;show(pZ s.h i (ver,.none) j).1=_;by_cases hj:j=i;(subst hj;rw[bR];exact hc.symm);·rw[eE _ _ _ _ hj]
    have hob:=R.inv.obj i
    rw[hh]at hob
    obtain⟨cells,p1,p2,p3,p4,p5⟩:=hob
    have p3':dR g.Q.L (if e=e0 then U else false) w e0 I cells (g.fp i):=by by_cases he:e=e0;(subst he;rw[jF rfl];exact p3);·rw[jG he];exact p3.rep
    have hpo:(if e=e0 then U else false)=true->(pool++g.fp i).Nodup/\∀x∈pool++g.fp i,x∈(if U then pool++F else pool):=by
     intro hd
     have hd':U=true:=by split at hd;(exact hd);·cases hd
     subst hd'
     have J:=t5.pool_own.1
     simp only[jI]at J⊢
     rw[tF]at J⊢
     refine⟨J.sublist (List.Sublist.append (List.Sublist.refl _) (List.sublist_append_right _ _)),λx C=> ?_⟩
     rcases qP.1 C with C|C<;>simp[C]
    rcases p1.2 with⟨r1,r2⟩|⟨gg,cap,cur,r1,r2⟩
    ·exact⟨_,_,I,_,none,0,0,_,cells,g.fp i,h,R',T,rfl,hval.trans r1,r2.symm,hfree,hver,p3',λy hy=>t1 y (p4 y hy),hpo,.inl rfl⟩
    ·exact⟨_,_,I,_,_,_,cap,_,cells,g.fp i,h,R',T,rfl,hval.trans r1,rfl,hfree,hver,p3',λy hy=>t1 y (p4 y hy),hpo,.inr ⟨gg,0,sz,rfl,Pg (r1 ▸ p1),p1.1,p2⟩⟩
   ·exact h.elim
  ·exact h.elim
 ·rename_i i ver lo n
  have hp:=eZ hv
  simp only[ex]at h
  split at h
  ·rename_i e sz I U hh
   split at h
   ·rename_i hc
    obtain⟨ad,c,rfl,q1,q2,q3,_⟩:=N0 R.inv hp hc hh
    have hob:=R.inv.obj i
    rw[hh]at hob
    obtain⟨cells,p1,p2,p3,p4,p5⟩:=hob
    obtain⟨c1,c2,c3,F1,F2,F3,hcs,hG,m1,m2,m3,m4,m5⟩:=Rt (lo:=lo) (n:=n) p3 p2 q2
    have hin:∀x,x∈F2->x∈g.fp i:=λx C=>by rw[hG];simp[C]
    have hrl:=bC.length p3.rep p2
    have hone:∀u∈c2,u.oneCell'=true:=m4.rep.one
    have hr':dR g.Q.L U w e (I.take lo++(List.replicate n (List.replicate sz .opq)++I.drop (lo+n))) cells (F1++F3):=by rw[hcs];exact dR.append m3 (dR.append (G:=F3) (F:=[]) (dR.flat (KP m2 hone) (VU n sz)) m5)
    have hx':∀x∈I.take lo++(List.replicate n (List.replicate sz .opq)++I.drop (lo+n)),x.length=sz:=by intro x C;rcases qP.1 C with C|C;(exact p2 x (qk C));·rcases qP.1 C with C|C;(rw[(List.mem_replicate.1 C).2,jB]);·exact p2 x (qv C)
    have hlen':(I.take lo++(List.replicate n (List.replicate sz D.opq)++I.drop (lo+n))).length=I.length:=by simp only[qE,qV,jB,qW];rcases q2 with h0|h0<;>omega
    have J:U=true->(pool++F2).Nodup/\(F1++F3).Nodup/\∀b∈F2,b∉F1++F3:=λhd=>by
     have hn:=(p5 hd).1
     rw[hG]at hn
     have hd':kB s.h i:=by subst hd;exact⟨e,sz,I,hh⟩
     rw[qt]at hn
     obtain⟨a1,a2,a3⟩:=hn
     rw[qt]at a2
     obtain⟨b1,b2,b3⟩:=a2
     refine⟨?_,?_,?_⟩
     ·rw[qt];exact⟨R.inv.pool_own.1,b1,by rintro x C y hy rfl;exact R.inv.pool_dis i hd' _ (hin _ hy) C⟩
     ·rw[qt];exact⟨a1,b2,λx C y hy=>a3 x C y (by simp[hy])⟩
     ·intro b hb hb';rcases qP.1 hb' with hb'|hb';(exact a3 b hb' b (by simp[hb]) rfl);·exact b3 b hb b hb' rfl
    obtain⟨I',T⟩:=R.inv.aF1 (pool':=if U then pool++F2 else pool) hh (by rw[hlen'];exact p1) hx' hr' (λb hb=>by
      rw[hG]
      rcases qP.1 hb with hb|hb<;>simp[hb]) (λhd=>(J hd).2.1) (λb hb=>by
      cases U with
      |false=>exact .inl hb
      |true=>
       simp only[jI]at hb
       rcases qP.1 hb with hb|hb
       ·exact .inl hb
       ·exact .inr ⟨rfl,hin b hb,(J rfl).2.2 b hb⟩) (by
      cases U with
      |false=>exact R.inv.pool_own.1
      |true=>exact(J rfl).1)
    rw[hc]at I' T
    have R':=R.turn (s':=s.fL i (ver,.row e sz (NK sz lo n I) U)) T rfl R.below I'
    have vv:∀j,(PZ g i (g.val i) (F1++F3)).val j=g.val j:=λj=>by by_cases hj:j=i;(subst hj;exact eM _ _ _);·exact Ex _ _ _ _ hj
    refine⟨_,_,(I.drop lo).take n,_,ad,n,c,_,c2,F2,h,R',T,rfl,rfl,?_,?_,?_,?_,λy hy=>p4 y (hin y hy),λhd=> ?_,?_⟩
    ·rw[qV,qW];rcases q2 with h0|h0<;>omega
    ·intro b hb;refine⟨hb.1,λj hl=> ?_⟩;rw[vv];refine hb.2 j ?_;by_cases hj:j=i;(subst hj;unfold live;rw[hh];simp);·unfold live at hl⊢;rw[TO,eE _ _ _ _ hj]at hl;exact hl
    ·intro j;show(pZ s.h i _ j).1=_;by_cases hj:j=i;(subst hj;rw[bR];exact hc.symm);·rw[eE _ _ _ _ hj]
    ·by_cases he:e=e0;(subst he;rw[jF rfl];exact m4);·rw[jG he];exact m4.rep
    ·have hd':U=true:=by
      split at hd
      ·exact hd
      ·cases hd
     subst hd'
     exact⟨(J rfl).1,λx C=>by simpa using C⟩
    ·rcases q3 with q3|⟨b,cells',q3,q4,q5,q6⟩;(exact .inl q3);·by_cases hn:n=0;(exact .inl hn);·right;have hcc:cells'=cells:=Ng q5 p1;subst hcc;refine⟨b,lo*sz,sz,q3,?_,m2,λx C=>p2 x (qv (qk C))⟩;rw[hcs]at q6;have:=Yw q6;rw[m1 (qh (jU lo n) (q2.resolve_left hn)),qp]at this;exact this
   ·exact h.elim
  ·exact h.elim
 ·exact h.elim
theorem Ot{t ty e:TypeId}{U:TypeInfo}(I:P.underlying t=some (.slice e))(C:P.info? e=some U){sz:Nat}{v:Value}{n:Nat}{xs:List Value}(hown:w.ownsRow base e sz v n xs)(ad:Option Addr)(c:Nat):
  (Builtin.append_ #[t,t] ty #[v,.slice ad 0 c]).run P w=.ok v w:=by
 rcases hown.2 with⟨rfl,rfl⟩|⟨gg,cap,J,rfl,_,_,j,_⟩
 ·cases ad<;>simp[Builtin.append_,run_underlying I,sizeOf,typeInfo,C,Builtin.lenOf,Builtin.firstCells,loadCells,loadCellsFrom]
 ·cases ad<;>simp[Builtin.append_,run_underlying I,sizeOf,typeInfo,C,Builtin.lenOf,Builtin.firstCells,j,storeCells,loadCells,loadCellsFrom]
theorem Sx{e:TypeId}{sz k m c n:Nat}{ad:Option Addr}{cells:List Value}(h:w.ownsRow base e sz (.slice ad m c) n cells)(hk:k<=m):m=n/\w.ownsRow base e sz (.slice ad k c) k (cells.take (k*sz)):=by
 obtain⟨h1,h2⟩:=h
 rcases h2 with⟨e1,C⟩|⟨I,cap,j,e1,e2,e3,e4,e5,e6,e7⟩
 ·cases e1
  have:k=0:=by omega
  subst this
  exact⟨C.symm,wb,.inl ⟨rfl,rfl⟩⟩
 ·cases e1;refine⟨rfl,?_,.inr ⟨I,c,j,rfl,e2,e3,wg,e5,e6,?_⟩⟩;(rw[qV,h1,jW (qj _ hk)]);·rw[<-e7,List.take_take,jW (qj _ hk)]
theorem St.K6(s:St)(i:Nat)(x y:Nat×E7):(s.fL i x).fL i y=s.fL i y:=by unfold St.fL;congr 1;funext j;by_cases hj:j=i<;>simp[hj]
theorem Oq{e:TypeId}{sz:Nat}{w':World}(R:nV P base w0 N g s a w pool){v v':Value}{zs:List (List D)}{n:Nat}{cells1 cells':List Value}{F:List Nat}{j:Nat}{dp:Bool}
  (hown:w.ownsRow base e sz v n cells1)(hfree:∀b,Ds v=some b->Hc g s.h b)(hr:dR g.Q.L dp w e zs cells' F)(hF:∀b∈F,g.S b)(hx:∀x∈zs,x.length=sz)
  (U:dp=true->F.Nodup/\∀x∈F,x∈pool)
  (r2:w'.ownsRow base e sz v' zs.length cells')(C:w.grownBy w' v.ownBlock)(I:v'.ownBlock=v.ownBlock\/v'.ownBlock=none \/∃b,w.heap.size<=b/\v'.ownBlock=some b):
  ∃g',nV P base w0 N g' (s.fL j ((s.h j).1+1,.row e sz zs dp)) a w' []/\yM g' (s.fL j ((s.h j).1+1,.row e sz zs dp)).h w' (.v false [.row j ((s.h j).1+1)]) v':=by
 have hob:Ds v=v.ownBlock:=tE hown
 have hgb:∀b,b<w.heap.size->¬Hc g s.h b->w'.heap[b]? =w.heap[b]? :=by
  intro b hb hnf
  refine C.block b hb λJ=>hnf (hfree b ?_)
  rw[hob,<-J]
 obtain⟨I1,T1⟩:=R.inv.aEC C.size hgb
 have hob':Ds v'=v'.ownBlock:=tE r2
 have hfree':∀b,Ds v'=some b->Hc g s.h b:=by intro b hb;rw[hob']at hb;rcases I with I|I|⟨b',hle,I⟩;(exact hfree b (by rw[hob,<-I,hb]));(rw[I]at hb;cases hb);·rw[I]at hb;simp at hb;subst hb;exact⟨λhS=>absurd (R.inv.S_lt _ hS) wg,λj hl hb'=>absurd (R.inv.H5 hl hb').2.lt wg⟩
 have hrr:dR g.Q.L dp w' e zs cells' F:=hr.B8 λb hb=>T1.Sw b (hF b hb)
 have I2:=I1.FY (i:=j) (v:=v') (e:=e) (sz:=sz) (xs:=zs) (dp:=dp) (cells:=cells') (F:=F) (pool':=[]) r2 hx hrr hF hfree' wb jb
  (λhd=>⟨(U hd).1,λb hb=>⟨(U hd).2 b hb,wb⟩⟩)
 have T2:=mA.create (g:=g) (h:=s.h) (w:=w') j v' F (.row e sz zs dp)
 have hbel:Below w0.Q.fb w0.w w':=R.bel ⟨C.os,C.tape,C.output,C.size,λb hb=>C.block b (qw hb R.inv.base_le) λJ=>by rcases hown.2 with⟨e1,_⟩|⟨gg,cap,cur,e1,e2,_⟩;(rw[e1]at J;simp[Value.ownBlock]at J);·rw[e1]at J;simp[Value.ownBlock]at J;omega⟩
 refine⟨_,R.turn (T1.trans T2) rfl hbel I2,⟨_,[],rfl,⟨?_,?_,?_⟩,rfl⟩⟩
 ·rcases r2.2 with⟨rfl,_⟩|⟨gg,cap,cur,rfl,_⟩<;>rfl
 ·show _<=(pZ s.h j _ j).1;rw[bR];exact qg _
 ·intro _ e' sz' xs' dp' _;show v'=Iw g.val _ v' _;rw[eM]
theorem Tr{e:TypeId}{sz:Nat}{w':World}(R:nV P base w0 N g s a w pool){v v':Value}{xs ys:List (List D)}{cells1 cells2:List Value}{F G:List Nat}{j:Nat}{dp:Bool}
  (hown:w.ownsRow base e sz v xs.length cells1)(hx1:∀x∈xs,x.length=sz)(hr1:dR g.Q.L dp w e xs cells1 F)(hF1:∀b∈F,g.S b)(hfree:∀b,Ds v=some b->Hc g s.h b)
  (hr2:dR g.Q.L dp w e ys cells2 G)(hG:∀b∈G,g.S b)(hx2:∀x∈ys,x.length=sz)(U:dp=true->(F++G).Nodup/\∀x∈F++G,x∈pool)
  (r2:w'.ownsRow base e sz v' (xs.length+ys.length) (cells1++cells2))(C:w.grownBy w' v.ownBlock)(r4:v'.ownBlock=v.ownBlock\/v'.ownBlock=some w.heap.size):
  ∃g',nV P base w0 N g' (s.fL j ((s.h j).1+1,.row e sz (xs++ys) dp)) a w' []/\yM g' (s.fL j ((s.h j).1+1,.row e sz (xs++ys) dp)).h w' (.v false [.row j ((s.h j).1+1)]) v':=by
 have hob:Ds v=v.ownBlock:=tE hown
 have hgb:∀b,b<w.heap.size->¬Hc g s.h b->w'.heap[b]? =w.heap[b]? :=by
  intro b hb hnf
  refine C.block b hb λI=>hnf (hfree b ?_)
  rw[hob,<-I]
 obtain⟨I1,T1⟩:=R.inv.aEC C.size hgb
 have hob':Ds v'=v'.ownBlock:=tE r2
 have hfree':∀b,Ds v'=some b->Hc g s.h b:=by intro b hb;rw[hob']at hb;rcases r4 with r4|r4;(exact hfree b (by rw[hob,<-r4,hb]));·rw[r4]at hb;simp at hb;subst hb;exact⟨λhS=>absurd (R.inv.S_lt _ hS) wg,λj hl hb'=>absurd (R.inv.H5 hl hb').2.lt wg⟩
 have J:∀b∈F++G,g.S b:=by intro b hb;rcases qP.1 hb with hb|hb;(exact hF1 b hb);·exact hG b hb
 have hrr:dR g.Q.L dp w' e (xs++ys) (cells1++cells2) (F++G):=(hr1.append hr2).B8 λb hb=>T1.Sw b (J b hb)
 have hxx:∀x∈xs++ys,x.length=sz:=by intro x hx;rcases qP.1 hx with hx|hx;(exact hx1 x hx);·exact hx2 x hx
 have I2:=I1.FY (i:=j) (v:=v') (e:=e) (sz:=sz) (xs:=xs++ys) (dp:=dp) (cells:=cells1++cells2) (F:=F++G) (pool':=[]) (by rw[qE];exact r2) hxx hrr J hfree' wb jb
  (λhd=>⟨(U hd).1,λb hb=>⟨(U hd).2 b hb,wb⟩⟩)
 have T2:=mA.create (g:=g) (h:=s.h) (w:=w') j v' (F++G) (.row e sz (xs++ys) dp)
 have hbel:Below w0.Q.fb w0.w w':=R.bel ⟨C.os,C.tape,C.output,C.size,λb hb=>C.block b (qw hb R.inv.base_le) λI=>by rcases hown.2 with⟨e1,_⟩|⟨gg,cap,cur,e1,e2,_⟩;(rw[e1]at I;simp[Value.ownBlock]at I);·rw[e1]at I;simp[Value.ownBlock]at I;omega⟩
 refine⟨_,R.turn (T1.trans T2) rfl hbel I2,⟨_,[],rfl,⟨?_,?_,?_⟩,rfl⟩⟩
 ·rcases r2.2 with⟨rfl,_⟩|⟨gg,cap,cur,rfl,_⟩<;>rfl
 ·show _<=(pZ s.h j _ j).1;rw[bR];exact qg _
 ·intro _ e' sz' xs' dp' _;show v'=Iw g.val _ v' _;rw[eM]
theorem Kx{t ty e:TypeId}{ti C:TI}(hti:fM P t=some ti)(htk:ti.k=.slice e)(hte:fM P e=some C)(R:nV P base w0 N g s a w pool){v xv:Value}{xs ys:List (List D)}{cells1 cells2:List Value}{F G:List Nat}{ad:Option Addr}{m c j:Nat}{dp:Bool}
  (hown:w.ownsRow base e C.size v xs.length cells1)(hx1:∀x∈xs,x.length=C.size)(hr1:dR g.Q.L dp w e xs cells1 F)(hF1:∀b∈F,g.S b)(hfree:∀b,Ds v=some b->Hc g s.h b)
  (hxv:xv=.slice ad m c)(hm:m=ys.length)(U:dR g.Q.L dp w e ys cells2 G)(hG:∀b∈G,g.S b)(hx2:∀x∈ys,x.length=C.size)
  (hlie:m=0 \/∃bb off sz,ad=some ⟨bb,off,none⟩/\Ee w bb off cells2/\cells2.length=m*sz/\∀x∈ys,x.length=sz)
  (hdp:dp=true->(F++G).Nodup/\∀x∈F++G,x∈pool)(hbytes:(xs.length+ys.length)*C.bytes<=140737488355328)(hp1:0<C.size)(hp2:0<C.bytes):
  ∃I J g',(Builtin.append_ #[t,t] ty #[v,xv]).run P w=.ok I J/\nV P base w0 N g' (s.fL j ((s.h j).1+1,.row e C.size (xs++ys) dp)) a J []/\
   yM g' (s.fL j ((s.h j).1+1,.row e C.size (xs++ys) dp)).h J (.v false [.row j ((s.h j).1+1)]) I:=by
 obtain⟨i,d,z,h1,h2,h3,h4,_⟩:=(eH hti).ok
 rw[htk]at h4
 obtain rfl:=EL h4
 obtain⟨ie,de,ze,e1,e2,e3,e4,e5,e6,e7,e8,e9⟩:=(eH hte).ok
 have hob:Ds v=v.ownBlock:=tE hown
 have key:∃I J,(Builtin.append_ #[t,t] ty #[v,xv]).run P w=.ok I J/\J.ownsRow base e C.size I (xs.length+ys.length) (cells1++cells2)/\w.grownBy J v.ownBlock/\(I.ownBlock=v.ownBlock\/I.ownBlock=some w.heap.size):=by
  have hlen2:=bC.length U.rep hx2
  rcases Nat.eq_zero_or_pos m with h0|h0
  ·have hy:ys=[]:=ql wg;subst hy;have hc2:cells2=[]:=ql (by simpa using hlen2);subst hc2 hxv h0;exact⟨v,w,Ot h2 e1 hown ad c,by simpa using hown,World.grownBy.refl w _,.inl rfl⟩
  ·rcases hlie with hl|⟨bb,off,sz,rfl,hl1,hl2,hl3⟩
   ·omega
   ·subst hxv hm
    obtain⟨I,J,r1,r2,r3,_,r5⟩:=run_append_own_at (P:=P) w base t ty e ie ze C.size C.bytes h2 e1 e3 e7 e8 (e6.trans e7) hp1 v xs.length cells1 hown ⟨bb,off,none⟩ ys.length c cells2 hlen2
     (λj u hu=>by rw[Addr.add_lit];exact hl1 j u hu) U.rep.one (by simp only[maxLen];have:=Nat.le_mul_of_pos_right (xs.length+ys.length) hp2;omega) hbytes R.inv.base_le
    exact⟨I,J,r1,r2,r3,r5⟩
 obtain⟨I,J,r1,r2,r3,r4⟩:=key
 obtain⟨g',k1,k2⟩:=Tr (j:=j) (dp:=dp) R hown hx1 hr1 hF1 hfree U hG hx2 hdp r2 r3 r4
 exact⟨I,J,g',r1,k1,k2⟩
theorem WR{t u ty e:TypeId}{i:TypeInfo}{z:Value}(ht:P.underlying t=some (.slice e))(hu:P.underlying u=some .string)(hi:P.info? e=some i)(hz:i.zero=some z)(hzs:z.cells.size=1)(hsize:i.size=1)(J:i.bytes=1)
  {v:Value}{n:Nat}{xs:List Value}(hown:w.ownsRow base e 1 v n xs)(s:ByteArray)(hbytes:n+s.size<=140737488355328)(hbase:base<=w.heap.size):
  ∃v' w',(Builtin.append_ #[t,u] ty #[v,.string s]).run P w=.ok v' w'/\w'.ownsRow base e 1 v' (n+s.size) (xs++strCells s)/\w.grownBy w' v.ownBlock/\(v'.ownBlock=v.ownBlock\/v'.ownBlock=some w.heap.size):=by
 have aa:n+s.size<=maxLen:=by simp only[maxLen];omega
 have C:xs.length=n:=by simpa using hown.1
 have hlen:(xs++strCells s).length=(n+s.size)*1:=by rw[qE,C,strCells_length,Nat.mul_one]
 have fresh:∀(old:Nat) (cells:Array Value),cells=xs.toArray++(strCells s).toArray++Builtin.zeroCells z.cells (grownCap w (n+s.size) old e-(n+s.size))->∀(row:Option Nat),
   (w.drew.alloc (.cells cells e)).ownsRow base e 1 (.slice (some ⟨w.heap.size,0,none⟩) (n+s.size) (grownCap w (n+s.size) old e)) (n+s.size) (xs++strCells s)/\w.grownBy (w.drew.alloc (.cells cells e)) row:=by
  rintro old cells rfl row
  have hge:=grownCap_ge w (n+s.size) old e
  refine⟨⟨hlen,.inr ⟨w.heap.size,_,_,rfl,hbase,heap_alloc_new w.drew _,hge,grownCap_le_maxLen w (n+s.size) old e aa,?_,?_⟩⟩,⟨rfl,rfl,rfl,wb,λk hk _=>Below.heap_alloc w.drew _ k hk⟩⟩
  ·simp only[Array.size_append,jZ,size_zeroCells,hzs,C,strCells_length];omega
  ·simp only[Array.toList_append,qT];rw[<-qT,<-hlen];exact List.take_left
 rcases hown.2 with⟨rfl,rfl⟩|⟨b,cap,I,rfl,hb,hg,hnc,hcm,hcs,htk⟩
 ·have hx:xs=[]:=ql C
  subst hx
  by_cases hm:s.size=0
  ·have hn:strCells s=[]:=ql (by rw[strCells_length];exact hm);have hf:=run_firstCells_string (P:=P) w 1 s;rw[hm]at hf;exact⟨.slice none 0 0,w,by simp[Builtin.append_,run_underlying ht,run_underlying hu,sizeOf,typeInfo,hi,hsize,Builtin.lenOf,hm,hf],by rw[hm,hn];exact World.ownsRow_nil w base e 1,World.grownBy.refl w _,.inl rfl⟩
  ·have U:=run_append_nil_string (P:=P) w t u ty e i z ht hu hi hz s wg wg (by rw[J];omega)
   have e1:(s.data.map λb=>Value.int .u8 b.toNat)=(strCells s).toArray:=by apply Array.ext';simp[strCells]
   have j:=fresh 0 ((s.data.map λb=>Value.int .u8 b.toNat)++Builtin.zeroCells z.cells (grownCap w s.size 0 e-s.size)) (by rw[e1];simp) (Value.ownBlock (.slice none 0 0))
   rw[qp]at j⊢
   exact⟨_,_,U,j.1,j.2,.inr rfl⟩
 ·by_cases hroom:n+s.size<=cap
  ·have U:=run_append_room_string (P:=P) w t u ty e i ht hu hi hsize b n cap I hg s hroom wg
   refine⟨_,_,U,⟨hlen,.inr ⟨b,cap,_,rfl,hb,setRow_heap w b I _ e _ hg,hroom,hcm,?_,?_⟩⟩,⟨rfl,rfl,rfl,wb,λk _ hk=>setRow_other w b k _ (λe=>hk (by simp[Value.ownBlock,e]))⟩,.inl rfl⟩
   ·simp only[jZ,qE,qV,qW,qn,strCells_length];omega
   ·have ht':I.toList.take n=xs:=by simpa using htk
    rw[ht',<-hlen]
    exact List.take_left
  ·have U:=run_append_grow_string (P:=P) w t u ty e i z ht hu hi hz ⟨b,0,none⟩ n cap xs (by rw[hsize];simpa using C) (hown.cells (g:=b) rfl) s wg wg (by rw[J];exact growslice_fits wg wg);have j:=fresh cap _ rfl (Value.ownBlock (.slice (some ⟨b,0,none⟩) n cap));exact⟨_,_,U,j.1,j.2,.inr rfl⟩
theorem WI{as:Array Operand}{ts:Array TypeId}(ho:o.op=.call { callee:=.builtin .append,args:=as,argTypes:=ts })(R:nV P base w0 N g s a w [])(h:ex P (CN (fM P) N o) s K):o.wp P a w (Aft P base w0 N K) Q:=by
 simp only[CN,ho]at h
 split at h
 ·rename_i sx xx t t' hs ht
  have hs:=Z6 hs
  have ht:=Z6 ht
  subst hs ht
  split at h
  ·rename_i htt
   subst htt
   split at h
   ·rename_i e sz0 by0 z0 cm0 sl0 hti
    split at h
    ·rename_i te hte
     obtain⟨sv1,q1,q2⟩:=cN R h
     obtain⟨sv2,q3,q4⟩:=cN R q2
     have fin:∀{v':Value} {w':World} {g':Gh} {s':St} {sv:SV},(Builtin.append_ #[t,t] o.type #[a.eval sx,a.eval xx]).run P w=.ok v' w'->nV P base w0 N g' s' a w' []->yM g' s'.h w' sv v'->ex P (put N o.dst sv) s' K->o.wp P a w (Aft P base w0 N K) Q:=by intro v' w' g' s' sv hrun R' hv hk;obtain⟨s2,m1,m2⟩:=Eo R' hv hk;refine FN (v:=v') (w':=w') ?_ ⟨s2,m1,g',m2⟩;simp[execOp,ho,resolve,invoke,builtin,hrun]
     unfold HF at q4
     split at q4
     ·exact q4.elim
     ·rename_i dd hdd
      split at q4
      ·rename_i i ver
       obtain⟨hone,hle,hcap⟩:=eZ q1
       simp only[ex]at q4
       split at q4
       ·rename_i e' sz' xs dp hh
        split at q4
        ·rename_i hc
         obtain⟨hc1,hc2,hc3⟩:=hc
         subst hc2 hc3
         have hval:=hcap hc1 _ _ _ _ hh
         have hob:=R.inv.obj i
         rw[hh]at hob
         obtain⟨cells,p1,p2,p3,p4,p5⟩:=hob
         obtain⟨I1,hfr⟩:=R.inv.FM hh
         have T:mA g g s.h (pZ s.h i ((s.h i).1,.none)) w w:=mA.drop i g.S λ_ x=>x
         rw[hc1]at I1 hfr T
         have R1:nV P base w0 N g (s.fL i (ver,.none)) a w (if dp then[]++g.fp i else[]):=R.turn T rfl R.below I1
         obtain⟨g2,s2,ys,b,ad,m,c,pool2,cells2,G,k1,k2,k3,k4,k5,k6,k7,k8,k9,aa,ae,af⟩:=Jo R1 (q3.turn T) q4
         obtain⟨⟨n1,n2,n3,n4⟩,k1⟩:=k1
         simp only[ex]at k1
         have hver:(s2.h i).1=ver:=by rw[k8];show(pZ s.h i _ i).1=_;rw[bR]
         obtain⟨v',w',g',r1,r2,r3⟩:=Kx (j:=i) (dp:=dp&&b) (ty:=o.type) hti rfl hte k2 p1 p2 (by rw[k3.Q];exact p3.TU λhd=>(by simp at hd;exact hd.1)) (λb hb=>k3.S b (p4 b hb)) (λb hb=>k7 b (hfr b hb)) k5 k6 (by rw[k3.Q];exact k9.TU λhd=>(by simp at hd;exact hd.2)) aa n1 af (λhd=>by simp at hd;have:=ae hd.2;rw[hd.1]at this;simpa using this) n2 n3 n4
         rw[hver]at r2 r3
         exact fin (by rw[hval];exact r1) r2 r3 k1
        ·exact q4.elim
       ·exact q4.elim
      ·rename_i i ver n
       have hp:=eZ q1
       simp only[ex]at q4
       split at q4
       rotate_left
       ·exact q4.elim
       rename_i e0 sz0 xs0 dp0 hh0
       obtain⟨g2,s2,ys,b,ad,m,c,pool2,cells2,G,k1,k2,k3,k4,k5,k6,k7,k8,k9,aa,ae,af⟩:=Jo R q3 q4
       simp only[ex]at k1
       split at k1
       ·rename_i e' sz' xs dp hh
        split at k1
        ·rename_i hc
         obtain⟨hc1,hc2,hc3⟩:=hc
         subst hc2 hc3
         obtain⟨ad',c',hval,z1,z2,z3,z4⟩:=N0 k2.inv (B3.turn k3 hp) hc1 hh
         obtain⟨mm,z5,z6⟩:=z4 rfl
         have hob:=k2.inv.obj i
         rw[hh]at hob
         obtain⟨cells,p1,p2,p3,p4,p5⟩:=hob
         rw[z5]at p1
         obtain⟨hmm,p1t⟩:=Sx p1 z6
         subst hmm
         have p3':dR g2.Q.L dp w e' (xs.take n++xs.drop n) cells (g2.fp i):=by rw[qo];exact p3
         obtain⟨u1,u2,F1,F2,hcs,hG,m1,m2⟩:=dR.split p3'
         have hu1:cells.take (n*te.size)=u1:=by
          have hl:=bC.length m1.rep λx hx=>p2 x (qk hx)
          rw[qV,jW z6]at hl
          rw[hcs,<-hl,List.take_left]
         rw[hu1]at p1t
         obtain⟨I1,hfr⟩:=k2.inv.FM hh
         have T:mA g2 g2 s2.h (pZ s2.h i ((s2.h i).1,.none)) w w:=mA.drop i g2.S λ_ x=>x
         rw[hc1]at I1 hfr T
         have R1:nV P base w0 N g2 (s2.fL i (ver,.none)) a w (if dp then pool2++g2.fp i else pool2):=k2.turn T rfl k2.below I1
         obtain⟨⟨n0,n1,n2,n3,n4⟩,k1⟩:=k1
         rw[<-n0]at k1
         have hlt:(xs.take n).length=n:=by rw[qV,jW z6]
         obtain⟨v',w',g',r1,r2,r3⟩:=Kx (j:=i) (dp:=dp&&b) (ty:=o.type) (xs:=xs.take n) hti rfl hte R1 (by rw[hlt];exact p1t) (λx hx=>p2 x (qk hx)) (m1.TU λhd=>(by simp at hd;exact hd.1)) (λb hb=>p4 b (by rw[hG];simp[hb])) (λb hb=>hfr b (by rw[z5];cases ad'<;>exact hb)) k5 k6 (by rw[k3.Q];exact k9.TU λhd=>(by simp at hd;exact hd.2)) aa n1 af (λhd=>by simp only[qM]at hd;obtain⟨hd1,hd2⟩:=hd;have ah:=ae hd2;rw[hd1]at I1;simp only[jI]at I1;have hnd:=I1.pool_own.1;rw[hG,qt]at hnd;obtain⟨a1,a2,a3⟩:=hnd;rw[qt]at a2;rw[hd1];simp only[jI];refine⟨?_,?_⟩;(rw[qt];exact⟨a2.1,by simpa using ah.1,by rintro x hx y hy rfl;exact a3 x (ah.2 x (by simp[hy])) x (by simp[hx]) rfl⟩);·intro x hx;rcases qP.1 hx with hx|hx;(rw[hG];simp[hx]);·exact qP.2 (.inl (ah.2 x (by simp[hx])))) (by rw[hlt];exact n2) n3 n4
         have hver:((s2.fL i (ver,.none)).h i).1=ver:=by show(pZ s2.h i _ i).1=_;rw[bR]
         rw[hver,St.K6]at r2 r3
         exact fin (by rw[hval];exact r1) r2 r3 k1
        ·exact k1.elim
       ·exact k1.elim
      ·have hx:=eZ q1;obtain⟨g2,s2,ys,b,ad,m,c,pool2,cells2,G,k1,k2,k3,k4,k5,k6,k7,k8,k9,aa,ae,af⟩:=Jo R q3 q4;obtain⟨⟨n1,n2,n3,n4⟩,k1⟩:=k1;simp only[ex]at k1;obtain⟨v',w',g',r1,r2,r3⟩:=Kx (j:=rid dd 0) (dp:=b) (ty:=o.type) (xs:=[]) (cells1:=[]) (F:=[]) (v:=.slice none 0 0) hti rfl hte k2 (World.ownsRow_nil w base e te.size) wb dR.nil wb (by intro b hb;simp[Ds]at hb) k5 k6 (by rw[k3.Q];exact k9) aa n1 af (λhd=>by have:=ae hd;simpa using this) (by simpa using n2) n3 n4;exact fin (by rw[show a.eval sx=.slice none 0 0 from hx];exact r1) r2 r3 k1
      ·exact q4.elim
    ·exact h.elim
   ·exact h.elim
  ·rename_i hne
   split at h
   ·rename_i e sz0 by0 z0 cm0 sl0 sz1 by1 z1 cm1 sl1 hti hti'
    split at h
    ·rename_i cm2 sl2 hte
     obtain⟨i,d,z,h1,h2,h3,h4,_⟩:=(eH hti).ok
     obtain rfl:=EL h4
     obtain⟨i',d',z',h1',h2',h3',h4',_⟩:=(eH hti').ok
     obtain rfl:=S5 h4'
     obtain⟨ie,de,ze,e1,e2,e3,e4,e5,e6,e7,e8,e9⟩:=(eH hte).ok
     obtain⟨sv1,q1,q2⟩:=cN R h
     obtain⟨sv2,q3,q4⟩:=cN R q2
     unfold RZ at q4
     split at q4
     ·rename_i j ver b
      obtain⟨hone,hle,hcap⟩:=eZ q1
      simp only[ex]at q4
      split at q4
      ·rename_i e' xs dp hh
       split at q4
       ·rename_i hc
        obtain⟨hc1,hc2⟩:=hc
        subst hc2
        obtain⟨hb,q4⟩:=q4
        have hval:=hcap hc1 _ _ _ _ hh
        have hob:=R.inv.obj j
        rw[hh]at hob
        obtain⟨cells,p1,p2,p3,p4,p5⟩:=hob
        obtain⟨I1,hfr⟩:=R.inv.FM hh
        have T:mA g g s.h (pZ s.h j ((s.h j).1,.none)) w w:=mA.drop j g.S λ_ x=>x
        have R1:nV P base w0 N g (s.fL j ((s.h j).1,.none)) a w (if dp then[]++g.fp j else[]):=R.turn T rfl R.below I1
        obtain⟨v',w',k1,k2,k3,k4⟩:=WR (P:=P) (ty:=o.type) h2 h2' e1 e3 (e6.trans e7) e7 e8 p1 b hb R.inv.base_le
        have hvl:(E1 b.data.toList).length=b.size:=by simp[E1]
        have hcore:=Tr (j:=j) (dp:=dp) (v':=v') (w':=w') (ys:=E1 b.data.toList) (cells2:=strCells b) (G:=[]) R1 p1 p2 p3 p4 hfr (dR.flat (MQ _) W6) wb (by intro y hy;unfold E1 at hy;obtain⟨c,_,rfl⟩:=qx.1 hy;rfl) (λhd=>by subst hd;simp only[jI,jP,qY];exact⟨(p5 rfl).1,λ_ x=>x⟩) (by rw[hvl];exact k2) k3 k4
        obtain⟨g',m1,m2⟩:=hcore
        have hst:((s.fL j ((s.h j).1,.none)).fL j (((s.fL j ((s.h j).1,.none)).h j).1+1,.row e' 1 (xs++E1 b.data.toList) dp))=s.fL j (ver+1,.row e' 1 (xs++E1 b.data.toList) dp):=by refine St.aJr rfl (funext λk=> ?_);show pZ _ _ _ k=pZ _ _ _ k;by_cases hk:k=j;(subst hk;rw[bR,bR];rw[show((s.fL k ((s.h k).1,.none)).h k).1=(s.h k).1 from by show(pZ _ _ _ k).1=_;rw[bR],hc1]);·rw[eE _ _ _ _ hk,eE _ _ _ _ hk];show pZ _ _ _ k=_;rw[eE _ _ _ _ hk]
        have hver:((s.fL j ((s.h j).1,.none)).h j).1+1=ver+1:=by show(pZ _ _ _ j).1+1=_;rw[bR,hc1]
        rw[hst]at m1 m2
        rw[hver]at m2
        obtain⟨s2,n1,n2⟩:=Eo m1 m2 q4
        refine FN (v:=v') (w':=w') ?_ ⟨s2,n1,g',n2⟩
        have hrun:(Builtin.append_ #[t,t'] o.type #[a.eval sx,a.eval xx]).run P w=.ok v' w':=by rw[hval,Jb q3];exact k1
        simp[execOp,ho,resolve,invoke,builtin,hrun]
       ·exact q4.elim
      ·exact q4.elim
     ·exact q4.elim
    ·exact h.elim
   ·exact h.elim
 ·exact h.elim
theorem KU(I:Inv base g s.h w pool):∀{cs:List SC} {vs:List Value} {k:List D->Prog},aU g s.h w cs vs->ex P (Ht cs k) s K->∃ds F,aM w ds vs F/\(∀b∈F,¬Hc g s.h b)/\ex P (k ds) s K
 |[],vs,k,hc,h=>⟨[],[],by simp only[aM];exact⟨hc,trivial⟩,wb,h⟩
 | .dat d::cs,vs,k,hc,h=>by obtain⟨v,j,rfl,⟨C,h1,h2⟩,h3⟩:=hc;obtain⟨ds,F,h4,h6,h5⟩:=KU I h3 h;refine⟨d::ds,C++F,by simp only[aM];exact⟨v,j,C,F,rfl,rfl,h1,h4⟩,λb hb=> ?_,h5⟩;rcases qP.1 hb with hb|hb;(exact λJ=>J.1 (h2 b hb));·exact h6 b hb
 | .old B d u::cs,vs,k,hc,h=>by obtain⟨v,j,rfl,⟨C,h1,h2,_⟩,h3⟩:=hc;obtain⟨ds,F,h4,h6,h5⟩:=KU I h3 h;refine⟨d::ds,C++F,by simp only[aM];exact⟨v,j,C,F,rfl,rfl,h1,h4⟩,λb hb=> ?_,h5⟩;rcases qP.1 hb with hb|hb;(exact λJ=>J.1 (h2 b hb).1);·exact h6 b hb
 | .nil::cs,vs,k,hc,h=>by obtain⟨v,j,rfl,h1,h3⟩:=hc;obtain⟨ds,F,h4,h6,h5⟩:=KU I h3 h;refine⟨.sl []::ds,F,?_,h6,h5⟩;simp only[aM];refine⟨v,j,[],F,rfl,rfl,?_,h4⟩;simp only[Rep];exact⟨none,0,0,h1,rfl,qg _,.inl wb⟩
 | .row i ver::cs,vs,k,hc,h=>by
  obtain⟨v,j,rfl,⟨h0,h1,h2⟩,h3⟩:=hc
  simp only[Ht,ex]at h
  split at h
  ·rename_i e sz xs dp U
   split at h
   ·rename_i hv
    have hval:=h2 hv e sz xs dp U
    obtain⟨S',C,_,hS,hr,_,_,hF,_⟩:=I.take U
    obtain⟨ds,F,h4,h6,h5⟩:=KU I h3 h
    have hlive:live s.h i:=by unfold live;rw[U];simp
    refine⟨.sl xs::ds,C++F,by simp only[aM];exact⟨v,j,C,F,rfl,rfl,hval ▸ hr,h4⟩,λb hb=> ?_,h5⟩
    rcases qP.1 hb with hb|hb
    ·intro J;rcases hS b (hF b hb)with hx|hx;(exact J.1 hx);·exact J.2 i hlive hx
    ·exact h6 b hb
   ·exact h.elim
  ·exact h.elim
 | .bp _ _ _::_,_,_,_,h=>h.elim
 | .rp _ _ _ _::_,_,_,_,h=>h.elim
 | .clo _ _::_,_,_,_,h=>h.elim
 | .part _ _ _ _::_,_,_,_,h=>h.elim
 | .exa _ _ _::_,_,_,_,h=>h.elim
theorem Gw(I:Inv base g s.h w pool){i:Nat}{tt:TypeId}{bc:List SC}(U:(s.h i).2=.box tt bc):∀{cs:List SC} {vs:List Value} {k:List D->Prog},aU g s.h w cs vs->ex P (Ht cs k) s K->
  ∃ds F,aM w ds vs F/\(∀b∈F,g.S b \/∃j,j≠i/\live s.h j/\Ds (g.val j)=some b)/\ex P (k ds) s K
 |[],vs,k,hc,h=>⟨[],[],by simp only[aM];exact⟨hc,trivial⟩,wb,h⟩
 | .dat d::cs,vs,k,hc,h=>by obtain⟨v,C,rfl,⟨J,h1,h2⟩,h3⟩:=hc;obtain⟨ds,F,h4,h6,h5⟩:=Gw I U h3 h;refine⟨d::ds,J++F,by simp only[aM];exact⟨v,C,J,F,rfl,rfl,h1,h4⟩,λb hb=> ?_,h5⟩;rcases qP.1 hb with hb|hb;(exact .inl (h2 b hb));·exact h6 b hb
 | .old B d u::cs,vs,k,hc,h=>by obtain⟨v,C,rfl,⟨J,h1,h2,_⟩,h3⟩:=hc;obtain⟨ds,F,h4,h6,h5⟩:=Gw I U h3 h;refine⟨d::ds,J++F,by simp only[aM];exact⟨v,C,J,F,rfl,rfl,h1,h4⟩,λb hb=> ?_,h5⟩;rcases qP.1 hb with hb|hb;(exact .inl (h2 b hb).1);·exact h6 b hb
 | .nil::cs,vs,k,hc,h=>by obtain⟨v,C,rfl,h1,h3⟩:=hc;obtain⟨ds,F,h4,h6,h5⟩:=Gw I U h3 h;refine⟨.sl []::ds,F,?_,h6,h5⟩;simp only[aM];refine⟨v,C,[],F,rfl,rfl,?_,h4⟩;simp only[Rep];exact⟨none,0,0,h1,rfl,qg _,.inl wb⟩
 | .row j ver::cs,vs,k,hc,h=>by
  obtain⟨v,C,rfl,⟨h0,h1,h2⟩,h3⟩:=hc
  simp only[Ht,ex]at h
  split at h
  ·rename_i e sz xs dp ho
   split at h
   ·rename_i hv
    have hval:=h2 hv e sz xs dp ho
    obtain⟨S',J,_,hS,hr,_,_,hF,_⟩:=I.take ho
    obtain⟨ds,F,h4,h6,h5⟩:=Gw I U h3 h
    have hlive:live s.h j:=by unfold live;rw[ho];simp
    refine⟨.sl xs::ds,J++F,by simp only[aM];exact⟨v,C,J,F,rfl,rfl,hval ▸ hr,h4⟩,λb hb=> ?_,h5⟩
    rcases qP.1 hb with hb|hb
    ·rcases hS b (hF b hb)with hx|hx;(exact .inl hx);·exact .inr ⟨j,⟨(λe=>by rw[e,U]at ho;cases ho),hlive,hx⟩⟩
    ·exact h6 b hb
   ·exact h.elim
  ·exact h.elim
 | .bp _ _ _::_,_,_,_,h=>h.elim
 | .rp _ _ _ _::_,_,_,_,h=>h.elim
 | .clo _ _::_,_,_,_,h=>h.elim
 | .part _ _ _ _::_,_,_,_,h=>h.elim
 | .exa _ _ _::_,_,_,_,h=>h.elim
theorem ON(R:nV P base w0 N g s a w pool){i:Nat}{tt:TypeId}{bc:List SC}(J:(s.h i).2=.box tt bc):∀{xs:List Operand} {k:List (Bool×List D)->Prog},ex P (Sm xs k) s K->
  ∃as F,AU w (xs.map a.eval) as F/\(∀b∈F,g.S b \/∃j,j≠i/\live s.h j/\Ds (g.val j)=some b)/\ex P (k as) s K
 |[],k,h=>⟨[],[],rfl,wb,h⟩
 |x::xs,k,h=>by
  obtain⟨sv,h1,h2⟩:=cN R h
  cases sv with
  |v ag cs=>
   simp only at h2
   cases ag with
   |false=>
    obtain⟨ds,F,h3,C,h4⟩:=Gw R.inv J h1 h2
    obtain⟨as,U,h5,I,h6⟩:=ON R J h4
    refine⟨(false,ds)::as,_,⟨F,U,rfl,?_,h5⟩,λb hb=> ?_,h6⟩
    ·have hl:=h3.length
     match ds,h3,hl with
     |[d],h3,_=>
      simp only[aM]at h3
      obtain⟨v,vs',F1,F2,e1,rfl,h7,_,rfl⟩:=h3
      simp at e1
      rw[qY]
      exact⟨d,rfl,e1.1 ▸ h7⟩
    ·rcases qP.1 hb with hb|hb;(exact C b hb);·exact I b hb
   |true=>
    obtain⟨vs,hv,hc⟩:=h1
    obtain⟨ds,F,h3,C,h4⟩:=Gw R.inv J hc h2
    obtain⟨as,U,h5,I,h6⟩:=ON R J h4
    refine⟨(true,ds)::as,_,⟨F,U,rfl,⟨vs,hv,h3⟩,h5⟩,λb hb=> ?_,h6⟩
    rcases qP.1 hb with hb|hb
    ·exact C b hb
    ·exact I b hb
  |unk=>exact h2.elim
  |undef=>exact h2.elim
  |tup vs=>exact h2.elim
theorem QA(I:Inv base g s.h w pool){i ver off:Nat}{v:Value}{k:List D->Prog}(hc:L2 g s.h (i,ver,off) v)(h:ex P (Ju i ver off k) s K):
  ∃ds F,Rep w (.ptr ds) v F/\(∀b∈F,¬Hc g s.h b)/\ex P (k ds) s K:=by
 simp only[Ju,ex]at h
 split at h
 ·rename_i t cells J
  split at h
  ·rename_i hv
   obtain⟨b,hval,U⟩:=hc.2 hv t cells J
   have C:=I.obj i
   rw[J]at C
   obtain⟨b',vals,k1,k2,k3,k4⟩:=C
   rw[hval]at k1
   simp at k1
   subst k1
   obtain⟨ds,F,h4,h6,h5⟩:=KU I (k4.drop off) h
   have hlive:live s.h i:=by unfold live;rw[J];simp
   refine⟨ds,b::F,?_,λx hx=> ?_,h5⟩
   ·simp only[Rep];refine⟨b,off,vals.toList.drop off,F,U,(qm.1 k3).1,rfl,?_,h4⟩;intro j u hu;rw[List.getElem?_drop]at hu;simp[World.cell?,k3];simpa using hu
   ·rcases qq.1 hx with rfl|hx;(exact λhf=>hf.2 i hlive (by rw[hval];rfl));·exact h6 x hx
  ·exact h.elim
 ·exact h.elim
theorem OS(I:Inv base g s.h w pool):∀{cs:List (Nat×Nat×Nat)} {vs:List Value} {k:List D->Prog},FZ g s.h cs vs->ex P (GI cs k) s K->∃ds F,aM w ds vs F/\(∀b∈F,¬Hc g s.h b)/\ex P (k ds) s K
 |[],vs,k,hc,h=>⟨[],[],by simp only[aM];exact⟨hc,trivial⟩,wb,h⟩
 |(i,ver,U)::cs,vs,k,hc,h=>by obtain⟨v,J,rfl,h1,h3⟩:=hc;obtain⟨ds,F,h4,j,h5⟩:=QA I h1 h;obtain⟨es,G,h6,C,h7⟩:=OS I h3 h5;refine⟨.ptr ds::es,F++G,by simp only[aM];exact⟨v,J,F,G,rfl,rfl,h4,h6⟩,λb hb=> ?_,h7⟩;rcases qP.1 hb with hb|hb;(exact j b hb);·exact C b hb
theorem aAi(I:Inv base g s.h w pool){c:SC}{v:Value}{k:List D->Prog}(hc:B3 g s.h w c v)(h:ex P (DB [c] k) s K)(hk:∀ds,ex P (k ds) s K->∃f cs,ds=[.fn f cs]):
  ∃d F,Rep w d v F/\(∀b∈F,¬Hc g s.h b)/\ex P (k [d]) s K:=by
 cases c with
 |dat d=>
  obtain⟨F,h1,h2⟩:=hc
  exact⟨d,F,h1,λb hb C=>C.1 (h2 b hb),h⟩
 |clo f caps=>
  obtain⟨us,U,h1⟩:=hc
  obtain⟨ds,F,h4,h6,h5⟩:=OS I h1 h
  exact⟨.fn f ds,F,by simp only[Rep];exact⟨us,U,h4⟩,h6,h5⟩
 |nil=>obtain⟨f,cs,e⟩:=hk _ h;cases e
 |row i ver=>
  simp only[DB,ex]at h
  split at h
  ·split at h;(obtain⟨f,cs,e⟩:=hk _ h;cases e);·exact h.elim
  ·exact h.elim
 |bp i ver J=>
  obtain⟨ds,F,h4,h6,h5⟩:=QA I hc.2 h
  obtain⟨f,cs,e⟩:=hk _ h5;cases e
 |rp i ver j J=>exact h.elim
 |old B d u=>
  obtain⟨F,h1,h2,_⟩:=hc
  exact⟨d,F,h1,λb hb C=>C.1 (h2 b hb).1,h⟩
 |part i ver lo n=>
  simp only[DB,ex]at h
  split at h
  ·split at h;(obtain⟨f,cs,e⟩:=hk _ h;cases e);·exact h.elim
  ·exact h.elim
 |exa W d x=>
  obtain⟨rfl,F,h1,h2⟩:=hc
  exact⟨d,F,Rep.B8 _ _ _ h1 λb hb=>(h2 b hb).2,λb hb C=>C.1 (h2 b hb).1,h⟩
theorem OZ:∀{ds:List D} {vs:List Value} {F:List Nat},aM w ds vs F->ds.all D.flat=true->F=[]
 |[],vs,F,h,_=>by simp only[aM]at h;exact h.2
 |d::ds,vs,F,h,j=>by simp only[aM]at h;obtain⟨v,C,I,J,rfl,rfl,h3,h4⟩:=h;simp only[List.all_cons,qM]at j;rw[Mg h3 j.1,OZ h4 j.2];rfl
theorem Rz:∀{xs:List (List D)} {cells:List Value} {F:List Nat},bC w xs cells F->(∀x∈xs,x.all D.flat=true)->F=[]
 |[],cells,F,h,_=>by simp only[bC]at h;exact h.2
 |x::xs,cells,F,h,j=>by simp only[bC]at h;obtain⟨U,v2,I,J,rfl,rfl,h3,h4⟩:=h;rw[OZ h3 (j x wb),Rz h4 λy C=>j y (by simp[C])];rfl
theorem QI{L:TL}{X:Nat->Prop}{b:Nat}{vs:List Value}{r:RC}{C:List RC}{F:List Nat}{q:Ed}(j:r.ed=some q)(h:tX L b w X vs (r::C) F):False:=by
 cases r with
 |edit I=>cases vs<;>exact h
 |any d=>simp[RC.ed]at j
 |ro d=>simp[RC.ed]at j
 |own e sz J=>simp[RC.ed]at j
theorem VY{L:TL}{X:Nat->Prop}{b:Nat}{v:Value}{j:Bool}{r:RC}{I:List RC}{F:List Nat}{q:Ed}(C:r.ed=some q)(h:Pb L b w X v (j,r::I) F):False:=by
 cases j with
 |false=>exact QI C h
 |true=>obtain⟨J,_,h⟩:=h;exact QI C h
theorem Tf{L:TL}{X:Nat->Prop}{b:Nat}{v:Value}{C:List (Bool×List RC)}{F:List Nat}{q:Ed}(j:TT C=some q)(h:U7 L b w X v C F):False:=by
 match C,j,h with
 |[],j,_=>simp[TT]at j
 |(_,[])::_,j,_=>simp[TT]at j
 |[(I,r::l)],j,h=>exact VY j h
 |(I,r::l)::y::ys,j,h=>
  obtain⟨J,_,h⟩:=h
  match J.toList,h with
  |[],h=>exact h
  |u::us,h=>obtain⟨U,F2,_,h1,_⟩:=h;exact VY j h1
theorem aU.at_{g:Gh}{h:Heap}{w:World}:∀{cs:List SC} {vs:List Value} {i:Nat} {c:SC},aU g h w cs vs->cs[i]? =some c->∃v,vs[i]? =some v/\B3 g h w c v
 |[],_,_,_,_,h=>by simp at h
 |c::cs,vs,0,I,h,j=>by obtain⟨v,C,rfl,h1,h2⟩:=h;simp at j;subst j;exact⟨v,rfl,h1⟩
 |c::cs,vs,i+1,I,h,j=>by obtain⟨v,C,rfl,h1,h2⟩:=h;obtain⟨u,J,U⟩:=aU.at_ h2 (by simpa using j);exact⟨u,by simpa using J,U⟩
theorem aBS{f:FuncId}{xs:List Operand}{vs:Array Value}{avs:List (Bool×List D)}{q:Ed}{dst:Option Tmp}{Fa:List Nat}{R':Ending->World->Prop}(R:nV P base w0 N g s a w [])(hvs:vs=(xs.map a.eval).toArray)
  (k1:AU w vs.toList avs Fa){rs:List (Bool×List RC)}(hq:TT rs=some q)(k2:lE P f avs rs)(C:ex P (Ch N dst xs avs q) s K)
  (hnext:∀v w',(∃s',K s'/\Rel P base w0 N s' (a.put dst v) w')->R' (.returned v) w'):Calls P f vs w R':=by
 rcases k2 with k2|⟨q',hq',hb,hed⟩|⟨t1,es1,rs1,hr1,_⟩
 ·refine(k2.2 w vs Fa k1).mono λe w' hh=> ?_
  obtain⟨v,rfl,⟨F,X,_,_,_,hv⟩,_⟩:=hh
  exact(Tf hq hv).elim
 rotate_left
 ·rw[hr1]at hq;simp only[TT,RC.ed,qc]at hq;subst hq;unfold Ch at C;exact C.elim
 ·rw[hq']at hq
  simp only[TT,RC.ed,qc]at hq
  subst hq
  subst hvs
  have fin:∀{v':Value} {w':World} {g':Gh} {s':St} {sv:SV},nV P base w0 N g' s' a w' []->yM g' s'.h w' sv v'->ex P (put N dst sv) s' K->R' (.returned v') w':=by intro v' w' g' s' sv R2 hv hk;obtain⟨s2,m1,m2⟩:=Eo R2 hv hk;exact hnext v' w' ⟨s2,m1,g',m2⟩
  cases q' with
  |del e sz=>
   rcases xs with _|⟨x1,_|⟨x2,_|⟨x3,_|⟨x4,r⟩⟩⟩⟩<;>simp only[Ch,ex]at C
   obtain⟨sv1,a1,U⟩:=cN R C
   obtain⟨sv2,a2,k5⟩:=cN R U
   clear C
   obtain⟨sv3,a3,C⟩:=cN R k5
   clear U k5
   split at C
   ·rename_i i ver x y
    simp only[ex]at C
    split at C
    ·rename_i e' sz' rs dp hh
     split at C
     ·rename_i hc
      obtain⟨hc1,hc2,hc3⟩:=hc
      subst hc2 hc3
      obtain⟨⟨hx0,hxy,hy⟩,C⟩:=C
      obtain⟨hone,hle,hcap⟩:=eZ a1
      have hval:=hcap hc1 _ _ _ _ hh
      have hob:=R.inv.obj i
      rw[hh]at hob
      obtain⟨cells,p1,p2,p3,p4,p5⟩:=hob
      obtain⟨I1,J⟩:=R.inv.FM hh
      have T:mA g g s.h (pZ s.h i ((s.h i).1,.none)) w w:=mA.drop i g.S λ_ x=>x
      rw[hc1]at I1 J T
      have R1:nV P base w0 N g (s.fL i (ver,.none)) a w (if dp then[]++g.fp i else[]):=R.turn T rfl R.below I1
      have hcall:=hed base w (g.val i) rs.length cells x.toNat y.toNat R.inv.base_le p1 wg hy p3.rep.one
      have ha:([x1,x2,x3].map a.eval).toArray= #[g.val i,.int .i64 (x.toNat:Int),.int .i64 (y.toNat:Int)]:=by
       have e2:a.eval x2=.int .i64 (x.toNat:Int):=by rw[oN a2,jT hx0]
       have e3:a.eval x3=.int .i64 (y.toNat:Int):=by rw[oN a3,jT wg]
       simp[hval,e2,e3]
      rw[ha]
      refine hcall.mono ?_
      rintro ed w' ⟨v',rfl,r2,r3,r4⟩
      obtain⟨c1,c2,c3,F1,F2,F3,hcs,hG,m1,m2,m3,m4,m5⟩:=Rt (lo:=x.toNat) (n:=y.toNat-x.toNat) p3 p2 (.inr wg)
      rw[show x.toNat+(y.toNat-x.toNat)=y.toNat by omega]at m5
      have hl1:=m1 wg
      have e1:cells.take (x.toNat*sz')=c1:=by rw[hcs,<-hl1,List.take_left]
      have e2:cells.drop (y.toNat*sz')=c3:=by
       have:y.toNat*sz'=(c1++c2).length:=by rw[qE,hl1,m2,<-Nat.add_mul];congr 1;omega
       rw[hcs,<-qT,this,List.drop_left]
      rw[e1,e2]at r2
      have hlen:(rs.take x.toNat++rs.drop y.toNat).length=x.toNat+(rs.length-y.toNat):=by rw[qE,qV,qW,jW wg]
      obtain⟨g',z1,z2⟩:=Oq (j:=i) (dp:=dp) (zs:=rs.take x.toNat++rs.drop y.toNat) (F:=F1++F3) R1 p1 J (m3.append m5)
       (λb hb=>p4 b (by rw[hG];rcases qP.1 hb with hb|hb<;>simp[hb]))
       (λz I=>by rcases qP.1 I with I|I;(exact p2 z (qk I));·exact p2 z (qv I))
       (λhd=>by have hn:=(p5 hd).1;rw[hG]at hn;rw[hd];simp only[jI,jP];refine⟨hn.sublist (List.Sublist.append (List.Sublist.refl _) (List.sublist_append_right _ _)),λz I=> ?_⟩;rw[hG];rcases qP.1 I with I|I<;>simp[I]) (by rw[hlen];exact r2) r3 (r4.imp_right .inr)
      have hver:((s.fL i (ver,.none)).h i).1=ver:=by show(pZ s.h i _ i).1=_;rw[bR]
      rw[hver,St.K6]at z1 z2
      exact fin z1 z2 C
     ·exact C.elim
    ·exact C.elim
   ·exact C.elim
  |ins e sz bytes=>
   rcases xs with _|⟨x1,_|⟨x2,_|⟨x3,_|⟨x4,r⟩⟩⟩⟩<;>simp only[Ch,ex]at C
   obtain⟨sv1,a1,U⟩:=cN R C
   obtain⟨sv2,a2,k5⟩:=cN R U
   clear C
   obtain⟨sv3,a3,C⟩:=cN R k5
   clear U k5
   split at C
   ·rename_i i ver x j ver2
    simp only[ex]at C
    split at C
    ·rename_i e' sz' rs dp hh
     split at C
     ·rename_i hc
      obtain⟨hc1,hc2,hc3⟩:=hc
      subst hc2 hc3
      simp only[ex]at C
      split at C
      ·rename_i e2 sz2 ys dp2 hh2
       split at C
       ·rename_i hc'
        obtain⟨hd1,hd2,hd3⟩:=hc'
        subst hd2 hd3
        obtain⟨⟨hx0,hxl,hy0,hby⟩,C⟩:=C
        have hji:j≠i:=by rintro rfl;rw[TO,bR]at hh2;cases hh2
        rw[TO,eE _ _ _ _ hji]at hh2 hd1
        obtain⟨hone,hle,hcap⟩:=eZ a1
        have hval:=hcap hc1 _ _ _ _ hh
        obtain⟨hone2,hle2,hcap2⟩:=eZ a3
        have hval2:=hcap2 hd1 _ _ _ _ hh2
        have hob:=R.inv.obj i
        rw[hh]at hob
        obtain⟨cells,p1,p2,p3,p4,p5⟩:=hob
        have hob2:=R.inv.obj j
        rw[hh2]at hob2
        obtain⟨cells2,u1,u2,u3,u4,u5⟩:=hob2
        obtain⟨I1,J⟩:=R.inv.FM hh
        have T:mA g g s.h (pZ s.h i ((s.h i).1,.none)) w w:=mA.drop i g.S λ_ x=>x
        rw[hc1]at I1 J T
        have R1:nV P base w0 N g (s.fL i (ver,.none)) a w (if dp then[]++g.fp i else[]):=R.turn T rfl R.below I1
        have hh2':((s.fL i (ver,.none)).h j).2=.row e2 sz2 ys dp2:=by rw[TO,eE _ _ _ _ hji];exact hh2
        have hd1':((s.fL i (ver,.none)).h j).1=ver2:=by rw[TO,eE _ _ _ _ hji];exact hd1
        obtain⟨I2,hfr2⟩:=R1.inv.FM hh2'
        have T2:mA g g (s.fL i (ver,.none)).h (pZ (s.fL i (ver,.none)).h j (((s.fL i (ver,.none)).h j).1,.none)) w w:=mA.drop j g.S λ_ x=>x
        rw[hd1']at I2 hfr2 T2
        have R2:nV P base w0 N g ((s.fL i (ver,.none)).fL j (ver2,.none)) a w _:=R1.turn T2 rfl R1.below I2
        have hli:live s.h i:=by unfold live;rw[hh];simp
        have hlj:live s.h j:=by unfold live;rw[hh2];simp
        have hcall:=hed base w (g.val i) (g.val j) rs.length ys.length cells cells2 x.toNat R.inv.base_le p1 u1 (λb hb hb'=>R.inv.inj i j b (Ne.symm hji) hli hlj (by rw[tE p1];exact hb) (by rw[tE u1];exact hb')) hxl hy0 hby p3.rep.one u3.rep.one
        have ha:([x1,x2,x3].map a.eval).toArray= #[g.val i,.int .i64 (x.toNat:Int),g.val j]:=by
         have e2:a.eval x2=.int .i64 (x.toNat:Int):=by rw[oN a2,jT hx0]
         simp[hval,e2,hval2]
        rw[ha]
        refine hcall.mono ?_
        rintro ed w' ⟨v',rfl,r2,r3,r4⟩
        have p3':dR g.Q.L dp w e2 (rs.take x.toNat++rs.drop x.toNat) cells (g.fp i):=by rw[qo];exact p3
        obtain⟨c1,c2,F1,F2,hcs,hG,m1,m2⟩:=dR.split p3'
        have hl1:c1.length=x.toNat*sz2:=by rw[bC.length m1.rep λz I=>p2 z (qk I),qV,jW hxl]
        have e1:cells.take (x.toNat*sz2)=c1:=by rw[hcs,<-hl1,List.take_left]
        have e2':cells.drop (x.toNat*sz2)=c2:=by rw[hcs,<-hl1,List.drop_left]
        rw[e1,e2']at r2
        have hlen:(rs.take x.toNat++(ys++rs.drop x.toNat)).length=rs.length+ys.length:=by simp only[qE,qV,qW];omega
        have hfr':∀b,Ds (g.val i)=some b->Hc g ((s.fL i (ver,.none)).fL j (ver2,.none)).h b:=λb hb=>
         ⟨(J b hb).1,λl hl=>(J b hb).2 l (Ci hl).2⟩
        obtain⟨g',z1,z2⟩:=Oq (j:=i) (dp:=dp&&dp2) (zs:=rs.take x.toNat++(ys++rs.drop x.toNat)) (F:=F1++(g.fp j++F2)) R2 p1 hfr' (dR.append (m1.TU λhd=>(by simp at hd;exact hd.1)) (dR.append (u3.TU λhd=>(by simp at hd;exact hd.2)) (m2.TU λhd=>(by simp at hd;exact hd.1))))
         (λb hb=>by rcases qP.1 hb with hb|hb;(exact p4 b (by rw[hG];simp[hb]));·rcases qP.1 hb with hb|hb;(exact u4 b hb);·exact p4 b (by rw[hG];simp[hb]))
         (λz I=>by rcases qP.1 I with I|I;(exact p2 z (qk I));·rcases qP.1 I with I|I;(exact u2 z I);·exact p2 z (qv I))
         (λhd=>by simp only[qM]at hd;obtain⟨hd1,hd2⟩:=hd;have hpo:=I2.pool_own.1;rw[hd1,hd2]at hpo⊢;simp only[jI,jP]at hpo⊢;rw[hG,qt]at hpo;obtain⟨b1,b2,b3⟩:=hpo;rw[qt]at b1;obtain⟨b4,b5,b6⟩:=b1;refine⟨?_,λz I=> ?_⟩;(rw[qt];refine⟨b4,?_,?_⟩;(rw[qt];exact⟨b2,b5,by rintro z I z' hz' rfl;exact b3 z (by simp[hz']) z I rfl⟩);·rintro z I z' hz' rfl;rcases qP.1 hz' with hz'|hz';(exact b3 z (by simp[I]) z hz' rfl);·exact b6 z I z hz' rfl);·rw[hG];rcases qP.1 I with I|I;(simp[I]);·rcases qP.1 I with I|I<;>simp[I]) (by rw[hlen];exact r2) r3 (r4.imp_right .inr)
        have hver:(((s.fL i (ver,.none)).fL j (ver2,.none)).h i).1=ver:=by show(pZ (pZ s.h i _) j _ i).1=_;rw[eE _ _ _ _ (Ne.symm hji),bR]
        rw[hver]at z1 z2
        exact fin z1 z2 C
       ·exact C.elim
      ·exact C.elim
     ·exact C.elim
    ·exact C.elim
   ·exact C.elim
  |turn e sz ys=>
   rcases xs with _|⟨x1,_|⟨x2,_|⟨x4,r⟩⟩⟩<;>simp only[Ch,ex]at C
   obtain⟨sv1,a1,U⟩:=cN R C
   clear C
   obtain⟨sv2,a2,C⟩:=cN R U
   clear U
   split at C
   ·rename_i i ver c
    simp only[ex]at C
    split at C
    ·rename_i e' sz' rs dp hh
     split at C
     ·rename_i hc
      obtain⟨hc1,hc2,hc3⟩:=hc
      subst hc2 hc3
      obtain⟨hone,hle,hcap⟩:=eZ a1
      have hval:=hcap hc1 _ _ _ _ hh
      have hob:=R.inv.obj i
      rw[hh]at hob
      obtain⟨cells,p1,p2,p3,p4,p5⟩:=hob
      obtain⟨I1,J⟩:=R.inv.FM hh
      have T:mA g g s.h (pZ s.h i ((s.h i).1,.none)) w w:=mA.drop i g.S λ_ x=>x
      rw[hc1]at I1 J T
      have R1:nV P base w0 N g (s.fL i (ver,.none)) a w (if dp then[]++g.fp i else[]):=R.turn T rfl R.below I1
      obtain⟨xs0,gf,caps,hav,hfl,hys,hed⟩:=hed
      subst hav
      simp only[ex]at C
      obtain⟨d,F2,d1,d2,k5⟩:=aAi R1.inv (B3.turn T (eZ a2)) C (λds hk=>by have h1:=hk.1;simp only[List.cons.injEq,qb,D.sl.injEq,true_and,and_true]at h1;exact⟨gf,caps,h1.2.symm⟩)
      clear C
      obtain⟨hav,C⟩:=k5
      simp only[List.cons.injEq,qb,D.sl.injEq,true_and,and_true]at hav
      obtain⟨rfl,rfl⟩:=hav
      have hG:g.fp i=[]:=Rz p3.rep hfl
      have hcall:=hed base w (g.val i) (a.eval x2) cells F2 R.inv.base_le p1 p2 (by rw[<-hG];exact p3.rep) d1 (λb hb=>by have hf:=J b (by rw[tE p1];exact hb);exact λhb'=>d2 b hb' hf)
      have ha:([x1,x2].map a.eval).toArray= #[g.val i,a.eval x2]:=by simp[hval]
      rw[ha]
      refine hcall.mono ?_
      rintro ed w' ⟨v',cells',rfl,r2,r5,r3,r4⟩
      obtain⟨g',z1,z2⟩:=Oq (j:=i) (dp:=dp) (zs:=ys) (F:=[]) R1 p1 J (dR.flat (bC.B8 _ _ _ r5 wb) hys.2) wb hys.1
       (λhd=>⟨jb,wb⟩) r2 r3 r4
      have hver:((s.fL i (ver,.none)).h i).1=ver:=by show(pZ s.h i _ i).1=_;rw[bR]
      rw[hver,St.K6]at z1 z2
      simp only[ex,St.K6]at C
      exact fin z1 z2 C
     ·exact C.elim
    ·exact C.elim
   ·exact C.elim
  |pass=>
   rcases xs with _|⟨x1,_|⟨x2,_|⟨x3,r⟩⟩⟩<;>simp only[Ch,ex]at C
   obtain⟨sv,a2,U⟩:=cN R C
   clear C
   split at U
   ·rename_i ag cs
    have ha:([x1,x2].map a.eval).toArray= #[a.eval x1,a.eval x2]:=by simp
    rw[ha]
    refine(hed w (a.eval x1) (a.eval x2) Fa (by simpa using k1)).mono ?_
    rintro e w' ⟨rfl,hbl⟩
    have I':=R.inv.grow hbl.size hbl.block
    have T:mA g g s.h s.h w w':=mA.grow R.inv.S_lt hbl.block
    have R1:nV P base w0 N g s a w' []:=R.turn T rfl (R.bel (hbl.mono R.inv.base_le)) I'
    refine fin R1 (sv:=.tup [(ag,cs),(false,[.dat (.bool true)])]) ⟨#[a.eval x2,.bool true],rfl,a.eval x2,[.bool true],rfl,?_,.bool true,[],rfl,?_,rfl⟩ U
    ·exact JB.turn T a2
    ·exact⟨.bool true,[],rfl,⟨[],wW,wb⟩,rfl⟩
   ·exact U.elim
  |sel c k sz=>
   rcases xs with _|⟨x1,r⟩<;>simp only[Ch,ex]at C
   obtain⟨sv,a1,U⟩:=cN R C
   clear C
   split at U
   ·rename_i cs
    split at U
    ·rename_i i ver hcs
     simp only[ex]at U
     split at U
     ·rename_i e' sz' rs dp ho
      split at U
      ·rename_i hc
       split at U
       ·rename_i y hy
        obtain⟨vs1,hv1,hcells⟩:=a1
        obtain⟨u,hu,hrow⟩:=hcells.at_ hcs
        have hgv:u=g.val i:=hrow.2.2 hc.1 _ _ _ _ ho
        have hvl:((x1::r).map a.eval).toArray.toList=.agg vs1::r.map a.eval:=by simp[hv1]
        refine(hed w _ Fa (by rw[hvl];simpa[hv1]using k1)).mono ?_
        rintro e w' ⟨hbl,us,hus,rfl,cs',rest,b,o,n,cap,hvs',hcell,hlie⟩
        rw[hvl]at hvs'
        simp only[List.cons.injEq,Value.agg.injEq]at hvs'
        obtain⟨rfl,_⟩:=hvs'
        rw[hu]at hcell
        cases hcell
        have I':=R.inv.grow hbl.size hbl.block
        have T:mA g g s.h s.h w w':=mA.grow R.inv.S_lt hbl.block
        have R1:nV P base w0 N g s a w' []:=R.turn T rfl (R.bel (hbl.mono R.inv.base_le)) I'
        have hoff:o=0:=by have hob:=R.inv.obj i;rw[ho]at hob;obtain⟨cells,p1,p2,p3,p4,p5⟩:=hob;rcases p1.2 with⟨q1,q2⟩|⟨b',c2,cur,q1,q2⟩;(rw[<-hgv]at q1;cases q1);·rw[<-hgv]at q1;cases q1;rfl
        subst hoff
        obtain⟨cells,cur,rfl,m1,m2,m3,m4,m5,m6,m7,m8,m9,aa,ae,af⟩:=YH R.inv ho hgv.symm
        obtain⟨v1,v2,v3,F1,F2,F3,rfl,hF,hl1,hr1,hr2,hr3⟩:=aa.at_ m9 hy
        have hlen2:=hr2.length
        have hyl:y.length=sz':=m9 y (jD hy)
        have q1:=(m7.drop (k*sz')).take sz'
        rw[qp]at q1
        rw[show(v1++(v2++v3)).drop (k*sz')=v2++v3 by rw[<-hl1,List.drop_left],jX wg,jf wg]at q1
        rw[qp]at hlie
        have huv:us.toList=v2:=by
         apply List.ext_getElem?
         intro j
         rcases jS j sz with hj|hj
         ·have j1:j<us.toList.length:=by simpa[hus]using hj
          have j2:j<v2.length:=by have:=hc.2;omega
          rw[qF j1,qF j2]
          have x1:=hlie j _ (qF j1)
          have x2:=q1 j _ (qF j2)
          rw[<-hc.2]at x1
          exact x1.symm.trans x2
         ·rw[qZ (by simpa[hus]using hj),qZ (by have:=hc.2;omega)]
        refine fin R1 (sv:=.tup [(true,y.map .dat),(false,[.dat (.bool true)])]) ⟨#[.agg us,.bool true],rfl,.agg us,[.bool true],rfl,?_,.bool true,[],rfl,?_,rfl⟩ U
        ·exact JB.turn T ⟨us,rfl,by rw[huv];exact aU.J7 hr2 λb hb=>ae b (by rw[hF];simp[hb])⟩
        ·exact⟨.bool true,[],rfl,⟨[],wW,wb⟩,rfl⟩
       ·exact U.elim
      ·exact U.elim
     ·exact U.elim
    ·exact U.elim
   ·exact U.elim
  |lend t es=>exact hed.elim
  |newb t es=>
   cases dst with
   |none=>simp only[Ch,ex]at C
   |some d=>
    simp only[Ch]at C
    obtain⟨g2,s2,as2,F2,R2,_,q1,q2,q3⟩:=JR R C
    obtain⟨rfl,U⟩:=q3
    simp only[ex]at U
    refine(hed w _ F2 (by simpa using q1)).mono ?_
    rintro e w' ⟨hbl,b,vals,G,rfl,hbs,hw',hr,hbG,hG⟩
    have I':=R2.inv.grow hbl.size hbl.block
    have T:mA g2 g2 s2.h s2.h w w':=mA.grow R2.inv.S_lt hbl.block
    have R3:nV P base w0 N g2 s2 a w' []:=R2.turn T rfl (R2.bel (hbl.mono R2.inv.base_le)) I'
    have J:∀x,w.heap.size<=x->Hc g2 s2.h x:=λx hx=>⟨λhS=>absurd (R2.inv.S_lt x hS) wg,λj hl hb'=>absurd (R2.inv.H5 hl hb').2.lt wg⟩
    have I2:=I'.aEA (X:=λx=>x∈G) (λx hx=>⟨(hG x hx).1.elim (λy=>.inl (q2 x y)) (λy=>.inr (qh R2.inv.base_le y)),(hG x hx).2⟩) (λx hx hn=>(hG x hx).1.elim (λy=>absurd (q2 x y) hn) (λy=>J x y))
    have R3':nV P base w0 N { g2 with S:=λx=>g2.S x\/x∈G } s2 a w' []:=R3.turn (mA.aEA g2 s2.h w' λx=>x∈G) rfl R3.below I2
    have hfree:Hc { g2 with S:=λx=>g2.S x\/x∈G } s2.h b:=⟨λhS=>hS.elim (J b hbs).1 hbG,(J b hbs).2⟩
    have I3:=R3'.inv.Tj (i:=d) (cells:=es.map .dat) (qh R2.inv.base_le hbs) hfree hw' (aU.J7 hr λx hx=>.inr hx)
    have T3:=mA.create (g:={ g2 with S:=λx=>g2.S x\/x∈G }) (h:=s2.h) (w:=w') d (.pointer (some ⟨b,0,none⟩)) [] (.box t (es.map .dat))
    have R4:nV P base w0 N _ (s2.fL d ((s2.h d).1+1,.box t (es.map .dat))) a w' []:=R3'.turn T3 rfl R3'.below I3
    refine fin R4 (sv:=.v false [.bp d ((s2.h d).1+1) 0]) ⟨_,[],rfl,⟨rfl,?_,?_⟩,rfl⟩ U
    ·show _<=(pZ s2.h d _ d).1;rw[bR];exact qg _
    ·intro _ t' cs' _;exact⟨b,eM _ _ _,rfl⟩
theorem aBP{f:FuncId}{xs:List Operand}{vs:Array Value}{avs:List (Bool×List D)}{t:TypeId}{es:List D}{dst:Option Tmp}{Fa:List Nat}{R':Ending->World->Prop}(R:nV P base w0 N g s a w [])(hvs:vs=(xs.map a.eval).toArray)
  (k1:AU w vs.toList avs Fa){rs:List (Bool×List RC)}(hq:TT rs=some (.lend t es))(k2:lE P f avs rs)(k3:ex P (Tv N dst t es rs.tail xs avs) s K)
  (hnext:∀v w',(∃s',K s'/\Rel P base w0 N s' (a.put dst v) w')->R' (.returned v) w'):Calls P f vs w R':=by
 rcases k2 with k2|⟨q',hq',hb,hed⟩|⟨t',U,rs',hr,hb,hL⟩
 ·refine(k2.2 w vs Fa k1).mono λe w' I=> ?_
  obtain⟨v,rfl,⟨F,X,_,_,_,hv⟩,_⟩:=I
  exact(Tf hq hv).elim
 ·rw[hq']at hq;simp only[TT,RC.ed,qc]at hq;subst hq;exact hed.elim
 subst hr hvs
 simp only[TT,RC.ed,qc,Ed.lend.injEq]at hq
 obtain⟨rfl,rfl⟩:=hq
 obtain⟨han,hesf,d0,ds,rest,rfl,hdsf,hlen,hcall⟩:=hL
 cases xs with
 |nil=>exact k3.elim
 |cons x1 bs=>
  simp only[Tv,List.tail]at k3
  obtain⟨sv1,a1,k4⟩:=cN R k3
  clear k3
  split at k4
  ·rename_i i ver
   simp only[ex]at k4
   split at k4
   ·rename_i t1 c0 cells I
    split at k4
    ·rename_i hc
     obtain⟨hc1,hc2⟩:=hc
     subst hc2
     obtain⟨hone,hle,hcap⟩:=eZ a1
     obtain⟨b,hb1,hb2⟩:=hcap hc1 _ _ I
     have hob:=R.inv.obj i
     rw[I]at hob
     obtain⟨C,vals,h3,h4,h5,h6⟩:=hob
     have hbb:C=b:=by rw[hb1]at h3;simp at h3;exact h3.symm
     subst hbb
     have hlive:live s.h i:=by unfold live;rw[I];simp
     have hown:Ds (g.val i)=some C:=by rw[h3];rfl
     have hnS:=R.inv.mtb i C hlive hown
     obtain⟨v0,vs0,hvl,r0,r1⟩:=h6
     obtain⟨ds0,Fb,q1,q2,k5⟩:=Gw R.inv I (cs:=[c0]) (vs:=[v0]) ⟨v0,[],rfl,r0,rfl⟩ k4
     obtain⟨ds1,F1,q3,q4,k6⟩:=Gw R.inv I r1 k5
     obtain⟨hcells,k7⟩:=k6
     obtain⟨as,F,q5,q6,k8⟩:=ON R I k7
     obtain⟨hav,k9⟩:=k8
     have hl0:=q1.length
     match ds0,q1,hl0,hav with
     |[e0],q1,_,hav=>
      simp only[jQ,jP,List.cons.injEq,qb,D.ptr.injEq,true_and,and_true]at hav
      obtain⟨⟨rfl,rfl⟩,rfl⟩:=hav
      simp only[aM]at q1
      obtain⟨v0',vs',F2,F3,e1,rfl,q7,_,rfl⟩:=q1
      simp at e1
      obtain⟨rfl,rfl⟩:=e1
      have hF1:F1=[]:=OZ q3 hdsf
      subst hF1
      have apart:∀x,(g.S x \/∃j,j≠i/\live s.h j/\Ds (g.val j)=some x)->x≠C:=by rintro x (hx|⟨j,hj,hl,hx⟩) rfl;(exact hnS hx);·exact R.inv.inj j i x hj hl hlive hx hown
      have ha:((x1::bs).map a.eval).toArray=(.pointer (some ⟨C,0,none⟩)::bs.map a.eval).toArray:=by simp[hb2]
      rw[ha]
      refine(hcall w C vals v0 vs0 (bs.map a.eval) (F2++[]) F h5 hvl (by simpa using q7) q3 (λhx=>apart _ (q2 _ hx) rfl) q5 (λhx=>apart _ (q6 _ hx) rfl)).mono ?_
      rintro e w' ⟨v,us,rfl,hres,hgrow,hw',hus⟩
      refine hnext v w' ?_
      let w1:=w'.setRow C vals
      have hw1:w1.heap[C]? =some (.cells vals t1 (0,0)):=setRow_heap w' C _ vals t1 (0,0) hw'
      have hoth:∀k,k≠C->w'.heap[k]? =w1.heap[k]? :=λk hk=>(setRow_other w' C k _ hk).symm
      have hsz1:w1.heap.size=w'.heap.size:=setRow_size _ _ _
      have hb1':∀k,k<w.heap.size->w1.heap[k]? =w.heap[k]? :=λk hk=>by by_cases hkb:k=C;(rw[hkb,hw1,h5]);·rw[<-hoth k hkb];exact hgrow.block k hk (λe=>hkb (qd e))
      have hbel:Below w.heap.size w w1:=⟨hgrow.os,hgrow.tape,hgrow.output,by rw[hsz1];exact hgrow.size,hb1'⟩
      have I1:=R.inv.grow hbel.size hbel.block
      have T1:mA g g s.h s.h w w1:=mA.grow R.inv.S_lt hbel.block
      have R1:nV P base w0 N g s a w1 []:=R.turn T1 rfl (R.bel (hbel.mono R.inv.base_le)) I1
      have T2:mA g { g with fp:=Iw g.fp i (g.fp i) } s.h (pZ s.h i ((s.h i).1,.box t1 (c0::U.map .dat))) w1 w':=
       mA.Hd hnS hoth (by intro e sz xs dp J;cases J) (by intro t0 cs0 J;cases J;exact⟨_,I⟩)
      have I2:=R1.inv.Hd (i:=i) (b:=C) (F:=g.fp i) (pool':=[]) (w':=w') hlive hown hsz1.symm hoth T2
       ⟨C,_,h3,h4,hw',v0,us,wb,(r0.turn T1).turn T2,aU.J7 hus wb⟩ wb jb (by rintro⟨_,_,_,J⟩;cases J)
      have hbel2:Below w0.Q.fb w0.w w':=R.below.trans ⟨hgrow.os,hgrow.tape,hgrow.output,hgrow.size,λk hk=>hgrow.block k (qw hk (qh R.fbb R.inv.base_le)) (λe=>by have:=qd e;have:=R.q.2.1;omega)⟩
      rw[hc1]at T2 I2
      have R2:nV P base w0 N { g with fp:=Iw g.fp i (g.fp i) } (s.fL i (ver,.box t1 (c0::U.map .dat))) a w' []:=R1.turn T2 rfl hbel2 I2
      obtain⟨Fr,X,p1,_,_,p4⟩:=hres
      have hfr:∀x∈Fr,Hc { g with fp:=Iw g.fp i (g.fp i) } (s.fL i (ver,.box t1 (c0::U.map .dat))).h x:=λx hx=>by
       have hge:=(p1.2 x hx).1
       refine⟨λhS=>absurd (R.inv.S_lt x hS) wg,λj hl hb'=> ?_⟩
       have hl':live s.h j:=by rcases HT hl with rfl|⟨_,hl⟩;(exact hlive);·exact hl
       exact absurd (R.inv.H5 hl' hb').2.lt wg
      obtain⟨g',s',m1,m2⟩:=Kp R.inv.base_le (s:=s.fL i (ver,.box t1 (c0::U.map .dat))) R2 p1 p4 hfr (λI=>by rw[han]at I;cases I) k9
      exact⟨s',m1,g',m2⟩
    ·exact k4.elim
   ·exact k4.elim
  ·exact k4.elim
theorem Wr{f:FuncId}{as:Array Operand}{ts:Array TypeId}(ho:o.op=.call { callee:=.value (.func f),args:=as,argTypes:=ts })(R:nV P base w0 N g s a w [])(h:ex P (CN (fM P) N o) s K)
  (hQ:True):o.wp P a w (Aft P base w0 N K) Q:=by
 simp only[CN,ho]at h
 obtain⟨avs,Fa,k1,rs,k2,k3⟩:=Gv R h
 unfold Oper.wp
 have hrun:(execOp a.eval o).run P w=.ok (.enter f (as.map a.eval)) w:=by simp[execOp,ho,resolve,Act.eval,Deferred.ofValue,invoke,IE k2.body]
 rw[hrun]
 unfold Oper.upon
 unfold N3 at k3
 dsimp only at k3
 split at k3
 ·rename_i han
  cases hq:TT rs with
  |some q=>
   rw[hq]at k3
   have hvs:as.map a.eval=(as.toList.map a.eval).toArray:=by apply Array.ext';simp
   by_cases hl:∃t es,q=.lend t es
   ·obtain⟨t,es,rfl⟩:=hl;exact aBP (vs:=as.map a.eval) R hvs (by simpa using k1) hq k2 k3 λv w' hh=>hh
   ·have k3':ex P (Ch N o.dst as.toList avs q) s K:=by
     cases q with
     |lend t es=>exact absurd ⟨t,es,rfl⟩ hl
     |_=>exact k3
    exact aBS (vs:=as.map a.eval) R hvs (by simpa using k1) hq k2 k3' λv w' hh=>hh
  |none=>
   rw[hq]at k3
   have k2':R9 P f avs rs:=by rcases k2 with k2|⟨q,rfl,_⟩|⟨t1,es1,rs1,rfl,_⟩;(exact k2);(simp[TT,RC.ed]at hq);·simp[TT,RC.ed]at hq
   obtain⟨g2,s2,as2,F2,R2,_,q1,q2,q3⟩:=JR R k3
   obtain⟨rfl,q4⟩:=q3
   exact Rm R2 (by simpa using q1) (λ_=>q2) k2' q4 λv w' hh=>hh
 ·rename_i han;exact Rm R (by simpa using k1) (λhh=>absurd hh han) (k2.old (by simpa using han)) k3 λv w' hh=>hh
