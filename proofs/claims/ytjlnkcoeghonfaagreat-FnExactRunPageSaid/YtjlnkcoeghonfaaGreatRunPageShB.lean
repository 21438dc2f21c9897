/-
  Helper text. No conditions.
-/
import Derived.Test.YtjlnkcoeghonfaaGreatRunPageShA
import Derived.Great.FillDense
import Derived.Great.BuildSlice
import Derived.DataReads
import Derived.Laws.StructEq
import Derived.Laws.BytesString
import Derived.Laws.IdiomStrings
import Derived.Maps.AppendAt
import Derived.Lib.AppendStr
set_option linter.all false
namespace Go.Sh
open Go.RowKit
section
variable {P:Program}{base N:Nat}{w0:W0}{w:World}{g:Gh}{s:St}{a:Act}{K:St->Prop}{Q:Exit->Act->World->Prop}{o:Oper}
def Aft(P:Program)(base:Nat)(w0:W0)(N:Nat)(K:St->Prop):Act->World->Prop:=λC I=>∃j,K j/\Rel P base w0 N j C I
theorem rO{v:Value}{w':World}{j:Act->World->Prop}(hrun:(execOp a.eval o).run P w=.ok (.value v) w')(h:j (a.put o.dst v) w'):o.wp P a w j Q:=by unfold Oper.wp;rw[hrun];exact h
theorem Tl{w':World}{j:Act->World->Prop}(hrun:(execOp a.eval o).run P w=.ok .skip w')(C:o.dst=none)(h:j a w'):o.wp P a w j Q:=by unfold Oper.wp;rw[hrun];unfold Oper.upon;rw[C];exact h
theorem Hy{v:Value}{sv:SV}(R:lI P base w0 N g s a w [])(hrun:(execOp a.eval o).run P w=.ok (.value v) w)(j:nN g s.h w sv v)(h:ex P (put N o.dst sv) s K):o.wp P a w (Aft P base w0 N K) Q:=by obtain⟨C,h1,h2⟩:=DF R j h;exact rO hrun ⟨C,h1,g,h2⟩
theorem vZ{v:Value}{sv:SV}(R:lI P base w0 N g s a w [])(h:ex P (put N o.dst sv) s K)(hrun:(execOp a.eval o).run P w=.ok (.value v) w)(j:nN g s.h w sv v):o.wp P a w (Aft P base w0 N K) Q:=Hy R hrun j h
theorem Ly{d:D}{v:Value}{F:List Nat}(h:Rep w d v F)(j:∀b∈F,g.S b):nN g s.h w (one d) v:=⟨v,[],rfl,⟨F,h,j⟩,rfl⟩
theorem DM{k:IntKind}{n:Int}:nN g s.h w (one (.int k n)) (.int k n):=Ly (F:=[]) (by simp[Rep]) jF
theorem Kp{b:Bool}:nN g s.h w (one (.bool b)) (.bool b):=Ly (F:=[]) (by simp[Rep]) jF
theorem Qf{b:ByteArray}:nN g s.h w (one (.str b)) (.string b):=Ly (F:=[]) (by simp[Rep]) jF
theorem eK{c:SC}{v:Value}(h:nN g s.h w (.v false [c]) v):yT g s.h w c v:=by obtain⟨C,j,h1,h2,h3⟩:=h;simp at h1;rw[h1.1];exact h2
theorem lB{k:IntKind}{n:Int}{v:Value}(h:nN g s.h w (.v false [.dat (.int k n)]) v):v=.int k n:=by obtain⟨F,h1,_⟩:=eK h;simp only[Rep]at h1;exact h1.1
theorem Fx{b:Bool}{v:Value}(h:nN g s.h w (.v false [.dat (.bool b)]) v):v=.bool b:=by obtain⟨F,h1,_⟩:=eK h;simp only[Rep]at h1;exact h1.1
theorem IC{b:ByteArray}{v:Value}(h:nN g s.h w (.v false [.dat (.str b)]) v):v=.string b:=by obtain⟨F,h1,_⟩:=eK h;simp only[Rep]at h1;exact h1.1
theorem Mk{v:Value}(h:v.oneCell'=true):v.cells= #[v]:=by cases v<;>first|rfl|simp[Value.oneCell']at h
theorem GU{ag:Bool}{cs:List SC}{v:Value}(h:nN g s.h w (.v ag cs) v):aQ g s.h w cs v.cells.toList:=by
 cases ag with
 |false=>
  have j:aQ g s.h w cs [v]:=h
  have h1:=j.one v jF
  rw[Mk h1];exact j
 |true=>obtain⟨C,rfl,h1⟩:=h;exact h1
theorem YX{x:Operand}(j:o.op=.move x\/o.op=.assign x)(R:lI P base w0 N g s a w [])(h:ex P (vOp x λv=>put N o.dst v) s K):o.wp P a w (Aft P base w0 N K) Q:=by obtain⟨C,h1,h2⟩:=cA R h;refine Hy R (v:=a.eval x) ?_ h1 h2;rcases j with j|j<;>simp[execOp,j]
theorem YE{c x y:Operand}(j:o.op=.pick c x y)(R:lI P base w0 N g s a w [])(h:ex P (AU (dJ P) N o) s K):o.wp P a w (Aft P base w0 N K) Q:=by simp only[AU,j]at h;obtain⟨J,h1,h2⟩:=cA R h;split at h2;(rename_i t;have hb:=Fx h1;split at h2;(rename_i C;obtain⟨I,h3,h4⟩:=cA R h2;refine Hy R (v:=a.eval x) ?_ h3 h4;simp[execOp,j,hb,asBool,C]);·rename_i C;obtain⟨I,h3,h4⟩:=cA R h2;refine Hy R (v:=a.eval y) ?_ h3 h4;simp[execOp,j,hb,asBool,C]);·exact h2.elim
theorem XW(I:Inv base g s.h w []):GY g s.h w.heap.size:=
 ⟨λC=>absurd (I.S_lt _ C) jD,λj J hb=>absurd (I.HN J hb).2.lt jD⟩
theorem Ph(R:lI P base w0 N g s a w [])(d:Nat)(vals:Array Value)(t:TypeId)(cells:List SC)(hc:aQ g s.h w cells vals.toList):
  ∃J,lI P base w0 N J (s.fK d ((s.h d).1+1,.box t cells)) a (w.alloc (.cells vals t)) []/\nN J (s.fK d ((s.h d).1+1,.box t cells)).h (w.alloc (.cells vals t)) (.v false [.bp d ((s.h d).1+1) 0]) (.pointer (some ⟨w.heap.size,0,none⟩)):=by
 have C:w.heap.size<=(w.alloc (.cells vals t)).heap.size:=by simp
 have j:∀b,b<w.heap.size->(w.alloc (.cells vals t)).heap[b]? =w.heap[b]? :=λb hb=>Below.heap_alloc w _ b hb
 have U:=R.inv.grow C j
 have I:kL g g s.h s.h w (w.alloc (.cells vals t)):=kL.grow R.inv.S_lt j
 have I2:=U.Rn (i:=d) (b:=w.heap.size) (cells:=cells) R.inv.base_le (XW R.inv) (heap_alloc_new w _) (hc.turn I)
 have T2:=kL.create (g:=g) (h:=s.h) (w:=w.alloc (.cells vals t)) d (.pointer (some ⟨w.heap.size,0,none⟩)) [] (.box t cells)
 refine⟨_,R.turn (I.trans T2) rfl (R.below.alloc (qg R.fbb R.inv.base_le) _) I2,⟨_,[],rfl,⟨rfl,?_,?_⟩,rfl⟩⟩
 ·show _<=(nM s.h d _ d).1;rw[bM];exact qf _
 ·intro _ t' cs' _;exact⟨w.heap.size,fG _ _ _,rfl⟩
theorem Wn{t:TypeId}(C:o.op=.alloc t)(R:lI P base w0 N g s a w [])(h:ex P (AU (dJ P) N o) s K):o.wp P a w (Aft P base w0 N K) Q:=by simp only[AU,C]at h;split at h;(rename_i d ti U j;obtain⟨i,ds,z,h1,h2,h3,h4,h5,h6,h7,h8⟩:=(dI j).ok;simp only[ex]at h;obtain⟨J,I,hv⟩:=Ph R d z.cells t ti.zero (Hf h5 _ _ _);obtain⟨s',k1,k2⟩:=DF I hv h;refine rO (v:=.pointer (some ⟨w.heap.size,0,none⟩)) (w':=w.alloc (.cells z.cells t)) ?_ ⟨s',k1,J,U ▸ k2⟩;simp[execOp,C,Instr.alloc,zeroValue,typeInfo,h1,h3,newVar,newRow]);·exact h.elim
theorem Zw{t:TypeId}{x:Operand}(j:o.op=.box t x)(R:lI P base w0 N g s a w [])(h:ex P (AU (dJ P) N o) s K):o.wp P a w (Aft P base w0 N K) Q:=by simp only[AU,j]at h;split at h;(rename_i d U;obtain⟨sv,h1,h2⟩:=cA R h;split at h2;(rename_i ag I;simp only[ex]at h2;obtain⟨J,C,hv⟩:=Ph R d (a.eval x).cells t I (GU h1);obtain⟨s',k1,k2⟩:=DF C hv h2;refine rO (v:=.pointer (some ⟨w.heap.size,0,none⟩)) (w':=w.alloc (.cells (a.eval x).cells t)) ?_ ⟨s',k1,J,U ▸ k2⟩;simp[execOp,j,Instr.box,newVar,newRow]);·exact h2.elim);·exact h.elim
theorem Yx(u:Array Value)(off:Nat)(cs:Array Value)(h:off+u.size<=cs.size):
  (u.zipIdx.foldl (λcs (x:Value×Nat)=>cs.setIfInBounds (off+x.2) x.1) cs).toList=cs.toList.take off++(u.toList++cs.toList.drop (off+u.size)):=by
 obtain⟨C,j⟩:=Great.foldl_set off u.toList 0 cs
 rw[<-Array.foldl_toList,Array.toList_zipIdx]
 apply List.ext_getElem?
 intro k
 rw[Array.getElem?_toList,j k]
 simp only[Nat.add_zero,qm]
 rw[List.getElem?_append,List.getElem?_append,qU,qm,Nat.min_eq_left jD,List.getElem?_take]
 by_cases h1:k<off
 ·rw[if_neg jD,if_pos h1,if_pos h1];simp
 ·rw[if_neg h1];by_cases h2:k<off+u.size;(rw[if_pos ⟨jD,h2,jD⟩,if_pos jE]);·rw[if_neg jD,if_neg jE];simp only[List.getElem?_drop,qm,Array.getElem?_toList];congr 1;omega
theorem Hk(R:lI P base w0 N g s a w [])(place:Nat->Option (Nat×Nat)):∀{parts:List (Nat×Operand)} {cells:List SC} {vals:Array Value} {k:List SC->Prog},
  aQ g s.h w cells vals.toList->ex P (E0 place cells parts k) s K->∃I vals',Instr.fill place vals (parts.map λx=>(x.1,a.eval x.2))=some vals'/\aQ g s.h w I vals'.toList/\ex P (k I) s K
 |[],cells,vals,k,hc,h=>⟨cells,vals,rfl,hc,h⟩
 |(i,x)::rest,cells,vals,k,hc,h=>by
  simp only[E0]at h
  obtain⟨sv,h1,h2⟩:=cA R h
  split at h2
  ·rename_i ag I j sz hp
   split at h2
   ·rename_i hh
    have J:=GU h1
    have C:=J.length
    have hl2:=hc.length
    simp only[qm]at C hl2
    have hfs:=Yx (a.eval x).cells j vals jD
    have hc':aQ g s.h w (cells.take j++(I++cells.drop (j+sz))) ((a.eval x).cells.zipIdx.foldl (λI (x:Value×Nat)=>I.setIfInBounds (j+x.2) x.1) vals).toList:=by rw[hfs,C,hh.1];exact(hc.take j).append (J.append (hc.drop _))
    obtain⟨U,vals',k1,k2,k3⟩:=Hk R place hc' h2
    refine⟨U,vals',?_,k2,k3⟩
    simp only[List.map_cons,Instr.fill,hp]
    rw[if_neg (by simp[C,hh.1];omega)]
    exact k1
   ·exact h2.elim
  ·exact h2.elim
theorem Ry{P:Program}{d:TypeDesc}{C:List (Nat×Nat×Bool)}(h:RM P d=some (.struct C)):
  ∃fields pl,d=.struct fields/\fields.toList.mapM (λf=>(P.info? f.type).map λi=>(f.offset,i.size))=some pl/\C=((pl.zip (fields.toList.map λf=>L3 P f.type)).map λx=>(x.1.1,x.1.2,x.2))/\fields.toList.all (λf=>(P.underlying f.type).isSome)=true:=by
 unfold RM at h
 split at h
 ·rename_i fields;split at h;(rename_i pl j;split at h;(rename_i hall;simp at h;exact⟨fields,pl,rfl,j,h.symm,hall⟩);·cases h);·cases h
 all_goals simp at h
theorem YZ{P:Program}{d:TypeDesc}{e:TypeId}{n:Nat}(h:RM P d=some (.arr e n)):d=.array n e:=by unfold RM at h;split at h;(split at h;(split at h<;>cases h);·cases h);all_goals first|(cases h;rfl)|cases h
theorem C3{P:Program}{d:TypeDesc}{e:TypeId}(h:RM P d=some (.slice e)):d=.slice e:=by
 unfold RM at h
 split at h
 ·split at h;(split at h<;>simp at h);·simp at h
 all_goals simp at h
 rw[h]
theorem U9{P:Program}{d:TypeDesc}{k:IntKind}(h:RM P d=some (.int k)):d=.int k:=by
 unfold RM at h
 split at h
 ·split at h;(split at h<;>simp at h);·simp at h
 all_goals simp at h
 rw[h]
theorem Wx{P:Program}{d:TypeDesc}(h:RM P d=some .bool):d=.bool:=by
 unfold RM at h
 split at h
 ·split at h;(split at h<;>simp at h);·simp at h
 all_goals simp at h
 rfl
theorem Q9{P:Program}{d:TypeDesc}(h:RM P d=some .str):d=.string:=by
 unfold RM at h
 split at h
 ·split at h;(split at h<;>simp at h);·simp at h
 all_goals simp at h
 rfl
theorem T7{P:Program}{d:TypeDesc}{j:TI}(h:RM P d=some j.k):Xf d=j.agg:=by
 unfold RM at h
 unfold TI.agg
 split at h
 ·split at h;(split at h;(simp at h;rw[<-h];rfl);·cases h);·cases h
 ·simp at h;rw[<-h];rfl
 all_goals (simp at h;rw[<-h])
 all_goals first|rfl|(unfold Xf;split<;>simp_all)
theorem Wc{t:TypeId}{parts:Array (Nat×Operand)}(ho:o.op=.build t parts)(R:lI P base w0 N g s a w [])(h:ex P (AU (dJ P) N o) s K):o.wp P a w (Aft P base w0 N K) Q:=by
 simp only[AU,ho]at h
 split at h
 ·rename_i fs sz J z cm sl j
  obtain⟨i,ds,I,h1,h2,h3,h4,h5,h6,h7,h8⟩:=(dI j).ok
  obtain⟨fields,pl,rfl,C,U,_⟩:=Ry h4
  have hlen:=mapM_some_length C
  obtain⟨cs,vals',k1,k2,k3⟩:=Hk R _ (Hf h5 g s.h w) h
  refine Hy R (v:=.agg vals') (sv:=.v true cs) ?_ ⟨vals',rfl,k2⟩ k3
  have hb:P.built t (parts.map λ(i,x)=>(i,a.eval x)).toList=some vals':=by
   unfold Program.built
   simp only[h1,h2,h3,C]
   rw[Array.toList_map,<-k1]
   congr 1
   funext i
   simp only[List.getElem?_toArray,U,List.getElem?_map]
   have:(pl.zip (fields.toList.map λf=>L3 P f.type))[i]?.map (λx=>(x.1.1,x.1.2))=pl[i]? :=by
    rw[<-List.getElem?_map]
    have:(pl.zip (fields.toList.map λf=>L3 P f.type)).map (λx=>(x.1.1,x.1.2))=pl:=by have:=List.map_fst_zip (l₁:=pl) (l₂:=fields.toList.map λf=>L3 P f.type) (by simp[hlen]);simpa using this
    rw[this]
   rw[<-this]
   simp[Option.map_map,Function.comp_def]
  simp[execOp,ho,run_build w t _ vals' hb]
 ·rename_i e n sz J z cm sl j
  obtain⟨i,ds,I,h1,h2,h3,h4,h5,h6,h7,h8⟩:=(dI j).ok
  obtain rfl:=YZ h4
  split at h
  ·rename_i te hte hp
   obtain⟨ie,de,ze,e1,_⟩:=(dI hte).ok
   refine Hy R (v:=.agg I.cells) (sv:=.v true z) ?_ ⟨I.cells,rfl,Hf h5 g s.h w⟩ h
   have hb:P.built t (parts.map λ(i,x)=>(i,a.eval x)).toList=some I.cells:=by unfold Program.built;simp only[h1,h2,h3,e1];rw[Array.toList_map,hp];rfl
   simp[execOp,ho,run_build w t _ I.cells hb]
  ·exact h.elim
 ·exact h.elim
end
section
variable {P:Program}{base N:Nat}{w0:W0}{w:World}{g:Gh}{s:St}{a:Act}{K:St->Prop}{Q:Exit->Act->World->Prop}{o:Oper}
theorem EX{t:TypeId}{d:TypeDesc}(h:P.underlying t=some d)(w:World):(isAgg t).run P w=.ok (Xf d) w:=by unfold isAgg;rw[qs,run_underlying h w];cases d<;>rfl
theorem Dw.take{b off:Nat}{cells:List Value}(h:Dw w b off cells)(n:Nat):Dw w b off (cells.take n):=by intro j u C;rw[List.getElem?_take]at C;split at C;(exact h j u C);·cases C
theorem Dw.drop{b off:Nat}{cells:List Value}(h:Dw w b off cells)(n:Nat):Dw w b (off+n) (cells.drop n):=by intro j u C;rw[List.getElem?_drop]at C;have:=h (n+j) u C;rwa [show off+n+j=off+(n+j)from by omega]
theorem Sv{b:Nat}{vals:Array Value}{t:TypeId}(h:w.heap[b]? =some (.cells vals t (0,0))):Dw w b 0 vals.toList:=by intro j u C;rw[cell_of_row w b _ vals t (0,0) h];simpa using C
theorem RP{t:TypeId}{I:TI}(U:dJ P t=some I){b off:Nat}{cells:List Value}{cs:List SC}(hl:Dw w b off cells)(hlen:cells.length=I.size)(hc:aQ g s.h w cs cells):
  ∃v,(Instr.loadAt t (.pointer (some ⟨b,off,none⟩))).run P w=.ok v w/\nN g s.h w (.v I.agg cs) v:=by
 obtain⟨i,d,z,h1,h2,h3,h4,h5,h6,h7,h8,h9⟩:=(dI U).ok
 have C:=T7 h4
 cases hb:I.agg with
 |true=>
  refine⟨.agg cells.toArray,?_,⟨cells.toArray,rfl,by simpa using hc⟩⟩
  have hrun:=run_loadCells_list (P:=P) w ⟨b,off,none⟩ cells (λj u hu=>by rw[Addr.add_lit];exact hl j u hu)
  simp only[Instr.loadAt,Instr.sureAddr,loadVar,qs,qu,qh,EX h2 w,C,hb,if_true,sizeOf,typeInfo,run_program,h1,h7,<-hlen,hrun]
 |false=>
  have J:I.size=1:=by rcases h9 with h9|h9;(rw[C,hb]at h9;cases h9);·omega
  match cells,hlen.trans J with
  |[v],_=>
   refine⟨v,?_,hc⟩
   have:=hl 0 v rfl
   simp only[Nat.add_zero]at this
   simp only[Instr.loadAt,Instr.sureAddr,loadVar,qs,qu,qh,EX h2 w,C,hb,if_false,run_load,this,qD]
theorem SZ{ds:List D}{v:Value}(h:nN g s.h w (.v false [.dat (.ptr ds)]) v):
  ∃b j cells F,v=.pointer (some ⟨b,j,none⟩)/\b<w.heap.size/\g.S b/\Dw w b j cells/\aF w ds cells F/\∀x∈F,g.S x:=by
 obtain⟨F,h1,h2⟩:=eK h
 simp only[Rep]at h1
 obtain⟨b,j,cells,G,h3,h4,rfl,h5,h6⟩:=h1
 exact⟨b,j,cells,G,h3,h4,h2 b jF,h5,h6,λx C=>h2 x (by simp[C])⟩
theorem Wa(I:Inv base g s.h w []){i:Nat}{e:TypeId}{sz:Nat}{xs:List (List D)}{dp:Bool}(ho:(s.h i).2=.row e sz xs dp){b n c:Nat}(hv:g.val i=.slice (some ⟨b,0,none⟩) n c):
  ∃cells C,n=xs.length/\base<=b/\w.heap[b]? =some (.cells C e (0,0))/\n<=c/\c<=maxLen/\C.size=c*sz/\C.toList.take (n*sz)=cells/\Dw w b 0 cells/\cells.length=n*sz/\(∀x∈xs,x.length=sz)/\
   aT w xs cells (g.fp i)/\(∀y∈g.fp i,g.S y)/\(dp=true->Co base w (g.fp i)):=by
 have U:=I.obj i
 rw[ho]at U
 obtain⟨cells,h1,h2,h3,h4,h5⟩:=U
 have J:=h1
 rcases h1.2 with⟨h6,_⟩|⟨gg,cap,C,h6,h7,h8,h9,aa,ae,af⟩
 ·rw[hv]at h6;cases h6
 ·rw[hv]at h6;simp at h6;obtain⟨rfl,rfl,rfl⟩:=h6;refine⟨cells,C,rfl,h7,h8,h9,aa,ae,af,?_,J.1,h2,h3.rep,h4,h5⟩;intro j u hu;have:=J.cells (g:=b) (by rw[hv];rfl) j u hu;rw[Addr.add_lit]at this;exact this
theorem Zc{W:World}{ds:List D}{p v:Value}(h:nN g s.h w (.v false [.exa W (.ptr ds) p]) v):v=p/\∃b j cells F,p=.pointer (some ⟨b,j,none⟩)/\Dw w b j cells/\Dw W b j cells/\aF W ds cells F/\∀y∈F,g.S y/\w.heap[y]? =W.heap[y]? :=by obtain⟨v',I,e,⟨J,F,h1,h2⟩,h3⟩:=h;have C:I=[]:=h3;subst C;simp only[List.cons.injEq,and_true]at e;subst e J;simp only[Rep]at h1;obtain⟨b,j,cells,G,rfl,h5,rfl,h6,h7⟩:=h1;exact⟨rfl,b,j,cells,G,rfl,h6.oR (h2 b jF).2,h6,h7,λy U=>h2 y (by simp[U])⟩
theorem TZ{W:World}{b off:Nat}:∀{ds:List D} {cells:List Value} {F:List Nat} (j:Nat),aF W ds cells F->(∀y∈F,g.S y/\w.heap[y]? =W.heap[y]?)->(∀i u,cells[i]? =some u->W.cell? ⟨b,off+(j+i),none⟩=some u)->
  aQ g s.h w (aCO W (.pointer (some ⟨b,off,none⟩)) j ds) cells
 |[],cells,F,j,C,_,_=>by simp only[aF]at C;exact C.1
 |d::ds,cells,F,j,C,hF,hu=>by
  simp only[aF]at C
  obtain⟨v,J,F1,F2,rfl,rfl,h3,h4⟩:=C
  have U:cellAt W (.pointer (some ⟨b,off,none⟩)) j=v:=by have:=hu 0 v rfl;simp only[cellAt,Nat.add_zero]at this⊢;rw[this];rfl
  refine⟨v,J,rfl,⟨U.symm,F1,by rw[U];exact h3,λy I=>hF y (by simp[I])⟩,TZ (j+1) h4 (λy I=>hF y (by simp[I])) λi u hi=> ?_⟩
  rw[show off+(j+1+i)=off+(j+(i+1))by omega]
  exact hu (i+1) u (by simpa using hi)
theorem XF{t:TypeId}{x:Operand}(ho:o.op=.load t x)(R:lI P base w0 N g s a w [])(h:ex P (AU (dJ P) N o) s K):o.wp P a w (Aft P base w0 N K) Q:=by
 simp only[AU,ho]at h
 split at h
 ·rename_i C hti
  obtain⟨sv,h1,h2⟩:=cA R h
  have fin:∀{b off:Nat} {cells:List Value} {cs:List SC},a.eval x=.pointer (some ⟨b,off,none⟩)->Dw w b off cells->cells.length=C.size->aQ g s.h w cs cells->ex P (put N o.dst (.v C.agg cs)) s K->o.wp P a w (Aft P base w0 N K) Q:=by intro b off cells cs hx hl hlen hc hk;obtain⟨v,hrun,hv⟩:=RP hti hl hlen hc;refine Hy R (v:=v) ?_ hv hk;simp only[execOp,ho,hx,qs,hrun,qh,qu]
  unfold NN at h2
  split at h2
  ·rename_i i ver off
   obtain⟨hone,hle,hcap⟩:=eK h1
   simp only[ex]at h2
   split at h2
   ·rename_i t' cells hh
    split at h2
    ·rename_i hc
     obtain⟨b,hb1,hb2⟩:=hcap hc.1 _ _ hh
     have I:=R.inv.obj i
     rw[hh]at I
     obtain⟨b',vals,h3,h4,h5,h6⟩:=I
     have hbb:b'=b:=by rw[hb1]at h3;simp at h3;exact h3.symm
     subst hbb
     have hlv:=h6.length
     have U:=((Sv h5).drop off).take C.size
     rw[qo]at U
     refine fin hb2 U ?_ ((h6.drop off).take C.size) h2
     have:=hc.2
     simp only[qU,qV,hlv]
     omega
    ·exact h2.elim
   ·exact h2.elim
  ·rename_i ds;obtain⟨b,off,cells,F,h3,h4,h5,h6,h7,h8⟩:=SZ h1;split at h2;(rename_i hc;have:=h7.length;refine fin h3 (h6.take C.size) (by rw[qU];omega) ?_ h2;rw[List.map_take];exact(aQ.L9 h7 h8).take _);·exact h2.elim
  ·rename_i i ver j off
   obtain⟨hone,hle,hcap⟩:=eK h1
   simp only[ex]at h2
   split at h2
   ·rename_i e sz xs dp hh
    split at h2
    ·rename_i hc
     obtain⟨b,n,c,hb1,hb2⟩:=hcap hc _ _ _ _ hh
     split at h2
     ·rename_i y hy
      split at h2
      ·rename_i hy2
       obtain⟨cells,cur,rfl,m1,m2,m3,m4,m5,m6,m7,m8,m9,aa,ae,af⟩:=Wa R.inv hh hb1
       obtain⟨v1,v2,v3,F1,F2,F3,rfl,hF,U,hr1,hr2,hr3⟩:=aa.at_ m9 hy
       have hlen2:=hr2.length
       have q1:=((m7.drop (j*sz)).drop off).take C.size
       rw[qo]at q1
       have q2:((v1++(v2++v3)).drop (j*sz))=v2++v3:=by rw[<-U,List.drop_left]
       rw[q2]at q1
       have q3:((v2++v3).drop off).take C.size=(v2.drop off).take C.size:=by rw[List.drop_append_of_le_length jD,List.take_append_of_le_length (by rw[qV];omega)]
       rw[q3]at q1
       have J:aQ g s.h w (List.map SC.dat (List.take C.size (List.drop off y))) ((v2.drop off).take C.size):=by rw[List.map_take,List.map_drop];exact((aQ.L9 hr2 λb hb=>ae b (by rw[hF];simp[hb])).drop off).take _
       have hql:((v2.drop off).take C.size).length=C.size:=by rw[qU,qV];omega
       split at h2
       ·rename_i u hu
        simp only[ex]at h2
        split at h2
        ·rename_i i' ver' u' hp
         obtain⟨⟨hu',hag⟩,h2⟩:=h2
         simp only[ex]at h2
         split at h2
         ·rename_i e2 sz2 xs2 dp2 hh2
          split at h2
          ·rename_i hv2
           have hsz:C.size=1:=by obtain⟨ii,dd,zz,a1,a2,a3,a4,a5,a6,a7,a8,a9⟩:=(dI hti).ok;have:=T7 a4;rw[hag]at this;rcases a9 with a9|a9;(rw[this]at a9;cases a9);·omega
           have I:=R.inv.obj 7058000
           rw[hp]at I
           obtain⟨_,p1,p2⟩:=I
           have hpv:=p2 hv2 _ _ _ _ hh2
           rw[hsz]at hu J q1 hql
           cases hd:List.take 1 (List.drop off y)with
           |nil=>rw[hd]at hu;simp[Mo]at hu
           |cons d ds=>
            rw[hd]at hu J
            obtain⟨v,vs',e3,⟨F,k1,k2⟩,k3⟩:=J
            have hvs:vs'=[]:=by rw[e3]at hql;exact List.length_eq_zero_iff.1 (by simpa using hql)
            subst hvs
            have hval:v=u/\v.oneCell'=true:=by
             cases d<;>simp[Mo]at hu
             subst hu
             simp only[Rep]at k1
             exact k1.1
            rw[e3]at q1
            refine fin (cs:=[.row i' ver']) hb2 q1 (by rw[hsz];rfl) ⟨v,[],rfl,⟨hval.2,p1,λ_ _ _ _ _ _=> ?_⟩,rfl⟩ (by rw[hag];exact h2)
            rw[hpv,hval.1,hu']
          ·exact h2.elim
         ·exact h2.elim
        ·exact h2.elim
       ·exact fin hb2 q1 hql J h2
      ·exact h2.elim
     ·exact h2.elim
    ·exact h2.elim
   ·exact h2.elim
  ·rename_i W ds p;obtain⟨hx,b,off,cells,F,rfl,h5,h6,h7,h8⟩:=Zc h1;split at h2;(rename_i hc;have:=h7.length;refine fin hx (h5.take C.size) (by rw[qU];omega) ?_ h2;refine(TZ 0 h7 h8 λi u hi=> ?_).take _;rw[qo];exact h6 i u hi);·exact h2.elim
  ·exact h2.elim
 ·exact h.elim
theorem KX:∀(n:Nat) {ds:List D} {vs:List Value} {F:List Nat},aF w ds vs F->∃j,aF w (ds.drop n) (vs.drop n) j/\∀y∈j,y∈F
 |0,ds,vs,F,h=>⟨F,by simpa using h,λ_ x=>x⟩
 |n+1,[],vs,F,h=>by simp only[aF]at h;exact⟨[],by simp[aF,h.1],jF⟩
 |n+1,d::ds,vs,F,h=>by simp only[aF]at h;obtain⟨v,U,F1,F2,rfl,rfl,h3,h4⟩:=h;obtain⟨j,I,J⟩:=KX n h4;exact⟨j,by simpa using I,λy C=>by simp[J y C]⟩
theorem Su{t f:Nat}{fs:List (Nat×Nat×Bool)}{off sz:Nat}{ag:Bool}{d:TypeDesc}(hd:RM P d=some (.struct fs))(I:fs[f]? =some (off,sz,ag)):
  ∃fields j i,d=.struct fields/\fields[f]? =some j/\j.offset=off/\P.info? j.type=some i/\i.size=sz/\L3 P j.type=ag/\∃J,P.underlying j.type=some J:=by
 obtain⟨fields,pl,rfl,U,rfl,hall⟩:=Ry hd
 rw[List.getElem?_map]at I
 cases hz:(pl.zip (fields.toList.map λf=>L3 P f.type))[f]? with
 |none=>rw[hz]at I;simp at I
 |some x=>
  rw[hz]at I
  simp at I
  obtain⟨hz1,C⟩:=List.getElem?_zip_eq_some.1 hz
  rw[List.getElem?_map]at C
  cases hfl:fields.toList[f]? with
  |none=>rw[hfl]at C;simp at C
  |some j=>
   rw[hfl]at C
   simp at C
   have:=mapM_some_get U f j hfl
   rw[hz1]at this
   cases hi:P.info? j.type with
   |none=>rw[hi]at this;simp at this
   |some i=>
    rw[hi]at this
    simp at this
    obtain⟨⟨a1,a2⟩,b2⟩:=x
    simp at this I C
    refine⟨fields,j,i,rfl,by simpa using hfl,?_,hi,?_,?_,?_⟩
    ·rw[this.1];exact I.1
    ·rw[this.2];exact I.2.1
    ·rw[C];exact I.2.2
    ·rw[qR]at hall;exact Option.isSome_iff_exists.1 (hall j (jB hfl))
theorem Px{t:TypeId}{x:Operand}{f:Nat}(ho:o.op=.fieldAddr t x f)(R:lI P base w0 N g s a w [])(h:ex P (AU (dJ P) N o) s K):o.wp P a w (Aft P base w0 N K) Q:=by
 simp only[AU,ho]at h
 split at h
 ·rename_i fs sz0 by0 z0 cm0 sl0 hti
  obtain⟨i,d,z,h1,h2,h3,h4,h5,h6,h7,h8,h9⟩:=(dI hti).ok
  split at h
  ·rename_i I sz ag hf
   obtain⟨fields,fld,fi,rfl,k1,k2,k3,k4,k5,dsc,hdsc⟩:=Su (t:=t) h4 hf
   split at h
   ·rename_i hpos
    obtain⟨sv,q1,C⟩:=cA R h
    have hrun:∀b J,a.eval x=.pointer (some ⟨b,J,none⟩)->(execOp a.eval o).run P w=.ok (.value (.pointer (some ⟨b,J+I,none⟩))) w:=by
     intro b J hx
     have hne:¬fi.size=0:=by omega
     simp[execOp,ho,hx,Instr.fieldAt,run_underlying h2,k1,Instr.sureAddr,fieldPlace,sizeOf,typeInfo,k3,hne,Addr.add_lit,k2]
    unfold LB at C
    split at C
    ·rename_i j ver J;obtain⟨hone,hle,hcap⟩:=eK q1;simp only[ex]at C;split at C;(rename_i t' cs' e2;split at C;(rename_i e1;obtain⟨b,e3,e4⟩:=hcap e1 t' cs' e2;exact vZ R C (hrun b J e4) ⟨_,[],rfl,⟨rfl,hle,λ_ _ _ _=>⟨b,e3,rfl⟩⟩,rfl⟩);·exact C.elim);·exact C.elim
    ·rename_i j ver jj J;obtain⟨hone,hle,hcap⟩:=eK q1;simp only[ex]at C;split at C;(rename_i e sz' xs dp e2;split at C;(rename_i e1;obtain⟨b,n,c,e3,e4⟩:=hcap e1 _ _ _ _ e2;refine vZ R C (hrun b _ e4) ⟨_,[],rfl,⟨rfl,hle,λ_ e' sz'' xs' dp' hh=>⟨b,n,c,e3,?_⟩⟩,rfl⟩;rw[e2]at hh;cases hh;simp[qy]);·exact C.elim);·exact C.elim
    ·rename_i ds;obtain⟨b,J,cells,F,e1,e2,e3,e4,e5,e6⟩:=SZ q1;split at C;(rename_i hle;refine vZ R C (hrun b J e1) ⟨_,[],rfl,?_,rfl⟩;have hsp:∃U,aF w (ds.drop I) (cells.drop I) U/\∀y∈U,y∈F:=KX I e5;obtain⟨U,e7,e8⟩:=hsp;refine⟨b::U,?_,?_⟩;(simp only[Rep];exact⟨b,J+I,cells.drop I,U,rfl,e2,rfl,e4.drop I,e7⟩);·intro y hy;rcases qp.1 hy with rfl|hy;(exact e3);·exact e6 y (e8 y hy));·exact C.elim
    ·exact C.elim
   ·exact h.elim
  ·exact h.elim
 ·exact h.elim
theorem VQ{t:TypeId}{x:Operand}{f:Nat}(ho:o.op=.field t x f)(R:lI P base w0 N g s a w [])(h:ex P (AU (dJ P) N o) s K):o.wp P a w (Aft P base w0 N K) Q:=by
 simp only[AU,ho]at h
 split at h
 ·rename_i fs sz0 by0 z0 cm0 sl0 hti
  obtain⟨i,d,z,h1,h2,h3,h4,h5,h6,h7,h8,h9⟩:=(dI hti).ok
  split at h
  ·rename_i j sz ag hf
   obtain⟨fields,fld,fi,rfl,k1,k2,k3,k4,k5,dsc,hdsc⟩:=Su (t:=t) h4 hf
   obtain⟨sv,q1,I⟩:=cA R h
   split at I
   ·rename_i cs
    split at I
    ·rename_i hc
     obtain⟨C,hx,U⟩:=q1
     have hl:=U.length
     simp only[qm]at hl
     have hsub:=(U.drop j).take sz
     have J:Xf dsc=ag:=by unfold L3 at k5;rw[hdsc]at k5;exact k5
     cases ag with
     |true=>
      refine vZ R I (v:=.agg (C.extract j (j+sz))) ?_ ⟨_,rfl,?_⟩
      ·simp[execOp,ho,hx,Instr.field,run_underlying h2,k1,asAgg,part,EX hdsc,J,sizeOf,typeInfo,k3,k4,k2]
      ·have:(C.extract j (j+sz)).toList=(C.toList.drop j).take sz:=by simp
       rw[this];exact hsub
     |false=>
      have hsz:sz=1:=by simpa using hc.2
      subst hsz
      have hlt:j<C.size:=by omega
      have hone:(C.toList.drop j).take 1=[C[j]]:=by rw[qW (by simpa using hlt)];simp
      rw[hone]at hsub
      refine vZ R I (v:=C[j]) ?_ hsub
      simp[execOp,ho,hx,Instr.field,run_underlying h2,k1,asAgg,part,EX hdsc,J,k2,hlt]
    ·exact I.elim
   ·exact I.elim
  ·exact h.elim
 ·exact h.elim
end
section
variable {P:Program}{base N:Nat}{w0:W0}{w:World}{g:Gh}{s:St}{a:Act}{K:St->Prop}{Q:Exit->Act->World->Prop}{o:Oper}
theorem Nu{xs:List (List D)}{v:Value}(h:nN g s.h w (.v false [.dat (.sl xs)]) v):
  ∃C n c,v=.slice C n c/\n=xs.length/\n<=c/\(n=0 \/∃b j cells sz G,C=some ⟨b,j,none⟩/\b<w.heap.size/\g.S b/\Dw w b j cells/\cells.length=n*sz/\(∀x∈xs,x.length=sz)/\aT w xs cells G/\∀y∈G,g.S y):=by
 obtain⟨F,h1,h2⟩:=eK h
 simp only[Rep]at h1
 obtain⟨C,n,c,h3,h4,h5,h6⟩:=h1
 refine⟨C,n,c,h3,h4,h5,?_⟩
 rcases h6 with⟨h6,_⟩|⟨b,j,cells,sz,G,J,U,rfl,k4,k5,k6,k7⟩
 ·exact .inl h6
 ·exact .inr ⟨b,j,cells,sz,G,J,U,h2 b jF,k4,k5,k6,k7,λy I=>h2 y (by simp[I])⟩
theorem VS{B:Nat}{d:D}{u:Option Value}{v:Value}(h:nN g s.h w (.v false [.old B d u]) v):nN g s.h w (.v false [.dat d]) v:=by obtain⟨j,C,e,⟨F,h1,h2,_⟩,h3⟩:=h;exact⟨j,C,e,⟨F,h1,λb hb=>(h2 b hb).1⟩,h3⟩
theorem Pz{t:TypeId}{x ix:Operand}(ho:o.op=.indexAddr t x ix)(R:lI P base w0 N g s a w [])(h:ex P (AU (dJ P) N o) s K):o.wp P a w (Aft P base w0 N K) Q:=by
 simp only[AU,ho]at h
 split at h
 ·rename_i e sz0 by0 z0 cm0 sl0 hti
  obtain⟨i,d,z,h1,h2,h3,h4,h5,h6,h7,h8,h9⟩:=(dI hti).ok
  obtain rfl:=C3 h4
  split at h
  ·rename_i te hte
   obtain⟨ie,de,ze,e1,e2,e3,e4,e5,e6,e7,e8,e9⟩:=(dI hte).ok
   obtain⟨sx,q1,q2⟩:=cA R h
   obtain⟨si,q3,C⟩:=cA R q2
   have hrun:∀b I n c k (m:Int),a.eval x=.slice (some ⟨b,I,none⟩) n c->a.eval ix=.int k m->0<=m->m.toNat<n->
     (execOp a.eval o).run P w=.ok (.value (.pointer (some ⟨b,I+m.toNat*te.size,none⟩))) w:=by
    intro b I n c k m hx hi hm hlt
    have hlt':m<(n:Int):=by omega
    simp[execOp,ho,hx,hi,Instr.indexAt,asIntOf,run_underlying h2,sizeOf,typeInfo,e1,e7,hm,hlt',Addr.add_lit]
   unfold Dk at C
   split at C
   ·rename_i xs k m
    obtain⟨ad,n,c,k1,k2,k3,k4⟩:=Nu q1
    obtain⟨hm,C⟩:=C
    split at C
    ·rename_i y hy
     split at C
     ·rename_i hyl
      have hlt:m.toNat<xs.length:=(qd.1 hy).1
      rcases k4 with k4|⟨b,I,cells,sz,G,rfl,m2,m3,m4,m5,m6,m7,m8⟩
      ·omega
      ·have hsz:sz=te.size:=by rw[<-hyl];exact(m6 y (jB hy)).symm
       subst hsz
       refine vZ R C (hrun b I n c k m k1 (lB q3) hm jD) ⟨_,[],rfl,?_,rfl⟩
       obtain⟨v1,v2,v3,F1,F2,F3,rfl,hF,hl1,hr1,J,hr3⟩:=m7.at_ m6 hy
       refine⟨b::F2,?_,?_⟩
       ·simp only[Rep];refine⟨b,I+m.toNat*te.size,v2,F2,rfl,m2,rfl,?_,J⟩;have q:=(m4.drop (m.toNat*te.size)).take te.size;rw[<-hl1,List.drop_left,List.take_append_of_le_length (by rw[J.length];omega),List.take_of_length_le (by rw[J.length];omega)]at q;rw[<-hl1];exact q
       ·intro yy U;rcases qp.1 U with rfl|U;(exact m3);·exact m8 yy (by rw[hF];simp[U])
     ·exact C.elim
    ·exact C.elim
   ·rename_i B xs u k m
    obtain⟨ad,n,c,k1,k2,k3,k4⟩:=Nu (VS q1)
    obtain⟨hm,C⟩:=C
    split at C
    ·rename_i y hy
     split at C
     ·rename_i hyl
      have hlt:m.toNat<xs.length:=(qd.1 hy).1
      rcases k4 with k4|⟨b,I,cells,sz,G,rfl,m2,m3,m4,m5,m6,m7,m8⟩
      ·omega
      ·have hsz:sz=te.size:=by rw[<-hyl];exact(m6 y (jB hy)).symm
       subst hsz
       refine vZ R C (hrun b I n c k m k1 (lB q3) hm jD) ⟨_,[],rfl,?_,rfl⟩
       obtain⟨v1,v2,v3,F1,F2,F3,rfl,hF,hl1,hr1,J,hr3⟩:=m7.at_ m6 hy
       refine⟨b::F2,?_,?_⟩
       ·simp only[Rep];refine⟨b,I+m.toNat*te.size,v2,F2,rfl,m2,rfl,?_,J⟩;have q:=(m4.drop (m.toNat*te.size)).take te.size;rw[<-hl1,List.drop_left,List.take_append_of_le_length (by rw[J.length];omega),List.take_of_length_le (by rw[J.length];omega)]at q;rw[<-hl1];exact q
       ·intro yy U;rcases qp.1 U with rfl|U;(exact m3);·exact m8 yy (by rw[hF];simp[U])
     ·exact C.elim
    ·exact C.elim
   ·rename_i j ver k m;obtain⟨hone,hle,hcap⟩:=eK q1;simp only[ex]at C;split at C;(rename_i e' sz' xs dp hh;split at C;(rename_i hc;obtain⟨⟨hm,hlt⟩,C⟩:=C;have hval:=hcap hc.1 _ _ _ _ hh;have hob:=R.inv.obj j;rw[hh]at hob;obtain⟨cells,r1,r2,r3,r4,r5⟩:=hob;rcases r1.2 with⟨r6,r7⟩|⟨gg,cap,cur,r6,r7,r8,r9⟩;(omega);·refine vZ R C (hrun gg 0 _ cap k m (hval.trans r6) (lB q3) hm hlt) ⟨_,[],rfl,⟨rfl,hle,λ_ e'' sz'' xs'' dp'' hh'=>⟨gg,_,cap,r6,?_⟩⟩,rfl⟩;rw[hh]at hh';cases hh';rw[<-hc.2];simp);·exact C.elim);·exact C.elim
   ·rename_i W xs v k m
    obtain⟨v',vs',e0,⟨h0,F,k1,k2⟩,h3'⟩:=q1
    have h3'':vs'=[]:=h3'
    subst h3''
    simp only[List.cons.injEq,and_true]at e0
    rw[h0]at e0
    obtain⟨hm,C⟩:=C
    split at C
    ·rename_i y hy
     split at C
     ·rename_i hyl
      have hlt:m.toNat<xs.length:=(qd.1 hy).1
      simp only[Rep]at k1
      obtain⟨ad,n,c,rfl,kn,kc,k4⟩:=k1
      rcases k4 with k4|⟨b,I,cells,sz,G,rfl,m2,rfl,m4,m5,m6,m7⟩
      ·omega
      ·have hsz:sz=te.size:=by rw[<-hyl];exact(m6 y (jB hy)).symm
       subst hsz
       refine vZ R C (hrun b I n c k m e0 (lB q3) hm jD) ⟨_,[],rfl,⟨rfl,?_⟩,rfl⟩
       obtain⟨v1,v2,v3,F1,F2,F3,rfl,hF,hl1,hr1,J,hr3⟩:=m7.at_ m6 hy
       refine⟨b::F2,?_,?_⟩
       ·simp only[Rep];refine⟨b,I+m.toNat*te.size,v2,F2,rfl,m2,rfl,?_,J⟩;have q:=(m4.drop (m.toNat*te.size)).take te.size;rw[<-hl1,List.drop_left,List.take_append_of_le_length (by rw[J.length];omega),List.take_of_length_le (by rw[J.length];omega)]at q;rw[<-hl1];exact q
       ·intro yy U;rcases qp.1 U with rfl|U;(exact k2 yy jF);·exact k2 yy (by rw[hF];simp[U])
     ·exact C.elim
    ·exact C.elim
   ·exact C.elim
  ·exact h.elim
 ·rename_i e n sz0 by0 z0 cm0 sl0 hti
  obtain⟨i,d,z,h1,h2,h3,h4,h5,h6,h7,h8,h9⟩:=(dI hti).ok
  obtain rfl:=YZ h4
  split at h
  ·rename_i te hte
   obtain⟨ie,de,ze,e1,e2,e3,e4,e5,e6,e7,e8,e9⟩:=(dI hte).ok
   obtain⟨sx,q1,q2⟩:=cA R h
   obtain⟨si,q3,C⟩:=cA R q2
   split at C
   ·rename_i j ver I k m
    simp only[ex]at C
    split at C
    ·rename_i t' cells hh
     split at C
     ·rename_i hc
      obtain⟨⟨hm0,hmn⟩,C⟩:=C
      obtain⟨hone,hle,hcap⟩:=eK q1
      obtain⟨b,hb1,hb2⟩:=hcap hc _ _ hh
      have hlt:m<(n:Int):=by omega
      refine vZ R C (v:=.pointer (some ⟨b,I+m.toNat*te.size,none⟩)) ?_ ⟨_,[],rfl,⟨rfl,hle,λ_ t'' cs'' hh'=>⟨b,hb1,rfl⟩⟩,rfl⟩
      simp[execOp,ho,hb2,lB q3,Instr.indexAt,Instr.sureAddr,asIntOf,run_underlying h2,sizeOf,typeInfo,e1,e7,hm0,hlt,Addr.add_lit]
     ·exact C.elim
    ·exact C.elim
   ·exact C.elim
  ·exact h.elim
 ·exact h.elim
theorem V1{t:TypeId}{x ix:Operand}(I:o.op=.index t x ix)(R:lI P base w0 N g s a w [])(h:ex P (AU (dJ P) N o) s K):o.wp P a w (Aft P base w0 N K) Q:=by simp only[AU,I]at h;split at h;(rename_i sz0 J z0 U sl0 C;obtain⟨i,d,z,h1,h2,h3,h4,h5,h6,h7,h8,h9⟩:=(dI C).ok;obtain rfl:=Q9 h4;obtain⟨sx,q1,q2⟩:=cA R h;obtain⟨si,q3,j⟩:=cA R q2;split at j;(rename_i str k n;obtain⟨hn,j⟩:=j;split at j;(rename_i b hb;refine vZ R j (v:=.int .u8 b.toNat) ?_ DM;simp[execOp,I,IC q1,lB q3,Instr.index,asIntOf,run_underlying h2,hn,hb]);·exact j.elim);·exact j.elim);·exact h.elim
theorem UO{op:BinOp}{t:TypeId}{k C:IntKind}{m n:Int}{d:D}(hk:k=C\/op=.shr\/op=.shl)(h:tD op k m n=some d)(w:World):∃v,(binOp op t (.int k m) (.int C n)).run P w=.ok v w/\Rep w d v []:=by
 cases op
 case shl=>
  simp only[tD]at h
  split at h
  ·cases h
  ·rename_i j;cases h;exact⟨.int k (k.wrap (m*2^(min n.toNat k.bits))),by simp only[binOp,Op.shift,j,if_false,qu],by simp[Rep]⟩
 case shr=>
  simp only[tD]at h
  split at h
  ·cases h
  ·rename_i j;cases h;exact⟨.int k (m.fdiv (2^(min n.toNat k.bits))),by simp only[binOp,Op.shift,j,if_false,qu],by simp[Rep]⟩
 all_goals (obtain rfl:k=C:=by simpa using hk)
 case quo=>
  simp only[tD]at h
  split at h
  ·cases h
  ·rename_i j;cases h;exact⟨.int k (k.wrap (m.tdiv n)),by simp[binOp,Op.intDiv,j],by simp[Rep]⟩
 case rem=>
  simp only[tD]at h
  split at h
  ·cases h
  ·rename_i j;cases h;exact⟨.int k (m.tmod n),by simp[binOp,Op.intDiv,j],by simp[Rep]⟩
 case and=>simp only[tD]at h;cases h;exact⟨.int k (k.wrap (BitVec.ofInt k.bits m&&&BitVec.ofInt k.bits n).toNat),by simp only[binOp,ne_eq,not_true_eq_false,if_false,Op.intBits,qu],by simp only[Rep,and_self]⟩
 case or=>simp only[tD]at h;cases h;exact⟨.int k (k.wrap (BitVec.ofInt k.bits m|||BitVec.ofInt k.bits n).toNat),by simp only[binOp,ne_eq,not_true_eq_false,if_false,Op.intBits,qu],by simp only[Rep,and_self]⟩
 case xor=>simp only[tD]at h;cases h;exact⟨.int k (k.wrap (BitVec.ofInt k.bits m ^^^ BitVec.ofInt k.bits n).toNat),by simp only[binOp,ne_eq,not_true_eq_false,if_false,Op.intBits,qu],by simp only[Rep,and_self]⟩
 case andNot=>simp only[tD]at h;cases h;exact⟨.int k (k.wrap (BitVec.ofInt k.bits m &&& ~~~BitVec.ofInt k.bits n).toNat),by simp only[binOp,ne_eq,not_true_eq_false,if_false,Op.intBits,qu],by simp only[Rep,and_self]⟩
 all_goals (simp[tD]at h;subst h;simp[binOp,Op.intArith,Op.intCmp,Rep])
theorem UJ{op:BinOp}{t:TypeId}{m n:ByteArray}{d:D}(h:Jr op m n=some d)(w:World):∃v,(binOp op t (.string m) (.string n)).run P w=.ok v w/\Rep w d v []:=by cases op<;>simp[Jr]at h<;>subst h<;>simp[binOp,Op.stringOp,Rep]
def rJ:List LK->List Value->List Value->Option Bool
 |[],[],[]=>some true
 | .int::ls,.int k a::j,.int I b::C=>if k=I then(rJ ls j C).map ((a==b) && ·)else none
 | .bool::ls,.bool a::j,.bool b::C=>(rJ ls j C).map ((a==b) && ·)
 | .str::ls,.string a::j,.string b::C=>(rJ ls j C).map ((a.toList==b.toList) && ·)
 |_,_,_=>none
theorem Q2:∀(ls:List LK) {cs ds:List SC} {vs I:List Value} {b:Bool},aQ g s.h w cs vs->aQ g s.h w ds I->Dl ls cs ds=some b->rJ ls vs I=some b:=by
 intro ls
 induction ls with
 |nil=>
  intro cs ds vs I b h1 h2 h
  match cs,ds,h with
  |[],[],h=>rw[show vs=[]from h1,show I=[]from h2];exact h
 |cons l ls ih=>
  intro cs ds vs I b h1 h2 h
  cases l with
  |int=>
   match cs,ds,h with
   | .dat (.int k x)::cs,.dat (.int k' y)::ds,h=>
    obtain⟨v,U,rfl,⟨F,j,_⟩,h3⟩:=h1
    obtain⟨u,J,rfl,⟨G,C,_⟩,h4⟩:=h2
    simp only[Rep]at j C
    rw[j.1,C.1]
    simp only[Dl,rJ]at h⊢
    split at h
    ·rename_i hk
     rw[if_pos hk]
     cases hh:Dl ls cs ds with
     |none=>rw[hh]at h;cases h
     |some b'=>rw[hh]at h;rw[ih h3 h4 hh];exact h
    ·cases h
  |bool=>
   match cs,ds,h with
   | .dat (.bool x)::cs,.dat (.bool y)::ds,h=>
    obtain⟨v,U,rfl,⟨F,j,_⟩,h3⟩:=h1
    obtain⟨u,J,rfl,⟨G,C,_⟩,h4⟩:=h2
    simp only[Rep]at j C
    rw[j.1,C.1]
    simp only[Dl,rJ]at h⊢
    cases hh:Dl ls cs ds with
    |none=>rw[hh]at h;cases h
    |some b'=>rw[hh]at h;rw[ih h3 h4 hh];exact h
  |str=>
   match cs,ds,h with
   | .dat (.str x)::cs,.dat (.str y)::ds,h=>
    obtain⟨v,U,rfl,⟨F,j,_⟩,h3⟩:=h1
    obtain⟨u,J,rfl,⟨G,C,_⟩,h4⟩:=h2
    simp only[Rep]at j C
    rw[j.1,C.1]
    simp only[Dl,rJ]at h⊢
    cases hh:Dl ls cs ds with
    |none=>rw[hh]at h;cases h
    |some b'=>rw[hh]at h;rw[ih h3 h4 hh];exact h
theorem IY:∀(a b:List LK) {vs j:List Value} {r:Bool},rJ (a++b) vs j=some r->a.length<=vs.length/\a.length<=j.length/\
  ∃C I,rJ a (vs.take a.length) (j.take a.length)=some C/\rJ b (vs.drop a.length) (j.drop a.length)=some I/\r=(C&&I)
 |[],b,vs,j,r,h=>⟨Nat.zero_le _,Nat.zero_le _,true,r,by simp[rJ],by simpa using h,jF⟩
 |l::a,b,vs,j,r,h=>by
  have key:∀{vs j:List Value} {r:Bool},rJ (a++b) vs j=some r->_:=λh=>IY a b h
  simp only[List.cons_append]at h
  cases l with
  |int=>
   match vs,j,h with
   | .int k x::vs,.int k' y::j,h=>
    simp only[rJ]at h
    split at h
    ·rename_i hk
     cases hh:rJ (a++b) vs j with
     |none=>rw[hh]at h;cases h
     |some b'=>
      rw[hh]at h
      simp at h
      obtain⟨J,U,C,I,k3,k4,k5⟩:=key hh
      exact⟨by simpa using J,by simpa using U,(x==y)&&C,I,by simp[rJ,hk,k3],by simpa using k4,by rw[<-h,k5,Bool.and_assoc]⟩
    ·cases h
  |bool=>
   match vs,j,h with
   | .bool x::vs,.bool y::j,h=>
    simp only[rJ]at h
    cases hh:rJ (a++b) vs j with
    |none=>rw[hh]at h;cases h
    |some b'=>
     rw[hh]at h
     simp at h
     obtain⟨J,U,C,I,k3,k4,k5⟩:=key hh
     exact⟨by simpa using J,by simpa using U,(x==y)&&C,I,by simp[rJ,k3],by simpa using k4,by rw[<-h,k5,Bool.and_assoc]⟩
  |str=>
   match vs,j,h with
   | .string x::vs,.string y::j,h=>
    simp only[rJ]at h
    cases hh:rJ (a++b) vs j with
    |none=>rw[hh]at h;cases h
    |some b'=>
     rw[hh]at h
     simp at h
     obtain⟨J,U,C,I,k3,k4,k5⟩:=key hh
     exact⟨by simpa using J,by simpa using U,(x.toList==y.toList)&&C,I,by simp[rJ,k3],by simpa using k4,by rw[<-h,k5,Bool.and_assoc]⟩
def valOf(P:Program)(t:TypeId)(vs:List Value):Value:=if L3 P t=true then .agg vs.toArray else vs.headD .nilIface
theorem X4{t:TypeId}{j:TypeDesc}(I:P.underlying t=some j)(J:(P.info? t).isSome=true){vs:List Value}{off:Nat}(U:L3 P t=false->off<vs.length/\P.cellsOf t=1):(part t vs.toArray off).run P w=.ok (valOf P t ((vs.drop off).take (P.cellsOf t))) w:=by
 obtain⟨i,J⟩:=Option.isSome_iff_exists.1 J
 have C:L3 P t=Xf j:=by unfold L3;rw[I]
 unfold part valOf
 cases hb:Xf j with
 |true=>
  simp only[qs,EX I w,hb,qh,if_true,sizeOf,typeInfo,run_program,J,qu,C,Program.cellsOf,Option.map_some,Option.getD_some]
  simp[List.extract_toArray,List.extract_eq_take_drop]
 |false=>
  obtain⟨h1,h2⟩:=U (by rw[C,hb])
  simp only[qs,EX I w,hb,qh,if_false,C,h2,qD]
  have:vs.toArray[off]? =some vs[off]:=by simp[h1]
  rw[this]
  have:((vs.drop off).take 1).headD .nilIface=vs[off]:=by rw[qW h1];rfl
  rw[this]
  rfl
theorem UL:∀(ls:List LK) {vs j:List Value} {b:Bool},rJ ls vs j=some b->vs.length=ls.length/\j.length=ls.length:=by
 intro ls vs j b h
 have:=IY ls [] (by simpa using h)
 obtain⟨h1,h2,C,I,h3,h4,h5⟩:=this
 match hv:vs.drop ls.length,hu:j.drop ls.length,h4 with
 |[],[],h4=>
  rw[List.drop_eq_nil_iff]at hv hu
  omega
theorem Ni{n:Nat}(ih:∀(t:TypeId) (ls:List LK),H0 P n t=some ls->∀d,n<=d->∀(vs j:List Value) (b:Bool),rJ ls vs j=some b->(Op.equalIn d t (valOf P t vs) (valOf P t j)).run P w=.ok b w)
  {d:Nat}(hd:n<=d):∀(U:List Field) (off:Nat) (ls:List LK) (vs j:List Value) (b:Bool),GV P (H0 P n) off U=some ls->rJ ls (vs.drop off) (j.drop off)=some b->
   (Op.eqFields d vs.toArray j.toArray U).run P w=.ok b w
 |[],off,ls,vs,j,b,h,hb=>by
  simp[GV]at h
  subst h
  have hl:=UL _ hb
  match vs.drop off,j.drop off,hb with
  |[],[],hb=>simp[rJ]at hb;subst hb;simp[Op.eqFields]
 |f::U,off,ls,vs,j,b,h,hb=>by
  simp only[GV]at h
  split at h
  ·rename_i hf
   split at h
   ·rename_i a c I hc
    split at h
    ·rename_i hlen
     cases h
     obtain⟨k1,k2,r1,r2,k3,k4,rfl⟩:=IY a c hb
     have hun:∃J,P.underlying f.type=some J:=by
      cases n with
      |zero=>simp[H0]at I
      |succ n=>
       simp only[H0]at I
       split at I
       all_goals first|exact⟨_,by assumption⟩|cases I
     obtain⟨J,hdsc⟩:=hun
     have hone:L3 P f.type=false->a.length=1:=by
      intro C
      unfold L3 at C
      rw[hdsc]at C
      cases n with
      |zero=>simp[H0]at I
      |succ n=>
       simp only[H0,hdsc]at I
       split at I<;>first|(cases I;rfl)|(rename_i e;cases e;simp[Xf]at C)|cases I
     have hp:∀(j:List Value),a.length<=(j.drop off).length->(part f.type j.toArray f.offset).run P w=.ok (valOf P f.type ((j.drop off).take a.length)) w:=by
      intro j hl
      rw[hlen,<-hf.1]
      refine X4 hdsc hf.2.2 λC=> ?_
      have:=hone C
      rw[qV]at hl
      omega
     have h1:=hp vs k1
     have h2:=hp j k2
     have h3:=ih f.type a I d hd _ _ r1 k3
     have h4:=Ni ih hd U (off+P.cellsOf f.type) c vs j r2 hc (by rw[List.drop_drop,List.drop_drop,hlen]at k4;exact k4)
     simp only[Op.eqFields,hf.2.1,ne_eq,not_false_eq_true,if_true,qs,h1,h2,h3,qh]
     cases r1 with
     |true=>simp[h4]
     |false=>simp
    ·cases h
   ·cases h
  ·cases h
theorem Mi:∀(n:Nat) (t:TypeId) (ls:List LK),H0 P n t=some ls->∀d,n<=d->∀(vs C:List Value) (b:Bool),rJ ls vs C=some b->(Op.equalIn d t (valOf P t vs) (valOf P t C)).run P w=.ok b w
 |0,t,ls,h,_,_,_,_,_,_=>by simp[H0]at h
 |n+1,t,ls,h,d,hd,vs,C,b,hb=>by
  obtain⟨d,rfl⟩:∃d',d=d'+1:=⟨d-1,jD⟩
  simp only[H0]at h
  split at h
  ·rename_i k I
   cases h
   have j:L3 P t=false:=by unfold L3;rw[I];rfl
   match vs,C,hb with
   | .int k1 x::vs,.int k2 y::C,hb=>
    simp only[rJ]at hb
    split at hb
    ·rename_i hk
     subst hk
     match vs,C,hb with
     |[],[],hb=>
      simp[rJ]at hb
      simp only[valOf,j,List.headD_cons,qD,if_false]
      rw[run_equalIn_int w d t _ _ x y I,<-hb]
    ·cases hb
  ·rename_i I
   cases h
   have j:L3 P t=false:=by unfold L3;rw[I];rfl
   match vs,C,hb with
   | .bool x::vs,.bool y::C,hb=>
    simp only[rJ]at hb
    match vs,C,hb with
    |[],[],hb=>
     simp[rJ]at hb
     simp only[valOf,j,List.headD_cons,qD,if_false]
     rw[run_equalIn_bool' w d t x y I,<-hb]
  ·rename_i I
   cases h
   have j:L3 P t=false:=by unfold L3;rw[I];rfl
   match vs,C,hb with
   | .string x::vs,.string y::C,hb=>
    simp only[rJ]at hb
    match vs,C,hb with
    |[],[],hb=>
     simp[rJ]at hb
     simp only[valOf,j,List.headD_cons,qD,if_false]
     rw[run_equalIn_string w d t x y I,<-hb]
  ·rename_i fs I
   split at h
   ·rename_i U
    have j:L3 P t=true:=by unfold L3;rw[I];rfl
    have J:P.fieldsOf t=fs:=by unfold Program.fieldsOf;rw[I]
    simp only[valOf,j,if_true]
    rw[run_equalIn_struct w d t _ _ (by rw[J];exact I) U,J]
    exact Ni (λt ls=>Mi n t ls) jD fs.toList 0 ls vs C b h (by simpa using hb)
   ·cases h
  ·cases h
theorem Ma{t:TypeId}{U:TI}(J:dJ P t=some U){l:LK}{ls:List LK}(hc:U.cmp=l::ls){op:BinOp}(I:op=.eql\/op=.neq){vs j:Array Value}{b:Bool}{x y:Operand}(hb:rJ (l::ls) vs.toList j.toList=some b):
  (do eqGuard op t x y (.agg vs) (.agg j);binOp op t (.agg vs) (.agg j):Sem Value).run P w=.ok (.bool (if op=.eql then b else !b)) w:=by
 have h1:=(dI J).cmp
 rw[hc]at h1
 unfold Z2 at h1
 split at h1
 ·rename_i C
  cases hl:H0 P 8 t with
  |none=>rw[hl]at h1;simp at h1
  |some ls'=>
   rw[hl]at h1
   simp only[Option.getD_some]at h1
   subst h1
   have:=Mi (w:=w) 8 t _ hl 10000 jD _ _ b hb
   simp only[valOf,C.1,if_true,Array.toArray_toList]at this
   rcases I with rfl|rfl
   ·simp only[qs,run_eqGuard_agg w _ t x y vs j C.2,qh,run_eql_struct w t vs j,this];rfl
   ·simp only[qs,run_eqGuard_agg w _ t x y vs j C.2,qh,run_neq_struct w t vs j,this];rfl
 ·cases h1
theorem U6{op:BinOp}{t ty:TypeId}{x y:Operand}(I:o.op=.binOp op t x y ty)(R:lI P base w0 N g s a w [])(h:ex P (AU (dJ P) N o) s K):o.wp P a w (Aft P base w0 N K) Q:=by
 simp only[AU,I]at h
 obtain⟨sx,J,q2⟩:=cA R h
 obtain⟨sy,U,j⟩:=cA R q2
 split at j
 ·rename_i k m k' n;split at j;(rename_i hk;split at j;(rename_i d hd;obtain⟨v,hv,hr⟩:=UO (P:=P) (t:=t) hk hd w;refine vZ R j (v:=v) ?_ (Ly hr jF);simp[execOp,I,lB J,lB U,eqGuard,hv]);·exact j.elim);·exact j.elim
 ·rename_i m n
  split at j
  ·rename_i hop
   subst hop
   obtain⟨hlen,j⟩:=j
   refine vZ R j (v:=.string (m++n)) ?_ Qf
   have hmax:IntKind.i64.max=9223372036854775807:=by decide
   have hle:¬(((m.size+n.size:Nat):Int)>IntKind.i64.max):=by rw[hmax];omega
   simp only[execOp,I,IC J,IC U,eqGuard,qs,binOp,Op.stringOp,hle,if_false,qu,qh]
   rfl
  ·split at j;(rename_i d hd;obtain⟨v,hv,hr⟩:=UJ (P:=P) (t:=t) hd w;refine vZ R j (v:=v) ?_ (Ly hr jF);simp[execOp,I,IC J,IC U,eqGuard,hv]);·exact j.elim
 ·rename_i m n
  split at j
  ·rename_i sz0 by0 z0 cm0 sl0 C
   obtain⟨i,d,z,h1,h2,h3,h4,h5,h6,h7,h8,h9⟩:=(dI C).ok
   obtain rfl:=Wx h4
   refine vZ R j (v:=.bool (m==n)) ?_ Kp
   have:∀dd,(Op.equalIn (dd+1) t (.bool m) (.bool n)).run P w=.ok (m==n) w:=λdd=>by simp[Op.equalIn,run_underlying h2]
   have:=this 9999
   simp[execOp,I,Fx J,Fx U,eqGuard,binOp,Op.equal,Op.maxDepth,this]
  ·rename_i sz0 by0 z0 cm0 sl0 C
   obtain⟨i,d,z,h1,h2,h3,h4,h5,h6,h7,h8,h9⟩:=(dI C).ok
   obtain rfl:=Wx h4
   refine vZ R j (v:=.bool !(m==n)) ?_ Kp
   have:∀dd,(Op.equalIn (dd+1) t (.bool m) (.bool n)).run P w=.ok (m==n) w:=λdd=>by simp[Op.equalIn,run_underlying h2]
   have:=this 9999
   simp[execOp,I,Fx J,Fx U,eqGuard,binOp,Op.equal,Op.maxDepth,this]
  ·exact j.elim
 ·rename_i cs ds
  split at j
  ·rename_i l ls C
   split at j
   ·rename_i b hb
    obtain⟨vs,hx,hcs⟩:=J
    obtain⟨us,hy,hds⟩:=U
    have hbv:=Q2 _ hcs hds hb
    split at j
    ·refine vZ R j (v:=.bool b) ?_ Kp
     have:=Ma (w:=w) (x:=x) (y:=y) C rfl (.inl rfl) hbv
     simp only[qs]at this
     simp only[execOp,I,hx,hy,qs]
     cases hg:(eqGuard .eql t x y (.agg vs) (.agg us)).run P w with
     |ok u w1=>
      rw[hg]at this
      simp only[qh,if_true]at this⊢
      rw[this]
      rfl
     |halt z w1=>rw[hg]at this;cases this
    ·refine vZ R j (v:=.bool !b) ?_ Kp
     have:=Ma (w:=w) (x:=x) (y:=y) C rfl (.inr rfl) hbv
     simp only[qs]at this
     simp only[execOp,I,hx,hy,qs]
     cases hg:(eqGuard .neq t x y (.agg vs) (.agg us)).run P w with
     |ok u w1=>
      rw[hg]at this
      simp only[qh]at this⊢
      rw[this]
      rfl
     |halt z w1=>rw[hg]at this;cases this
    ·exact j.elim
   ·exact j.elim
  ·exact j.elim
 ·exact j.elim
theorem Z3{t:TypeId}{x:Operand}(C:o.op=.unOp .not t x)(R:lI P base w0 N g s a w [])(h:ex P (AU (dJ P) N o) s K):o.wp P a w (Aft P base w0 N K) Q:=by simp only[AU,C]at h;obtain⟨J,I,j⟩:=cA R h;split at j;(rename_i b;refine vZ R j (v:=.bool !b) ?_ Kp;simp[execOp,C,Fx I,Op.unary]);·exact j.elim
theorem ZD{t:TypeId}{x:Operand}(C:o.op=.unOp .neg t x)(R:lI P base w0 N g s a w [])(h:ex P (AU (dJ P) N o) s K):o.wp P a w (Aft P base w0 N K) Q:=by simp only[AU,C]at h;obtain⟨J,I,j⟩:=cA R h;split at j;(rename_i k n;refine vZ R j (v:=.int k (k.wrap (0-n))) ?_ DM;simp[execOp,C,lB I,Op.unary,Op.intArith]);·exact j.elim
theorem SA{α:Type}{xs:Array α}{x:α}(h:xs.toList=[x]):xs= #[x]:=by cases xs;simp at h;simp[h]
theorem aBX{α:Type}{xs:Array α}{x y z:α}(h:xs.toList=[x,y,z]):xs= #[x,y,z]:=by cases xs;simp at h;simp[h]
theorem RY{α:Type}{xs:Array α}{x y:α}(h:xs.toList=[x,y]):xs= #[x,y]:=by cases xs;simp at h;simp[h]
theorem Zd{as:Array Operand}{ts:Array TypeId}(ho:o.op=.call { callee:=.builtin .len,args:=as,argTypes:=ts })(R:lI P base w0 N g s a w [])(h:ex P (AU (dJ P) N o) s K):o.wp P a w (Aft P base w0 N K) Q:=by
 simp only[AU,ho]at h
 split at h
 ·rename_i x t hx ht
  have hx:=SA hx
  have ht:=SA ht
  subst hx ht
  split at h
  ·rename_i e sz0 by0 z0 cm0 sl0 hti
   obtain⟨i,d,z,h1,h2,h3,h4,_⟩:=(dI hti).ok
   obtain rfl:=C3 h4
   obtain⟨sx,q1,q2⟩:=cA R h
   have hrun:∀ad n c,a.eval x=.slice ad n c->(execOp a.eval o).run P w=.ok (.value (.int .i64 n)) w:=by intro ad n c hx;simp[execOp,ho,resolve,invoke,builtin,Builtin.len_,hx,run_underlying h2,goInt]
   unfold lenOf at q2
   split at q2
   ·rename_i xs;obtain⟨ad,n,c,k1,k2,_⟩:=Nu q1;subst k2;exact vZ R q2 (hrun _ _ _ k1) DM
   ·rename_i B xs u;obtain⟨ad,n,c,k1,k2,_⟩:=Nu (VS q1);subst k2;exact vZ R q2 (hrun _ _ _ k1) DM
   ·exact vZ R q2 (hrun _ _ _ (eK q1)) DM
   ·rename_i j ver;obtain⟨hone,hle,hcap⟩:=eK q1;simp only[ex]at q2;split at q2;(rename_i e' sz' xs dp hh;split at q2;(rename_i hc;have hval:=hcap hc _ _ _ _ hh;have hob:=R.inv.obj j;rw[hh]at hob;obtain⟨cells,r1,r2,r3,r4,r5⟩:=hob;rcases r1.2 with⟨r6,r7⟩|⟨gg,cap,cur,r6,r7,r8,r9⟩;(have hx:=hrun _ _ _ (hval.trans r6);rw[<-r7]at hx;exact vZ R q2 hx DM);·exact vZ R q2 (hrun _ _ _ (hval.trans r6)) DM);·exact q2.elim);·exact q2.elim
   ·rename_i j ver lo n;have hp:=eK q1;simp only[ex]at q2;split at q2;(rename_i e' sz' xs dp hh;split at q2;(rename_i hc;obtain⟨ad,c,hval,_⟩:=M1 R.inv hp hc hh;exact vZ R q2 (hrun _ _ _ hval) DM);·exact q2.elim);·exact q2.elim
   ·exact q2.elim
  ·rename_i sz0 by0 z0 cm0 sl0 hti;obtain⟨i,d,z,h1,h2,h3,h4,_⟩:=(dI hti).ok;obtain rfl:=Q9 h4;obtain⟨sx,q1,q2⟩:=cA R h;split at q2;(rename_i str;refine vZ R q2 (v:=.int .i64 str.size) ?_ DM;simp[execOp,ho,resolve,invoke,builtin,Builtin.len_,IC q1,run_underlying h2,goInt]);·exact q2.elim
  ·exact h.elim
 ·exact h.elim
theorem PH(R:lI P base w0 N g s a w []){x:Option Operand}{k:Option SV->Prog}(h:ex P (aAH x k) s K):
  (x=none/\ex P (k none) s K) \/∃y j,x=some y/\nN g s.h w j (a.eval y)/\ex P (k (some j)) s K:=by
 cases x with
 |none=>exact .inl ⟨rfl,h⟩
 |some y=>obtain⟨j,h1,h2⟩:=cA R h;exact .inr ⟨y,j,rfl,h1,h2⟩
theorem Zn{xs:List (List D)}{ad:Option Addr}{n c l m sz:Nat}(hl:l<=m)(hm:m<=n)(hn:n=xs.length)(hc:n<=c)
  (h:n=0 \/∃b off cells j G,ad=some ⟨b,off,none⟩/\b<w.heap.size/\g.S b/\Dw w b off cells/\cells.length=n*j/\(∀x∈xs,x.length=j)/\aT w xs cells G/\∀y∈G,g.S y)
  (hsz:∀x∈xs,x.length=sz):
  ∃F,Rep w (.sl ((xs.take m).drop l)) (.slice (if c=l then ad else ad.map (·.add (l*sz))) (m-l) (c-l)) F/\∀y∈F,g.S y:=by
 by_cases h0:m-l=0
 ·refine⟨[],?_,jF⟩;simp only[Rep];exact⟨_,_,_,rfl,jE,jD,.inl ⟨h0,trivial⟩⟩
 ·rcases h with h|⟨b,off,cells,j,G,rfl,k2,k3,k4,k5,U,k7,k8⟩
  ·omega
  ·have hx0:0<xs.length:=by omega
   have hsz':j=sz:=by have h1:=U xs[0] (qG _);have h2:=hsz xs[0] (qG _);omega
   subst hsz'
   have hsplit:xs=(xs.take m).take l++((xs.take m).drop l++xs.drop m):=by rw[<-qT,qn,qn]
   rw[hsplit]at k7
   obtain⟨v1,v2,F1,F2,rfl,rfl,r1,r2⟩:=aT.split k7
   obtain⟨u1,u2,G1,G2,rfl,rfl,r3,r4⟩:=aT.split r2
   have C:v1.length=l*j:=by rw[aT.length r1 λx J=>U x (qj (qj J)),qU,qU];congr 1;omega
   have I:u1.length=(m-l)*j:=by rw[aT.length r3 λx J=>U x (qj (qv J)),qV,qU];congr 1;omega
   refine⟨b::G1,?_,?_⟩
   ·simp only[Rep];refine⟨_,_,_,rfl,jE,jD,.inr ⟨b,off+l*j,u1,j,G1,?_,k2,rfl,?_,I,λx J=>U x (qj (qv J)),r3⟩⟩;(rw[if_neg jD];simp[Addr.add_lit]);·have q:=(k4.drop (l*j)).take ((m-l)*j);rw[<-C,List.drop_left,<-I,List.take_left]at q;rw[<-C];exact q
   ·intro y hy;rcases qp.1 hy with rfl|hy;(exact k3);·exact k8 y (by simp[hy])
theorem run_sliceBound{v:Value}{k:IntKind}{j:Int}{y:Nat}{code:BoundsCode}(J:v=.int k j)(I:0<=j)(U:j.toNat<=y)(w:World):(Instr.sliceBound v y code).run P w=.ok j.toNat w:=by
 have C:j<=(y:Int):=by omega
 subst J
 simp only[Instr.sliceBound,asIntOf,qs,qu,qh,I,C,and_self,if_true]
theorem NI(lo hi:Option Value)(n c l m:Nat)(U:(hi=none/\m=n) \/∃k j,hi=some (.int k j)/\0<=j/\j.toNat=m/\m<=c)(J:(lo=none/\l=0) \/∃k j,lo=some (.int k j)/\0<=j/\j.toNat=l/\l<=m)(w:World):
  (Instr.sliceBounds true n c lo hi none).run P w=.ok (l,m,c) w:=by
 rcases U with⟨rfl,rfl⟩|⟨k,j,rfl,hj,rfl,hc⟩
 ·rcases J with⟨rfl,rfl⟩|⟨k',j',rfl,I,rfl,C⟩;(simp only[Instr.sliceBounds,qs,qu,qh]);·simp only[Instr.sliceBounds,qs,qu,qh,run_sliceBound rfl I C]
 ·rcases J with⟨rfl,rfl⟩|⟨k',j',rfl,I,rfl,C⟩;(simp only[Instr.sliceBounds,qs,qu,qh,run_sliceBound rfl hj hc]);·simp only[Instr.sliceBounds,qs,qu,qh,run_sliceBound rfl hj hc,run_sliceBound rfl I C]
theorem Od{t e:TypeId}{U:TypeInfo}(h2:P.underlying t=some (.slice e))(e1:P.info? e=some U)(ad:Option Addr)(lo C:Option Value)(n c l m:Nat)
  (I:(C=none/\m=n) \/∃k j,C=some (.int k j)/\0<=j/\j.toNat=m/\m<=c)(J:(lo=none/\l=0) \/∃k j,lo=some (.int k j)/\0<=j/\j.toNat=l/\l<=m)(w:World):
  (Instr.sliceAt t (.slice ad n c) lo C none).run P w=.ok (.slice (if c=l then ad else ad.map (·.add (l*U.size))) (m-l) (c-l)) w:=by
 simp only[Instr.sliceAt,Instr.slice,qs,run_underlying h2,qh,NI lo C n c l m I J w,sizeOf,typeInfo,run_program,e1,qu]
theorem UA{t e:TypeId}{ie:TypeInfo}{te:TI}{x:Operand}{lo J:Option Operand}{xs:List (List D)}(ho:o.op=.slice t x lo J none)(R:lI P base w0 N g s a w [])(h2:P.underlying t=some (.slice e))(e1:P.info? e=some ie)(e7:ie.size=te.size)
  (q1:nN g s.h w (.v false [.dat (.sl xs)]) (a.eval x))(hlen:∀x∈xs,x.length=te.size)(l m:Nat)(hlm:l<=m)(hm:m<=xs.length)
  (U:(J=none/\m=xs.length) \/∃y k j,J=some y/\a.eval y=.int k j/\0<=j/\j.toNat=m)(hlo:(lo=none/\l=0) \/∃y k j,lo=some y/\a.eval y=.int k j/\0<=j/\j.toNat=l)
  (hk:ex P (put N o.dst (one (.sl ((xs.take m).drop l)))) s K):o.wp P a w (Aft P base w0 N K) Q:=by
 obtain⟨ad,n,c,k1,k2,k3,k4⟩:=Nu q1
 obtain⟨F,r1,r2⟩:=Zn (l:=l) (m:=m) hlm jD k2 k3 k4 hlen
 refine vZ R hk ?_ (Ly r1 r2)
 have hr:=Od (P:=P) h2 e1 ad (lo.map a.eval) (J.map a.eval) n c l m (by
  rcases U with⟨rfl,hh⟩|⟨y,k,j,rfl,hj,C,I⟩
  ·exact .inl ⟨rfl,jD⟩
  ·exact .inr ⟨k,j,by simp[hj],C,I,jD⟩) (by
  rcases hlo with⟨rfl,hh⟩|⟨y,k,j,rfl,hj,C,I⟩
  ·exact .inl ⟨rfl,hh⟩
  ·exact .inr ⟨k,j,by simp[hj],C,I,jD⟩) w
 simp only[execOp,ho,Option.map_none,k1,qs,hr,qh,qu,e7]
theorem Vg{t e:TypeId}{ie:TypeInfo}{te:TI}{x:Operand}{lo hi:Option Operand}{j ver:Nat}(ho:o.op=.slice t x lo hi none)(R:lI P base w0 N g s a w [])(h2:P.underlying t=some (.slice e))(e1:P.info? e=some ie)(e7:ie.size=te.size)
  (q1:nN g s.h w (.v false [.row j ver]) (a.eval x))(l:Nat)(J:Nat->Nat)(p:Nat->Prop)(hp:∀n,p n->l<=J n/\J n<=n)
  (hhi:(hi=none/\J=λn=>n) \/∃y k z,hi=some y/\a.eval y=.int k z/\(∀n,p n->0<=z)/\J=λ_=>z.toNat)(hlo:(lo=none/\l=0) \/∃y k z,lo=some y/\a.eval y=.int k z/\(∀n,p n->0<=z)/\z.toNat=l)
  (hk:ex P (Pb N o.dst te.size j ver l J p) s K):o.wp P a w (Aft P base w0 N K) Q:=by
 unfold Pb at hk
 simp only[ex]at hk
 split at hk
 ·rename_i e' sz C dp hh
  split at hk
  ·rename_i hc
   obtain⟨hc1,hc2⟩:=hc
   subst hc2
   obtain⟨U,hk⟩:=hk
   obtain⟨hl,hm⟩:=hp _ U
   obtain⟨hone,hle,hcap⟩:=eK q1
   have hval:=hcap hc1 _ _ _ _ hh
   have hob:=R.inv.obj j
   rw[hh]at hob
   obtain⟨cells,r1,r2,r3,r4,r5⟩:=hob
   have hshape:∃I c,a.eval x=.slice I C.length c/\C.length<=c/\(C.length=0 \/∃b,I=some ⟨b,0,none⟩):=by rcases r1.2 with⟨r6,r7⟩|⟨gg,cap,cur,r6,r7,r8,r9,_⟩;(exact⟨none,0,by rw[hval,r6,r7],jD,.inl r7⟩);·exact⟨_,cap,hval.trans r6,r9,.inr ⟨gg,rfl⟩⟩
   obtain⟨I,c,k1,k2,k3⟩:=hshape
   have hr:=Od (P:=P) h2 e1 I (lo.map a.eval) (hi.map a.eval) C.length c l (J C.length) (by
    rcases hhi with⟨rfl,rfl⟩|⟨y,k,z,rfl,hz,hz0,rfl⟩
    ·exact .inl ⟨rfl,rfl⟩
    ·exact .inr ⟨k,z,by simp[hz],hz0 _ U,rfl,qg hm k2⟩) (by
    rcases hlo with⟨rfl,hh⟩|⟨y,k,z,rfl,hz,hz0,hzm⟩
    ·exact .inl ⟨rfl,hh⟩
    ·exact .inr ⟨k,z,by simp[hz],hz0 _ U,hzm,hl⟩) w
   refine vZ R hk (v:=.slice (if c=l then I else I.map (·.add (l*ie.size))) (J C.length-l) (c-l)) ?_ ?_
   ·simp only[execOp,ho,Option.map_none,k1,qs,hr,qh,qu]
   ·refine⟨_,[],rfl,⟨rfl,Nat.le_of_eq hc1.symm,λ_ e2 sz2 xs2 dp2 hh2=> ?_⟩,rfl⟩
    rw[hh]at hh2
    cases hh2
    refine⟨_,_,rfl,jD,?_,?_⟩
    ·by_cases hn:J C.length-l=0;(exact .inl hn);·right;rcases k3 with k3|⟨b,rfl⟩;(omega);·refine⟨b,C.length,c,by rw[<-hval,k1],jD,?_⟩;rw[if_neg jD,e7];simp[Addr.add_lit]
    ·rintro rfl
     refine⟨C.length,?_,jD⟩
     rw[<-hval,k1]
     congr 1
     ·split
      ·rfl
      ·cases I with
       |none=>rfl
       |some I=>simp[Addr.add]
  ·exact hk.elim
 ·exact hk.elim
theorem Vv{t:TypeId}{x:Operand}{lo hi:Option Operand}(ho:o.op=.slice t x lo hi none)(R:lI P base w0 N g s a w [])(h:ex P (AU (dJ P) N o) s K):o.wp P a w (Aft P base w0 N K) Q:=by simp only[AU,ho]at h;split at h;(rename_i e sz0 by0 z0 cm0 sl0 hti;obtain⟨i,d,z,h1,h2,h3,h4,_⟩:=(dI hti).ok;obtain rfl:=C3 h4;split at h;(rename_i te hte;obtain⟨ie,de,ze,e1,e2,e3,e4,e5,e6,e7,e8,e9⟩:=(dI hte).ok;obtain⟨sx,q1,q2⟩:=cA R h;have fin:=@UA P base N w0 w g s a K Q o t e ie te x lo hi;have fip:=@Vg P base N w0 w g s a K Q o t e ie te x lo hi;rcases PH R q2 with⟨hlo,q3⟩|⟨yl,sl,hlo,rl,q3⟩;(rcases PH R q3 with⟨U,C⟩|⟨yh,sh,U,rh,C⟩;(simp only[ex]at C);·split at C;(rename_i e1 e2;cases e1);(rename_i xs k j I J;cases J;obtain⟨⟨hj,hjl,hlen⟩,C⟩:=C;exact fin ho R h2 e1 e7 q1 hlen 0 j.toNat (Nat.zero_le _) hjl (.inr ⟨yh,k,j,U,lB rh,hj,rfl⟩) (.inl ⟨hlo,rfl⟩) (by simpa using C));(rename_i e1 e2;cases e1);(rename_i e1 e2;cases e1);(rename_i i2 ver k j I J;cases J;exact fip ho R h2 e1 e7 q1 0 _ _ (λn hn=>⟨Nat.zero_le _,hn.2⟩) (.inr ⟨yh,k,j,U,lB rh,λn hn=>hn.1,rfl⟩) (.inl ⟨hlo,rfl⟩) C);(rename_i e1 e2;cases e1);·exact C.elim);·rcases PH R q3 with⟨U,C⟩|⟨yh,sh,U,rh,C⟩;(split at C;(rename_i xs k j I J;cases I;obtain⟨⟨hj,hjl,hlen⟩,C⟩:=C;exact fin ho R h2 e1 e7 q1 hlen j.toNat xs.length hjl (qf _) (.inl ⟨U,rfl⟩) (.inr ⟨yl,k,j,hlo,lB rl,hj,rfl⟩) (by simpa using C));(rename_i e1 e2;cases e2);(rename_i e1 e2;cases e2);(rename_i i2 ver k j I J;cases I;exact fip ho R h2 e1 e7 q1 j.toNat _ _ (λn hn=>⟨hn.2,qf _⟩) (.inl ⟨U,rfl⟩) (.inr ⟨yl,k,j,hlo,lB rl,λn hn=>hn.1,rfl⟩) C);(rename_i e1 e2;cases e2);(rename_i e1 e2;cases e2);·exact C.elim);·split at C;(rename_i e1 e2;cases e2);(rename_i e1 e2;cases e1);(rename_i xs k i k' j I J;cases I;cases J;obtain⟨⟨hi0,hij,hjl,hlen⟩,C⟩:=C;exact fin ho R h2 e1 e7 q1 hlen i.toNat j.toNat jD hjl (.inr ⟨yh,k',j,U,lB rh,jD,rfl⟩) (.inr ⟨yl,k,i,hlo,lB rl,hi0,rfl⟩) C);(rename_i e1 e2;cases e2);(rename_i e1 e2;cases e1);(rename_i i2 ver k i k' j I J;cases I;cases J;exact fip ho R h2 e1 e7 q1 i.toNat _ _ (λn hn=>⟨by have:=hn.1;have:=hn.2.1;omega,hn.2.2⟩) (.inr ⟨yh,k',j,U,lB rh,λn hn=>by have:=hn.1;have:=hn.2.1;omega,rfl⟩) (.inr ⟨yl,k,i,hlo,lB rl,λn hn=>hn.1,rfl⟩) C);·exact C.elim);·exact h.elim);·exact h.elim
end
section
variable {P:Program}{base N:Nat}{w0:W0}{w:World}{g:Gh}{s:St}{a:Act}{K:St->Prop}{Q:Exit->Act->World->Prop}{o:Oper}
theorem Inv.Xt{h:Heap}(I:Inv base g h w []){b:Nat}(J:base<=b)(hb:b<w.heap.size)(hf:GY g h b):Inv base { g with S:=λx=>g.S x\/x=b } h w []/\kL g { g with S:=λx=>g.S x\/x=b } h h w w:=by
 have T:kL g { g with S:=λx=>g.S x\/x=b } h h w w:=
  ⟨λ_ x=>.inl x,λ_ _=>rfl,λ_=>qf _,λi e sz xs dp _ hr=>⟨rfl,xs,dp,hr⟩,λi t cs _ C=>⟨rfl,cs,C⟩,rfl⟩
 refine⟨⟨I.base_le,λx C U=>C.elim (λy=>I.S_old x y U) (λy=>absurd J jD),?_,λj=>Ck.turn T rfl rfl (λ_ _=>rfl) (I.obj j),?_,I.inj,I.dis,Co.nil _ _,jF,λ_ _ _ _=>by simp,I.fb⟩,T⟩
 ·rintro x (C|rfl);(exact I.S_lt x C);·exact hb
 ·rintro j x hl C (hS|rfl);(exact I.mtb j x hl C hS);·exact hf.2 j hl C
theorem LV{w:World}:∀(l:List UInt8),aT w (EZ l) (l.map λb=>Value.int .u8 (b.toNat:Int)) []
 |[]=>by simp[EZ,aT]
 |b::l=>by have j:=LV (w:=w) l;simp only[EZ,List.map_cons,aT];refine⟨[.int .u8 b.toNat],_,[],[],rfl,rfl,?_,j⟩;simp only[aF];exact⟨_,[],[],[],rfl,rfl,by simp[Rep],rfl,rfl⟩
theorem Pp{w:World}:∀{xs:List (List D)} {cells:List Value} {G:List Nat},(∀x∈xs,∃b:UInt8,x=[.int .u8 (b.toNat:Int)])->aT w xs cells G->cells=(xs.map byteOf).map (λb=>Value.int .u8 (b.toNat:Int))
 |[],cells,G,_,h=>by simp only[aT]at h;simp[h.1]
 |x::xs,cells,G,j,h=>by simp only[aT]at h;obtain⟨v1,v2,U,F2,rfl,rfl,h3,h4⟩:=h;obtain⟨b,rfl⟩:=j x jF;have I:=Pp (λy C=>j y (by simp[C])) h4;simp only[aF,Rep]at h3;obtain⟨v,J,_,_,rfl,_,⟨rfl,_⟩,rfl,_⟩:=h3;rw[I];simp[byteOf]
theorem Pu{src C e:TypeId}{ad:Option Addr}{n c:Nat}{xs:List (List D)}(U:P.underlying src=some (.slice e))(he:P.underlying e=some (.int .u8))(J:P.underlying C=some .string)(hn:n=xs.length)
  (hb:∀x∈xs,∃b:UInt8,x=[.int .u8 (b.toNat:Int)])(h:n=0 \/∃I off cells G,ad=some ⟨I,off,none⟩/\Dw w I off cells/\aT w xs cells G)(h0:n=0->ad=none \/∃a,ad=some a):
  (convert src C (.slice ad n c)).run P w=.ok (.string (strOf xs)) w:=by
 rcases Nat.eq_zero_or_pos n with hz|hz
 ·have hx:xs=[]:=qk jD
  subst hx hz
  rw[run_convert_bytes_string w src C e ad 0 c U he J]
  cases ad with
  |none=>simp[Conv.bytesToString,strOf];rfl
  |some a=>
   have:=run_bytesToString (P:=P) w a 0 c [] (by simp[loadCells,loadCellsFrom])
   simp[strOf]at this⊢;exact this
 ·rcases h with h|⟨I,off,cells,G,rfl,hl,hr⟩
  ·omega
  ·have hc:=Pp hb hr
   have hlen:n=(xs.map byteOf).length:=by simp[hn]
   rw[hlen]
   have:=run_convert_bytes_back (P:=P) w src C e ⟨I,off,none⟩ c (xs.map byteOf) U he J (λj hj=>by rw[Addr.add_lit];refine hl j _ ?_;rw[hc,List.getElem?_map,qF hj];rfl)
   exact this
theorem R9{t u:TypeId}{x:Operand}(ho:o.op=.convert t u x)(R:lI P base w0 N g s a w [])(h:ex P (AU (dJ P) N o) s K):o.wp P a w (Aft P base w0 N K) Q:=by
 simp only[AU,ho]at h
 split at h
 ·rename_i ti k sz0 by0 z0 cm0 sl0 hti hti';obtain⟨i,d,z,h1,h2,h3,h4,_⟩:=(dI hti).ok;obtain⟨i',d',z',h1',I,h3',U,_⟩:=(dI hti').ok;obtain rfl:=U9 U;obtain⟨sx,q1,C⟩:=cA R h;split at C;(rename_i k' n;refine vZ R C (v:=.int k (k.wrap n)) ?_ DM;simp[execOp,ho,lB q1,convert,run_underlying h2,run_underlying I,Conv.intToInt]);·exact C.elim
 ·rename_i sz0 by0 z0 cm0 sl0 e sz1 by1 z1 cm1 sl1 hti hti'
  obtain⟨i,d,z,h1,h2,h3,h4,_⟩:=(dI hti).ok
  obtain⟨i',d',z',h1',I,h3',U,_⟩:=(dI hti').ok
  obtain rfl:=Q9 h4
  obtain rfl:=C3 U
  split at h
  ·rename_i sz2 by2 z2 cm2 sl2 hte
   obtain⟨ie,de,ze,e1,e2,e3,e4,_⟩:=(dI hte).ok
   obtain rfl:=U9 e4
   obtain⟨sx,q1,C⟩:=cA R h
   split at C
   ·rename_i b
    have hrun:=run_bytes_of_string (P:=P) w t u e b h2 I e2
    generalize J:(w.drew.alloc (.cells (bytesRow b (grownCap w b.size 0 e)) e ((bytesRow b (grownCap w b.size 0 e)).size,(bytesRow b (grownCap w b.size 0 e)).size+1)))=w' at hrun
    have hsz:w'.heap.size=w.heap.size+1:=by rw[<-J];simp
    have hbl:∀k,k<w.heap.size->w'.heap[k]? =w.heap[k]? :=λk hk=>by rw[<-J];exact Below.heap_alloc w.drew _ k hk
    have hnew:w'.heap[w.heap.size]? =some (.cells (bytesRow b (grownCap w b.size 0 e)) e ((bytesRow b (grownCap w b.size 0 e)).size,(bytesRow b (grownCap w b.size 0 e)).size+1)):=by rw[<-J];exact heap_alloc_new w.drew _
    have I1:=R.inv.grow (w':=w') jD hbl
    have T1:kL g g s.h s.h w w':=kL.grow R.inv.S_lt hbl
    have hfree:GY g s.h w.heap.size:=⟨λhS=>absurd (R.inv.S_lt _ hS) jD,λj hl hb=>absurd (R.inv.HN hl hb).2.lt jD⟩
    obtain⟨I2,T2⟩:=I1.Xt (b:=w.heap.size) R.inv.base_le jD hfree
    have R2:lI P base w0 N _ s a w' []:=R.turn (T1.trans T2) rfl (R.bel ⟨by rw[<-J];rfl,by rw[<-J];rfl,by rw[<-J];rfl,jD,λk hk=>hbl k (qw hk R.inv.base_le)⟩) I2
    have hv:nN { g with S:=λx=>g.S x\/x=w.heap.size } s.h w' (one (.sl (EZ b.data.toList))) (.slice (some ⟨w.heap.size,0,none⟩) b.size (grownCap w b.size 0 e)):=by
     refine⟨_,[],rfl,⟨if b.size=0 then[]else[w.heap.size],?_,?_⟩,rfl⟩
     ·simp only[Rep]
      refine⟨_,_,_,rfl,by simp[EZ],grownCap_ge w b.size 0 e,?_⟩
      by_cases h0:b.size=0
      ·rw[if_pos h0];exact .inl ⟨h0,rfl⟩
      ·rw[if_neg h0]
       refine .inr ⟨w.heap.size,0,b.data.toList.map (λc=>Value.int .u8 (c.toNat:Int)),1,[],rfl,jD,rfl,?_,jF,?_,LV _⟩
       ·intro j v hj
        rw[qo,cell_of_row w' _ _ _ _ _ hnew]
        unfold bytesRow
        rw[List.getElem?_map]at hj
        have hjl:j<b.data.size:=by rcases Nat.lt_or_ge j b.data.size with hh|hh;(exact hh);·rw[qY (by simpa using hh)]at hj;simp at hj
        rw[Array.getElem?_append_left (by simpa using hjl)]
        simpa using hj
       ·intro y hy;unfold EZ at hy;obtain⟨c,_,rfl⟩:=qx.1 hy;rfl
     ·intro y hy;split at hy;(simp at hy);·simp at hy;exact .inr hy
    obtain⟨s2,m1,m2⟩:=DF R2 hv C
    refine rO (v:=.slice (some ⟨w.heap.size,0,none⟩) b.size (grownCap w b.size 0 e)) (w':=w') ?_ ⟨s2,m1,_,m2⟩
    simp only[execOp,ho,IC q1,qs,hrun,qh,qu]
   ·exact C.elim
  ·exact h.elim
 ·rename_i e sz0 by0 z0 cm0 sl0 sz1 by1 z1 cm1 sl1 hti hti';obtain⟨i,d,z,h1,h2,h3,h4,_⟩:=(dI hti).ok;obtain⟨i',d',z',h1',I,h3',U,_⟩:=(dI hti').ok;obtain rfl:=C3 h4;obtain rfl:=Q9 U;split at h;(rename_i sz2 by2 z2 cm2 sl2 hte;obtain⟨ie,de,ze,e1,e2,e3,e4,_⟩:=(dI hte).ok;obtain rfl:=U9 e4;obtain⟨sx,q1,C⟩:=cA R h;split at C;(rename_i xs;obtain⟨hb,C⟩:=C;obtain⟨ad,n,c,k1,k2,k3,k4⟩:=Nu q1;refine vZ R C (v:=.string (strOf xs)) ?_ Qf;have hrun:=Pu (P:=P) (w:=w) (c:=c) (ad:=ad) h2 e2 I k2 hb (by rcases k4 with k4|⟨bb,off,cells,sz,G,m1,m2,m3,m4,m5,m6,m7,m8⟩;(exact .inl k4);·exact .inr ⟨bb,off,cells,G,m1,m4,m7⟩) (λ_=>by cases ad<;>simp);simp only[execOp,ho,k1,qs,hrun,qh,qu]);(refine vZ R C (v:=.string ByteArray.empty) ?_ Qf;have hx:a.eval x=.slice none 0 0:=eK q1;simp only[execOp,ho,hx,qs,run_convert_bytes_string w t u e none 0 0 h2 e2 I,Conv.bytesToString,qh,qu]);(rename_i j ver;obtain⟨hone,hle,hcap⟩:=eK q1;simp only[ex]at C;split at C;(rename_i e' sz' xs dp hh;split at C;(rename_i hc;obtain⟨hb,C⟩:=C;have hval:=hcap hc _ _ _ _ hh;obtain⟨F,hr⟩:=IQ R.inv hh;simp only[Rep]at hr;obtain⟨ad,n,c,k1,k2,k3,k4⟩:=hr;refine vZ R C (v:=.string (strOf xs)) ?_ Qf;have hrun:=Pu (P:=P) (w:=w) (c:=c) (ad:=ad) h2 e2 I k2 hb (by rcases k4 with⟨k4,_⟩|⟨bb,off,cells,sz,G,m1,m2,m3,m4,m5,m6,m7⟩;(exact .inl k4);·exact .inr ⟨bb,off,cells,G,m1,m4,m7⟩) (λ_=>by cases ad<;>simp);simp only[execOp,ho,hval,k1,qs,hrun,qh,qu]);·exact C.elim);·exact C.elim);·exact C.elim);·exact h.elim
 ·exact h.elim
theorem Q4{x:Operand}(J:o.op=.nilCheck x)(R:lI P base w0 N g s a w [])(h:ex P (AU (dJ P) N o) s K):o.wp P a w (Aft P base w0 N K) Q:=by simp only[AU,J]at h;obtain⟨sx,I,C⟩:=cA R h;split at C;(rename_i i ver U;obtain⟨hone,hle,hcap⟩:=eK I;simp only[ex]at C;split at C;(rename_i t' cs' e2;split at C;(rename_i e1;obtain⟨b,e3,e4⟩:=hcap e1 t' cs' e2;exact vZ R C (v:=a.eval x) (by simp[execOp,J,e4]) I);·exact C.elim);·exact C.elim);(rename_i i ver j U;obtain⟨hone,hle,hcap⟩:=eK I;simp only[ex]at C;split at C;(rename_i e sz' xs dp e2;split at C;(rename_i e1;obtain⟨b,n,c,e3,e4⟩:=hcap e1 _ _ _ _ e2;exact vZ R C (v:=a.eval x) (by simp[execOp,J,e4]) I);·exact C.elim);·exact C.elim);(rename_i ds;obtain⟨b,U,cells,F,e1,_⟩:=SZ I;exact vZ R C (v:=a.eval x) (by simp[execOp,J,e1]) I);(rename_i f ds;obtain⟨F,r1,r2⟩:=eK I;simp only[Rep]at r1;obtain⟨cv,r3,r4⟩:=r1;exact vZ R C (v:=a.eval x) (by simp[execOp,J,r3]) I);(rename_i f cs;obtain⟨cv,r3,r4⟩:=eK I;exact vZ R C (v:=a.eval x) (by simp[execOp,J,r3]) I);·exact C.elim
theorem ZJ{as:Array Operand}{ts:Array TypeId}(ho:o.op=.call { callee:=.builtin .min,args:=as,argTypes:=ts })(R:lI P base w0 N g s a w [])(h:ex P (AU (dJ P) N o) s K):o.wp P a w (Aft P base w0 N K) Q:=by simp only[AU,ho]at h;split at h;(rename_i x y hx;have hx:=RY hx;subst hx;obtain⟨sx,q1,q2⟩:=cA R h;obtain⟨sy,q3,q4⟩:=cA R q2;split at q4;(rename_i k m k' n;refine vZ R q4 (v:=.int k (if n<m then n else m)) ?_ DM;simp[execOp,ho,resolve,invoke,builtin,Builtin.min_,Builtin.min2,lB q1,lB q3]);·exact q4.elim);·exact h.elim
theorem Zz{as:Array Operand}{ts:Array TypeId}(ho:o.op=.call { callee:=.builtin .max,args:=as,argTypes:=ts })(R:lI P base w0 N g s a w [])(h:ex P (AU (dJ P) N o) s K):o.wp P a w (Aft P base w0 N K) Q:=by simp only[AU,ho]at h;split at h;(rename_i x y hx;have hx:=RY hx;subst hx;obtain⟨sx,q1,q2⟩:=cA R h;obtain⟨sy,q3,q4⟩:=cA R q2;split at q4;(rename_i k m k' n;refine vZ R q4 (v:=.int k (if n>m then n else m)) ?_ DM;simp[execOp,ho,resolve,invoke,builtin,Builtin.max_,Builtin.max2,lB q1,lB q3]);·exact q4.elim);(rename_i x y z hx;have hx:=aBX hx;subst hx;obtain⟨sx,q1,q2⟩:=cA R h;obtain⟨sy,q3,q4⟩:=cA R q2;obtain⟨sz,q5,q6⟩:=cA R q4;split at q6;(rename_i k m k' n k'' q;refine vZ R q6 (v:=.int k (if q>(if n>m then n else m)then q else if n>m then n else m)) ?_ DM;simp[execOp,ho,resolve,invoke,builtin,Builtin.max_,Builtin.max2,lB q1,lB q3,lB q5]);·exact q6.elim);·exact h.elim
theorem O2(R:lI P base w0 N g s a w []):∀{xs:List Operand} {k:List (Nat×Nat×Nat)->Prog},ex P (Pw xs k) s K->∃j,Dj g s.h j (xs.map a.eval)/\ex P (k j) s K
 |[],k,h=>⟨[],rfl,h⟩
 |x::xs,k,h=>by obtain⟨U,h1,h2⟩:=cA R h;split at h2;(rename_i i ver C;obtain⟨_,hc⟩:=eK h1;obtain⟨j,I,J⟩:=O2 R h2;exact⟨(i,ver,C)::j,⟨a.eval x,xs.map a.eval,rfl,hc,I⟩,J⟩);·exact h2.elim
theorem QU{f:FuncId}{first captured:Array Operand}(J:o.op=.makeFunc (.func f) first captured)(R:lI P base w0 N g s a w [])(h:ex P (AU (dJ P) N o) s K):o.wp P a w (Aft P base w0 N K) Q:=by
 simp only[AU,J]at h
 split at h
 ·rename_i C
  have C:first= #[]:=Array.eq_empty_of_size_eq_zero C
  subst C
  obtain⟨I,U,k2⟩:=O2 R h
  have hrun:(execOp a.eval o).run P w=.ok (.value (.func (.func f) #[] (captured.map a.eval))) w:=by simp[execOp,J,Instr.makeFunc]
  refine vZ R k2 hrun ⟨_,[],rfl,?_,rfl⟩
  have j:captured.map a.eval=(captured.toList.map a.eval).toArray:=by rw[<-Array.toList_map,Array.toArray_toList]
  cases I with
  |nil=>
   refine⟨[],?_,jF⟩
   simp only[Rep]
   have:captured.toList.map a.eval=[]:=U
   exact⟨[],by rw[j,this],by simp[aF]⟩
  |cons c I=>exact⟨_,by rw[j],U⟩
 ·exact h.elim
theorem O5:∀{xs:List (Bool×List SC)} {vs:List Value},Cq g s.h w xs vs->∀{i:Nat} {x:Bool×List SC},xs[i]? =some x->∃v,vs[i]? =some v/\Gf g s.h w x v
 |[],vs,h,i,x,j=>by simp at j
 |y::xs,vs,h,i,x,j=>by
  obtain⟨v,J,rfl,h1,h2⟩:=h
  cases i with
  |zero=>simp at j;subst j;exact⟨v,jF,h1⟩
  |succ i=>simp at j;obtain⟨u,C,I⟩:=O5 h2 j;exact⟨u,by simpa using C,I⟩
theorem R8{x:Operand}{i:Nat}(C:o.op=.extract x i)(R:lI P base w0 N g s a w [])(h:ex P (AU (dJ P) N o) s K):o.wp P a w (Aft P base w0 N K) Q:=by
 simp only[AU,C]at h
 obtain⟨sx,q1,j⟩:=cA R h
 split at j
 ·rename_i vs
  split at j
  ·rename_i ag cs I
   obtain⟨us,J,U⟩:=q1
   obtain⟨v,k3,k4⟩:=O5 U I
   refine vZ R j (v:=v) ?_ k4
   have:us[i]? =some v:=by simpa using k3
   simp[execOp,C,J,Instr.extract,this]
  ·exact j.elim
 ·exact j.elim
theorem Dn {f:FuncId} (hb:Lm P f) (args:Array Value) (w:World):(callFunc f args).run P w = .ok (.enter f args) w:=by
 obtain ⟨fn,c,h1,h2,h3⟩:=hb
 have h3' : ¬ fn.name = "runtime.NumGoroutine" := by simpa using h3
 simp [callFunc,h1,h2,h3']
theorem Jv{w:World}:∀{vs j:List Value} {xs ys:List (Bool×List D)} {F G:List Nat},xP w vs xs F->xP w j ys G->xP w (vs++j) (xs++ys) (F++G)
 |[],j,[],ys,F,G,e,h=>by rw[show F=[]from e];exact h
 |v::vs,j,x::xs,ys,F,G,⟨C,I,e,h1,h2⟩,h=>⟨C,I++G,by rw[e,qT],h1,Jv h2 h⟩
theorem Mh{w:World}:∀{ds:List D} {vs:List Value} {F:List Nat},aF w ds vs F->xP w vs (ds.map λc=>(false,[c])) F
 |[],vs,F,h=>by simp only[aF]at h;rw[h.1,h.2];rfl
 |d::ds,vs,F,h=>by simp only[aF]at h;obtain⟨v,I,j,C,rfl,rfl,h3,h4⟩:=h;exact⟨j,C,rfl,⟨d,rfl,h3⟩,Mh h4⟩
theorem Ug{t:Nat}{as:Array Operand}{ts:Array TypeId}(ho:o.op=.call { callee:=.value (.tmp t),args:=as,argTypes:=ts })(R:lI P base w0 N g s a w [])(h:ex P (AU (dJ P) N o) s K):o.wp P a w (Aft P base w0 N K) Q:=by
 simp only[AU,ho]at h
 obtain⟨avs,Fa,k1,k2⟩:=Gl R h
 simp only[ex]at k2
 have hfn:=R.tmp t
 have fin:∀{f:FuncId} {caps:List Value} {ds:List D} {F:List Nat},a.tmps.getD t undef=.func (.func f) #[] caps.toArray->aF w ds caps F->ex P (Prog.call f (avs++ds.map λc=>(false,[c])) λrs=>if Du rs=true then .fail else EA N o.dst rs) s K->o.wp P a w (Aft P base w0 N K) Q:=by
  rintro f caps ds F hf hr ⟨rs,hs,hk⟩
  unfold Oper.wp
  have hf':a.tmps[t]?.getD undef=.func (.func f) #[] caps.toArray:=by simpa using hf
  have hrun:(execOp a.eval o).run P w=.ok (.enter f (as.map a.eval++caps.toArray)) w:=by simp[execOp,ho,resolve,Act.eval,hf',Deferred.ofValue,invoke,Dn hs.body]
  rw[hrun]
  unfold Oper.upon
  dsimp only at hk
  split at hk
  ·exact hk.elim
  ·rename_i han
   refine PV (Fa:=Fa++F) R ?_ (λhh=>absurd hh han) (hs.old (by simpa using han)) hk λv w' hh=>hh
   simpa using Jv k1 (Mh hr)
 split at k2
 ·rename_i f caps hv;rw[hv]at hfn;obtain⟨F,r1,r2⟩:=eK hfn;simp only[Rep]at r1;obtain⟨cv,r3,r4⟩:=r1;exact fin r3 r4 k2
 ·rename_i f caps hv;rw[hv]at hfn;obtain⟨cv,r3,r4⟩:=eK hfn;obtain⟨ds,F,r5,r6⟩:=Im R.inv r4 k2;exact fin r3 r5 r6
 ·exact k2.elim
end
open Go.Lib
section
variable {P:Program}{base N:Nat}{w0:W0}{w:World}{g:Gh}{s:St}{a:Act}{K:St->Prop}{Q:Exit->Act->World->Prop}{o:Oper}{pool:List Nat}
theorem St.aIv{s τ:St}(h1:s.t=τ.t)(h2:s.h=τ.h)(h3:s.fr=τ.fr:=by rfl):s=τ:=by cases s;cases τ;simp at h1 h2 h3;rw[h1,h2,h3]
theorem Inv.aAe{h:Heap}{w':World}(I:Inv base g h w pool)(hs:w.heap.size<=w'.heap.size)(hb:∀b,b<w.heap.size->¬GY g h b->w'.heap[b]? =w.heap[b]?):Inv base g h w' pool/\kL g g h h w w':=by
 have U:∀b,g.S b->w'.heap[b]? =w.heap[b]? :=λb x=>hb b (I.S_lt b x) λJ=>J.1 x
 have T:kL g g h h w w':=⟨λ_ x=>x,U,λ_=>qf _,λi e sz xs dp _ hr=>⟨rfl,xs,dp,hr⟩,λi t cs _ hx=>⟨rfl,cs,hx⟩,rfl⟩
 refine⟨⟨qg I.base_le hs,I.S_old,λb x=>qw (I.S_lt b x) hs,λi=> ?_,I.mtb,I.inj,I.dis,I.pool_own.oR λb x=>U b (I.pool_S b x),I.pool_S,I.pool_dis,I.fb⟩,T⟩
 by_cases hl:live h i
 ·exact Ck.turn T rfl rfl (λb C=>hb b (I.HN hl C).2.lt λJ=>J.2 i hl C) (I.obj i)
 ·unfold live at hl
  have:(h i).2=.none:=by
   cases hh:(h i).2 with
   |none=>rfl
   |box t c=>exact absurd (by rw[hh];simp) hl
   |row e z x d=>exact absurd (by rw[hh];simp) hl
   |pin j v u=>exact absurd (by rw[hh];simp) hl
  rw[this];trivial
theorem Inv.FJ{h:Heap}(I:Inv base g h w pool){i:Nat}{e:TypeId}{sz:Nat}{xs:List (List D)}{dp:Bool}(hi:(h i).2=.row e sz xs dp):
  Inv base g (nM h i ((h i).1,.none)) w (if dp then pool++g.fp i else pool)/\(∀b,Dz (g.val i)=some b->GY g (nM h i ((h i).1,.none)) b):=by
 have hlive:live h i:=by unfold live;rw[hi];simp
 have hfree:∀b,Dz (g.val i)=some b->GY g (nM h i ((h i).1,.none)) b:=by intro b hb;refine⟨I.mtb i b hlive hb,λj hl C=> ?_⟩;obtain⟨U,hl⟩:=Bj hl;exact I.inj j i b U hl hlive C hb
 have J:=I.drop i
 cases dp with
 |false=>exact⟨J,hfree⟩
 |true=>
  refine⟨?_,hfree⟩
  have ho:=I.obj i
  rw[hi]at ho
  obtain⟨cells,h1,h2,h3,h4,h5⟩:=ho
  have hown:=h5 rfl
  have hdi:gT h i:=⟨e,sz,xs,hi⟩
  refine⟨J.base_le,J.S_old,J.S_lt,J.obj,J.mtb,J.inj,J.dis,⟨?_,?_⟩,?_,?_,I.fb⟩
  ·simp only[if_true];rw[qt];exact⟨I.pool_own.1,hown.1,by rintro x hx y hy rfl;exact I.pool_dis i hdi _ hy hx⟩
  ·simp only[if_true];intro b hb;rcases qP.1 hb with hb|hb;(exact I.pool_own.2 b hb);·exact hown.2 b hb
  ·simp only[if_true];intro b hb;rcases qP.1 hb with hb|hb;(exact I.pool_S b hb);·exact h4 b hb
  ·simp only[if_true];intro j hd b hb C;obtain⟨U,hd⟩:=CR hd;rcases qP.1 C with C|C;(exact I.pool_dis j hd b hb C);·exact I.dis j i U hd hdi b hb C
theorem Inv.Ip{h:Heap}{w':World}(I:Inv base g h w pool){i b:Nat}{o':Fo}{F:List Nat}{pool':List Nat}(hl:live h i)(hv:Dz (g.val i)=some b)
  (hs:w'.heap.size=w.heap.size)(hb:∀k,k≠b->w'.heap[k]? =w.heap[k]?)
  (T:kL g { g with fp:=Jp g.fp i F } h (nM h i ((h i).1,o')) w w')
  (ho:Ck base { g with fp:=Jp g.fp i F } (nM h i ((h i).1,o')) w' i o')(hpl:∀x∈pool',x∈pool)(hpn:pool'.Nodup)
  (hd:(∃e sz xs,o'=.row e sz xs true)->∀x∈F,(x∈pool\/(gT h i/\x∈g.fp i))/\x∉pool'):
  Inv base { g with fp:=Jp g.fp i F } (nM h i ((h i).1,o')) w' pool':=by
 have hnS:¬g.S b:=I.mtb i b hl hv
 have lv:∀j,live (nM h i ((h i).1,o')) j->live h j:=by intro j hj;rcases HD hj with rfl|⟨_,hj⟩;(exact hl);·exact hj
 have hdi:gT (nM h i ((h i).1,o')) i->∃e sz xs,o'=.row e sz xs true:=by rintro⟨e,sz,xs,hh⟩;rw[bM]at hh;exact⟨e,sz,xs,hh⟩
 refine⟨by rw[hs];exact I.base_le,I.S_old,λk x=>by rw[hs];exact I.S_lt k x,λj=> ?_,λj k hj hk=>I.mtb j k (lv j hj) hk,λj k x hne hj hk=>I.inj j k x hne (lv j hj) (lv k hk),λj k hne hj hk x hx hx'=> ?_,
  ⟨hpn,λx hx=>⟨(I.pool_own.2 x (hpl x hx)).1,(I.pool_own.2 x (hpl x hx)).2.oR (hb x λe=>hnS (e ▸ I.pool_S x (hpl x hx)))⟩⟩,λx hx=>I.pool_S x (hpl x hx),λj hj x hx hx'=> ?_,I.fb⟩
 ·by_cases hj:j=i
  ·subst hj;rw[bM];exact ho
  ·rw[dQ _ _ _ _ hj]
   by_cases hlj:live h j
   ·refine Ck.turn T rfl (Et _ _ _ _ hj) (λk hk=>hb k λe=> ?_) (I.obj j);subst e;exact I.inj j i k hj hlj hl hk hv
   ·unfold live at hlj
    have:(h j).2=.none:=by
     cases hh:(h j).2 with
     |none=>rfl
     |box t c=>exact absurd (by rw[hh];simp) hlj
     |row e z x d=>exact absurd (by rw[hh];simp) hlj
     |pin j v u=>exact absurd (by rw[hh];simp) hlj
    rw[this];trivial
 ·have hin:∀j',gT h j'->∀y∈g.fp j',y∉pool:=I.pool_dis
  rcases Gp hj with rfl|⟨hj',hjd⟩
  ·rcases Gp hk with rfl|⟨hk',hkd⟩
   ·exact hne rfl
   ·have hx1:x∈F:=by simpa[fG]using hx
    have hx2:x∈g.fp k:=by simpa[Et _ _ _ _ hk']using hx'
    rcases(hd (hdi hj) x hx1).1 with hp|⟨hdj,hp⟩
    ·exact hin k hkd x hx2 hp
    ·exact I.dis j k hne hdj hkd x hp hx2
  ·have hx1:x∈g.fp j:=by simpa[Et _ _ _ _ hj']using hx
   rcases Gp hk with rfl|⟨hk',hkd⟩
   ·have hx2:x∈F:=by simpa[fG]using hx'
    rcases(hd (hdi hk) x hx2).1 with hp|⟨hdk,hp⟩
    ·exact hin j hjd x hx1 hp
    ·exact I.dis j k hne hjd hdk x hx1 hp
   ·have hx2:x∈g.fp k:=by simpa[Et _ _ _ _ hk']using hx'
    exact I.dis j k hne hjd hkd x hx1 hx2
 ·rcases Gp hj with rfl|⟨hj',hjd⟩
  ·have hx1:x∈F:=by simpa[fG]using hx
   exact(hd (hdi hj) x hx1).2 hx'
  ·have hx1:x∈g.fp j:=by simpa[Et _ _ _ _ hj']using hx
   exact I.pool_dis j hjd x hx1 (hpl x hx')
theorem kL.Ip{h:Heap}{w':World}{i b:Nat}{o':Fo}{F:List Nat}(hnS:¬g.S b)(hb:∀k,k≠b->w'.heap[k]? =w.heap[k]?)
  (hr:∀e sz xs dp,o'=.row e sz xs dp->∃xs0 dp0,(h i).2=.row e sz xs0 dp0)(hx:∀t cs,o'=.box t cs->∃U,(h i).2=.box t U):
  kL g { g with fp:=Jp g.fp i F } h (nM h i ((h i).1,o')) w w':=by
 refine⟨λ_ x=>x,λk x=>hb k λe=>hnS (e ▸ x),λj=> ?_,λj e sz xs dp J C=> ?_,λj t cs J I=> ?_,rfl⟩
 ·by_cases J:j=i;(subst J;rw[bM];exact qf _);·rw[dQ _ _ _ _ J];exact qf _
 ·by_cases hji:j=i;(subst hji;rw[bM]at C;exact⟨rfl,hr _ _ _ _ C⟩);·rw[dQ _ _ _ _ hji]at C;exact⟨rfl,xs,dp,C⟩
 ·by_cases hji:j=i;(subst hji;rw[bM]at I;exact⟨rfl,hx _ _ I⟩);·rw[dQ _ _ _ _ hji]at I;exact⟨rfl,cs,I⟩
theorem L7:∀{xs:List (List D)} {vs:List Value} {G:List Nat},aT w xs vs G->xs.all (λy=>y.all D.flat)=true->G=[]
 |[],vs,G,h,_=>by simp only[aT]at h;exact h.2
 |x::xs,vs,G,h,j=>by
  simp only[aT]at h
  obtain⟨v1,v2,I,J,rfl,rfl,h3,h4⟩:=h
  simp only[List.all_cons,qM]at j
  rw[L7 h4 j.2]
  have:∀{ds:List D} {C:List Value} {F:List Nat},aF w ds C F->ds.all D.flat=true->F=[]:=by
   intro ds
   induction ds with
   |nil=>intro C F h _;simp only[aF]at h;exact h.2
   |cons d ds U=>
    intro C F h j
    simp only[aF]at h
    obtain⟨v,vs',I,J,rfl,rfl,h3,h4⟩:=h
    simp only[List.all_cons,qM]at j
    rw[Ho h3 j.1,U h4 j.2];rfl
  rw[this h3 j.1];rfl
theorem J1{w:World}{sz:Nat}:∀{n:Nat} {vs:List Value},vs.length=n*sz->(∀u∈vs,u.oneCell'=true)->aT w (List.replicate n (List.replicate sz .opq)) vs []
 |0,vs,h,_=>by simp only[List.replicate_zero,aT];exact⟨qk jD,trivial⟩
 |n+1,vs,h,h1=>by
  have hc:∀{m:Nat} {j:List Value},j.length=m->(∀u∈j,u.oneCell'=true)->aF w (List.replicate m .opq) j []:=by
   intro m
   induction m with
   |zero=>intro j I _;simp only[List.replicate_zero,aF];exact⟨qk I,trivial⟩
   |succ m U=>
    intro j I C
    cases j with
    |nil=>simp at I
    |cons u j=>
     simp only[List.replicate_succ,aF]
     refine⟨u,j,[],[],rfl,rfl,?_,U (by simpa using I) λx J=>C x (by simp[J])⟩
     simp only[Rep];exact⟨C u jF,trivial⟩
  have I:(n+1)*sz=n*sz+sz:=Nat.succ_mul _ _
  simp only[List.replicate_succ,aT]
  exact⟨vs.take sz,vs.drop sz,[],[],(qn sz vs).symm,rfl,hc (by rw[qU];omega) λu C=>h1 u (qj C),J1 (by rw[qV];omega) λu C=>h1 u (qv C)⟩
theorem TT(n sz:Nat):∀x∈List.replicate n (List.replicate sz D.opq),x.all D.flat=true:=by intro x C;rw[(List.mem_replicate.1 C).2,qR];intro d j;rw[(List.mem_replicate.1 j).2];rfl
theorem dH.aBL{L:TL}{e:TypeId}{ys:List (List D)}{vs:List Value}{G:List Nat}(h:aT w ys vs G):dH L (ys.all λy=>y.all D.flat) w e ys vs G:=by
 cases hb:(ys.all λy=>y.all D.flat)with
 |true=>exact dH.flat h (qR.1 hb)
 |false=>exact h
theorem UM{l:List UInt8}:∀x∈EZ l,x.all D.flat=true:=by intro x j;obtain⟨b,_,rfl⟩:=qx.1 j;rfl
theorem Inv.aCm{h:Heap}(I:Inv base g h w pool){i:Nat}{e:TypeId}{sz:Nat}{xs J:List (List D)}{dp:Bool}{cells:List Value}{F pool':List Nat}(hi:(h i).2=.row e sz xs dp)(ho:w.ownsRow base e sz (g.val i) J.length cells)
  (hx:∀x∈J,x.length=sz)(hr:dH g.Q.L dp w e J cells F)(hF:∀b∈F,b∈g.fp i)(hFn:dp=true->F.Nodup)(hp:∀b∈pool',b∈pool\/(dp=true/\b∈g.fp i/\b∉F))(hpn:pool'.Nodup):
  Inv base (OO g i (g.val i) F) (nM h i ((h i).1,.row e sz J dp)) w pool'/\kL g (OO g i (g.val i) F) h (nM h i ((h i).1,.row e sz J dp)) w w:=by
 have hlive:live h i:=by unfold live;rw[hi];simp
 have hob:=I.obj i
 rw[hi]at hob
 obtain⟨cells0,p1,p2,p3,p4,p5⟩:=hob
 have vv:∀j,(OO g i (g.val i) F).val j=g.val j:=λj=>by by_cases C:j=i;(subst C;exact fG _ _ _);·exact Et _ _ _ _ C
 have fi:(OO g i (g.val i) F).fp i=F:=fG _ _ _
 have fn:∀j,j≠i->(OO g i (g.val i) F).fp j=g.fp j:=λj C=>Et _ _ _ _ C
 have T:kL g (OO g i (g.val i) F) h (nM h i ((h i).1,.row e sz J dp)) w w:=by refine⟨λ_ x=>x,λ_ _=>rfl,λj=> ?_,λj e' sz' ys dp' _ C=> ?_,λj t cs _ C=> ?_,rfl⟩;(by_cases C:j=i;(subst C;rw[bM];exact qf _);·rw[dQ _ _ _ _ C];exact qf _);(refine⟨vv j,?_⟩;by_cases hji:j=i;(subst hji;rw[bM]at C;cases C;exact⟨xs,dp,hi⟩);·rw[dQ _ _ _ _ hji]at C;exact⟨ys,dp',C⟩);·refine⟨vv j,?_⟩;by_cases hji:j=i;(subst hji;rw[bM]at C;cases C);·rw[dQ _ _ _ _ hji]at C;exact⟨cs,C⟩
 have lv:∀j,live (nM h i ((h i).1,.row e sz J dp)) j->live h j:=λj hl=>by by_cases C:j=i;(subst C;exact hlive);·unfold live at hl⊢;rw[dQ _ _ _ _ C]at hl;exact hl
 have dv:∀j,gT (nM h i ((h i).1,.row e sz J dp)) j->gT h j:=λj hl=>by by_cases C:j=i;(subst C;obtain⟨e',sz',ys,hh⟩:=hl;rw[bM]at hh;cases hh;exact⟨e,sz,xs,hi⟩);·obtain⟨e',sz',ys,hh⟩:=hl;rw[dQ _ _ _ _ C]at hh;exact⟨e',sz',ys,hh⟩
 have fsub:∀j,∀b∈(OO g i (g.val i) F).fp j,b∈g.fp j:=λj b hb=>by by_cases C:j=i;(subst C;rw[fi]at hb;exact hF b hb);·rw[fn j C]at hb;exact hb
 have down:dp=true->gT h i:=λhd=>by subst hd;exact⟨e,sz,xs,hi⟩
 refine⟨⟨I.base_le,I.S_old,I.S_lt,λj=> ?_,λj b hl hb=> ?_,λj k b hne hl hk hb U=> ?_,λj k hne C hk b hb U=> ?_,⟨hpn,λb hb=> ?_⟩,λb hb=> ?_,λj C b hb U=> ?_,I.fb⟩,T⟩
 ·by_cases C:j=i;(subst C;rw[bM];exact⟨cells,by rw[vv];exact ho,hx,by rw[fi];exact hr,by rw[fi];exact λb hb=>p4 b (hF b hb),λhd=>by rw[fi];exact⟨hFn hd,λb hb=>(p5 hd).2 b (hF b hb)⟩⟩);·rw[dQ _ _ _ _ C];exact Ck.turn T (vv j) (fn j C) (λ_ _=>rfl) (I.obj j)
 ·rw[vv]at hb;exact I.mtb j b (lv j hl) hb
 ·rw[vv]at hb U;exact I.inj j k b hne (lv j hl) (lv k hk) hb U
 ·exact I.dis j k hne (dv j C) (dv k hk) b (fsub j b hb) (fsub k b U)
 ·rcases hp b hb with h1|⟨hd,h1,_⟩;(exact I.pool_own.2 b h1);·exact(p5 hd).2 b h1
 ·rcases hp b hb with h1|⟨hd,h1,_⟩;(exact I.pool_S b h1);·exact p4 b h1
 ·rcases hp b U with h1|⟨hd,h1,h2⟩;(exact I.pool_dis j (dv j C) b (fsub j b hb) h1);·by_cases hji:j=i;(subst hji;rw[fi]at hb;exact h2 hb);·exact I.dis j i hji (dv j C) (down hd) b (fsub j b hb) h1
theorem IL{e0:TypeId}(R:lI P base w0 N g s a w pool){sv:SV}{xv:Value}{k:List (List D)->Bool->Prog}(hv:nN g s.h w sv xv)(h:ex P (EL e0 sv k) s K):
  ∃g' s' I b ad m c pool' cells G,ex P (k I b) s' K/\lI P base w0 N g' s' a w pool'/\kL g g' s.h s'.h w w/\s'.t=s.t/\xv=.slice ad m c/\m=I.length/\(∀b,GY g s.h b->GY g' s'.h b)/\(∀j,(s'.h j).1=(s.h j).1)/\
   dH g.Q.L b w e0 I cells G/\(∀y∈G,g'.S y)/\(b=true->(pool++G).Nodup/\∀x∈pool++G,x∈pool')/\
    (m=0 \/∃bb off sz,ad=some ⟨bb,off,none⟩/\Dw w bb off cells/\cells.length=m*sz/\∀x∈I,x.length=sz):=by
 unfold EL at h
 split at h
 ·rename_i I;obtain⟨ad,n,c,k1,k2,k3,k4⟩:=Nu hv;rcases k4 with k4|⟨b,off,cells,sz,G,rfl,m2,m3,m4,m5,m6,m7,m8⟩;(have hy:I=[]:=qk jD;subst hy;exact⟨g,s,[],_,ad,n,c,pool,[],[],h,R,kL.refl _ _ _,rfl,k1,k2,λ_ x=>x,λ_=>rfl,dH.nil,jF,λ_=>by simpa using R.inv.pool_own.1,.inl k4⟩);·refine⟨g,s,I,_,_,n,c,pool,cells,G,h,R,kL.refl _ _ _,rfl,k1,k2,λ_ x=>x,λ_=>rfl,dH.aBL m7,m8,λhb=> ?_,.inr ⟨b,off,sz,rfl,m4,m5,m6⟩⟩;rw[L7 m7 hb];simpa using R.inv.pool_own.1
 ·have C:=eK hv;exact⟨g,s,[],true,none,0,0,pool,[],[],h,R,kL.refl _ _ _,rfl,C,rfl,λ_ x=>x,λ_=>rfl,dH.nil,jF,λ_=>by simpa using R.inv.pool_own.1,.inl rfl⟩
 ·rename_i i ver
  obtain⟨hone,hle,hcap⟩:=eK hv
  simp only[ex]at h
  split at h
  ·rename_i e sz I U hh
   split at h
   ·rename_i hc
    have hval:=hcap hc _ _ _ _ hh
    obtain⟨S',F,t1,t1b,t2,tS,tF,t3,t4,t5⟩:=R.inv.take hh
    have T:kL g { g with S:=S' } s.h (nM s.h i ((s.h i).1,.none)) w w:=kL.drop i S' t1
    rw[hc]at T t5
    have R':lI P base w0 N { g with S:=S' } (s.fK i (ver,.none)) a w (if U then pool++F else pool):=R.turn T rfl R.below t5
    have hlive:live s.h i:=by unfold live;rw[hh];simp
    have hfree:∀b,GY g s.h b->GY { g with S:=S' } (s.fK i (ver,.none)).h b:=by intro b hb;refine⟨λhS=> ?_,λj hl=>hb.2 j (Bj hl).2⟩;rcases t1b b hS with hS|hS;(exact hb.1 hS);·exact hb.2 i hlive hS
    have hver:∀j,((s.fK i (ver,.none)).h j).1=(s.h j).1:=by intro j;show(nM s.h i (ver,.none) j).1=_;by_cases hj:j=i;(subst hj;rw[bM];exact hc.symm);·rw[dQ _ _ _ _ hj]
    have hob:=R.inv.obj i
    rw[hh]at hob
    obtain⟨cells,p1,p2,p3,p4,p5⟩:=hob
    have p3':dH g.Q.L (if e=e0 then U else false) w e0 I cells (g.fp i):=by by_cases he:e=e0;(subst he;rw[if_pos rfl];exact p3);·rw[if_neg he];exact p3.rep
    have hpo:(if e=e0 then U else false)=true->(pool++g.fp i).Nodup/\∀x∈pool++g.fp i,x∈(if U then pool++F else pool):=by
     intro hd
     have hd':U=true:=by split at hd;(exact hd);·cases hd
     subst hd'
     have J:=t5.pool_own.1
     simp only[if_true]at J⊢
     rw[tF]at J⊢
     refine⟨J.sublist (List.Sublist.append (List.Sublist.refl _) (List.sublist_append_right _ _)),λx C=> ?_⟩
     rcases qP.1 C with C|C<;>simp[C]
    rcases p1.2 with⟨r1,r2⟩|⟨gg,cap,cur,r1,r2⟩
    ·exact⟨_,_,I,_,none,0,0,_,cells,g.fp i,h,R',T,rfl,hval.trans r1,r2.symm,hfree,hver,p3',λy hy=>t1 y (p4 y hy),hpo,.inl rfl⟩
    ·exact⟨_,_,I,_,_,_,cap,_,cells,g.fp i,h,R',T,rfl,hval.trans r1,rfl,hfree,hver,p3',λy hy=>t1 y (p4 y hy),hpo,.inr ⟨gg,0,sz,rfl,N6 (r1 ▸ p1),p1.1,p2⟩⟩
   ·exact h.elim
  ·exact h.elim
 ·rename_i i ver lo n
  have hp:=eK hv
  simp only[ex]at h
  split at h
  ·rename_i e sz I U hh
   split at h
   ·rename_i hc
    obtain⟨ad,c,rfl,q1,q2,q3,_⟩:=M1 R.inv hp hc hh
    have hob:=R.inv.obj i
    rw[hh]at hob
    obtain⟨cells,p1,p2,p3,p4,p5⟩:=hob
    obtain⟨c1,c2,c3,F1,F2,F3,hcs,hG,m1,m2,m3,m4,m5⟩:=PY (lo:=lo) (n:=n) p3 p2 q2
    have hin:∀x,x∈F2->x∈g.fp i:=λx C=>by rw[hG];simp[C]
    have hrl:=aT.length p3.rep p2
    have hone:∀u∈c2,u.oneCell'=true:=m4.rep.one
    have hr':dH g.Q.L U w e (I.take lo++(List.replicate n (List.replicate sz .opq)++I.drop (lo+n))) cells (F1++F3):=by rw[hcs];exact dH.append m3 (dH.append (G:=F3) (F:=[]) (dH.flat (J1 m2 hone) (TT n sz)) m5)
    have hx':∀x∈I.take lo++(List.replicate n (List.replicate sz .opq)++I.drop (lo+n)),x.length=sz:=by intro x C;rcases qP.1 C with C|C;(exact p2 x (qj C));·rcases qP.1 C with C|C;(rw[(List.mem_replicate.1 C).2,qz]);·exact p2 x (qv C)
    have hlen':(I.take lo++(List.replicate n (List.replicate sz D.opq)++I.drop (lo+n))).length=I.length:=by simp only[qE,qU,qz,qV];rcases q2 with h0|h0<;>omega
    have J:U=true->(pool++F2).Nodup/\(F1++F3).Nodup/\∀b∈F2,b∉F1++F3:=λhd=>by
     have hn:=(p5 hd).1
     rw[hG]at hn
     have hd':gT s.h i:=by subst hd;exact⟨e,sz,I,hh⟩
     rw[qt]at hn
     obtain⟨a1,a2,a3⟩:=hn
     rw[qt]at a2
     obtain⟨b1,b2,b3⟩:=a2
     refine⟨?_,?_,?_⟩
     ·rw[qt];exact⟨R.inv.pool_own.1,b1,by rintro x C y hy rfl;exact R.inv.pool_dis i hd' _ (hin _ hy) C⟩
     ·rw[qt];exact⟨a1,b2,λx C y hy=>a3 x C y (by simp[hy])⟩
     ·intro b hb hb';rcases qP.1 hb' with hb'|hb';(exact a3 b hb' b (by simp[hb]) rfl);·exact b3 b hb b hb' rfl
    obtain⟨I',T⟩:=R.inv.aCm (pool':=if U then pool++F2 else pool) hh (by rw[hlen'];exact p1) hx' hr' (λb hb=>by
      rw[hG]
      rcases qP.1 hb with hb|hb<;>simp[hb]) (λhd=>(J hd).2.1) (λb hb=>by
      cases U with
      |false=>exact .inl hb
      |true=>
       simp only[if_true]at hb
       rcases qP.1 hb with hb|hb
       ·exact .inl hb
       ·exact .inr ⟨rfl,hin b hb,(J rfl).2.2 b hb⟩) (by
      cases U with
      |false=>exact R.inv.pool_own.1
      |true=>exact(J rfl).1)
    rw[hc]at I' T
    have R':=R.turn (s':=s.fK i (ver,.row e sz (Re sz lo n I) U)) T rfl R.below I'
    have vv:∀j,(OO g i (g.val i) (F1++F3)).val j=g.val j:=λj=>by by_cases hj:j=i;(subst hj;exact fG _ _ _);·exact Et _ _ _ _ hj
    refine⟨_,_,(I.drop lo).take n,_,ad,n,c,_,c2,F2,h,R',T,rfl,rfl,?_,?_,?_,?_,λy hy=>p4 y (hin y hy),λhd=> ?_,?_⟩
    ·rw[qU,qV];rcases q2 with h0|h0<;>omega
    ·intro b hb;refine⟨hb.1,λj hl=> ?_⟩;rw[vv];refine hb.2 j ?_;by_cases hj:j=i;(subst hj;unfold live;rw[hh];simp);·unfold live at hl⊢;rw[RO,dQ _ _ _ _ hj]at hl;exact hl
    ·intro j;show(nM s.h i _ j).1=_;by_cases hj:j=i;(subst hj;rw[bM];exact hc.symm);·rw[dQ _ _ _ _ hj]
    ·by_cases he:e=e0;(subst he;rw[if_pos rfl];exact m4);·rw[if_neg he];exact m4.rep
    ·have hd':U=true:=by
      split at hd
      ·exact hd
      ·cases hd
     subst hd'
     exact⟨(J rfl).1,λx C=>by simpa using C⟩
    ·rcases q3 with q3|⟨b,cells',q3,q4,q5,q6⟩;(exact .inl q3);·by_cases hn:n=0;(exact .inl hn);·right;have hcc:cells'=cells:=Mg q5 p1;subst hcc;refine⟨b,lo*sz,sz,q3,?_,m2,λx C=>p2 x (qv (qj C))⟩;rw[hcs]at q6;have:=V2 q6;rw[m1 (qg (Nat.le_add_right lo n) (q2.resolve_left hn)),qo]at this;exact this
   ·exact h.elim
  ·exact h.elim
 ·exact h.elim
theorem Nm{t ty e:TypeId}{U:TypeInfo}(I:P.underlying t=some (.slice e))(C:P.info? e=some U){sz:Nat}{v:Value}{n:Nat}{xs:List Value}(hown:w.ownsRow base e sz v n xs)(ad:Option Addr)(c:Nat):
  (Builtin.append_ #[t,t] ty #[v,.slice ad 0 c]).run P w=.ok v w:=by
 rcases hown.2 with⟨rfl,rfl⟩|⟨gg,cap,J,rfl,_,_,j,_⟩
 ·cases ad<;>simp[Builtin.append_,run_underlying I,sizeOf,typeInfo,C,Builtin.lenOf,Builtin.firstCells,loadCells,loadCellsFrom]
 ·cases ad<;>simp[Builtin.append_,run_underlying I,sizeOf,typeInfo,C,Builtin.lenOf,Builtin.firstCells,j,storeCells,loadCells,loadCellsFrom]
theorem QJ{e:TypeId}{sz k m c n:Nat}{ad:Option Addr}{cells:List Value}(h:w.ownsRow base e sz (.slice ad m c) n cells)(hk:k<=m):m=n/\w.ownsRow base e sz (.slice ad k c) k (cells.take (k*sz)):=by
 obtain⟨h1,h2⟩:=h
 rcases h2 with⟨e1,C⟩|⟨I,cap,j,e1,e2,e3,e4,e5,e6,e7⟩
 ·cases e1
  have:k=0:=by omega
  subst this
  exact⟨C.symm,jF,.inl ⟨rfl,rfl⟩⟩
 ·cases e1;refine⟨rfl,?_,.inr ⟨I,c,j,rfl,e2,e3,jD,e5,e6,?_⟩⟩;(rw[qU,h1,Nat.min_eq_left (qi _ hk)]);·rw[<-e7,List.take_take,Nat.min_eq_left (qi _ hk)]
theorem St.Ki(s:St)(i:Nat)(x y:Nat×Fo):(s.fK i x).fK i y=s.fK i y:=by unfold St.fK;congr 1;funext j;by_cases hj:j=i<;>simp[hj]
theorem Nk{e:TypeId}{sz:Nat}{w':World}(R:lI P base w0 N g s a w pool){v v':Value}{zs:List (List D)}{n:Nat}{cells1 cells':List Value}{F:List Nat}{j:Nat}{dp:Bool}
  (hown:w.ownsRow base e sz v n cells1)(hfree:∀b,Dz v=some b->GY g s.h b)(hr:dH g.Q.L dp w e zs cells' F)(hF:∀b∈F,g.S b)(hx:∀x∈zs,x.length=sz)
  (U:dp=true->F.Nodup/\∀x∈F,x∈pool)
  (r2:w'.ownsRow base e sz v' zs.length cells')(C:w.grownBy w' v.ownBlock)(I:v'.ownBlock=v.ownBlock\/v'.ownBlock=none \/∃b,w.heap.size<=b/\v'.ownBlock=some b):
  ∃g',lI P base w0 N g' (s.fK j ((s.h j).1+1,.row e sz zs dp)) a w' []/\nN g' (s.fK j ((s.h j).1+1,.row e sz zs dp)).h w' (.v false [.row j ((s.h j).1+1)]) v':=by
 have hob:Dz v=v.ownBlock:=rR hown
 have hgb:∀b,b<w.heap.size->¬GY g s.h b->w'.heap[b]? =w.heap[b]? :=by
  intro b hb hnf
  refine C.block b hb λJ=>hnf (hfree b ?_)
  rw[hob,<-J]
 obtain⟨I1,T1⟩:=R.inv.aAe C.size hgb
 have hob':Dz v'=v'.ownBlock:=rR r2
 have hfree':∀b,Dz v'=some b->GY g s.h b:=by intro b hb;rw[hob']at hb;rcases I with I|I|⟨b',hle,I⟩;(exact hfree b (by rw[hob,<-I,hb]));(rw[I]at hb;cases hb);·rw[I]at hb;simp at hb;subst hb;exact⟨λhS=>absurd (R.inv.S_lt _ hS) jD,λj hl hb'=>absurd (R.inv.HN hl hb').2.lt jD⟩
 have hrr:dH g.Q.L dp w' e zs cells' F:=hr.oR λb hb=>T1.Sw b (hF b hb)
 have I2:=I1.FU (i:=j) (v:=v') (e:=e) (sz:=sz) (xs:=zs) (dp:=dp) (cells:=cells') (F:=F) (pool':=[]) r2 hx hrr hF hfree' jF List.nodup_nil
  (λhd=>⟨(U hd).1,λb hb=>⟨(U hd).2 b hb,jF⟩⟩)
 have T2:=kL.create (g:=g) (h:=s.h) (w:=w') j v' F (.row e sz zs dp)
 have hbel:Below w0.Q.fb w0.w w':=R.bel ⟨C.os,C.tape,C.output,C.size,λb hb=>C.block b (qw hb R.inv.base_le) λJ=>by rcases hown.2 with⟨e1,_⟩|⟨gg,cap,cur,e1,e2,_⟩;(rw[e1]at J;simp[Value.ownBlock]at J);·rw[e1]at J;simp[Value.ownBlock]at J;omega⟩
 refine⟨_,R.turn (T1.trans T2) rfl hbel I2,⟨_,[],rfl,⟨?_,?_,?_⟩,rfl⟩⟩
 ·rcases r2.2 with⟨rfl,_⟩|⟨gg,cap,cur,rfl,_⟩<;>rfl
 ·show _<=(nM s.h j _ j).1;rw[bM];exact qf _
 ·intro _ e' sz' xs' dp' _;show v'=Jp g.val _ v' _;rw[fG]
theorem Rw{e:TypeId}{sz:Nat}{w':World}(R:lI P base w0 N g s a w pool){v v':Value}{xs ys:List (List D)}{cells1 cells2:List Value}{F G:List Nat}{j:Nat}{dp:Bool}
  (hown:w.ownsRow base e sz v xs.length cells1)(hx1:∀x∈xs,x.length=sz)(hr1:dH g.Q.L dp w e xs cells1 F)(hF1:∀b∈F,g.S b)(hfree:∀b,Dz v=some b->GY g s.h b)
  (hr2:dH g.Q.L dp w e ys cells2 G)(hG:∀b∈G,g.S b)(hx2:∀x∈ys,x.length=sz)(U:dp=true->(F++G).Nodup/\∀x∈F++G,x∈pool)
  (r2:w'.ownsRow base e sz v' (xs.length+ys.length) (cells1++cells2))(C:w.grownBy w' v.ownBlock)(r4:v'.ownBlock=v.ownBlock\/v'.ownBlock=some w.heap.size):
  ∃g',lI P base w0 N g' (s.fK j ((s.h j).1+1,.row e sz (xs++ys) dp)) a w' []/\nN g' (s.fK j ((s.h j).1+1,.row e sz (xs++ys) dp)).h w' (.v false [.row j ((s.h j).1+1)]) v':=by
 have hob:Dz v=v.ownBlock:=rR hown
 have hgb:∀b,b<w.heap.size->¬GY g s.h b->w'.heap[b]? =w.heap[b]? :=by
  intro b hb hnf
  refine C.block b hb λI=>hnf (hfree b ?_)
  rw[hob,<-I]
 obtain⟨I1,T1⟩:=R.inv.aAe C.size hgb
 have hob':Dz v'=v'.ownBlock:=rR r2
 have hfree':∀b,Dz v'=some b->GY g s.h b:=by intro b hb;rw[hob']at hb;rcases r4 with r4|r4;(exact hfree b (by rw[hob,<-r4,hb]));·rw[r4]at hb;simp at hb;subst hb;exact⟨λhS=>absurd (R.inv.S_lt _ hS) jD,λj hl hb'=>absurd (R.inv.HN hl hb').2.lt jD⟩
 have J:∀b∈F++G,g.S b:=by intro b hb;rcases qP.1 hb with hb|hb;(exact hF1 b hb);·exact hG b hb
 have hrr:dH g.Q.L dp w' e (xs++ys) (cells1++cells2) (F++G):=(hr1.append hr2).oR λb hb=>T1.Sw b (J b hb)
 have hxx:∀x∈xs++ys,x.length=sz:=by intro x hx;rcases qP.1 hx with hx|hx;(exact hx1 x hx);·exact hx2 x hx
 have I2:=I1.FU (i:=j) (v:=v') (e:=e) (sz:=sz) (xs:=xs++ys) (dp:=dp) (cells:=cells1++cells2) (F:=F++G) (pool':=[]) (by rw[qE];exact r2) hxx hrr J hfree' jF List.nodup_nil
  (λhd=>⟨(U hd).1,λb hb=>⟨(U hd).2 b hb,jF⟩⟩)
 have T2:=kL.create (g:=g) (h:=s.h) (w:=w') j v' (F++G) (.row e sz (xs++ys) dp)
 have hbel:Below w0.Q.fb w0.w w':=R.bel ⟨C.os,C.tape,C.output,C.size,λb hb=>C.block b (qw hb R.inv.base_le) λI=>by rcases hown.2 with⟨e1,_⟩|⟨gg,cap,cur,e1,e2,_⟩;(rw[e1]at I;simp[Value.ownBlock]at I);·rw[e1]at I;simp[Value.ownBlock]at I;omega⟩
 refine⟨_,R.turn (T1.trans T2) rfl hbel I2,⟨_,[],rfl,⟨?_,?_,?_⟩,rfl⟩⟩
 ·rcases r2.2 with⟨rfl,_⟩|⟨gg,cap,cur,rfl,_⟩<;>rfl
 ·show _<=(nM s.h j _ j).1;rw[bM];exact qf _
 ·intro _ e' sz' xs' dp' _;show v'=Jp g.val _ v' _;rw[fG]
theorem JK{t ty e:TypeId}{ti C:TI}(hti:dJ P t=some ti)(htk:ti.k=.slice e)(hte:dJ P e=some C)(R:lI P base w0 N g s a w pool){v xv:Value}{xs ys:List (List D)}{cells1 cells2:List Value}{F G:List Nat}{ad:Option Addr}{m c j:Nat}{dp:Bool}
  (hown:w.ownsRow base e C.size v xs.length cells1)(hx1:∀x∈xs,x.length=C.size)(hr1:dH g.Q.L dp w e xs cells1 F)(hF1:∀b∈F,g.S b)(hfree:∀b,Dz v=some b->GY g s.h b)
  (hxv:xv=.slice ad m c)(hm:m=ys.length)(U:dH g.Q.L dp w e ys cells2 G)(hG:∀b∈G,g.S b)(hx2:∀x∈ys,x.length=C.size)
  (hlie:m=0 \/∃bb off sz,ad=some ⟨bb,off,none⟩/\Dw w bb off cells2/\cells2.length=m*sz/\∀x∈ys,x.length=sz)
  (hdp:dp=true->(F++G).Nodup/\∀x∈F++G,x∈pool)(hbytes:(xs.length+ys.length)*C.bytes<=140737488355328)(hp1:0<C.size)(hp2:0<C.bytes):
  ∃I J g',(Builtin.append_ #[t,t] ty #[v,xv]).run P w=.ok I J/\lI P base w0 N g' (s.fK j ((s.h j).1+1,.row e C.size (xs++ys) dp)) a J []/\
   nN g' (s.fK j ((s.h j).1+1,.row e C.size (xs++ys) dp)).h J (.v false [.row j ((s.h j).1+1)]) I:=by
 obtain⟨i,d,z,h1,h2,h3,h4,_⟩:=(dI hti).ok
 rw[htk]at h4
 obtain rfl:=C3 h4
 obtain⟨ie,de,ze,e1,e2,e3,e4,e5,e6,e7,e8,e9⟩:=(dI hte).ok
 have hob:Dz v=v.ownBlock:=rR hown
 have key:∃I J,(Builtin.append_ #[t,t] ty #[v,xv]).run P w=.ok I J/\J.ownsRow base e C.size I (xs.length+ys.length) (cells1++cells2)/\w.grownBy J v.ownBlock/\(I.ownBlock=v.ownBlock\/I.ownBlock=some w.heap.size):=by
  have hlen2:=aT.length U.rep hx2
  rcases Nat.eq_zero_or_pos m with h0|h0
  ·have hy:ys=[]:=qk jD;subst hy;have hc2:cells2=[]:=qk (by simpa using hlen2);subst hc2 hxv h0;exact⟨v,w,Nm h2 e1 hown ad c,by simpa using hown,World.grownBy.refl w _,.inl rfl⟩
  ·rcases hlie with hl|⟨bb,off,sz,rfl,hl1,hl2,hl3⟩
   ·omega
   ·subst hxv hm
    obtain⟨I,J,r1,r2,r3,_,r5⟩:=run_append_own_at (P:=P) w base t ty e ie ze C.size C.bytes h2 e1 e3 e7 e8 (e6.trans e7) hp1 v xs.length cells1 hown ⟨bb,off,none⟩ ys.length c cells2 hlen2
     (λj u hu=>by rw[Addr.add_lit];exact hl1 j u hu) U.rep.one (by simp only[maxLen];have:=Nat.le_mul_of_pos_right (xs.length+ys.length) hp2;omega) hbytes R.inv.base_le
    exact⟨I,J,r1,r2,r3,r5⟩
 obtain⟨I,J,r1,r2,r3,r4⟩:=key
 obtain⟨g',k1,k2⟩:=Rw (j:=j) (dp:=dp) R hown hx1 hr1 hF1 hfree U hG hx2 hdp r2 r3 r4
 exact⟨I,J,g',r1,k1,k2⟩
theorem UC{t u ty e:TypeId}{i:TypeInfo}{z:Value}(ht:P.underlying t=some (.slice e))(hu:P.underlying u=some .string)(hi:P.info? e=some i)(hz:i.zero=some z)(hzs:z.cells.size=1)(hsize:i.size=1)(J:i.bytes=1)
  {v:Value}{n:Nat}{xs:List Value}(hown:w.ownsRow base e 1 v n xs)(s:ByteArray)(hbytes:n+s.size<=140737488355328)(hbase:base<=w.heap.size):
  ∃v' w',(Builtin.append_ #[t,u] ty #[v,.string s]).run P w=.ok v' w'/\w'.ownsRow base e 1 v' (n+s.size) (xs++strCells s)/\w.grownBy w' v.ownBlock/\(v'.ownBlock=v.ownBlock\/v'.ownBlock=some w.heap.size):=by
 have aa:n+s.size<=maxLen:=by simp only[maxLen];omega
 have C:xs.length=n:=by simpa using hown.1
 have hlen:(xs++strCells s).length=(n+s.size)*1:=by rw[qE,C,strCells_length,Nat.mul_one]
 have fresh:∀(old:Nat) (cells:Array Value),cells=xs.toArray++(strCells s).toArray++Builtin.zeroCells z.cells (grownCap w (n+s.size) old e-(n+s.size))->∀(row:Option Nat),
   (w.drew.alloc (.cells cells e)).ownsRow base e 1 (.slice (some ⟨w.heap.size,0,none⟩) (n+s.size) (grownCap w (n+s.size) old e)) (n+s.size) (xs++strCells s)/\w.grownBy (w.drew.alloc (.cells cells e)) row:=by
  rintro old cells rfl row
  have hge:=grownCap_ge w (n+s.size) old e
  refine⟨⟨hlen,.inr ⟨w.heap.size,_,_,rfl,hbase,heap_alloc_new w.drew _,hge,grownCap_le_maxLen w (n+s.size) old e aa,?_,?_⟩⟩,⟨rfl,rfl,rfl,jF,λk hk _=>Below.heap_alloc w.drew _ k hk⟩⟩
  ·simp only[Array.size_append,List.size_toArray,size_zeroCells,hzs,C,strCells_length];omega
  ·simp only[Array.toList_append,qT];rw[<-qT,<-hlen];exact List.take_left
 rcases hown.2 with⟨rfl,rfl⟩|⟨b,cap,I,rfl,hb,hg,hnc,hcm,hcs,htk⟩
 ·have hx:xs=[]:=qk C
  subst hx
  by_cases hm:s.size=0
  ·have hn:strCells s=[]:=qk (by rw[strCells_length];exact hm);have hf:=run_firstCells_string (P:=P) w 1 s;rw[hm]at hf;exact⟨.slice none 0 0,w,by simp[Builtin.append_,run_underlying ht,run_underlying hu,sizeOf,typeInfo,hi,hsize,Builtin.lenOf,hm,hf],by rw[hm,hn];exact World.ownsRow_nil w base e 1,World.grownBy.refl w _,.inl rfl⟩
  ·have U:=run_append_nil_string (P:=P) w t u ty e i z ht hu hi hz s jD jD (by rw[J];omega)
   have e1:(s.data.map λb=>Value.int .u8 b.toNat)=(strCells s).toArray:=by apply Array.ext';simp[strCells]
   have j:=fresh 0 ((s.data.map λb=>Value.int .u8 b.toNat)++Builtin.zeroCells z.cells (grownCap w s.size 0 e-s.size)) (by rw[e1];simp) (Value.ownBlock (.slice none 0 0))
   rw[qo]at j⊢
   exact⟨_,_,U,j.1,j.2,.inr rfl⟩
 ·by_cases hroom:n+s.size<=cap
  ·have U:=run_append_room_string (P:=P) w t u ty e i ht hu hi hsize b n cap I hg s hroom jD
   refine⟨_,_,U,⟨hlen,.inr ⟨b,cap,_,rfl,hb,setRow_heap w b I _ e _ hg,hroom,hcm,?_,?_⟩⟩,⟨rfl,rfl,rfl,jF,λk _ hk=>setRow_other w b k _ (λe=>hk (by simp[Value.ownBlock,e]))⟩,.inl rfl⟩
   ·simp only[List.size_toArray,qE,qU,qV,qm,strCells_length];omega
   ·have ht':I.toList.take n=xs:=by simpa using htk
    rw[ht',<-hlen]
    exact List.take_left
  ·have U:=run_append_grow_string (P:=P) w t u ty e i z ht hu hi hz ⟨b,0,none⟩ n cap xs (by rw[hsize];simpa using C) (hown.cells (g:=b) rfl) s jD jD (by rw[J];exact growslice_fits jD jD);have j:=fresh cap _ rfl (Value.ownBlock (.slice (some ⟨b,0,none⟩) n cap));exact⟨_,_,U,j.1,j.2,.inr rfl⟩
theorem Uu{as:Array Operand}{ts:Array TypeId}(ho:o.op=.call { callee:=.builtin .append,args:=as,argTypes:=ts })(R:lI P base w0 N g s a w [])(h:ex P (AU (dJ P) N o) s K):o.wp P a w (Aft P base w0 N K) Q:=by
 simp only[AU,ho]at h
 split at h
 ·rename_i sx xx t t' hs ht
  have hs:=RY hs
  have ht:=RY ht
  subst hs ht
  split at h
  ·rename_i htt
   subst htt
   split at h
   ·rename_i e sz0 by0 z0 cm0 sl0 hti
    split at h
    ·rename_i te hte
     obtain⟨sv1,q1,q2⟩:=cA R h
     obtain⟨sv2,q3,q4⟩:=cA R q2
     have fin:∀{v':Value} {w':World} {g':Gh} {s':St} {sv:SV},(Builtin.append_ #[t,t] o.type #[a.eval sx,a.eval xx]).run P w=.ok v' w'->lI P base w0 N g' s' a w' []->nN g' s'.h w' sv v'->ex P (put N o.dst sv) s' K->o.wp P a w (Aft P base w0 N K) Q:=by intro v' w' g' s' sv hrun R' hv hk;obtain⟨s2,m1,m2⟩:=DF R' hv hk;refine rO (v:=v') (w':=w') ?_ ⟨s2,m1,g',m2⟩;simp[execOp,ho,resolve,invoke,builtin,hrun]
     unfold Hs at q4
     split at q4
     ·exact q4.elim
     ·rename_i dd hdd
      split at q4
      ·rename_i i ver
       obtain⟨hone,hle,hcap⟩:=eK q1
       simp only[ex]at q4
       split at q4
       ·rename_i e' sz' xs dp hh
        split at q4
        ·rename_i hc
         obtain⟨hc1,hc2,hc3⟩:=hc
         subst hc2 hc3
         have hval:=hcap hc1 _ _ _ _ hh
         have hob:=R.inv.obj i
         rw[hh]at hob
         obtain⟨cells,p1,p2,p3,p4,p5⟩:=hob
         obtain⟨I1,hfr⟩:=R.inv.FJ hh
         have T:kL g g s.h (nM s.h i ((s.h i).1,.none)) w w:=kL.drop i g.S λ_ x=>x
         rw[hc1]at I1 hfr T
         have R1:lI P base w0 N g (s.fK i (ver,.none)) a w (if dp then[]++g.fp i else[]):=R.turn T rfl R.below I1
         obtain⟨g2,s2,ys,b,ad,m,c,pool2,cells2,G,k1,k2,k3,k4,k5,k6,k7,k8,k9,aa,ae,af⟩:=IL R1 (q3.turn T) q4
         obtain⟨⟨n1,n2,n3,n4⟩,k1⟩:=k1
         simp only[ex]at k1
         have hver:(s2.h i).1=ver:=by rw[k8];show(nM s.h i _ i).1=_;rw[bM]
         obtain⟨v',w',g',r1,r2,r3⟩:=JK (j:=i) (dp:=dp&&b) (ty:=o.type) hti rfl hte k2 p1 p2 (by rw[k3.Q];exact p3.RT λhd=>(by simp at hd;exact hd.1)) (λb hb=>k3.S b (p4 b hb)) (λb hb=>k7 b (hfr b hb)) k5 k6 (by rw[k3.Q];exact k9.RT λhd=>(by simp at hd;exact hd.2)) aa n1 af (λhd=>by simp at hd;have:=ae hd.2;rw[hd.1]at this;simpa using this) n2 n3 n4
         rw[hver]at r2 r3
         exact fin (by rw[hval];exact r1) r2 r3 k1
        ·exact q4.elim
       ·exact q4.elim
      ·rename_i i ver n
       have hp:=eK q1
       simp only[ex]at q4
       split at q4
       rotate_left
       ·exact q4.elim
       rename_i e0 sz0 xs0 dp0 hh0
       obtain⟨g2,s2,ys,b,ad,m,c,pool2,cells2,G,k1,k2,k3,k4,k5,k6,k7,k8,k9,aa,ae,af⟩:=IL R q3 q4
       simp only[ex]at k1
       split at k1
       ·rename_i e' sz' xs dp hh
        split at k1
        ·rename_i hc
         obtain⟨hc1,hc2,hc3⟩:=hc
         subst hc2 hc3
         obtain⟨ad',c',hval,z1,z2,z3,z4⟩:=M1 k2.inv (yT.turn k3 hp) hc1 hh
         obtain⟨mm,z5,z6⟩:=z4 rfl
         have hob:=k2.inv.obj i
         rw[hh]at hob
         obtain⟨cells,p1,p2,p3,p4,p5⟩:=hob
         rw[z5]at p1
         obtain⟨hmm,p1t⟩:=QJ p1 z6
         subst hmm
         have p3':dH g2.Q.L dp w e' (xs.take n++xs.drop n) cells (g2.fp i):=by rw[qn];exact p3
         obtain⟨u1,u2,F1,F2,hcs,hG,m1,m2⟩:=dH.split p3'
         have hu1:cells.take (n*te.size)=u1:=by
          have hl:=aT.length m1.rep λx hx=>p2 x (qj hx)
          rw[qU,Nat.min_eq_left z6]at hl
          rw[hcs,<-hl,List.take_left]
         rw[hu1]at p1t
         obtain⟨I1,hfr⟩:=k2.inv.FJ hh
         have T:kL g2 g2 s2.h (nM s2.h i ((s2.h i).1,.none)) w w:=kL.drop i g2.S λ_ x=>x
         rw[hc1]at I1 hfr T
         have R1:lI P base w0 N g2 (s2.fK i (ver,.none)) a w (if dp then pool2++g2.fp i else pool2):=k2.turn T rfl k2.below I1
         obtain⟨⟨n0,n1,n2,n3,n4⟩,k1⟩:=k1
         rw[<-n0]at k1
         have hlt:(xs.take n).length=n:=by rw[qU,Nat.min_eq_left z6]
         obtain⟨v',w',g',r1,r2,r3⟩:=JK (j:=i) (dp:=dp&&b) (ty:=o.type) (xs:=xs.take n) hti rfl hte R1 (by rw[hlt];exact p1t) (λx hx=>p2 x (qj hx)) (m1.RT λhd=>(by simp at hd;exact hd.1)) (λb hb=>p4 b (by rw[hG];simp[hb])) (λb hb=>hfr b (by rw[z5];cases ad'<;>exact hb)) k5 k6 (by rw[k3.Q];exact k9.RT λhd=>(by simp at hd;exact hd.2)) aa n1 af (λhd=>by simp only[qM]at hd;obtain⟨hd1,hd2⟩:=hd;have ah:=ae hd2;rw[hd1]at I1;simp only[if_true]at I1;have hnd:=I1.pool_own.1;rw[hG,qt]at hnd;obtain⟨a1,a2,a3⟩:=hnd;rw[qt]at a2;rw[hd1];simp only[if_true];refine⟨?_,?_⟩;(rw[qt];exact⟨a2.1,by simpa using ah.1,by rintro x hx y hy rfl;exact a3 x (ah.2 x (by simp[hy])) x (by simp[hx]) rfl⟩);·intro x hx;rcases qP.1 hx with hx|hx;(rw[hG];simp[hx]);·exact qP.2 (.inl (ah.2 x (by simp[hx])))) (by rw[hlt];exact n2) n3 n4
         have hver:((s2.fK i (ver,.none)).h i).1=ver:=by show(nM s2.h i _ i).1=_;rw[bM]
         rw[hver,St.Ki]at r2 r3
         exact fin (by rw[hval];exact r1) r2 r3 k1
        ·exact k1.elim
       ·exact k1.elim
      ·have hx:=eK q1;obtain⟨g2,s2,ys,b,ad,m,c,pool2,cells2,G,k1,k2,k3,k4,k5,k6,k7,k8,k9,aa,ae,af⟩:=IL R q3 q4;obtain⟨⟨n1,n2,n3,n4⟩,k1⟩:=k1;simp only[ex]at k1;obtain⟨v',w',g',r1,r2,r3⟩:=JK (j:=rid dd 0) (dp:=b) (ty:=o.type) (xs:=[]) (cells1:=[]) (F:=[]) (v:=.slice none 0 0) hti rfl hte k2 (World.ownsRow_nil w base e te.size) jF dH.nil jF (by intro b hb;simp[Dz]at hb) k5 k6 (by rw[k3.Q];exact k9) aa n1 af (λhd=>by have:=ae hd;simpa using this) (by simpa using n2) n3 n4;exact fin (by rw[show a.eval sx=.slice none 0 0 from hx];exact r1) r2 r3 k1
      ·exact q4.elim
    ·exact h.elim
   ·exact h.elim
  ·rename_i hne
   split at h
   ·rename_i e sz0 by0 z0 cm0 sl0 sz1 by1 z1 cm1 sl1 hti hti'
    split at h
    ·rename_i cm2 sl2 hte
     obtain⟨i,d,z,h1,h2,h3,h4,_⟩:=(dI hti).ok
     obtain rfl:=C3 h4
     obtain⟨i',d',z',h1',h2',h3',h4',_⟩:=(dI hti').ok
     obtain rfl:=Q9 h4'
     obtain⟨ie,de,ze,e1,e2,e3,e4,e5,e6,e7,e8,e9⟩:=(dI hte).ok
     obtain⟨sv1,q1,q2⟩:=cA R h
     obtain⟨sv2,q3,q4⟩:=cA R q2
     unfold Ql at q4
     split at q4
     ·rename_i j ver b
      obtain⟨hone,hle,hcap⟩:=eK q1
      simp only[ex]at q4
      split at q4
      ·rename_i e' xs dp hh
       split at q4
       ·rename_i hc
        obtain⟨hc1,hc2⟩:=hc
        subst hc2
        obtain⟨hb,q4⟩:=q4
        have hval:=hcap hc1 _ _ _ _ hh
        have hob:=R.inv.obj j
        rw[hh]at hob
        obtain⟨cells,p1,p2,p3,p4,p5⟩:=hob
        obtain⟨I1,hfr⟩:=R.inv.FJ hh
        have T:kL g g s.h (nM s.h j ((s.h j).1,.none)) w w:=kL.drop j g.S λ_ x=>x
        have R1:lI P base w0 N g (s.fK j ((s.h j).1,.none)) a w (if dp then[]++g.fp j else[]):=R.turn T rfl R.below I1
        obtain⟨v',w',k1,k2,k3,k4⟩:=UC (P:=P) (ty:=o.type) h2 h2' e1 e3 (e6.trans e7) e7 e8 p1 b hb R.inv.base_le
        have hvl:(EZ b.data.toList).length=b.size:=by simp[EZ]
        have hcore:=Rw (j:=j) (dp:=dp) (v':=v') (w':=w') (ys:=EZ b.data.toList) (cells2:=strCells b) (G:=[]) R1 p1 p2 p3 p4 hfr (dH.flat (LV _) UM) jF (by intro y hy;unfold EZ at hy;obtain⟨c,_,rfl⟩:=qx.1 hy;rfl) (λhd=>by subst hd;simp only[if_true,List.nil_append,qX];exact⟨(p5 rfl).1,λ_ x=>x⟩) (by rw[hvl];exact k2) k3 k4
        obtain⟨g',m1,m2⟩:=hcore
        have hst:((s.fK j ((s.h j).1,.none)).fK j (((s.fK j ((s.h j).1,.none)).h j).1+1,.row e' 1 (xs++EZ b.data.toList) dp))=s.fK j (ver+1,.row e' 1 (xs++EZ b.data.toList) dp):=by refine St.aIv rfl (funext λk=> ?_);show nM _ _ _ k=nM _ _ _ k;by_cases hk:k=j;(subst hk;rw[bM,bM];rw[show((s.fK k ((s.h k).1,.none)).h k).1=(s.h k).1 from by show(nM _ _ _ k).1=_;rw[bM],hc1]);·rw[dQ _ _ _ _ hk,dQ _ _ _ _ hk];show nM _ _ _ k=_;rw[dQ _ _ _ _ hk]
        have hver:((s.fK j ((s.h j).1,.none)).h j).1+1=ver+1:=by show(nM _ _ _ j).1+1=_;rw[bM,hc1]
        rw[hst]at m1 m2
        rw[hver]at m2
        obtain⟨s2,n1,n2⟩:=DF m1 m2 q4
        refine rO (v:=v') (w':=w') ?_ ⟨s2,n1,g',n2⟩
        have hrun:(Builtin.append_ #[t,t'] o.type #[a.eval sx,a.eval xx]).run P w=.ok v' w':=by rw[hval,IC q3];exact k1
        simp[execOp,ho,resolve,invoke,builtin,hrun]
       ·exact q4.elim
      ·exact q4.elim
     ·exact q4.elim
    ·exact h.elim
   ·exact h.elim
 ·exact h.elim
theorem J4(I:Inv base g s.h w pool):∀{cs:List SC} {vs:List Value} {k:List D->Prog},aQ g s.h w cs vs->ex P (Hd cs k) s K->∃ds F,aF w ds vs F/\(∀b∈F,¬GY g s.h b)/\ex P (k ds) s K
 |[],vs,k,hc,h=>⟨[],[],by simp only[aF];exact⟨hc,trivial⟩,jF,h⟩
 | .dat d::cs,vs,k,hc,h=>by obtain⟨v,j,rfl,⟨C,h1,h2⟩,h3⟩:=hc;obtain⟨ds,F,h4,h6,h5⟩:=J4 I h3 h;refine⟨d::ds,C++F,by simp only[aF];exact⟨v,j,C,F,rfl,rfl,h1,h4⟩,λb hb=> ?_,h5⟩;rcases qP.1 hb with hb|hb;(exact λJ=>J.1 (h2 b hb));·exact h6 b hb
 | .old B d u::cs,vs,k,hc,h=>by obtain⟨v,j,rfl,⟨C,h1,h2,_⟩,h3⟩:=hc;obtain⟨ds,F,h4,h6,h5⟩:=J4 I h3 h;refine⟨d::ds,C++F,by simp only[aF];exact⟨v,j,C,F,rfl,rfl,h1,h4⟩,λb hb=> ?_,h5⟩;rcases qP.1 hb with hb|hb;(exact λJ=>J.1 (h2 b hb).1);·exact h6 b hb
 | .nil::cs,vs,k,hc,h=>by obtain⟨v,j,rfl,h1,h3⟩:=hc;obtain⟨ds,F,h4,h6,h5⟩:=J4 I h3 h;refine⟨.sl []::ds,F,?_,h6,h5⟩;simp only[aF];refine⟨v,j,[],F,rfl,rfl,?_,h4⟩;simp only[Rep];exact⟨none,0,0,h1,rfl,qf _,.inl jF⟩
 | .row i ver::cs,vs,k,hc,h=>by
  obtain⟨v,j,rfl,⟨h0,h1,h2⟩,h3⟩:=hc
  simp only[Hd,ex]at h
  split at h
  ·rename_i e sz xs dp U
   split at h
   ·rename_i hv
    have hval:=h2 hv e sz xs dp U
    obtain⟨S',C,_,hS,hr,_,_,hF,_⟩:=I.take U
    obtain⟨ds,F,h4,h6,h5⟩:=J4 I h3 h
    have hlive:live s.h i:=by unfold live;rw[U];simp
    refine⟨.sl xs::ds,C++F,by simp only[aF];exact⟨v,j,C,F,rfl,rfl,hval ▸ hr,h4⟩,λb hb=> ?_,h5⟩
    rcases qP.1 hb with hb|hb
    ·intro J;rcases hS b (hF b hb)with hx|hx;(exact J.1 hx);·exact J.2 i hlive hx
    ·exact h6 b hb
   ·exact h.elim
  ·exact h.elim
 | .bp _ _ _::_,_,_,_,h=>h.elim
 | .rp _ _ _ _::_,_,_,_,h=>h.elim
 | .clo _ _::_,_,_,_,h=>h.elim
 | .part _ _ _ _::_,_,_,_,h=>h.elim
 | .exa _ _ _::_,_,_,_,h=>h.elim
theorem Gn(I:Inv base g s.h w pool){i:Nat}{tt:TypeId}{bc:List SC}(U:(s.h i).2=.box tt bc):∀{cs:List SC} {vs:List Value} {k:List D->Prog},aQ g s.h w cs vs->ex P (Hd cs k) s K->
  ∃ds F,aF w ds vs F/\(∀b∈F,g.S b \/∃j,j≠i/\live s.h j/\Dz (g.val j)=some b)/\ex P (k ds) s K
 |[],vs,k,hc,h=>⟨[],[],by simp only[aF];exact⟨hc,trivial⟩,jF,h⟩
 | .dat d::cs,vs,k,hc,h=>by obtain⟨v,C,rfl,⟨J,h1,h2⟩,h3⟩:=hc;obtain⟨ds,F,h4,h6,h5⟩:=Gn I U h3 h;refine⟨d::ds,J++F,by simp only[aF];exact⟨v,C,J,F,rfl,rfl,h1,h4⟩,λb hb=> ?_,h5⟩;rcases qP.1 hb with hb|hb;(exact .inl (h2 b hb));·exact h6 b hb
 | .old B d u::cs,vs,k,hc,h=>by obtain⟨v,C,rfl,⟨J,h1,h2,_⟩,h3⟩:=hc;obtain⟨ds,F,h4,h6,h5⟩:=Gn I U h3 h;refine⟨d::ds,J++F,by simp only[aF];exact⟨v,C,J,F,rfl,rfl,h1,h4⟩,λb hb=> ?_,h5⟩;rcases qP.1 hb with hb|hb;(exact .inl (h2 b hb).1);·exact h6 b hb
 | .nil::cs,vs,k,hc,h=>by obtain⟨v,C,rfl,h1,h3⟩:=hc;obtain⟨ds,F,h4,h6,h5⟩:=Gn I U h3 h;refine⟨.sl []::ds,F,?_,h6,h5⟩;simp only[aF];refine⟨v,C,[],F,rfl,rfl,?_,h4⟩;simp only[Rep];exact⟨none,0,0,h1,rfl,qf _,.inl jF⟩
 | .row j ver::cs,vs,k,hc,h=>by
  obtain⟨v,C,rfl,⟨h0,h1,h2⟩,h3⟩:=hc
  simp only[Hd,ex]at h
  split at h
  ·rename_i e sz xs dp ho
   split at h
   ·rename_i hv
    have hval:=h2 hv e sz xs dp ho
    obtain⟨S',J,_,hS,hr,_,_,hF,_⟩:=I.take ho
    obtain⟨ds,F,h4,h6,h5⟩:=Gn I U h3 h
    have hlive:live s.h j:=by unfold live;rw[ho];simp
    refine⟨.sl xs::ds,J++F,by simp only[aF];exact⟨v,C,J,F,rfl,rfl,hval ▸ hr,h4⟩,λb hb=> ?_,h5⟩
    rcases qP.1 hb with hb|hb
    ·rcases hS b (hF b hb)with hx|hx;(exact .inl hx);·exact .inr ⟨j,⟨(λe=>by rw[e,U]at ho;cases ho),hlive,hx⟩⟩
    ·exact h6 b hb
   ·exact h.elim
  ·exact h.elim
 | .bp _ _ _::_,_,_,_,h=>h.elim
 | .rp _ _ _ _::_,_,_,_,h=>h.elim
 | .clo _ _::_,_,_,_,h=>h.elim
 | .part _ _ _ _::_,_,_,_,h=>h.elim
 | .exa _ _ _::_,_,_,_,h=>h.elim
theorem NM(R:lI P base w0 N g s a w pool){i:Nat}{tt:TypeId}{bc:List SC}(J:(s.h i).2=.box tt bc):∀{xs:List Operand} {k:List (Bool×List D)->Prog},ex P (QA xs k) s K->
  ∃as F,xP w (xs.map a.eval) as F/\(∀b∈F,g.S b \/∃j,j≠i/\live s.h j/\Dz (g.val j)=some b)/\ex P (k as) s K
 |[],k,h=>⟨[],[],rfl,jF,h⟩
 |x::xs,k,h=>by
  obtain⟨sv,h1,h2⟩:=cA R h
  cases sv with
  |v ag cs=>
   simp only at h2
   cases ag with
   |false=>
    obtain⟨ds,F,h3,C,h4⟩:=Gn R.inv J h1 h2
    obtain⟨as,U,h5,I,h6⟩:=NM R J h4
    refine⟨(false,ds)::as,_,⟨F,U,rfl,?_,h5⟩,λb hb=> ?_,h6⟩
    ·have hl:=h3.length
     match ds,h3,hl with
     |[d],h3,_=>
      simp only[aF]at h3
      obtain⟨v,vs',F1,F2,e1,rfl,h7,_,rfl⟩:=h3
      simp at e1
      rw[qX]
      exact⟨d,rfl,e1.1 ▸ h7⟩
    ·rcases qP.1 hb with hb|hb;(exact C b hb);·exact I b hb
   |true=>
    obtain⟨vs,hv,hc⟩:=h1
    obtain⟨ds,F,h3,C,h4⟩:=Gn R.inv J hc h2
    obtain⟨as,U,h5,I,h6⟩:=NM R J h4
    refine⟨(true,ds)::as,_,⟨F,U,rfl,⟨vs,hv,h3⟩,h5⟩,λb hb=> ?_,h6⟩
    rcases qP.1 hb with hb|hb
    ·exact C b hb
    ·exact I b hb
  |unk=>exact h2.elim
  |undef=>exact h2.elim
  |tup vs=>exact h2.elim
theorem Pn(I:Inv base g s.h w pool){i ver off:Nat}{v:Value}{k:List D->Prog}(hc:KT g s.h (i,ver,off) v)(h:ex P (IX i ver off k) s K):
  ∃ds F,Rep w (.ptr ds) v F/\(∀b∈F,¬GY g s.h b)/\ex P (k ds) s K:=by
 simp only[IX,ex]at h
 split at h
 ·rename_i t cells J
  split at h
  ·rename_i hv
   obtain⟨b,hval,U⟩:=hc.2 hv t cells J
   have C:=I.obj i
   rw[J]at C
   obtain⟨b',vals,k1,k2,k3,k4⟩:=C
   rw[hval]at k1
   simp at k1
   subst k1
   obtain⟨ds,F,h4,h6,h5⟩:=J4 I (k4.drop off) h
   have hlive:live s.h i:=by unfold live;rw[J];simp
   refine⟨ds,b::F,?_,λx hx=> ?_,h5⟩
   ·simp only[Rep];refine⟨b,off,vals.toList.drop off,F,U,(ql.1 k3).1,rfl,?_,h4⟩;intro j u hu;rw[List.getElem?_drop]at hu;simp[World.cell?,k3];simpa using hu
   ·rcases qp.1 hx with rfl|hx;(exact λhf=>hf.2 i hlive (by rw[hval];rfl));·exact h6 x hx
  ·exact h.elim
 ·exact h.elim
theorem NQ(I:Inv base g s.h w pool):∀{cs:List (Nat×Nat×Nat)} {vs:List Value} {k:List D->Prog},Dj g s.h cs vs->ex P (GC cs k) s K->∃ds F,aF w ds vs F/\(∀b∈F,¬GY g s.h b)/\ex P (k ds) s K
 |[],vs,k,hc,h=>⟨[],[],by simp only[aF];exact⟨hc,trivial⟩,jF,h⟩
 |(i,ver,U)::cs,vs,k,hc,h=>by obtain⟨v,J,rfl,h1,h3⟩:=hc;obtain⟨ds,F,h4,j,h5⟩:=Pn I h1 h;obtain⟨es,G,h6,C,h7⟩:=NQ I h3 h5;refine⟨.ptr ds::es,F++G,by simp only[aF];exact⟨v,J,F,G,rfl,rfl,h4,h6⟩,λb hb=> ?_,h7⟩;rcases qP.1 hb with hb|hb;(exact j b hb);·exact C b hb
theorem XT(I:Inv base g s.h w pool){c:SC}{v:Value}{k:List D->Prog}(hc:yT g s.h w c v)(h:ex P (Dy [c] k) s K)(hk:∀ds,ex P (k ds) s K->∃f cs,ds=[.fn f cs]):
  ∃d F,Rep w d v F/\(∀b∈F,¬GY g s.h b)/\ex P (k [d]) s K:=by
 cases c with
 |dat d=>
  obtain⟨F,h1,h2⟩:=hc
  exact⟨d,F,h1,λb hb C=>C.1 (h2 b hb),h⟩
 |clo f caps=>
  obtain⟨us,U,h1⟩:=hc
  obtain⟨ds,F,h4,h6,h5⟩:=NQ I h1 h
  exact⟨.fn f ds,F,by simp only[Rep];exact⟨us,U,h4⟩,h6,h5⟩
 |nil=>obtain⟨f,cs,e⟩:=hk _ h;cases e
 |row i ver=>
  simp only[Dy,ex]at h
  split at h
  ·split at h;(obtain⟨f,cs,e⟩:=hk _ h;cases e);·exact h.elim
  ·exact h.elim
 |bp i ver J=>
  obtain⟨ds,F,h4,h6,h5⟩:=Pn I hc.2 h
  obtain⟨f,cs,e⟩:=hk _ h5;cases e
 |rp i ver j J=>exact h.elim
 |old B d u=>
  obtain⟨F,h1,h2,_⟩:=hc
  exact⟨d,F,h1,λb hb C=>C.1 (h2 b hb).1,h⟩
 |part i ver lo n=>
  simp only[Dy,ex]at h
  split at h
  ·split at h;(obtain⟨f,cs,e⟩:=hk _ h;cases e);·exact h.elim
  ·exact h.elim
 |exa W d x=>
  obtain⟨rfl,F,h1,h2⟩:=hc
  exact⟨d,F,Rep.oR _ _ _ h1 λb hb=>(h2 b hb).2,λb hb C=>C.1 (h2 b hb).1,h⟩
theorem NU:∀{ds:List D} {vs:List Value} {F:List Nat},aF w ds vs F->ds.all D.flat=true->F=[]
 |[],vs,F,h,_=>by simp only[aF]at h;exact h.2
 |d::ds,vs,F,h,j=>by simp only[aF]at h;obtain⟨v,C,I,J,rfl,rfl,h3,h4⟩:=h;simp only[List.all_cons,qM]at j;rw[Ho h3 j.1,NU h4 j.2];rfl
theorem P2:∀{xs:List (List D)} {cells:List Value} {F:List Nat},aT w xs cells F->(∀x∈xs,x.all D.flat=true)->F=[]
 |[],cells,F,h,_=>by simp only[aT]at h;exact h.2
 |x::xs,cells,F,h,j=>by simp only[aT]at h;obtain⟨U,v2,I,J,rfl,rfl,h3,h4⟩:=h;rw[NU h3 (j x jF),P2 h4 λy C=>j y (by simp[C])];rfl
theorem Ps{L:TL}{X:Nat->Prop}{b:Nat}{vs:List Value}{r:RC}{C:List RC}{F:List Nat}{q:Ed}(j:r.ed=some q)(h:pQ L b w X vs (r::C) F):False:=by
 cases r with
 |edit I=>cases vs<;>exact h
 |any d=>simp[RC.ed]at j
 |ro d=>simp[RC.ed]at j
 |own e sz J=>simp[RC.ed]at j
theorem TW{L:TL}{X:Nat->Prop}{b:Nat}{v:Value}{ag:Bool}{r:RC}{C:List RC}{F:List Nat}{q:Ed}(j:r.ed=some q)(h:N2 L b w X v (ag,r::C) F):False:=by
 cases ag with
 |false=>exact Ps j h
 |true=>obtain⟨I,_,h⟩:=h;exact Ps j h
theorem Rj{L:TL}{X:Nat->Prop}{b:Nat}{v:Value}{C:List (Bool×List RC)}{F:List Nat}{q:Ed}(j:RS C=some q)(h:S9 L b w X v C F):False:=by
 match C,j,h with
 |[],j,_=>simp[RS]at j
 |(_,[])::_,j,_=>simp[RS]at j
 |[(I,r::l)],j,h=>exact TW j h
 |(I,r::l)::y::ys,j,h=>
  obtain⟨J,_,h⟩:=h
  match J.toList,h with
  |[],h=>exact h
  |u::us,h=>obtain⟨U,F2,_,h1,_⟩:=h;exact TW j h1
theorem aQ.at_{g:Gh}{h:Heap}{w:World}:∀{cs:List SC} {vs:List Value} {i:Nat} {c:SC},aQ g h w cs vs->cs[i]? =some c->∃v,vs[i]? =some v/\yT g h w c v
 |[],_,_,_,_,h=>by simp at h
 |c::cs,vs,0,I,h,j=>by obtain⟨v,C,rfl,h1,h2⟩:=h;simp at j;subst j;exact⟨v,rfl,h1⟩
 |c::cs,vs,i+1,I,h,j=>by obtain⟨v,C,rfl,h1,h2⟩:=h;obtain⟨u,J,U⟩:=aQ.at_ h2 (by simpa using j);exact⟨u,by simpa using J,U⟩
theorem Yz{f:FuncId}{xs:List Operand}{vs:Array Value}{avs:List (Bool×List D)}{q:Ed}{dst:Option Tmp}{Fa:List Nat}{R':Ending->World->Prop}(R:lI P base w0 N g s a w [])(hvs:vs=(xs.map a.eval).toArray)
  (k1:xP w vs.toList avs Fa){rs:List (Bool×List RC)}(hq:RS rs=some q)(k2:pH P f avs rs)(C:ex P (Bi N dst xs avs q) s K)
  (hnext:∀v w',(∃s',K s'/\Rel P base w0 N s' (a.put dst v) w')->R' (.returned v) w'):Calls P f vs w R':=by
 rcases k2 with k2|⟨q',hq',hb,hed⟩|⟨t1,es1,rs1,hr1,_⟩
 ·refine(k2.2 w vs Fa k1).mono λe w' hh=> ?_
  obtain⟨v,rfl,⟨F,X,_,_,_,hv⟩,_⟩:=hh
  exact(Rj hq hv).elim
 rotate_left
 ·rw[hr1]at hq;simp only[RS,RC.ed,qb]at hq;subst hq;unfold Bi at C;exact C.elim
 ·rw[hq']at hq
  simp only[RS,RC.ed,qb]at hq
  subst hq
  subst hvs
  have fin:∀{v':Value} {w':World} {g':Gh} {s':St} {sv:SV},lI P base w0 N g' s' a w' []->nN g' s'.h w' sv v'->ex P (put N dst sv) s' K->R' (.returned v') w':=by intro v' w' g' s' sv R2 hv hk;obtain⟨s2,m1,m2⟩:=DF R2 hv hk;exact hnext v' w' ⟨s2,m1,g',m2⟩
  cases q' with
  |del e sz=>
   rcases xs with _|⟨x1,_|⟨x2,_|⟨x3,_|⟨x4,r⟩⟩⟩⟩<;>simp only[Bi,ex]at C
   obtain⟨sv1,a1,J⟩:=cA R C
   obtain⟨sv2,a2,k5⟩:=cA R J
   clear C
   obtain⟨sv3,a3,C⟩:=cA R k5
   clear J k5
   split at C
   ·rename_i i ver x y
    simp only[ex]at C
    split at C
    ·rename_i e' sz' rs dp hh
     split at C
     ·rename_i hc
      obtain⟨hc1,hc2,hc3⟩:=hc
      subst hc2 hc3
      obtain⟨⟨hx0,hxy,hy⟩,C⟩:=C
      obtain⟨hone,hle,hcap⟩:=eK a1
      have hval:=hcap hc1 _ _ _ _ hh
      have U:=R.inv.obj i
      rw[hh]at U
      obtain⟨cells,p1,p2,p3,p4,p5⟩:=U
      obtain⟨I1,I⟩:=R.inv.FJ hh
      have T:kL g g s.h (nM s.h i ((s.h i).1,.none)) w w:=kL.drop i g.S λ_ x=>x
      rw[hc1]at I1 I T
      have R1:lI P base w0 N g (s.fK i (ver,.none)) a w (if dp then[]++g.fp i else[]):=R.turn T rfl R.below I1
      have hcall:=hed base w (g.val i) rs.length cells x.toNat y.toNat R.inv.base_le p1 jD hy p3.rep.one
      have ha:([x1,x2,x3].map a.eval).toArray= #[g.val i,.int .i64 (x.toNat:Int),.int .i64 (y.toNat:Int)]:=by
       have e2:a.eval x2=.int .i64 (x.toNat:Int):=by rw[lB a2,Int.toNat_of_nonneg hx0]
       have e3:a.eval x3=.int .i64 (y.toNat:Int):=by rw[lB a3,Int.toNat_of_nonneg jD]
       simp[hval,e2,e3]
      rw[ha]
      refine hcall.mono ?_
      rintro ed w' ⟨v',rfl,r2,r3,r4⟩
      obtain⟨c1,c2,c3,F1,F2,F3,hcs,hG,m1,m2,m3,m4,m5⟩:=PY (lo:=x.toNat) (n:=y.toNat-x.toNat) p3 p2 (.inr jD)
      rw[show x.toNat+(y.toNat-x.toNat)=y.toNat by omega]at m5
      have hl1:=m1 jD
      have e1:cells.take (x.toNat*sz')=c1:=by rw[hcs,<-hl1,List.take_left]
      have e2:cells.drop (y.toNat*sz')=c3:=by
       have:y.toNat*sz'=(c1++c2).length:=by rw[qE,hl1,m2,<-Nat.add_mul];congr 1;omega
       rw[hcs,<-qT,this,List.drop_left]
      rw[e1,e2]at r2
      have hlen:(rs.take x.toNat++rs.drop y.toNat).length=x.toNat+(rs.length-y.toNat):=by rw[qE,qU,qV,Nat.min_eq_left jD]
      obtain⟨g',z1,z2⟩:=Nk (j:=i) (dp:=dp) (zs:=rs.take x.toNat++rs.drop y.toNat) (F:=F1++F3) R1 p1 I (m3.append m5)
       (λb hb=>p4 b (by rw[hG];rcases qP.1 hb with hb|hb<;>simp[hb]))
       (λz hz=>by rcases qP.1 hz with hz|hz;(exact p2 z (qj hz));·exact p2 z (qv hz))
       (λhd=>by have hn:=(p5 hd).1;rw[hG]at hn;rw[hd];simp only[if_true,List.nil_append];refine⟨hn.sublist (List.Sublist.append (List.Sublist.refl _) (List.sublist_append_right _ _)),λz hz=> ?_⟩;rw[hG];rcases qP.1 hz with hz|hz<;>simp[hz]) (by rw[hlen];exact r2) r3 (r4.imp_right .inr)
      have hver:((s.fK i (ver,.none)).h i).1=ver:=by show(nM s.h i _ i).1=_;rw[bM]
      rw[hver,St.Ki]at z1 z2
      exact fin z1 z2 C
     ·exact C.elim
    ·exact C.elim
   ·exact C.elim
  |ins e sz bytes=>
   rcases xs with _|⟨x1,_|⟨x2,_|⟨x3,_|⟨x4,r⟩⟩⟩⟩<;>simp only[Bi,ex]at C
   obtain⟨sv1,a1,J⟩:=cA R C
   obtain⟨sv2,a2,k5⟩:=cA R J
   clear C
   obtain⟨sv3,a3,C⟩:=cA R k5
   clear J k5
   split at C
   ·rename_i i ver x j ver2
    simp only[ex]at C
    split at C
    ·rename_i e' sz' rs dp hh
     split at C
     ·rename_i hc
      obtain⟨hc1,hc2,hc3⟩:=hc
      subst hc2 hc3
      simp only[ex]at C
      split at C
      ·rename_i e2 sz2 ys dp2 hh2
       split at C
       ·rename_i hc'
        obtain⟨hd1,hd2,hd3⟩:=hc'
        subst hd2 hd3
        obtain⟨⟨hx0,hxl,hy0,hby⟩,C⟩:=C
        have hji:j≠i:=by rintro rfl;rw[RO,bM]at hh2;cases hh2
        rw[RO,dQ _ _ _ _ hji]at hh2 hd1
        obtain⟨hone,hle,hcap⟩:=eK a1
        have hval:=hcap hc1 _ _ _ _ hh
        obtain⟨hone2,hle2,hcap2⟩:=eK a3
        have hval2:=hcap2 hd1 _ _ _ _ hh2
        have U:=R.inv.obj i
        rw[hh]at U
        obtain⟨cells,p1,p2,p3,p4,p5⟩:=U
        have hob2:=R.inv.obj j
        rw[hh2]at hob2
        obtain⟨cells2,u1,u2,u3,u4,u5⟩:=hob2
        obtain⟨I1,I⟩:=R.inv.FJ hh
        have T:kL g g s.h (nM s.h i ((s.h i).1,.none)) w w:=kL.drop i g.S λ_ x=>x
        rw[hc1]at I1 I T
        have R1:lI P base w0 N g (s.fK i (ver,.none)) a w (if dp then[]++g.fp i else[]):=R.turn T rfl R.below I1
        have hh2':((s.fK i (ver,.none)).h j).2=.row e2 sz2 ys dp2:=by rw[RO,dQ _ _ _ _ hji];exact hh2
        have hd1':((s.fK i (ver,.none)).h j).1=ver2:=by rw[RO,dQ _ _ _ _ hji];exact hd1
        obtain⟨I2,hfr2⟩:=R1.inv.FJ hh2'
        have T2:kL g g (s.fK i (ver,.none)).h (nM (s.fK i (ver,.none)).h j (((s.fK i (ver,.none)).h j).1,.none)) w w:=kL.drop j g.S λ_ x=>x
        rw[hd1']at I2 hfr2 T2
        have R2:lI P base w0 N g ((s.fK i (ver,.none)).fK j (ver2,.none)) a w _:=R1.turn T2 rfl R1.below I2
        have hli:live s.h i:=by unfold live;rw[hh];simp
        have hlj:live s.h j:=by unfold live;rw[hh2];simp
        have hcall:=hed base w (g.val i) (g.val j) rs.length ys.length cells cells2 x.toNat R.inv.base_le p1 u1 (λb hb hb'=>R.inv.inj i j b (Ne.symm hji) hli hlj (by rw[rR p1];exact hb) (by rw[rR u1];exact hb')) hxl hy0 hby p3.rep.one u3.rep.one
        have ha:([x1,x2,x3].map a.eval).toArray= #[g.val i,.int .i64 (x.toNat:Int),g.val j]:=by
         have e2:a.eval x2=.int .i64 (x.toNat:Int):=by rw[lB a2,Int.toNat_of_nonneg hx0]
         simp[hval,e2,hval2]
        rw[ha]
        refine hcall.mono ?_
        rintro ed w' ⟨v',rfl,r2,r3,r4⟩
        have p3':dH g.Q.L dp w e2 (rs.take x.toNat++rs.drop x.toNat) cells (g.fp i):=by rw[qn];exact p3
        obtain⟨c1,c2,F1,F2,hcs,hG,m1,m2⟩:=dH.split p3'
        have hl1:c1.length=x.toNat*sz2:=by rw[aT.length m1.rep λz hz=>p2 z (qj hz),qU,Nat.min_eq_left hxl]
        have e1:cells.take (x.toNat*sz2)=c1:=by rw[hcs,<-hl1,List.take_left]
        have e2':cells.drop (x.toNat*sz2)=c2:=by rw[hcs,<-hl1,List.drop_left]
        rw[e1,e2']at r2
        have hlen:(rs.take x.toNat++(ys++rs.drop x.toNat)).length=rs.length+ys.length:=by simp only[qE,qU,qV];omega
        have hfr':∀b,Dz (g.val i)=some b->GY g ((s.fK i (ver,.none)).fK j (ver2,.none)).h b:=λb hb=>
         ⟨(I b hb).1,λl hl=>(I b hb).2 l (Bj hl).2⟩
        obtain⟨g',z1,z2⟩:=Nk (j:=i) (dp:=dp&&dp2) (zs:=rs.take x.toNat++(ys++rs.drop x.toNat)) (F:=F1++(g.fp j++F2)) R2 p1 hfr' (dH.append (m1.RT λhd=>(by simp at hd;exact hd.1)) (dH.append (u3.RT λhd=>(by simp at hd;exact hd.2)) (m2.RT λhd=>(by simp at hd;exact hd.1))))
         (λb hb=>by rcases qP.1 hb with hb|hb;(exact p4 b (by rw[hG];simp[hb]));·rcases qP.1 hb with hb|hb;(exact u4 b hb);·exact p4 b (by rw[hG];simp[hb]))
         (λz hz=>by rcases qP.1 hz with hz|hz;(exact p2 z (qj hz));·rcases qP.1 hz with hz|hz;(exact u2 z hz);·exact p2 z (qv hz))
         (λhd=>by simp only[qM]at hd;obtain⟨hd1,hd2⟩:=hd;have hpo:=I2.pool_own.1;rw[hd1,hd2]at hpo⊢;simp only[if_true,List.nil_append]at hpo⊢;rw[hG,qt]at hpo;obtain⟨b1,b2,b3⟩:=hpo;rw[qt]at b1;obtain⟨b4,b5,b6⟩:=b1;refine⟨?_,λz hz=> ?_⟩;(rw[qt];refine⟨b4,?_,?_⟩;(rw[qt];exact⟨b2,b5,by rintro z hz z' hz' rfl;exact b3 z (by simp[hz']) z hz rfl⟩);·rintro z hz z' hz' rfl;rcases qP.1 hz' with hz'|hz';(exact b3 z (by simp[hz]) z hz' rfl);·exact b6 z hz z hz' rfl);·rw[hG];rcases qP.1 hz with hz|hz;(simp[hz]);·rcases qP.1 hz with hz|hz<;>simp[hz]) (by rw[hlen];exact r2) r3 (r4.imp_right .inr)
        have hver:(((s.fK i (ver,.none)).fK j (ver2,.none)).h i).1=ver:=by show(nM (nM s.h i _) j _ i).1=_;rw[dQ _ _ _ _ (Ne.symm hji),bM]
        rw[hver]at z1 z2
        exact fin z1 z2 C
       ·exact C.elim
      ·exact C.elim
     ·exact C.elim
    ·exact C.elim
   ·exact C.elim
  |turn e sz ys=>
   rcases xs with _|⟨x1,_|⟨x2,_|⟨x4,r⟩⟩⟩<;>simp only[Bi,ex]at C
   obtain⟨sv1,a1,J⟩:=cA R C
   clear C
   obtain⟨sv2,a2,C⟩:=cA R J
   clear J
   split at C
   ·rename_i i ver c
    simp only[ex]at C
    split at C
    ·rename_i e' sz' rs dp hh
     split at C
     ·rename_i hc
      obtain⟨hc1,hc2,hc3⟩:=hc
      subst hc2 hc3
      obtain⟨hone,hle,hcap⟩:=eK a1
      have hval:=hcap hc1 _ _ _ _ hh
      have U:=R.inv.obj i
      rw[hh]at U
      obtain⟨cells,p1,p2,p3,p4,p5⟩:=U
      obtain⟨I1,I⟩:=R.inv.FJ hh
      have T:kL g g s.h (nM s.h i ((s.h i).1,.none)) w w:=kL.drop i g.S λ_ x=>x
      rw[hc1]at I1 I T
      have R1:lI P base w0 N g (s.fK i (ver,.none)) a w (if dp then[]++g.fp i else[]):=R.turn T rfl R.below I1
      obtain⟨xs0,gf,caps,hav,hfl,hys,hed⟩:=hed
      subst hav
      simp only[ex]at C
      obtain⟨d,F2,d1,d2,k5⟩:=XT R1.inv (yT.turn T (eK a2)) C (λds hk=>by have h1:=hk.1;simp only[List.cons.injEq,qa,D.sl.injEq,true_and,and_true]at h1;exact⟨gf,caps,h1.2.symm⟩)
      clear C
      obtain⟨hav,C⟩:=k5
      simp only[List.cons.injEq,qa,D.sl.injEq,true_and,and_true]at hav
      obtain⟨rfl,rfl⟩:=hav
      have hG:g.fp i=[]:=P2 p3.rep hfl
      have hcall:=hed base w (g.val i) (a.eval x2) cells F2 R.inv.base_le p1 p2 (by rw[<-hG];exact p3.rep) d1 (λb hb=>by have hf:=I b (by rw[rR p1];exact hb);exact λhb'=>d2 b hb' hf)
      have ha:([x1,x2].map a.eval).toArray= #[g.val i,a.eval x2]:=by simp[hval]
      rw[ha]
      refine hcall.mono ?_
      rintro ed w' ⟨v',cells',rfl,r2,r5,r3,r4⟩
      obtain⟨g',z1,z2⟩:=Nk (j:=i) (dp:=dp) (zs:=ys) (F:=[]) R1 p1 I (dH.flat (aT.oR _ _ _ r5 jF) hys.2) jF hys.1
       (λhd=>⟨List.nodup_nil,jF⟩) r2 r3 r4
      have hver:((s.fK i (ver,.none)).h i).1=ver:=by show(nM s.h i _ i).1=_;rw[bM]
      rw[hver,St.Ki]at z1 z2
      simp only[ex,St.Ki]at C
      exact fin z1 z2 C
     ·exact C.elim
    ·exact C.elim
   ·exact C.elim
  |pass=>
   rcases xs with _|⟨x1,_|⟨x2,_|⟨x3,r⟩⟩⟩<;>simp only[Bi,ex]at C
   obtain⟨sv,a2,J⟩:=cA R C
   clear C
   split at J
   ·rename_i ag cs
    have ha:([x1,x2].map a.eval).toArray= #[a.eval x1,a.eval x2]:=by simp
    rw[ha]
    refine(hed w (a.eval x1) (a.eval x2) Fa (by simpa using k1)).mono ?_
    rintro e w' ⟨rfl,hbl⟩
    have I':=R.inv.grow hbl.size hbl.block
    have T:kL g g s.h s.h w w':=kL.grow R.inv.S_lt hbl.block
    have R1:lI P base w0 N g s a w' []:=R.turn T rfl (R.bel (hbl.mono R.inv.base_le)) I'
    refine fin R1 (sv:=.tup [(ag,cs),(false,[.dat (.bool true)])]) ⟨#[a.eval x2,.bool true],rfl,a.eval x2,[.bool true],rfl,?_,.bool true,[],rfl,?_,rfl⟩ J
    ·exact Gf.turn T a2
    ·exact⟨.bool true,[],rfl,⟨[],by simp[Rep],jF⟩,rfl⟩
   ·exact J.elim
  |sel c k sz=>
   rcases xs with _|⟨x1,r⟩<;>simp only[Bi,ex]at C
   obtain⟨sv,a1,J⟩:=cA R C
   clear C
   split at J
   ·rename_i cs
    split at J
    ·rename_i i ver hcs
     simp only[ex]at J
     split at J
     ·rename_i e' sz' rs dp ho
      split at J
      ·rename_i hc
       split at J
       ·rename_i y hy
        obtain⟨vs1,hv1,hcells⟩:=a1
        obtain⟨u,hu,hrow⟩:=hcells.at_ hcs
        have hgv:u=g.val i:=hrow.2.2 hc.1 _ _ _ _ ho
        have hvl:((x1::r).map a.eval).toArray.toList=.agg vs1::r.map a.eval:=by simp[hv1]
        refine(hed w _ Fa (by rw[hvl];simpa[hv1]using k1)).mono ?_
        rintro e w' ⟨hbl,us,hus,rfl,cs',rest,b,o,n,cap,hvs',hcell,hlie⟩
        rw[hvl]at hvs'
        simp only[List.cons.injEq,Value.agg.injEq]at hvs'
        obtain⟨rfl,_⟩:=hvs'
        rw[hu]at hcell
        cases hcell
        have I':=R.inv.grow hbl.size hbl.block
        have T:kL g g s.h s.h w w':=kL.grow R.inv.S_lt hbl.block
        have R1:lI P base w0 N g s a w' []:=R.turn T rfl (R.bel (hbl.mono R.inv.base_le)) I'
        have hoff:o=0:=by have U:=R.inv.obj i;rw[ho]at U;obtain⟨cells,p1,p2,p3,p4,p5⟩:=U;rcases p1.2 with⟨q1,q2⟩|⟨b',c2,cur,q1,q2⟩;(rw[<-hgv]at q1;cases q1);·rw[<-hgv]at q1;cases q1;rfl
        subst hoff
        obtain⟨cells,cur,rfl,m1,m2,m3,m4,m5,m6,m7,m8,m9,aa,ae,af⟩:=Wa R.inv ho hgv.symm
        obtain⟨v1,v2,v3,F1,F2,F3,rfl,hF,hl1,hr1,hr2,hr3⟩:=aa.at_ m9 hy
        have hlen2:=hr2.length
        have hyl:y.length=sz':=m9 y (jB hy)
        have q1:=(m7.drop (k*sz')).take sz'
        rw[qo]at q1
        rw[show(v1++(v2++v3)).drop (k*sz')=v2++v3 by rw[<-hl1,List.drop_left],List.take_append_of_le_length jD,List.take_of_length_le jD]at q1
        rw[qo]at hlie
        have huv:us.toList=v2:=by
         apply List.ext_getElem?
         intro j
         rcases Nat.lt_or_ge j sz with hj|hj
         ·have j1:j<us.toList.length:=by simpa[hus]using hj
          have j2:j<v2.length:=by have:=hc.2;omega
          rw[qF j1,qF j2]
          have x1:=hlie j _ (qF j1)
          have x2:=q1 j _ (qF j2)
          rw[<-hc.2]at x1
          exact x1.symm.trans x2
         ·rw[qY (by simpa[hus]using hj),qY (by have:=hc.2;omega)]
        refine fin R1 (sv:=.tup [(true,y.map .dat),(false,[.dat (.bool true)])]) ⟨#[.agg us,.bool true],rfl,.agg us,[.bool true],rfl,?_,.bool true,[],rfl,?_,rfl⟩ J
        ·exact Gf.turn T ⟨us,rfl,by rw[huv];exact aQ.L9 hr2 λb hb=>ae b (by rw[hF];simp[hb])⟩
        ·exact⟨.bool true,[],rfl,⟨[],by simp[Rep],jF⟩,rfl⟩
       ·exact J.elim
      ·exact J.elim
     ·exact J.elim
    ·exact J.elim
   ·exact J.elim
  |lend t es=>exact hed.elim
  |newb t es=>
   cases dst with
   |none=>simp only[Bi,ex]at C
   |some d=>
    simp only[Bi]at C
    obtain⟨g2,s2,as2,F2,R2,_,q1,q2,q3⟩:=Je R C
    obtain⟨rfl,J⟩:=q3
    simp only[ex]at J
    refine(hed w _ F2 (by simpa using q1)).mono ?_
    rintro e w' ⟨hbl,b,vals,G,rfl,hbs,hw',hr,hbG,hG⟩
    have I':=R2.inv.grow hbl.size hbl.block
    have T:kL g2 g2 s2.h s2.h w w':=kL.grow R2.inv.S_lt hbl.block
    have R3:lI P base w0 N g2 s2 a w' []:=R2.turn T rfl (R2.bel (hbl.mono R2.inv.base_le)) I'
    have I:∀x,w.heap.size<=x->GY g2 s2.h x:=λx hx=>⟨λhS=>absurd (R2.inv.S_lt x hS) jD,λj hl hb'=>absurd (R2.inv.HN hl hb').2.lt jD⟩
    have I2:=I'.aAc (X:=λx=>x∈G) (λx hx=>⟨(hG x hx).1.elim (λy=>.inl (q2 x y)) (λy=>.inr (qg R2.inv.base_le y)),(hG x hx).2⟩) (λx hx hn=>(hG x hx).1.elim (λy=>absurd (q2 x y) hn) (λy=>I x y))
    have R3':lI P base w0 N { g2 with S:=λx=>g2.S x\/x∈G } s2 a w' []:=R3.turn (kL.aAc g2 s2.h w' λx=>x∈G) rfl R3.below I2
    have hfree:GY { g2 with S:=λx=>g2.S x\/x∈G } s2.h b:=⟨λhS=>hS.elim (I b hbs).1 hbG,(I b hbs).2⟩
    have I3:=R3'.inv.Rn (i:=d) (cells:=es.map .dat) (qg R2.inv.base_le hbs) hfree hw' (aQ.L9 hr λx hx=>.inr hx)
    have T3:=kL.create (g:={ g2 with S:=λx=>g2.S x\/x∈G }) (h:=s2.h) (w:=w') d (.pointer (some ⟨b,0,none⟩)) [] (.box t (es.map .dat))
    have R4:lI P base w0 N _ (s2.fK d ((s2.h d).1+1,.box t (es.map .dat))) a w' []:=R3'.turn T3 rfl R3'.below I3
    refine fin R4 (sv:=.v false [.bp d ((s2.h d).1+1) 0]) ⟨_,[],rfl,⟨rfl,?_,?_⟩,rfl⟩ J
    ·show _<=(nM s2.h d _ d).1;rw[bM];exact qf _
    ·intro _ t' cs' _;exact⟨b,fG _ _ _,rfl⟩
theorem Yv{f:FuncId}{xs:List Operand}{vs:Array Value}{avs:List (Bool×List D)}{t:TypeId}{es:List D}{dst:Option Tmp}{Fa:List Nat}{R':Ending->World->Prop}(R:lI P base w0 N g s a w [])(hvs:vs=(xs.map a.eval).toArray)
  (k1:xP w vs.toList avs Fa){rs:List (Bool×List RC)}(hq:RS rs=some (.lend t es))(k2:pH P f avs rs)(k3:ex P (Rz N dst t es rs.tail xs avs) s K)
  (hnext:∀v w',(∃s',K s'/\Rel P base w0 N s' (a.put dst v) w')->R' (.returned v) w'):Calls P f vs w R':=by
 rcases k2 with k2|⟨q',hq',hb,hed⟩|⟨t',U,rs',hr,hb,hL⟩
 ·refine(k2.2 w vs Fa k1).mono λe w' I=> ?_
  obtain⟨v,rfl,⟨F,X,_,_,_,hv⟩,_⟩:=I
  exact(Rj hq hv).elim
 ·rw[hq']at hq;simp only[RS,RC.ed,qb]at hq;subst hq;exact hed.elim
 subst hr hvs
 simp only[RS,RC.ed,qb,Ed.lend.injEq]at hq
 obtain⟨rfl,rfl⟩:=hq
 obtain⟨han,hesf,d0,ds,rest,rfl,hdsf,hlen,hcall⟩:=hL
 cases xs with
 |nil=>exact k3.elim
 |cons x1 bs=>
  simp only[Rz,List.tail]at k3
  obtain⟨sv1,a1,k4⟩:=cA R k3
  clear k3
  split at k4
  ·rename_i i ver
   simp only[ex]at k4
   split at k4
   ·rename_i t1 c0 cells I
    split at k4
    ·rename_i hc
     obtain⟨hc1,hc2⟩:=hc
     subst hc2
     obtain⟨hone,hle,hcap⟩:=eK a1
     obtain⟨b,hb1,hb2⟩:=hcap hc1 _ _ I
     have hob:=R.inv.obj i
     rw[I]at hob
     obtain⟨C,vals,h3,h4,h5,h6⟩:=hob
     have hbb:C=b:=by rw[hb1]at h3;simp at h3;exact h3.symm
     subst hbb
     have hlive:live s.h i:=by unfold live;rw[I];simp
     have hown:Dz (g.val i)=some C:=by rw[h3];rfl
     have hnS:=R.inv.mtb i C hlive hown
     obtain⟨v0,vs0,hvl,r0,r1⟩:=h6
     obtain⟨ds0,Fb,q1,q2,k5⟩:=Gn R.inv I (cs:=[c0]) (vs:=[v0]) ⟨v0,[],rfl,r0,rfl⟩ k4
     obtain⟨ds1,F1,q3,q4,k6⟩:=Gn R.inv I r1 k5
     obtain⟨hcells,k7⟩:=k6
     obtain⟨as,F,q5,q6,k8⟩:=NM R I k7
     obtain⟨hav,k9⟩:=k8
     have hl0:=q1.length
     match ds0,q1,hl0,hav with
     |[e0],q1,_,hav=>
      simp only[List.cons_append,List.nil_append,List.cons.injEq,qa,D.ptr.injEq,true_and,and_true]at hav
      obtain⟨⟨rfl,rfl⟩,rfl⟩:=hav
      simp only[aF]at q1
      obtain⟨v0',vs',F2,F3,e1,rfl,q7,_,rfl⟩:=q1
      simp at e1
      obtain⟨rfl,rfl⟩:=e1
      have hF1:F1=[]:=NU q3 hdsf
      subst hF1
      have apart:∀x,(g.S x \/∃j,j≠i/\live s.h j/\Dz (g.val j)=some x)->x≠C:=by rintro x (hx|⟨j,hj,hl,hx⟩) rfl;(exact hnS hx);·exact R.inv.inj j i x hj hl hlive hx hown
      have ha:((x1::bs).map a.eval).toArray=(.pointer (some ⟨C,0,none⟩)::bs.map a.eval).toArray:=by simp[hb2]
      rw[ha]
      refine(hcall w C vals v0 vs0 (bs.map a.eval) (F2++[]) F h5 hvl (by simpa using q7) q3 (λhx=>apart _ (q2 _ hx) rfl) q5 (λhx=>apart _ (q6 _ hx) rfl)).mono ?_
      rintro e w' ⟨v,us,rfl,hres,hgrow,hw',hus⟩
      refine hnext v w' ?_
      let w1:=w'.setRow C vals
      have hw1:w1.heap[C]? =some (.cells vals t1 (0,0)):=setRow_heap w' C _ vals t1 (0,0) hw'
      have hoth:∀k,k≠C->w'.heap[k]? =w1.heap[k]? :=λk hk=>(setRow_other w' C k _ hk).symm
      have hsz1:w1.heap.size=w'.heap.size:=setRow_size _ _ _
      have hb1':∀k,k<w.heap.size->w1.heap[k]? =w.heap[k]? :=λk hk=>by by_cases hkb:k=C;(rw[hkb,hw1,h5]);·rw[<-hoth k hkb];exact hgrow.block k hk (λe=>hkb (qc e))
      have hbel:Below w.heap.size w w1:=⟨hgrow.os,hgrow.tape,hgrow.output,by rw[hsz1];exact hgrow.size,hb1'⟩
      have I1:=R.inv.grow hbel.size hbel.block
      have T1:kL g g s.h s.h w w1:=kL.grow R.inv.S_lt hbel.block
      have R1:lI P base w0 N g s a w1 []:=R.turn T1 rfl (R.bel (hbel.mono R.inv.base_le)) I1
      have T2:kL g { g with fp:=Jp g.fp i (g.fp i) } s.h (nM s.h i ((s.h i).1,.box t1 (c0::U.map .dat))) w1 w':=
       kL.Ip hnS hoth (by intro e sz xs dp J;cases J) (by intro t0 cs0 J;cases J;exact⟨_,I⟩)
      have I2:=R1.inv.Ip (i:=i) (b:=C) (F:=g.fp i) (pool':=[]) (w':=w') hlive hown hsz1.symm hoth T2
       ⟨C,_,h3,h4,hw',v0,us,jF,(r0.turn T1).turn T2,aQ.L9 hus jF⟩ jF List.nodup_nil (by rintro⟨_,_,_,J⟩;cases J)
      have hbel2:Below w0.Q.fb w0.w w':=R.below.trans ⟨hgrow.os,hgrow.tape,hgrow.output,hgrow.size,λk hk=>hgrow.block k (qw hk (qg R.fbb R.inv.base_le)) (λe=>by have:=qc e;have:=R.q.2.1;omega)⟩
      rw[hc1]at T2 I2
      have R2:lI P base w0 N { g with fp:=Jp g.fp i (g.fp i) } (s.fK i (ver,.box t1 (c0::U.map .dat))) a w' []:=R1.turn T2 rfl hbel2 I2
      obtain⟨Fr,X,p1,_,_,p4⟩:=hres
      have hfr:∀x∈Fr,GY { g with fp:=Jp g.fp i (g.fp i) } (s.fK i (ver,.box t1 (c0::U.map .dat))).h x:=λx hx=>by
       have hge:=(p1.2 x hx).1
       refine⟨λhS=>absurd (R.inv.S_lt x hS) jD,λj hl hb'=> ?_⟩
       have hl':live s.h j:=by rcases HD hl with rfl|⟨_,hl⟩;(exact hlive);·exact hl
       exact absurd (R.inv.HN hl' hb').2.lt jD
      obtain⟨g',s',m1,m2⟩:=JE R.inv.base_le (s:=s.fK i (ver,.box t1 (c0::U.map .dat))) R2 p1 p4 hfr (λI=>by rw[han]at I;cases I) k9
      exact⟨s',m1,g',m2⟩
    ·exact k4.elim
   ·exact k4.elim
  ·exact k4.elim
theorem Uh{f:FuncId}{as:Array Operand}{ts:Array TypeId}(ho:o.op=.call { callee:=.value (.func f),args:=as,argTypes:=ts })(R:lI P base w0 N g s a w [])(h:ex P (AU (dJ P) N o) s K)
  (hQ:True):o.wp P a w (Aft P base w0 N K) Q:=by
 simp only[AU,ho]at h
 obtain⟨avs,Fa,k1,rs,k2,k3⟩:=Gl R h
 unfold Oper.wp
 have hrun:(execOp a.eval o).run P w=.ok (.enter f (as.map a.eval)) w:=by simp[execOp,ho,resolve,Act.eval,Deferred.ofValue,invoke,Dn k2.body]
 rw[hrun]
 unfold Oper.upon
 unfold M4 at k3
 dsimp only at k3
 split at k3
 ·rename_i han
  cases hq:RS rs with
  |some q=>
   rw[hq]at k3
   have hvs:as.map a.eval=(as.toList.map a.eval).toArray:=by apply Array.ext';simp
   by_cases hl:∃t es,q=.lend t es
   ·obtain⟨t,es,rfl⟩:=hl;exact Yv (vs:=as.map a.eval) R hvs (by simpa using k1) hq k2 k3 λv w' hh=>hh
   ·have k3':ex P (Bi N o.dst as.toList avs q) s K:=by
     cases q with
     |lend t es=>exact absurd ⟨t,es,rfl⟩ hl
     |_=>exact k3
    exact Yz (vs:=as.map a.eval) R hvs (by simpa using k1) hq k2 k3' λv w' hh=>hh
  |none=>
   rw[hq]at k3
   have k2':Qt P f avs rs:=by rcases k2 with k2|⟨q,rfl,_⟩|⟨t1,es1,rs1,rfl,_⟩;(exact k2);(simp[RS,RC.ed]at hq);·simp[RS,RC.ed]at hq
   obtain⟨g2,s2,as2,F2,R2,_,q1,q2,q3⟩:=Je R k3
   obtain⟨rfl,q4⟩:=q3
   exact PV R2 (by simpa using q1) (λ_=>q2) k2' q4 λv w' hh=>hh
 ·rename_i han;exact PV R (by simpa using k1) (λhh=>absurd hh han) (k2.old (by simpa using han)) k3 λv w' hh=>hh
