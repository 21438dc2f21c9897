/-
  Helper text. No conditions.
-/
import Derived.Test.YtjlnkcoeghonfaaGreatRunningPagesShC
import Derived.ProofKit
import Derived.OpenShut
import Derived.ShutString
import Derived.Deep.Slices
import Derived.Carry
set_option linter.all false
namespace Go.Sh
open Go.RowKit
theorem YB(args:List (Bool×List D))(i:Nat):(init args).t i=match args[i]? with|some (j,ds)=>.v j (ds.map .dat)|none=>.undef:=rfl
theorem Zb(args:List (Bool×List D))(i:Nat):(init args).h i=(0,.none):=rfl
def aDW(v:SV)(A B:Prop):Prop:=match v with
 | .v false [.dat (.bool b)]=>(b=true->A)/\(b=false->B)
 |_=>False
theorem UF(b:Bool)(A B:Prop):aDW (.v false [.dat (.bool b)]) A B=((b=true->A)/\(b=false->B)):=rfl
theorem bQ{n:Int}(h1: -9223372036854775808<=n)(h2:n<=9223372036854775807):IntKind.i64.wrap n=n:=by rw[IntKind.wrap_i64];omega
attribute [simp] Dx SM VD TC Oc Mr OY uX FG evG Dy vOp aDJ put ex exF cst one aft St.Nm St.XJ St.YJ St.O4 Em HQ JJ Hj Ej H7 Bv Gi Fm FL rows AS Kl lenOf OW OG MO Ea Fx HZ QR D.flat rid TI.agg YB Zb HF Gl Ri Lw Jx UF
open Go.ChangeShapes Go.WideShapes Go.Deep
inductive Shp where
 |int (k:IntKind)
 |bool
 |str
 |sl (es:List Shp)
def La(P:Program)(f:TypeId->Option (List Shp)):Nat->List Field->Option (List Shp)
 |_,[]=>some []
 |j,x::C=>if x.offset=j then(match f x.type,La P f (j+P.cellsOf x.type) C with
   |some a,some b=>if a.length=P.cellsOf x.type then some (a++b)else none
   |_,_=>none)else none
def YV(P:Program):Nat->TypeId->Option (List Shp)
 |0,_=>none
 |n+1,t=>match P.underlying t with
  |some (.int k)=>some [.int k]
  |some .bool=>some [.bool]
  |some .string=>some [.str]
  |some (.slice e)=>match YV P n e with
   |some es=>if es.length=P.cellsOf e/\0<es.length then some [.sl es]else none
   |none=>none
  |some (.struct j)=>match La P (YV P n) 0 j.toList with
   |some es=>if es.length=P.cellsOf t then some es else none
   |none=>none
  |_=>none
mutual
def Has:Shp->D->Prop
 | .int k,d=>∃n,d=.int k n/\(Lit.int k n).wf=true
 | .bool,d=>∃b,d=.bool b
 | .str,d=>∃s,d=.str s/\s.size<=maxLen
 | .sl es,d=>∃j,d=.sl j/\j.length<=maxLen/\∀x∈j,K5 es x
def K5:List Shp->List D->Prop
 |[],ds=>ds=[]
 |e::es,ds=>∃d j,ds=d::j/\Has e d/\K5 es j
end
theorem K5.append:∀{a b:List Shp} {x y:List D},K5 a x->K5 b y->K5 (a++b) (x++y)
 |[],b,x,y,h,k=>by simp only[K5]at h;subst h;exact k
 |e::a,b,x,y,h,k=>by simp only[K5]at h;obtain⟨d,j,rfl,h1,h2⟩:=h;simp only[jP,K5];exact⟨d,j++y,rfl,h1,K5.append h2 k⟩
theorem K5.length:∀{a:List Shp} {x:List D},K5 a x->x.length=a.length
 |[],x,h=>by simp only[K5]at h;subst h;rfl
 |e::a,x,h=>by simp only[K5]at h;obtain⟨d,j,rfl,h1,h2⟩:=h;simp[K5.length h2]
section
variable {H:Type}{enc:TypeId×Value->H}{P:Program}{w:World}{base:Nat}{spare:Nat->Bool}{held:Bool}
theorem Ei{w:World}{d:D}{v:Value}{F:List Nat}(h:Rep w d v F):aO w [d] [v] F:=by simp only[aO];exact⟨v,[],F,[],rfl,we,h,rfl,rfl⟩
theorem JZ{e:Shp}{d:D}(h:Has e d):K5 [e] [d]:=by simp only[K5];exact⟨d,[],rfl,h,rfl⟩
theorem QE{n m:Nat}(U:∀(t:TypeId) (j:List Shp) (cs:List Value) (x:DataW H×List MemPlace),YV P n t=some j->DataW.trod enc P w base spare held m t cs=some x->∃ds F,aO w ds cs F/\K5 j ds):
  ∀(C:List Field) (off:Nat) (j:List Shp) (cs:List Value),La P (YV P n) off C=some j->off+j.length=cs.length->
   (∀f∈C,∃x,DataW.trod enc P w base spare held m f.type ((cs.drop f.offset).take (P.cellsOf f.type))=some x)->∃ds F,aO w ds (cs.drop off) F/\K5 j ds
 |[],off,j,cs,h,I,_=>by simp[La]at h;subst h;refine⟨[],[],?_,by simp[K5]⟩;rw[List.drop_of_length_le (by simpa using Nat.le_of_eq I.symm)];simp[aO]
 |f::C,off,j,cs,h,I,J=>by
  simp only[La]at h
  split at h
  ·rename_i ho
   split at h
   ·rename_i a b ha hb
    split at h
    ·rename_i hlen
     cases h
     obtain⟨x,hx⟩:=J f we
     obtain⟨d1,F1,k1,k2⟩:=U _ _ _ _ ha hx
     obtain⟨d2,F2,k3,k4⟩:=QE U C _ b cs hb (by rw[qE,hlen]at I;omega) λy hy=>J y (by simp[hy])
     refine⟨d1++d2,F1++F2,?_,k2.append k4⟩
     have:cs.drop off=(cs.drop f.offset).take (P.cellsOf f.type)++cs.drop (off+P.cellsOf f.type):=by rw[ho,<-List.drop_drop,qo]
     rw[this]
     exact k1.append k3
    ·cases h
   ·cases h
  ·cases h
theorem XB{a:Addr}{v:Value}(h:w.cell? a=some v):a=⟨a.block,a.off,none⟩:=by
 obtain⟨b,o,s⟩:=a
 unfold World.cell? at h
 cases s with
 |none=>rfl
 |some s=>
  split at h
  ·simp at h
  ·cases h
theorem Ss{es:List Shp}{C:Nat}(hC:es.length=C){a:Addr}:∀(len:Nat),(∀i,i<len->∃I ds F,I.length=C/\(∀j,j<C->w.cell? (a.add (i*C+j))=I[j]?)/\aO w ds I F/\K5 es ds)->
  ∃U cells G,U.length=len/\(∀x∈U,K5 es x)/\bC w U cells G/\cells.length=len*C/\∀j,j<len*C->w.cell? (a.add j)=cells[j]?
 |0,_=>⟨[],[],[],rfl,we,by simp[bC],we,we⟩
 |len+1,h=>by
  obtain⟨U,cells,G,h1,h2,h3,h4,h5⟩:=Ss hC len λi hi=>h i wi
  obtain⟨I,ds,F,k1,k2,k3,k4⟩:=h len wi
  refine⟨U++[ds],cells++I,G++F,by simp[h1],?_,?_,by rw[qE,h4,k1,Nat.add_mul];omega,?_⟩
  ·intro x J;rcases qP.1 J with J|J;(exact h2 x J);·simp at J;subst J;exact k4
  ·refine h3.append ?_;simp only[bC];exact⟨I,[],F,[],we,we,k3,rfl,rfl⟩
  ·intro j hj;rw[Nat.add_mul,Nat.one_mul]at hj;by_cases hjl:j<len*C;(rw[h5 j hjl,qy wi]);·have:=k2 (j-len*C) wi;rw[show len*C+(j-len*C)=j from by omega]at this;rw[this,qz wi,h4]
theorem R5:∀(n:Nat) (m:Nat) (t:TypeId) (C:List Shp) (cs:List Value) (x:DataW H×List MemPlace),YV P n t=some C->DataW.trod enc P w base spare held m t cs=some x->∃ds F,aO w ds cs F/\K5 C ds
 |0,_,_,_,_,_,h,_=>by simp[YV]at h
 |n+1,m,t,C,cs,x,h,hx=>by
  simp only[YV]at h
  split at h
  ·rename_i k I;cases h;obtain⟨v,rfl,_,hw⟩:=DataW.trod_int I hx;exact⟨[.int k v],[],Ei wY,JZ (by simp[Has,hw])⟩
  ·rename_i I;cases h;obtain⟨v,rfl,_⟩:=DataW.trod_bool I hx;exact⟨[.bool v],[],Ei wY,JZ (by simp[Has])⟩
  ·rename_i I;cases h;obtain⟨v,rfl,_,hw⟩:=DataW.trod_string I hx;exact⟨[.str v],[],Ei wY,JZ (by simp[Has,hw])⟩
  ·rename_i e I
   split at h
   ·rename_i es U
    split at h
    ·rename_i hc
     cases h
     rcases open_slice I hx with⟨rfl,_⟩|⟨a,len,cap,mm,fu,Dd,Pl,rfl,h1,h2,h3,h4,_,h6⟩
     ·refine⟨[.sl []],[],?_,?_⟩;(refine Ei ?_;simp only[Rep];exact⟨none,0,0,rfl,rfl,qg _,.inl we⟩);·refine JZ ?_;simp only[Has];exact⟨[],rfl,we,we⟩
     ·have hle:len<=mm:=by rw[h4];split<;>omega
      obtain⟨xs,cells,G,k1,k2,k3,k4,k5⟩:=Ss (w:=w) hc.1 (a:=a) len λi hi=>by obtain⟨cs',q1,q2⟩:=h6 i wi;obtain⟨_,q3,q4⟩:=World.cells?_some q1;obtain⟨ds,F,q5,q6⟩:=R5 n fu e es cs' _ U q2;exact⟨cs',ds,F,q3,λj hj=>by rw[<-Go.Deep.add_add];exact q4 j hj,q5,q6⟩
      rcases Nat.eq_zero_or_pos len with h0|h0
      ·have hxs:xs=[]:=ql wi;subst hxs;refine⟨[.sl []],[],?_,?_⟩;(refine Ei ?_;simp only[Rep];exact⟨some a,len,cap,rfl,by simpa using h0,h2,.inl ⟨h0,trivial⟩⟩);·refine JZ ?_;simp only[Has];exact⟨[],rfl,we,we⟩
      ·have hpos:0<len*P.cellsOf e:=Nat.mul_pos h0 wi
       have J:=k5 0 hpos
       have hc0':cells[0]? =some (cells[0]'wi):=qF wi
       have hadd0:a.add 0=a:=by simp[Addr.add]
       rw[hadd0,hc0']at J
       have ha:=XB J
       refine⟨[.sl xs],a.block::G,?_,?_⟩
       ·refine Ei ?_
        simp only[Rep]
        refine⟨some a,len,cap,rfl,k1.symm,h2,.inr ⟨a.block,a.off,cells,P.cellsOf e,G,by rw[<-ha],World.block_lt_of_cell? w a J,rfl,?_,k4,?_,k3⟩⟩
        ·intro j u hu'
         have hj:j<len*P.cellsOf e:=by rw[<-k4];exact(qe.1 hu').1
         have:=k5 j hj
         rw[ha,Addr.add_lit]at this
         rw[this];exact hu'
        ·intro x hx';rw[(k2 x hx').length,hc.1]
       ·refine JZ ?_;simp only[Has];exact⟨xs,rfl,wi,k2⟩
    ·cases h
   ·cases h
  ·rename_i fs I
   split at h
   ·rename_i es U
    split at h
    ·rename_i hc
     cases h
     obtain⟨xs,mm,rfl,_,q1,q2,q3⟩:=DataW.trod_struct I hx
     have:=QE (m:=mm) (λt C cs x=>R5 n mm t C cs x) fs.toList 0 C cs U wi (λf hf=>by
      obtain⟨i,hi⟩:=List.getElem?_of_mem hf
      have hi':fs[i]? =some f:=by simpa using hi
      have hlt:i<xs.length:=by rw[q2];exact(qm.1 hi').1
      exact⟨xs[i],by rw[q3 i f hi',qF hlt]⟩)
     simpa using this
    ·cases h
   ·cases h
  ·cases h
theorem aCv{n:Nat}{t:TypeId}{C:List Shp}{v:Value}{d:DataW H}{p:List MemPlace}{b:Nat}(h:YV P n t=some C)(I:Value.okWide P w .any b t v)(J:DataW.Trod enc P w base spare held t v d p):
  ∃ds F,K5 C ds/\Vl w v (Na P t,ds) F:=by
 obtain⟨aH,hf⟩:=id J
 obtain⟨ds,F,h1,h2⟩:=R5 n aH t C _ _ h hf
 refine⟨ds,F,h2,?_⟩
 have one:v.cells.toList=[v]->∃d,ds=[d]/\Rep w d v F:=by
  intro hc
  rw[hc]at h1
  have hl:=h1.length
  match ds,h1,hl with
  |[d],h1,_=>
   simp only[aO]at h1
   obtain⟨u,us,F1,F2,e1,e2,e3,_,e5⟩:=h1
   simp at e1
   rw[e5,qY]at e2
   exact⟨d,rfl,e2 ▸ e1.1 ▸ e3⟩
 cases n with
 |zero=>simp[YV]at h
 |succ n=>
  simp only[YV]at h
  unfold Na
  split at h
  ·rename_i k j;obtain⟨x,rfl,_⟩:=open_int j I J;rw[j];exact one rfl
  ·rename_i j;obtain⟨x,rfl,_⟩:=open_bool j I J;rw[j];exact one rfl
  ·rename_i j;obtain⟨x,rfl,_⟩:=Go.ChangeMaps.open_string j I J;rw[j];exact one rfl
  ·rename_i e j;obtain⟨x,y,z,rfl⟩:=okWide_slice j I;rw[j];exact one rfl
  ·rename_i fs j;obtain⟨U,rfl,_⟩:=okWide_struct j I;rw[j];exact⟨U,rfl,h1⟩
  ·cases h
theorem WN{f:Func}{s:ChangeSpec}{apart fresh handsOn again:Bool}{W J:World}{args:Array Value}{v:Value}{ds gs:List (DataW H)}{before pa pv:List MemPlace}
  (hW:DataW.Whole enc P f.params.toList s.vars apart W args.toList ds gs before)
  (hres:∀(b:Nat) (sp:Nat->Bool) (hd:Bool),DataW.TrodAll enc P J b sp hd f.resultTypes.toList (v.resultList f.resultTypes.size) (s.fn H (ds++gs)).results [])
  (hargs:∀sp:Nat->Bool,(∀p∈before,sp p.block=true)->DataW.TrodAll enc P J 0 sp true f.params.toList args.toList (s.fn H (ds++gs)).args pa)
  (hvars:∀sp:Nat->Bool,(∀p∈before,sp p.block=true)->DataW.TrodVars enc P J sp s.vars (s.fn H (ds++gs)).vars pv)
  (I:before=pa++pv)(hb:Below W.heap.size W J)
  (hok:∀(j:Nat) (t:TypeId) (r:Value),f.resultTypes[j]? =some t->(v.resultList f.resultTypes.size)[j]? =some r->Value.okWide P J .any 0 t r):
  s.post enc P f apart fresh handsOn again W args v J:=by
 have hlt:∀p∈before,p.block<W.heap.size:=λp C=>hW.lt p C
 have hold:∀p∈before,(λb=>decide (b<W.heap.size)) p.block=true:=λp C=>by simpa using hlt p C
 refine⟨ds,gs,before,[],pa,pv,hW,hres _ _ _,hargs _ hold,hvars _ hold,World.keptBut_mono (λp C=>⟨C,?_⟩) (hb.frame (· ∈before)),λ_=> ?_⟩
 ·rw[I,qP]at C;exact Or.inr C
 ·obtain⟨_,_,_,_,_,hz,hn⟩:=hW
  refine⟨hok,_,_,([]++pa)++pv,⟨[]++pa,pv,trodAll_append (hargs _ (λ_ _=>rfl)) (hres _ _ _),hvars _ (λ_ _=>rfl),rfl,?_,?_⟩,?_⟩
  ·intro b off C
   have U:MemPlace.cell b off∈before:=by rw[I];simpa using C
   rw[hb.frozen (hlt _ U)]
   exact hz b off U
  ·intro ha;have:=hn ha;rw[I]at this;simpa using this
  ·intro p C _;rw[I];simpa using C
theorem L1(hl:laidOutB P=true){W W':World}(hb:Below W.heap.size W W'){sp:Nat->Bool}:∀{ts:List TypeId} {vs:List Value} {ds:List (DataW H)} {C:List MemPlace},DataW.TrodAll enc P W 0 (λ_=>true) true ts vs ds C->
  (∀t∈ts,P.readableRec t=true/\t<P.types.size)->(∀x∈C,x.block<W.heap.size)->(∀x∈C,sp x.block=true)->DataW.TrodAll enc P W' 0 sp true ts vs ds C
 |[],vs,ds,C,h,_,_,_=>by obtain⟨rfl,rfl,rfl⟩:=trodAll_nil h;rfl
 |t::ts,vs,ds,C,h,U,I,J=>by obtain⟨v,vs',d,ds',p,q,rfl,rfl,rfl,h1,h2⟩:=trodAll_cons h;refine⟨p,q,?_,?_,rfl⟩;(exact WideElems.Trod_stays hl (U t we).1 (U t we).2 h1 (λx j=>hb.same (I x (by simp[j]))) (λx j=>J x (by simp[j])));·exact L1 hl hb h2 (λu hu=>U u (by simp[hu])) (λx j=>I x (by simp[j])) (λx j=>J x (by simp[j]))
def aCs(P:Program)(n:Nat):List TypeId->List (List Shp)->Prop
 |[],j=>j=[]
 |t::ts,j=>∃s C,j=s::C/\YV P n t=some s/\aCs P n ts C
def Yp:List (List Shp)->List (List D)->Prop
 |[],ds=>ds=[]
 |s::C,ds=>∃d j,ds=d::j/\K5 s d/\Yp C j
def Yc(P:Program):List TypeId->List (List D)->List (Bool×List D)
 |t::ts,d::ds=>(Na P t,d)::Yc P ts ds
 |_,_=>[]
theorem VH{n:Nat}{W:World}{b:Nat}:∀{ts:List TypeId} {vs:List Value} {ds:List (DataW H)} {ps:List MemPlace} {I:List (List Shp)},aCs P n ts I->DataW.TrodAll enc P W 0 (λ_=>true) true ts vs ds ps->
  (∀(j:Nat) t v,ts[j]? =some t->vs[j]? =some v->Value.okWide P W .any b t v)->∃C F,Yp I C/\BF W vs (Yc P ts C) F
 |[],vs,ds,ps,I,J,h,hv=>by obtain⟨rfl,rfl,rfl⟩:=trodAll_nil h;have:I=[]:=J;subst this;exact⟨[],[],rfl,rfl⟩
 |t::ts,vs,ds,ps,I,J,h,hv=>by
  obtain⟨s,ss,rfl,U,hs2⟩:=J
  obtain⟨v,vs',d,ds',p,q,rfl,rfl,rfl,h1,h2⟩:=trodAll_cons h
  obtain⟨d1,F1,k1,k2⟩:=aCv U (hv 0 t v rfl rfl) h1
  obtain⟨C,F2,k3,k4⟩:=VH hs2 h2 λj t' v' ht hv'=>hv (j+1) t' v' (by simpa using ht) (by simpa using hv')
  exact⟨d1::C,F1++F2,⟨d1,C,rfl,k1,k3⟩,F1,F2,rfl,k2,k4⟩
theorem Zv{f:FuncId}{fn:Func}{s:ChangeSpec}{n tb:Nat}{shs:List (List Shp)}(hl:laidOutB P=true)(hvars:s.vars=[])(hres:fn.resultTypes= #[tb])(htb:P.underlying tb=some .bool)(hsh:aCs P n fn.params.toList shs)
  (hread:∀t∈fn.params.toList,P.readableRec t=true/\t<P.types.size)
  (hfn:∀(ds:List (DataW H)),ds.length=fn.params.toList.length->s.fn H (ds++[])={ results:=[.lit (.bool true)],args:=ds })
  (hc:∀dss,Yp shs dss->kU P f (Yc P fn.params.toList dss) [(false,[.ro (.bool true)])])
  {W:World}{b:Nat}{args:Array Value}{ds gs:List (DataW H)}{before:List MemPlace}(hval:∀(j:Nat) t v,fn.params[j]? =some t->args[j]? =some v->Value.okWide P W .any b t v)
  (hW:DataW.Whole enc P fn.params.toList s.vars false W args.toList ds gs before):
  Calls P f args W λe W'=>∃v,e=.returned v/\s.post enc P fn false true false false W args v W':=by
 have hW':=hW
 obtain⟨p,q,hA,hV,rfl,hfz,hnd⟩:=hW
 rw[hvars]at hV
 obtain⟨rfl,rfl⟩:=trodVars_none hV
 obtain⟨dss,Fa,k1,k2⟩:=VH hsh hA λj t v ht hv=>hval j t v (by simpa using ht) (by simpa using hv)
 refine(((hc dss k1).old rfl).2 W args Fa k2).mono λe W' hh=> ?_
 obtain⟨v,rfl,⟨F,X,_,_,_,hr⟩,hb⟩:=hh
 have hv:v=.bool true:=by have h1:Rep W' (.bool true) v []:=hr.1;simp only[Rep]at h1;exact h1.1
 subst hv
 have hdl:ds.length=fn.params.toList.length:=by
  have:∀{ts:List TypeId} {vs:List Value} {ds:List (DataW H)} {ps:List MemPlace},DataW.TrodAll enc P W 0 (λ_=>true) true ts vs ds ps->ds.length=ts.length:=by
   intro ts
   induction ts with
   |nil=>intro vs ds ps h;obtain⟨_,rfl,_⟩:=trodAll_nil h;rfl
   |cons t ts ih=>intro vs ds ps h;obtain⟨v,vs',d,ds',p,q,rfl,rfl,rfl,h1,h2⟩:=trodAll_cons h;simp[ih h2]
  exact this hA
 have hfn':=hfn ds hdl
 refine⟨_,rfl,WN (pa:=p) (pv:=[]) hW' ?_ ?_ ?_ we hb (ok_one hres rfl (okWide_bool_mk htb _))⟩
 ·intro b sp hd;rw[hfn',hres];exact trodAll_cons_mk (shut_bool htb _) trodAll_mk0
 ·intro sp hsp;rw[hfn'];exact L1 hl hb hA hread (λx hx=>hW'.lt x (by simpa using hx)) (λx hx=>hsp x (by simpa using hx))
 ·intro sp hsp;rw[hfn',hvars];rfl
end
end Go.Sh
namespace Go.Sh
open Go.RowKit
def Is(s t:St):Prop:=t=s
theorem Is.mk(t:St):Is t t:=rfl
theorem Hw{P:Program}{T:Sa}{N:Nat}{ops:Array Oper}:∀(l:List Oper) {s:St} {K K':St->Prop},(∀s,K s->K' s)->uX P T N ops l s K->uX P T N ops l s K'
 |[],_,_,_,h,j=>h _ j
 |o::l,s,_,_,h,j=>JP (evG T N ops o) (λI C=>Hw l h C) j
theorem Ie{P:Program}:∀(p:Prog) {s:St} {R W:List Loc} {K K':St->List Loc->List Loc->Prop},(∀s R W,K s R W->K' s R W)->exF P p s R W K->exF P p s R W K'
 | .done,_,_,_,_,_,h,j=>h _ _ _ j
 | .fail,_,_,_,_,_,_,j=>j
 | .getT t k,s,_,_,_,_,h,j=>Ie (k (s.t t)) h j
 | .IV t v k,s,_,_,_,_,h,j=>Ie k h j
 | .getH i k,s,_,_,_,_,h,j=>Ie (k (s.h i)) h j
 | .fQ i x k,s,_,_,_,_,h,j=>Ie k h j
 | .call f args k,s,_,_,_,_,h,⟨C,hc,j⟩=>⟨C,hc,Ie (k C) h j⟩
 | .must p k,s,_,_,_,_,h,⟨I,j⟩=>⟨I,Ie k h j⟩
theorem PF{P:Program}{T:Sa}{N:Nat}{ops:Array Oper}:∀(l:List Oper) {s:St} {j:List Fp} {K K':St->List Fp->Prop},(∀s a,K s a->K' s a)->FG P T N ops l s j K->FG P T N ops l s j K'
 |[],_,_,_,_,h,C=>h _ _ C
 |o::l,s,_,_,_,h,C=>Ie (evG T N ops o) (λJ R W I=>PF l h I) C
section
variable {P:Program}{base N:Nat}{w0:W0}{Z:St->Prop}{k:List Fr}{s s':St}
theorem Bk{id:Nat}{ops:Array Oper}(h:uX P (fS P) N ops ops.toList s (Is s'))(hk:aft P base w0 N Z k .normal s'):SW P base w0 N (.region id ops false) s (aft P base w0 N Z k):=
 O6 (Hw ops.toList (λt j=>by rw[show t=s' from j];exact hk) h)
def PR(ops:Array Oper)(j:List Fp):Prop:=KS ops j=true
theorem PR.mk{ops:Array Oper}{j:List Fp}(h:KS ops j=true):PR ops j:=h
theorem D8(I:P.follows .mixedOrders=true){id:Nat}{ops:Array Oper}(h:FG P (fS P) N ops ops.toList s [] λt j=>PR ops j/\Is s' t)(hk:aft P base w0 N Z k .normal s'):SW P base w0 N (.region id ops true) s (aft P base w0 N Z k):=
 X9 I (PF ops.toList (λt j C=>⟨C.1,by rw[show t=s' from C.2];exact hk⟩) h)
theorem GI{id:Nat}(h:aft P base w0 N Z k .normal s):aft P base w0 N Z (.block id::k) (.exit id) s:=by simp only[aft,jH];exact h
theorem aFZ{id j:Nat}(C:j≠id)(h:aft P base w0 N Z k (.exit j) s):aft P base w0 N Z (.block id::k) (.exit j) s:=by simp only[aft,C,jG];exact h
theorem Da{c:Code}{id:Nat}(h:aft P base w0 N Z k (.exit id) s):aft P base w0 N Z (.code c::k) (.exit id) s:=h
theorem cZ{J:St->Prop}(h:J s):aft P base w0 N Z (.inv J::k) .normal s:=h
theorem CW{J:St->Prop}{id:Nat}(h:aft P base w0 N Z k (.exit id) s):aft P base w0 N Z (.inv J::k) (.exit id) s:=h
theorem BA{t:Nat}{x y:Code}(hb:s.t t=.v false [.dat (.bool true)])(h:SW P base w0 N x s (aft P base w0 N Z k)):SW P base w0 N (.cond (.tmp t) x y) s (aft P base w0 N Z k):=
 Ui hb (λ_=>h) (λe=>by cases e)
theorem Co{t:Nat}{x y:Code}(hb:s.t t=.v false [.dat (.bool false)])(h:SW P base w0 N y s (aft P base w0 N Z k)):SW P base w0 N (.cond (.tmp t) x y) s (aft P base w0 N Z k):=
 Ui hb (λe=>by cases e) (λ_=>h)
theorem cY{c:Code}{Q:Exit->St->Prop}{J:St->Prop}(j:J s)(h:∀s,J s->SW P base w0 N c s Q):SW P base w0 N c s Q:=h s j
end
def aH:Nat:=18446744073709551616
theorem dX(b:Bool):b=true\/b=false:=by cases b<;>simp
theorem Dz(b:Bool):b=false\/b=true:=by cases b<;>simp
theorem bN{α:Type}{b:Bool}{x y z:α}(hb:b=true)(h:(if b=true then x else y)=z):x=z:=by rw[jE hb]at h;exact h
theorem bM{α:Type}{b:Bool}{x y z:α}(hb:b=false)(h:(if b=true then x else y)=z):y=z:=by rw[hb]at h;simpa using h
theorem aA{α β:Type}{o:Option α}{f:α->Option β}{r:β}(h:o.bind f=some r):∃x,o=some x/\f x=some r:=by
 cases o with
 |none=>cases h
 |some x=>exact⟨x,rfl,h⟩
def idx{α:Type}(xs:List α)(i:Int):Option α:=if 0<=i then xs[i.toNat]? else none
theorem nJ{α:Type}{xs:List α}{i:Int}{x:α}(h:idx xs i=some x):0<=i/\xs[i.toNat]? =some x/\i.toNat<xs.length:=by unfold idx at h;split at h;(rename_i j;exact⟨j,h,(qe.1 h).1⟩);·cases h
def aA0(s:ByteArray)(i:Int):Option UInt8:=if 0<=i then s[i.toNat]? else none
theorem Xv{s:ByteArray}{i:Int}{x:UInt8}(h:aA0 s i=some x):0<=i/\s[i.toNat]? =some x:=by unfold aA0 at h;split at h;(rename_i j;exact⟨j,h⟩);·cases h
def app{α:Type}(b:Nat)(xs ys:List α):Option (List α):=if(xs.length+ys.length)*b<=140737488355328 then some (xs++ys)else none
theorem fP{α:Type}{b:Nat}{xs ys zs:List α}(h:app b xs ys=some zs):(xs.length+ys.length)*b<=140737488355328:=by unfold app at h;split at h;(assumption);·cases h
def aEG{α:Type}(b:Nat)(ys:List α):Option (List α):=if ys.length*b<=140737488355328 then some ys else none
theorem gM{α:Type}{b:Nat}{ys zs:List α}(h:aEG b ys=some zs):ys.length*b<=140737488355328:=by unfold aEG at h;split at h;(assumption);·cases h
def mkL{α:Type}(b:Nat)(n:Int)(z:α):Option (List α):=if 0<=n/\n.toNat*b<=140737488355328/\n<=9223372036854775807 then some (List.replicate n.toNat z)else none
theorem aAv{α:Type}{b:Nat}{n:Int}{z:α}{x:List α}(h:mkL b n z=some x):0<=n/\n.toNat*b<=140737488355328/\n<=9223372036854775807:=by unfold mkL at h;split at h;(assumption);·cases h
def cat(x y:ByteArray):Option ByteArray:=if x.size+y.size<=9223372036854775807 then some (x++y)else none
theorem ZY{x y z:ByteArray}(h:cat x y=some z):x.size+y.size<=9223372036854775807:=by unfold cat at h;split at h;(assumption);·cases h
def enI(n:Int):List D:=[.int .i64 n]
def enB(n:Int):List D:=[.int .u8 n]
def enS(s:ByteArray):List D:=[.str s]
def enT(b:Bool):List D:=[.bool b]
def enL{α:Type}(f:α->List D)(xs:List α):List D:=[.sl (xs.map f)]
def bJ(s:ByteArray):List Int:=s.data.toList.map λb=>(b.toNat:Int)
theorem Zr(s:ByteArray):FK s.data.toList=(bJ s).map enB:=by unfold FK bJ enB;rw[List.map_map];rfl
def bS(l:List Int):ByteArray:=⟨(l.map λn=>UInt8.ofNat n.toNat).toArray⟩
def toStr(l:List Int):Option ByteArray:=if l.all (λn=>decide (0<=n/\n<256))=true then some (bS l)else none
theorem Lc(l:List Int):strOf (l.map enB)=bS l:=by unfold strOf bS enB;rw[List.map_map];rfl
theorem Mu{l:List Int}{z:ByteArray}(h:toStr l=some z):∀x∈l.map enB,∃b:UInt8,x=[.int .u8 (b.toNat:Int)]:=by
 unfold toStr at h
 split at h
 ·rename_i j
  intro x I
  obtain⟨n,C,rfl⟩:=qx.1 I
  have:=qR.1 j n C
  simp only[qL]at this
  refine⟨UInt8.ofNat n.toNat,?_⟩
  unfold enB
  have h1:(UInt8.ofNat n.toNat).toNat=n.toNat:=by simp;omega
  rw[h1,jS this.1]
 ·cases h
def Cn{α:Type}(xs:List α)(i:Int):Option (List α):=if 0<=i/\i.toNat<=xs.length then some (xs.drop i.toNat)else none
def CK{α:Type}(xs:List α)(j:Int):Option (List α):=if 0<=j/\j.toNat<=xs.length then some (xs.take j.toNat)else none
def SU{α:Type}(xs:List α)(i j:Int):Option (List α):=if 0<=i/\i<=j/\j.toNat<=xs.length then some ((xs.take j.toNat).drop i.toNat)else none
theorem Qv{α:Type}{xs z:List α}{i:Int}{f:α->List D}{n:Nat}(C:∀x,(f x).length=n)(h:Cn xs i=some z):0<=i/\i.toNat<=xs.length/\∀x∈xs.map f,x.length=n:=by unfold Cn at h;split at h;(rename_i j;refine⟨j.1,j.2,λx I=> ?_⟩;obtain⟨y,_,rfl⟩:=qx.1 I;exact C y);·cases h
theorem Qm{α:Type}{xs z:List α}{i:Int}{f:α->List D}{n:Nat}(C:∀x,(f x).length=n)(h:CK xs i=some z):0<=i/\i.toNat<=xs.length/\∀x∈xs.map f,x.length=n:=by unfold CK at h;split at h;(rename_i j;refine⟨j.1,j.2,λx I=> ?_⟩;obtain⟨y,_,rfl⟩:=qx.1 I;exact C y);·cases h
theorem Mp{α:Type}{xs z:List α}{i j:Int}{f:α->List D}{n:Nat}(I:∀x,(f x).length=n)(h:SU xs i j=some z):0<=i/\i<=j/\j.toNat<=xs.length/\∀x∈xs.map f,x.length=n:=by unfold SU at h;split at h;(rename_i C;refine⟨C.1,C.2.1,C.2.2,λx J=> ?_⟩;obtain⟨y,_,rfl⟩:=qx.1 J;exact I y);·cases h
theorem I9{α:Type}{f:α->List D}(j:∀x,(f x).all D.flat=true)(xs:List α):(xs.map f).all (λy=>y.all D.flat)=true:=by rw[qR];intro y C;obtain⟨x,_,rfl⟩:=qx.1 C;exact j x
theorem enI.fl(l:List Int):(List.map enI l).all (λy=>y.all D.flat)=true:=I9 (λ_=>rfl) l
theorem enB.fl(l:List Int):(List.map enB l).all (λy=>y.all D.flat)=true:=I9 (λ_=>rfl) l
theorem enS.fl(l:List ByteArray):(List.map enS l).all (λy=>y.all D.flat)=true:=I9 (λ_=>rfl) l
theorem enT.fl(l:List Bool):(List.map enT l).all (λy=>y.all D.flat)=true:=I9 (λ_=>rfl) l
theorem Rf {P : Program} {f : FuncId} {fn : Func} {c : Code} {args : List (Bool × List D)} {rs : List (Bool × List RC)} {N : Nat} {vars : List ResultVar} (hf : P.funcs[f]? = some fn) (hb : fn.body = some c) (hN : fn.ntmps = N) (hv : fn.results.toList = vars) (hnm : (fn.name == "runtime.NumGoroutine") = false) (hn : args.length <= N)
  (h : ∀(base:Nat) (w0:W0),SW P base w0 N c (init args) (aft P base w0 N (Ret (fS P) vars rs) [])):kU P f args rs:=by
 subst hN hv
 exact Zc hf hb hnm hn h
end Go.Sh
namespace Go.Sh
theorem UO(N d:Nat)(a b:Bool×List RC)(j:List (Bool×List RC)):Fm N (some d) (a::b::j)=Gi d 0 (a::b::j) λC=>put N (some d) (.tup C):=rfl
theorem Uo(N d:Nat):Fm N (some d) []=Gi d 0 [] λj=>put N (some d) (.tup j):=rfl
theorem Vd(sz k:Nat)(xs:List (List D)):(NU sz 0 k xs).drop k=xs.drop k:=by unfold NU;rw[List.take_zero,jO,qp];exact List.drop_left' we
theorem ZC(sz k:Nat)(xs:List (List D)):(NU sz 0 k xs).length-k=xs.length-k:=by unfold NU;simp
theorem aAD{α:Type}(xs:List α)(k:Nat):(xs.drop k).take (xs.length-k)=xs.drop k:=je we
theorem SR{sz:Nat}{i:Int}{xs:List (List D)}(h:0<=i):0<=i/\i.toNat<=(NU sz 0 i.toNat xs).length:=⟨h,by unfold NU;simp⟩
theorem Zz{α:Type}(a:α)(as j:List α):List.append (a::as) j=a::List.append as j:=rfl
theorem aBE{α:Type}(j:List α):List.append [] j=j:=rfl
theorem aCD(xs:List (List D)):D.flat (.sl xs)=false:=rfl
theorem aAQ(xs:List D):D.flat (.ptr xs)=false:=rfl
theorem ZH(u:Value):D.flat (.val u)=false:=rfl
def Ez9:=PLift.up (qI @uX.eq_1 (qI @uX.eq_2 (qI @FG.eq_1 (qI @FG.eq_2 (qI @evG.eq_1 (qI @Dy.eq_1 (qI @vOp.eq_1 (qI @vOp.eq_2 (qI @vOp.eq_3 (qI @vOp.eq_4 (qI @aDJ.eq_1 (qI @aDJ.eq_2 (qI @put.eq_1 (qI @put.eq_2 (qI @ex.eq_1 (qI @ex.eq_2 (qI @ex.eq_3 (qI @ex.eq_4 (qI @ex.eq_5 (qI @ex.eq_6 (qI @ex.eq_7 (qI @ex.eq_8 (qI @exF.eq_1 (qI @exF.eq_2 (qI @exF.eq_3 (qI @exF.eq_4 (qI @exF.eq_5 (qI @exF.eq_6 (qI @exF.eq_7 (qI @exF.eq_8 (qI @cst.eq_1 (qI @cst.eq_2 (qI @cst.eq_3 (qI @cst.eq_4 (qI @one.eq_1 (qI @Em.eq_1 (qI @Em.eq_2 (qI @Em.eq_3 (qI @Em.eq_4 (qI @lab.eq_1 (qI @lab.eq_2 (qI @Nz.eq_1 (qI @Nz.eq_2 (qI @Nz.eq_3 (qI @Nz.eq_4 (qI @Nz.eq_5 (qI @Nz.eq_6 (qI @Nz.eq_7 (qI @Nz.eq_8 (qI @Nz.eq_9 (qI @HQ.eq_1 (qI @HQ.eq_2 (qI @HQ.eq_3 (qI @HQ.eq_4 (qI @HQ.eq_5 (qI @JJ.eq_1 (qI @Hj.eq_1 (qI @Hj.eq_2 (qI @Ej.eq_1 (qI @Ej.eq_2 (qI @Ej.eq_3 (qI @Ej.eq_4 (qI @Ej.eq_5 (qI @Ej.eq_6 (qI @Ej.eq_7 (qI @Ej.eq_8 (qI @Ej.eq_9 (qI @H7.eq_1 (qI @H7.eq_2 (qI @Bv.eq_1 (qI @Bv.eq_2 (qI @Bv.eq_3 (qI @Bv.eq_4 (qI @Bv.eq_5 (qI @Gi.eq_1 (qI @Gi.eq_2 (qI @Fm.eq_1 (qI @Fm.eq_2 (qI @Oc.eq_1 (qI @CT.eq_1 (qI @CT.eq_2 (qI @CT.eq_3 (qI @CT.eq_4 (qI @CT.eq_5 (qI @CT.eq_6 (qI @CT.eq_7 (qI @Tu.eq_1 (qI @Tu.eq_2 (qI @Sm.eq_1 (qI @Sm.eq_2 (qI @Ik.eq_1 (qI @Ik.eq_2 (qI @Ik.eq_3 (qI @Ik.eq_4 (qI @Ik.eq_5 (qI @Ik.eq_6 (qI @Ik.eq_7 (qI @Ik.eq_8 (qI @RC.ed.eq_1 (qI @RC.ed.eq_2 (qI @RC.ed.eq_3 (qI @RC.ed.eq_4 (qI @TP.eq_1 (qI @TP.eq_2 (qI @TP.eq_3 (qI @Qt.eq_1 (qI @Mr.eq_1 (qI @Mr.eq_2 (qI @Mr.eq_3 (qI @Mr.eq_4 (qI @Mr.eq_5 (qI @OY.eq_1 (qI @OY.eq_2 (qI @FL.eq_1 (qI @FL.eq_2 (qI @rows.eq_1 (qI @rows.eq_2 (qI @AS.eq_1 (qI @AS.eq_2 (qI @AS.eq_3 (qI @AS.eq_4 (qI @AS.eq_5 (qI @AS.eq_6 (qI @AS.eq_7 (qI @AS.eq_8 (qI @AS.eq_9 (qI @AS.eq_10 (qI @AS.eq_11 (qI @AS.eq_12 (qI @AS.eq_13 (qI @AS.eq_14 (qI @AS.eq_15 (qI @AS.eq_16 (qI @AS.eq_17 (qI @Kl.eq_1 (qI @Kl.eq_2 (qI @Kl.eq_3 (qI @Kl.eq_4 (qI @Kl.eq_5 (qI @Kl.eq_6 (qI @lenOf.eq_1 (qI @lenOf.eq_2 (qI @lenOf.eq_3 (qI @lenOf.eq_4 (qI @lenOf.eq_5 (qI @OW.eq_1 (qI @OW.eq_2 (qI @OW.eq_3 (qI @OW.eq_4 (qI @OG.eq_1 (qI @OG.eq_2 (qI @MO.eq_1 (qI @MO.eq_2 (qI @MO.eq_3 (qI @Ea.eq_1 (qI @Ea.eq_2 (qI @Ea.eq_3 (qI @Ea.eq_4 (qI @Fx.eq_1 (qI @Fx.eq_2 (qI @Fx.eq_3 (qI @Fx.eq_4 (qI @HZ.eq_1 (qI @HZ.eq_2 (qI @HZ.eq_3 (qI @HZ.eq_4 (qI @US.eq_1 (qI @QR.eq_1 (qI @QR.eq_2 (qI @Eb.eq_1 (qI @Eb.eq_2 (qI @Eb.eq_3 (qI @Eb.eq_4 (qI @RX.eq_1 (qI @D.flat.eq_1 (qI @D.flat.eq_2 (qI @D.flat.eq_3 (qI @D.flat.eq_4 (qI @rid.eq_1 (qI @TI.agg.eq_1 (qI @SM (qI @VD (qI @TC (qI @Wy (qI @WL (qI @Vd (qI @ZC (qI @aAD (qI @Dx.eq_1 (qI @UO (qI @Uo (qI @aCD (qI @aAQ (qI @ZH (qI @St.Nm (qI @St.XJ (qI @St.YJ (qI @St.O4 (qI @YB @Zb)))))))))))))))))))))))))))))))))))))))))))))))))))))))))))))))))))))))))))))))))))))))))))))))))))))))))))))))))))))))))))))))))))))))))))))))))))))))))))))))))))))))))))))))))))))))))))))))))))))))
theorem E:type_of% Ez9.down:=Ez9.down
def Lz9:=PLift.up (qI @List.take_succ_cons.{0} (qI @List.take_zero.{0} (qI @List.drop_succ_cons.{0} (qI @List.drop_zero.{0} (qI @List.map_cons.{0,0} (qI @List.map_nil.{0,0} (qI @List.cons_append.{0} (qI @List.nil_append.{0} (qI @List.append_nil.{0} (qI @List.length_cons.{0} (qI @List.length_nil.{0} (qI (@List.getElem?_cons_zero.{0}) (qI (@List.getElem?_cons_succ.{0}) (qI @List.tail_cons.{0} (qI @List.tail_nil.{0} (qI @Option.isSome_some.{0} (qI @Option.isSome_none.{0} (qI @List.take_nil.{0} (qI @List.drop_nil.{0} (qI (@List.getElem?_map.{0,0}) (qI @Option.map_some.{0,0} (qI @Option.bind_some.{0,0} (qI @List.length_map.{0,0} (qI @List.replicate_succ.{0} (qI @List.replicate_zero.{0} (qI @List.flatten_cons.{0} (qI @List.flatten_nil.{0} (qI (@List.getElem?_toArray.{0}) (qI @List.toList_toArray.{0} (qI @Zz (qI @aBE (qI @List.any_cons.{0} (qI @List.any_nil.{0} (qI Bool.or_true (qI Bool.true_or (qI Bool.or_false (qI jZ (qI jL (qI Bool.true_and (qI Bool.and_false (qI Bool.false_and (qI true_and (qI and_true and_self)))))))))))))))))))))))))))))))))))))))))))
theorem L:type_of% Lz9.down:=Lz9.down
def Fz9:=PLift.up (qI @List.set_cons_zero.{0} (qI @List.set_cons_succ.{0} (qI @St.Nm (qI @St.XJ (qI @St.YJ (qI @St.O4 (qI @YB (qI @Zb (qI @List.map_append.{0,0} (qI @List.map_cons.{0,0} (qI @List.map_nil.{0,0} (qI @List.map_set.{0,0} (qI @List.map_replicate.{0,0} (qI @List.append_nil.{0} (qI @List.nil_append.{0} (qI @List.cons_append.{0} (qI (@List.getElem?_cons_zero.{0}) (qI (@List.getElem?_cons_succ.{0}) (qI jL Bool.true_and)))))))))))))))))))
theorem F:type_of% Fz9.down:=Fz9.down
open Go.RowKit
def Gho(P:Program)(base:Nat)(j:W0)(N:Nat)(s s':St):Prop:=∀a w,Rel P base j N s a w->Rel P base j N s' a w
theorem aKi{α β:Type}{f:α->β}{K:α}{r:β}(h:f K=r):∃j,j=K/\f j=r:=⟨K,rfl,h⟩
section
variable {P:Program}{base N:Nat}{w0:W0}{Z:St->Prop}{k:List Fr}{s s' s'':St}
theorem Gho.refl(s:St):Gho P base w0 N s s:=λ_ _ h=>h
theorem Gho.trans(h:Gho P base w0 N s s')(j:Gho P base w0 N s' s''):Gho P base w0 N s s'':=λa w R=>j a w (h a w R)
theorem Ey{c:Code}{Q:Exit->St->Prop}(j:Gho P base w0 N s s')(h:SW P base w0 N c s' Q):SW P base w0 N c s Q:=λa w R=>h a w (j a w R)
theorem Hg{c:Code}(I:Nat->St->Prop)(n:Nat)(J:I n s)(h:∀m s,I m s->SW P base w0 N c s (aft P base w0 N Z (.inv (λs'=>∃j,Gho P base w0 N s' j/\∃C,C<m/\I C j)::k))):SW P base w0 N (.loop c) s (aft P base w0 N Z k):=by
 intro a w R
 refine wp_loop_ghost (λm a w=>∃s,I m s/\Rel P base w0 N s a w) n ⟨s,J,R⟩ ?_
 rintro m a w ⟨s,h1,R⟩
 refine wp_mono (h m s h1 a w R) ?_
 rintro e a' w' ⟨s',h2,h3⟩
 cases e with
 |normal=>obtain⟨j,U,C,h4,h5⟩:=h2;exact⟨C,h4,j,h5,U _ _ h3⟩
 |_=>exact⟨s',h2,h3⟩
theorem Vt{g:Gh}{a:Act}{w:World}{j K vj:Nat}{e:TypeId}{sz:Nat}{xs:List (List D)}{dp:Bool}(R:oN P base w0 N g s a w [])(h2:s.h j=(vj,.row e sz xs dp)):
  ∃g',oN P base w0 N g' ((s.fQ j (vj,.none)).fQ K ((s.h K).1+1,.row e sz xs dp)) a w []/\mN g g' s.h ((s.fQ j (vj,.none)).fQ K ((s.h K).1+1,.row e sz xs dp)).h w w/\
   ∀v,CF g s.h w (.row j vj) v->CF g' ((s.fQ j (vj,.none)).fQ K ((s.h K).1+1,.row e sz xs dp)).h w (.row K ((s.h K).1+1)) v:=by
 have C:(s.h j).1=vj:=by rw[h2]
 have I:(s.h j).2=.row e sz xs dp:=by rw[h2]
 have U:=R.inv.obj j
 rw[I]at U
 obtain⟨cells,p1,p2,p3,p4,p5⟩:=U
 obtain⟨I1,J⟩:=R.inv.Gm I
 rw[C]at I1 J
 have T1:mN g g s.h (sG s.h j (vj,.none)) w w:=by have:=mN.drop (g:=g) (h:=s.h) (w:=w) j g.S λ_ x=>x;rw[C]at this;exact this
 have hver:(sG s.h j (vj,.none) K).1=(s.h K).1:=by by_cases hk:K=j;(subst hk;rw[bT,C]);·rw[eI _ _ _ _ hk]
 have I2:=I1.Gz (i:=K) (v:=g.val j) (e:=e) (sz:=sz) (xs:=xs) (dp:=dp) (cells:=cells) (F:=g.fp j) (pool':=[]) p1 p2 p3 p4 J we ja (λhd=>by subst hd;simp only[jH,jO];exact⟨(p5 rfl).1,λb hb=>⟨hb,we⟩⟩)
 have T2:=mN.create (g:=g) (h:=sG s.h j (vj,.none)) (w:=w) K (g.val j) (g.fp j) (.row e sz xs dp)
 rw[hver]at I2 T2
 refine⟨_,R.turn (T1.trans T2) rfl R.below I2,T1.trans T2,?_⟩
 rintro v ⟨h0,_,hv⟩
 refine⟨h0,?_,?_⟩
 ·show _<=(sG _ K _ K).1;rw[bT];exact qg _
 ·intro _ e' sz' xs' dp' _;show v=IQ g.val K (g.val j) K;rw[eT];exact hv C e sz xs dp I
theorem Y8{g:Gh}{a:Act}{w:World}{K:Nat}(e:TypeId)(sz:Nat)(R:oN P base w0 N g s a w []):
  ∃j,oN P base w0 N j (s.fQ K ((s.h K).1+1,.row e sz [] true)) a w []/\mN g j s.h (s.fQ K ((s.h K).1+1,.row e sz [] true)).h w w/\
   ∀v,CF g s.h w .nil v->CF j (s.fQ K ((s.h K).1+1,.row e sz [] true)).h w (.row K ((s.h K).1+1)) v:=by
 have J:=R.inv.Gz (i:=K) (v:=.slice none 0 0) (e:=e) (sz:=sz) (xs:=[]) (dp:=true) (cells:=[]) (F:=[]) (pool':=[]) (World.ownsRow_nil w base e sz) we dU.nil we (by intro b hb;cases hb) we ja (λ_=>⟨ja,we⟩)
 have I:=mN.create (g:=g) (h:=s.h) (w:=w) K (.slice none 0 0) [] (.row e sz [] true)
 refine⟨_,R.turn I rfl R.below J,I,?_⟩
 intro v C
 have C:v=.slice none 0 0:=C
 subst C
 refine⟨rfl,?_,?_⟩
 ·show _<=(sG _ K _ K).1;rw[bT];exact qg _
 ·intro _ e' sz' xs' U _;show _=IQ g.val K _ K;rw[eT]
theorem Oe{g:Gh}{a:Act}{w:World}{i:Nat}{sv:SV}(R:oN P base w0 N g s a w [])(j:zY g s.h w sv (a.tmps.getD i undef)):oN P base w0 N g (s.IV i sv) a w []:=by refine⟨R.defers,R.size,R.below,R.q,R.CI,R.inv,λt=> ?_,R.lab,R.frm⟩;rw[St.Nm];by_cases ht:t=i;(subst ht;simp only[jH];exact j);·simp only[ht,jG];exact R.tmp t
theorem Gho.aDf{i j K vj:Nat}{e:TypeId}{sz:Nat}{xs:List (List D)}{dp:Bool}(h1:s.t i=.v false [.row j vj])(h2:s.h j=(vj,.row e sz xs dp)):
  Gho P base w0 N s (((s.fQ j (vj,.none)).fQ K ((s.h K).1+1,.row e sz xs dp)).IV i (.v false [.row K ((s.h K).1+1)])):=by
 rintro a w ⟨g,R⟩
 have C:=R.tmp i
 rw[h1]at C
 obtain⟨J,I,T,hc⟩:=Vt (K:=K) R h2
 exact⟨J,Oe I ⟨_,[],rfl,hc _ (fF C),rfl⟩⟩
theorem Gho.aFR{i K:Nat}(e:TypeId)(sz:Nat)(h1:s.t i=.v false [.nil]):
  Gho P base w0 N s ((s.fQ K ((s.h K).1+1,.row e sz [] true)).IV i (.v false [.row K ((s.h K).1+1)])):=by
 rintro a w ⟨g,R⟩
 have j:=R.tmp i
 rw[h1]at j
 obtain⟨I,C,T,hc⟩:=Y8 (K:=K) e sz R
 exact⟨I,Oe C ⟨_,[],rfl,hc _ (fF j),rfl⟩⟩
theorem aV.set{g:Gh}{h:Heap}{w:World}:∀{cs:List SC} {vs:List Value} (c:Nat) (x y:SC),aV g h w cs vs->cs[c]? =some x->(∀v,CF g h w x v->CF g h w y v)->aV g h w (cs.set c y) vs
 |[],vs,c,x,y,hc,I,_=>by simp at I
 |z::cs,vs,0,x,y,hc,I,j=>by obtain⟨v,C,rfl,h1,h2⟩:=hc;simp at I;subst I;exact⟨v,C,rfl,j v h1,h2⟩
 |z::cs,vs,c+1,x,y,hc,I,j=>by obtain⟨v,C,rfl,h1,h2⟩:=hc;exact⟨v,C,rfl,h1,aV.set c x y h2 (by simpa using I) j⟩
theorem aBW{g:Gh}{a:Act}{w:World}{b vb C:Nat}{t:TypeId}{cells cells':List SC}{vals:Array Value}(R:oN P base w0 N g s a w [])(hb:s.h b=(vb,.box t cells))(h3:g.val b=.pointer (some ⟨C,0,none⟩))(h5:w.heap[C]? =some (.cells vals t (0,0)))(hc:aV g s.h w cells' vals.toList):
  ∃g',oN P base w0 N g' (s.fQ b (vb,.box t cells')) a w []:=by
 have I:(s.h b).1=vb:=by rw[hb]
 have hb2:(s.h b).2=.box t cells:=by rw[hb]
 have hlive:live s.h b:=by unfold live;rw[hb2];simp
 have hown:Ee (g.val b)=some C:=by rw[h3];rfl
 have J:=R.inv.mtb b C hlive hown
 have T:mN g { g with fp:=IQ g.fp b (g.fp b) } s.h (sG s.h b ((s.h b).1,.box t cells')) w w:=
  mN.HE J (λ_ _=>rfl) (by intro e sz xs dp j;cases j) (by intro t0 cs0 j;cases j;exact⟨_,hb2⟩)
 have U:=R.inv.HE (i:=b) (b:=C) (F:=g.fp b) (pool':=[]) (w':=w) hlive hown rfl (λ_ _=>rfl) T
  ⟨C,vals,h3,(R.inv.Io hlive hown).1,h5,hc.turn T⟩ we ja (by rintro⟨_,_,_,j⟩;cases j)
 rw[I]at T U
 exact⟨_,R.turn T rfl R.below U⟩
theorem KD{g g':Gh}{a:Act}{w:World}{b vb c:Nat}{t:TypeId}{cells:List SC}{x y:SC}(R:oN P base w0 N g s a w [])(R':oN P base w0 N g' s' a w [])(T:mN g g' s.h s'.h w w)(U:s.h b=(vb,.box t cells))(j:s'.h b=(vb,.box t cells))(h1:cells[c]? =some x)
  (hc:∀v,CF g s.h w x v->CF g' s'.h w y v):Rel P base w0 N (s'.fQ b (vb,.box t (cells.set c y))) a w:=by
 have C:=R.inv.obj b
 rw[show(s.h b).2=.box t cells from by rw[U]]at C
 obtain⟨b',vals,h3,h4,h5,h6⟩:=C
 have hv:g'.val b=g.val b:=(T.box b t cells (by rw[j,U]) (by rw[j])).1
 have hnew:∀{cs:List SC} {vs:List Value} (c:Nat),aV g s.h w cs vs->cs[c]? =some x->aV g' s'.h w (cs.set c y) vs:=by
  intro cs
  induction cs with
  |nil=>intro vs c _ I;simp at I
  |cons z cs ih=>
   intro vs c hA I
   obtain⟨v,J,rfl,k1,k2⟩:=hA
   cases c with
   |zero=>simp at I;subst I;exact⟨v,J,rfl,hc v k1,k2.turn T⟩
   |succ c=>exact⟨v,J,rfl,k1.turn T,ih c k2 (by simpa using I)⟩
 exact aBW R' j (hv.trans h3) h5 (hnew c h6 h1)
theorem Gho.aA5{b vb c j K vj:Nat}{t:TypeId}{cells:List SC}{e:TypeId}{sz:Nat}{xs:List (List D)}{dp:Bool}(C:s.h b=(vb,.box t cells))(h1:cells[c]? =some (.row j vj))(h2:s.h j=(vj,.row e sz xs dp))(hk:b≠K):
  Gho P base w0 N s (((s.fQ j (vj,.none)).fQ K ((s.h K).1+1,.row e sz xs dp)).fQ b (vb,.box t (cells.set c (.row K ((s.h K).1+1))))):=by
 rintro a w ⟨g,R⟩
 have I:b≠j:=λe=>by rw[e,h2]at C;cases C
 obtain⟨U,J,T,hc⟩:=Vt (K:=K) R h2
 refine KD R J T C ?_ h1 hc
 show sG (sG s.h j _) K _ b=_
 rw[eI _ _ _ _ hk,eI _ _ _ _ I,C]
theorem Gho.aFD{b vb c K:Nat}{t:TypeId}{cells:List SC}(e:TypeId)(sz:Nat)(j:s.h b=(vb,.box t cells))(h1:cells[c]? =some .nil)(hk:b≠K):
  Gho P base w0 N s ((s.fQ K ((s.h K).1+1,.row e sz [] true)).fQ b (vb,.box t (cells.set c (.row K ((s.h K).1+1))))):=by
 rintro a w ⟨g,R⟩
 obtain⟨I,C,T,hc⟩:=Y8 (K:=K) e sz R
 refine KD R C T j ?_ h1 hc
 show sG s.h K _ b=_
 rw[eI _ _ _ _ hk,j]
theorem sq{x y:Code}(h:SW P base w0 N x s (aft P base w0 N Z (.code y::k))):SW P base w0 N (.seq x y) s (aft P base w0 N Z k):=aDZ h
theorem bk{id:Nat}{c:Code}(h:SW P base w0 N c s (aft P base w0 N Z (.block id::k))):SW P base w0 N (.block id c) s (aft P base w0 N Z k):=aA9 h
theorem sk(h:aft P base w0 N Z k .normal s):SW P base w0 N .skip s (aft P base w0 N Z k):=aB5 h
theorem xt{id:Nat}(h:aft P base w0 N Z k (.exit id) s):SW P base w0 N (.exit id) s (aft P base w0 N Z k):=aCN h
theorem rt(h:Z s):SW P base w0 N .ret s (aft P base w0 N Z k):=aDh h
theorem an{c:Code}(h:SW P base w0 N c s (aft P base w0 N Z k)):aft P base w0 N Z (.code c::k) .normal s:=h
theorem ab{id:Nat}(h:aft P base w0 N Z k .normal s):aft P base w0 N Z (.block id::k) .normal s:=h
end
section
variable {P:Program}{base N:Nat}{w0:W0}{Z:St->Prop}{k:List Fr}{s s':St}
theorem Xq{g:Gh}{a:Act}{w:World}{j vj:Nat}{e:TypeId}{sz:Nat}{xs:List (List D)}{dp:Bool}(R:oN P base w0 N g s a w [])(h2:s.h j=(vj,.row e sz xs dp)):
  ∃U,oN P base w0 N U (s.fQ j (vj,.none)) a w []/\mN g U s.h (s.fQ j (vj,.none)).h w w/\∀v,CF g s.h w (.row j vj) v->CF U (s.fQ j (vj,.none)).h w (.dat (.sl xs)) v:=by
 have C:(s.h j).1=vj:=by rw[h2]
 have I:(s.h j).2=.row e sz xs dp:=by rw[h2]
 obtain⟨S',F,hS,_,hrep,_,_,hF,_,I1⟩:=R.inv.take I
 have J:=mN.drop (g:=g) (h:=s.h) (w:=w) j S' hS
 rw[C]at I1 J
 refine⟨_,R.turn J rfl R.below I1.forget,J,?_⟩
 rintro v ⟨h0,_,hv⟩
 have e1:v=g.val j:=hv C e sz xs dp I
 subst e1
 exact⟨F,hrep,hF⟩
theorem aV.swap{g g':Gh}{h I:Heap}{w:World}{x y:SC}(T:mN g g' h I w w)(hc:∀v,CF g h w x v->CF g' I w y v):∀{cs:List SC} {vs:List Value} (c:Nat),aV g h w cs vs->cs[c]? =some x->aV g' I w (cs.set c y) vs
 |[],_,c,_,C=>by simp at C
 |z::cs,vs,0,J,C=>by obtain⟨v,j,rfl,U,k2⟩:=J;simp at C;subst C;exact⟨v,j,rfl,hc v U,k2.turn T⟩
 |z::cs,vs,c+1,J,C=>by obtain⟨v,j,rfl,U,k2⟩:=J;exact⟨v,j,rfl,U.turn T,aV.swap T hc c k2 (by simpa using C)⟩
theorem Gho.aFY{i c j vj:Nat}{C:Bool}{cs:List SC}{e:TypeId}{sz:Nat}{xs:List (List D)}{dp:Bool}(h1:s.t i=.v C cs)(hc:cs[c]? =some (.row j vj))(h2:s.h j=(vj,.row e sz xs dp)):
  Gho P base w0 N s ((s.fQ j (vj,.none)).IV i (.v C (cs.set c (.dat (.sl xs))))):=by
 rintro a w ⟨g,R⟩
 have I:=R.tmp i
 rw[h1]at I
 obtain⟨g',U,T,J⟩:=Xq R h2
 refine⟨g',Oe U ?_⟩
 cases C with
 |false=>exact aV.swap T J c I hc
 |true=>
  obtain⟨vs,h3,h4⟩:=I
  exact⟨vs,h3,aV.swap T J c h4 hc⟩
theorem Gho.aFj{b vb c j vj:Nat}{t:TypeId}{cells:List SC}{e:TypeId}{sz:Nat}{xs:List (List D)}{dp:Bool}(C:s.h b=(vb,.box t cells))(h1:cells[c]? =some (.row j vj))(h2:s.h j=(vj,.row e sz xs dp)):
  Gho P base w0 N s ((s.fQ j (vj,.none)).fQ b (vb,.box t (cells.set c (.dat (.sl xs))))):=by
 rintro a w ⟨g,R⟩
 have I:b≠j:=λe=>by rw[e,h2]at C;cases C
 obtain⟨U,J,T,hc⟩:=Xq R h2
 refine KD R J T C ?_ h1 hc
 show sG s.h j _ b=_
 rw[eI _ _ _ _ I,C]
end
def ZE(B:Nat)(j:Nat->Value):Nat->List D->List SC
 |_,[]=>[]
 |k,d::ds=>.old B d (some (j k))::ZE B j (k+1) ds
theorem aAl(B:Nat)(j:Nat->Value)(k:Nat):ZE B j k []=[]:=rfl
theorem Zg(B:Nat)(j:Nat->Value)(k:Nat)(d:D)(ds:List D):ZE B j k (d::ds)=.old B d (some (j k))::ZE B j (k+1) ds:=rfl
def aAq(B:Nat)(j:Nat->Value)(x y:List D):St:=
 { t:=λi=>if i=0 then .v true (x.map .dat)else if i=1 then .v true (ZE B j 0 y)else .undef,h:=λ_=>(0,.none) }
theorem aCp(B:Nat)(j:Nat->Value)(x y:List D)(i:Nat):(aAq B j x y).t i=if i=0 then .v true (x.map .dat)else if i=1 then .v true (ZE B j 0 y)else .undef:=rfl
theorem aBt(B:Nat)(j:Nat->Value)(x y:List D)(i:Nat):(aAq B j x y).h i=(0,.none):=rfl
theorem Wh(B:Nat)(d:D)(u:Option Value)(cs:List SC)(k:List D->Prog):Ej (.old B d u::cs) k=Ej cs λds=>k (d::ds):=rfl
def aFi(T:Sa)(vars:List ResultVar)(B:Nat)(j:Nat->Value)(y:List D)(s:St):Prop:=HF T s vars=some [(true,ZE B j 0 y),(false,[.dat (.bool true)])]
theorem Y9{g:Gh}{h:Heap}{w:World}{B:Nat}{U:Nat->Value}:∀{ds:List D} {vs:List Value} {F:List Nat} (k:Nat),aO w ds vs F->(∀b∈F,g.S b/\b<B)->(∀i v,vs[i]? =some v->v=U (k+i))->aV g h w (ZE B U k ds) vs
 |[],vs,F,k,j,_,_=>by simp only[aO]at j;exact j.1
 |d::ds,vs,F,k,j,I,J=>by simp only[aO]at j;obtain⟨v,C,F1,F2,rfl,rfl,h3,h4⟩:=j;refine⟨v,C,rfl,⟨F1,h3,λb hb=>I b (by simp[hb]),λx hx=> ?_⟩,Y9 (k+1) h4 (λb hb=>I b (by simp[hb])) λi u hi=> ?_⟩;(cases hx;exact J 0 v rfl);·rw[J (i+1) u (by simpa using hi)];congr 1;omega
theorem YX{g:Gh}{h:Heap}{w:World}{B:Nat}{I:Nat->Value}:∀{ds:List D} {vs:List Value} (k:Nat),aV g h w (ZE B I k ds) vs->vs.length=ds.length/\∀i v,vs[i]? =some v->v=I (k+i)
 |[],vs,k,j=>by rw[show vs=[]from j];exact⟨rfl,λi v J=>by simp at J⟩
 |d::ds,vs,k,j=>by
  obtain⟨v,vs',rfl,⟨F,_,_,h3⟩,h4⟩:=j
  obtain⟨U,k2⟩:=YX (k+1) h4
  refine⟨by simp[U],λi u C=> ?_⟩
  cases i with
  |zero=>simp at C;rw[<-C];exact h3 _ rfl
  |succ i=>
   rw[k2 i u (by simpa using C)]
   congr 1
   omega
theorem aCC {P : Program} {f : FuncId} {fn : Func} {c : Code} {x y : List D} {N : Nat} {vars : List ResultVar} (hf : P.funcs[f]? = some fn) (hb : fn.body = some c) (hN : fn.ntmps = N) (hv : fn.results.toList = vars) (hnm : (fn.name == "runtime.NumGoroutine") = false) (hn : 2 <= N)
  (h : ∀(base:Nat) (w0:W0) (us:Nat->Value),SW P base w0 N c (aAq base us x y) (aft P base w0 N (aFi (fS P) vars base us y) [])):kU P f [(true,x),(true,y)] [(false,[.edit .pass])]:=by
 subst hN hv
 refine .inr (.inl ⟨.pass,rfl,⟨fn,c,hf,hb,hnm⟩,λw v1 v2 Fa ha => ?_⟩)
 have hFlt:=KW (vs:=[v1,v2]) ha
 obtain ⟨F1,F',e1,h1,F2,F3,e2,h2,h3⟩:=ha
 have e3:F3=[]:=h3
 subst e3 e2 e1
 obtain ⟨c1,rfl,r1⟩:=h1
 obtain ⟨c2,rfl,r2⟩:=h2
 refine calls_of_wp hf hb ?_
 let us:Nat->Value:=λi=>c2.toList.getD i undef
 let g:Gh:={ val:=λ_=>undef,fp:=λ_=>[],S:=λb=>b∈F1++(F2++[]),Q:=⟨λb=>b∈F1++(F2++[]),w.heap.size,none,slP P⟩ }
 have R:Rel P w.heap.size ⟨w,⟨λb=>b∈F1++(F2++[]),w.heap.size,none,slP P⟩,noK,Ua⟩ fn.ntmps (aAq w.heap.size us x y) { tmps := #[.agg c1,.agg c2]++Array.replicate (fn.ntmps-2) undef,defers:=[] } w:=by refine ⟨g,rfl,wX,Below.refl _ _,⟨λ_ x=>x,rfl,λ_ hx=>(by cases hx)⟩,λ_ x=>x.elim,⟨qg _,λ_ x _=>x,hFlt,λi=>trivial,λi b hl=>absurd rfl hl,λi j b _ hl=>absurd rfl hl,?_,CX.nil _ _,we,λi hd=>(by obtain ⟨_,_,_,hd⟩:=hd;cases hd),qg _⟩,λt => ?_,⟨rfl,.inl rfl⟩,λ_=>trivial⟩;(rintro i j _ ⟨_,_,_,hd⟩;cases hd);·show zY g _ w (if t=0 then .v true (x.map .dat) else if t=1 then .v true (ZE w.heap.size us 0 y) else .undef) _;by_cases h0:t=0;(subst h0;rw [jE rfl];exact ⟨c1,by rw [jM,Array.getElem?_append_left we];rfl,aV.Kk r1 λb hb=>by show b∈F1++(F2++[]);simp [hb]⟩);·rw [jF h0];by_cases h1:t=1;(subst h1;rw [jE rfl];refine ⟨c2,by rw [jM,Array.getElem?_append_left we];rfl,Y9 0 r2 (λb hb=>⟨by show b∈F1++(F2++[]);simp [hb],hFlt b (by simp [hb])⟩) λi v hi => ?_⟩;show v=c2.toList.getD (0+i) undef;rw [qp,List.getD_eq_getElem?_getD,hi];rfl);·rw [jF h1];show _=undef;simp only [jM,Array.getElem?_append];rw [jF wX];by_cases h2:t-2<fn.ntmps-2;(simp [h2]);·rw [Array.getElem?_eq_none wX];rfl
 refine wp_mono (h w.heap.size ⟨w,⟨λb=>b∈F1++(F2++[]),w.heap.size,none,slP P⟩,noK,Ua⟩ us _ w R) ?_
 rintro e a' w' ⟨s',h1,g',R'⟩
 have fin:aFi (fS P) fn.results.toList w.heap.size us y s'->a'.defers=[] /\ ∃v,(results fn a'.tmps).run P w' = .ok v w'/\Ending.returned v = .returned (.tuple #[.agg c2,.bool true])/\Below w.heap.size w w':=by
  intro hr
  obtain ⟨vs,k1,k2,k3⟩:=Gr R' hr
  have hrun:=Mb (P:=P) (w:=w') (λx=>match x with | .tmp t=>(pure (a'.tmps.getD t undef):Sem Value) | .cell p t=>(do loadVar t (<-asAddr (a'.tmps.getD p undef)):Sem Value)) fn.results.toList vs (by rw [k1]) k3
  have hrun':(results fn a'.tmps).run P w' = .ok (if h:vs.toArray.size=1 then vs.toArray[0] else .tuple vs.toArray) w':=by unfold results;rw [<-Array.toArray_toList (xs:=fn.results)];rw [List.mapM_toArray];simp only [qs,Sem.run_map,qu];exact (congrArg (λr:Result (List Value)=>(r.andThen λa w'=>Result.ok a.toArray w').andThen λa w'=>Result.ok (if h:a.size=1 then a[0] else Value.tuple a) w') hrun).trans rfl
  obtain ⟨u1,vs1,rfl,⟨d2,rfl,m1⟩,u2,vs2,rfl,m2,m3⟩:=k2
  have m3':vs2=[]:=m3
  subst m3'
  have e2:u2 = .bool true:=F9 (g:=g') (s:=s') (w:=w') (b:=true) m2
  subst e2
  obtain ⟨n1,n2⟩:=YX 0 m1
  have n3:c2.toList.length=y.length:=r2.length
  have e1:d2=c2:=by
   apply Array.ext'
   apply List.ext_getElem?
   intro i
   rcases jR i y.length with hi | hi
   ·have hd:i<d2.toList.length:=by rw [n1];exact hi
    have hc:i<c2.toList.length:=by rw [n3];exact hi
    rw [qF hd,qF hc]
    have:=n2 i _ (qF hd)
    rw [this]
    show some (c2.toList.getD (0+i) undef)=_
    rw [qp,List.getD_eq_getElem?_getD,qF hc]
    rfl
   ·rw [qZ (by rw [n1];exact hi),qZ (by rw [n3];exact hi)]
  subst e1
  exact ⟨R'.defers,_,hrun',rfl,R'.below⟩
 cases e with
 | normal=>exact fin h1
 | ret=>exact fin h1
 | exit id=>exact h1.elim
 | goto l=>exact h1.elim
 | panic c=>exact h1.elim
 | outgrown=>exact h1.elim
def aHr:=PLift.up (qI @aAl (qI @Zg (qI @aCp (qI @aBt @Wh))))
theorem LP:type_of% aHr.down:=aHr.down
theorem LX{α:Type}{f:α->List D}{sz b:Nat}{xs z J U:List α}{k:Int}(j:∀x,(f x).length=sz)(hb:0<b)(h1:CK xs k=some J)(h2:Cn xs (IntKind.i64.wrap (k+1))=some U)(h:app b (List.take k.toNat xs) (List.drop (IntKind.i64.wrap (k+1)).toNat xs)=some z):
  List.take k.toNat (NU sz (IntKind.i64.wrap (k+1)).toNat (xs.length-(IntKind.i64.wrap (k+1)).toNat) (xs.map f))=List.take k.toNat (xs.map f)/\(∀y∈List.drop (IntKind.i64.wrap (k+1)).toNat (xs.map f),y.length=sz)/\
   (k.toNat+(xs.length-(IntKind.i64.wrap (k+1)).toNat))*b<=140737488355328:=by
 obtain⟨a1,a2⟩:0<=k/\k.toNat<=xs.length:=by unfold CK at h1;split at h1;(assumption);·cases h1
 obtain⟨b1,b2⟩:0<=IntKind.i64.wrap (k+1)/\(IntKind.i64.wrap (k+1)).toNat<=xs.length:=by unfold Cn at h2;split at h2;(assumption);·cases h2
 have h3:=fP h
 have C:(List.take k.toNat xs).length=k.toNat:=by rw[qV];omega
 rw[C,qW]at h3
 have h4:k.toNat<=140737488355328:=qh (qh (Nat.le_mul_of_pos_right _ hb) (qj b (jT _ _))) h3
 have e:IntKind.i64.wrap (k+1)=k+1:=bQ wi wi
 rw[e]at b1 b2 h3⊢
 refine⟨?_,λy I=> ?_,?_⟩
 ·unfold NU;rw[jW (by simp only[qV,qU];omega),List.take_take,jV wi]
 ·obtain⟨x,_,rfl⟩:=qx.1 (qv I);exact j x
 ·exact h3
theorem UQ{α:Type}{xs z:List α}{i:Int}(h:Cn xs i=some z):0<=i/\i.toNat<=xs.length:=by unfold Cn at h;split at h;(assumption);·cases h
theorem Rc{α:Type}{xs z:List α}{i:Int}(h:Cn xs i=some z):i.toNat+(xs.length-i.toNat)=xs.length:=by have:=UQ h;omega
theorem Tv{α:Type}{f:α->List D}{xs z:List α}{i:Int}{r:List D}(h:Cn xs i=some z):0<=i/\i.toNat<=(List.map f (List.take i.toNat xs)++List.replicate (xs.length-i.toNat) r).length:=by have:=UQ h;refine⟨this.1,?_⟩;rw[qE,qU,qV,jA];omega
theorem aAV{α:Type}{f:α->List D}{xs z:List α}{i:Int}{n:Nat}{r:List D}(h:Cn xs i=some z):(List.map f (List.take i.toNat xs)++List.replicate n r).take i.toNat=List.map f (List.take i.toNat xs):=by have:=UQ h;exact List.take_left' (by rw[qU,qV];omega)
def Y6(t:TypeId)(B:Nat)(C:Value)(d0:D)(ds:List D)(rest:List (Bool×List D)):St:=
 { t:=λi=>match i with|0=>.v false [.bp 7059000 1 0]|i+1=>match rest[i]? with|some (j,ds)=>.v j (ds.map .dat)|none=>.undef,h:=λi=>if i=7059000 then(1,.box t (.old B d0 (some C)::ds.map .dat))else(0,.none) }
theorem Xk(t:TypeId)(B:Nat)(C:Value)(d0:D)(ds:List D)(rest:List (Bool×List D))(i:Nat):(Y6 t B C d0 ds rest).t i=match i with|0=>.v false [.bp 7059000 1 0]|i+1=>(match rest[i]? with|some (j,ds)=>.v j (ds.map .dat)|none=>.undef):=rfl
theorem MW(t:TypeId)(B:Nat)(j:Value)(d0:D)(ds:List D)(rest:List (Bool×List D))(i:Nat):(Y6 t B j d0 ds rest).h i=if i=7059000 then(1,.box t (.old B d0 (some j)::ds.map .dat))else(0,.none):=rfl
def Mi(T:Sa)(vars:List ResultVar)(t:TypeId)(B:Nat)(C:Value)(d0:D)(es:List D)(j:List (Bool×List RC))(s:St):Prop:=
 Ret T vars j s/\s.h 7059000=(1,.box t (.old B d0 (some C)::es.map .dat))
theorem VJ{g:Gh}{h:Heap}{w:World}:∀{es:List D} {j:List Value},aV g h w (es.map .dat) j->es.all D.flat=true->aO w es j []
 |[],j,hc,_=>by simp only[aO];exact⟨hc,trivial⟩
 |d::es,j,hc,C=>by obtain⟨v,I,rfl,⟨F,h1,_⟩,h3⟩:=hc;simp only[List.all_cons,qM]at C;have e:F=[]:=Ml h1 C.1;subst e;simp only[aO];exact⟨v,I,[],[],rfl,rfl,h1,VJ h3 C.2⟩
theorem aCi {P : Program} {f : FuncId} {fn : Func} {c : Code} {t : TypeId} {d0 : D} {ds es : List D} {rest : List (Bool × List D)} {rs : List (Bool × List RC)} {N : Nat} {vars : List ResultVar} (hf : P.funcs[f]? = some fn) (hb : fn.body = some c) (hN : fn.ntmps = N) (hv : fn.results.toList = vars) (hnm : (fn.name == "runtime.NumGoroutine") = false) (hn : rest.length + 1 <= N)
  (hrs:Dx rs=false) (hds:ds.all D.flat=true) (hes:es.all D.flat=true) (hl:es.length=ds.length)
  (h : ∀(base:Nat) (w0:W0) (B:Nat) (v0:Value),(B<=base/\w0.Q.L=slP P /\ ∀b,w0.K b->b<base)->SW P base w0 N c (Y6 t B v0 d0 ds rest) (aft P base w0 N (Mi (fS P) vars t B v0 d0 es rs) [])):kU P f ((false,[.ptr (d0::ds)])::rest) ((false,[.edit (.lend t es)])::rs):=by
 subst hN hv
 refine .inr (.inr ⟨t,es,rs,rfl,⟨fn,c,hf,hb,hnm⟩,hrs,hes,d0,ds,rest,rfl,hds,hl,λw b vals v0 vs0 vs Fb F hw hvals r0 r1 hbF ha hbF2 => ?_⟩)
 refine calls_of_wp hf hb ?_
 have hbl:b<w.heap.size:=(qm.1 hw).1
 obtain ⟨hlen,hat⟩:=args_at ha
 have hFlt:=KW ha
 have hFb:=Rep.lt _ _ _ r0
 let K:Nat->Prop:=λx=>x<w.heap.size/\x≠b
 let q:QF:=⟨λx=>x<w.heap.size,b,some b,slP P⟩
 let g:Gh:={ val:=λ_=>.pointer (some ⟨b,0,none⟩),fp:=λ_=>[],S:=K,Q:=q }
 let s0:=Y6 t w.heap.size v0 d0 ds rest
 have hlv : ∀i,live s0.h i->i=7059000:=λi hl=>by unfold live at hl;rw [MW] at hl;by_cases hi:i=7059000;(exact hi);·rw [jF hi] at hl;exact absurd rfl hl
 have R:Rel P w.heap.size ⟨w,q,K,Ua⟩ fn.ntmps s0 { tmps:=(.pointer (some ⟨b,0,none⟩)::vs).toArray++Array.replicate (fn.ntmps-(.pointer (some ⟨b,0,none⟩)::vs).toArray.size) undef,defers:=[] } w:=by
  have hsz:(Value.pointer (some ⟨b,0,none⟩)::vs).toArray.size=rest.length+1:=by simp [hlen]
  have hnd : ∀i,¬kQ s0.h i:=by rintro i ⟨_,_,_,hd⟩;rw [MW] at hd;split at hd<;>cases hd
  have hmt : ∀i x,live s0.h i->Ee (g.val i)=some x -> ¬g.S x:=by intro i x hl hx hS;have:some b=some x:=hx;exact hS.2 (qd this).symm
  have hlt:Qo (some b) s0.h g:=by intro b' hb';cases hb';exact ⟨by rw [MW,jE rfl];exact qg _,λ_ _ _=>rfl⟩
  refine ⟨g,rfl,jh,Below.refl _ _,⟨λ_ x=>x,rfl,hlt⟩,λx hx=>⟨hx,rfl⟩,⟨qg _,λx hx _=>hx.1,λx hx=>hx.1,λi => ?_,hmt,λi j x hne hi hj=>absurd ((hlv i hi).trans (hlv j hj).symm) hne,λi j _ hi _=>absurd hi (hnd i),CX.nil _ _,λ_ hx=>absurd hx qO,λi hi=>absurd hi (hnd i),Nat.le_of_lt hbl⟩,λi => ?_,⟨rfl,.inl rfl⟩,λ_=>trivial⟩
  ·rw [MW];by_cases hi:i=7059000;(rw [jE hi];refine ⟨b,vals,rfl,qg _,hw,?_⟩;rw [hvals];refine ⟨v0,vs0,rfl,⟨Fb,r0,λx hx=>⟨⟨hFb x hx,λe=>hbF (e ▸ hx)⟩,hFb x hx⟩,λx hx=>by cases hx;rfl⟩,aV.Kk r1 we⟩);·rw [jF hi];trivial
  ·rw [Xk]
   cases i with
   | zero =>
    have:({ tmps:=(Value.pointer (some ⟨b,0,none⟩)::vs).toArray++Array.replicate (fn.ntmps-(Value.pointer (some ⟨b,0,none⟩)::vs).toArray.size) undef,defers:=[] }:Act).tmps.getD 0 undef = .pointer (some ⟨b,0,none⟩):=by rw [jM,Array.getElem?_append_left we];simp
    rw [this]
    refine ⟨_,[],rfl,⟨rfl,?_,λ_ t' cs _=>⟨b,rfl,rfl⟩⟩,rfl⟩
    show 1<=(s0.h 7059000).1
    rw [MW,jE rfl]
    exact qg _
   | succ i =>
    show zY g _ w (match rest[i]? with | some (ag,ds)=>.v ag (ds.map .dat) | none=>.undef) _
    cases ht:rest[i]? with
    | none =>
     have hge:rest.length<=i:=List.getElem?_eq_none_iff.1 ht
     show _=undef
     simp only [jM,Array.getElem?_append]
     rw [jF wi]
     by_cases h2:i+1-(Value.pointer (some ⟨b,0,none⟩)::vs).toArray.size<fn.ntmps-(Value.pointer (some ⟨b,0,none⟩)::vs).toArray.size
     ·rw [Array.getElem?_replicate,jE h2];rfl
     ·rw [Array.getElem?_replicate,jF h2];rfl
    | some x =>
     obtain ⟨v,Fi,h1,h2,hFi⟩:=hat i x ht
     have hlt:i<vs.length:=by have:=(qe.1 ht).1;omega
     have hv:({ tmps:=(Value.pointer (some ⟨b,0,none⟩)::vs).toArray++Array.replicate (fn.ntmps-(Value.pointer (some ⟨b,0,none⟩)::vs).toArray.size) undef,defers:=[] }:Act).tmps.getD (i+1) undef=v:=by simp only [jM,Array.getElem?_append];rw [jE wi];simp [h1]
     rw [hv]
     have hK : ∀x∈Fi,K x:=λx hx=>⟨hFlt x (hFi x hx),λe=>hbF2 (e ▸ hFi x hx)⟩
     obtain ⟨ag,ds'⟩:=x
     cases ag with
     | false =>
      obtain ⟨d,rfl,hr⟩:=h2
      exact ⟨v,[],rfl,⟨Fi,hr,hK⟩,rfl⟩
     | true =>
      obtain ⟨cs,rfl,hr⟩:=h2
      exact ⟨cs,rfl,aV.Kk hr hK⟩
 refine wp_mono (h w.heap.size ⟨w,q,K,Ua⟩ w.heap.size v0 ⟨qg _,rfl,λb hb=>hb.1⟩ _ w R) ?_
 rintro e a' w' ⟨s',h1,R'⟩
 have fin:Mi (fS P) fn.results.toList t w.heap.size v0 d0 es rs s'->a'.defers=[] /\ ∃v,(results fn a'.tmps).run P w' = .ok v w' /\ ∃v' us,Ending.returned v = .returned v'/\Ni (slP P) w.heap.size w' v' rs (λx=>x<w.heap.size)/\w.grownBy w' (some b) /\
    w'.heap[b]? = some (.cells (v0::us).toArray t (0,0))/\aO w' es us []:=by
  rintro ⟨hr,hh⟩
  obtain ⟨v,k1,k2⟩:=UA R' hr
  obtain ⟨g',R''⟩:=R'
  have hobj:=R''.inv.obj 7059000
  rw [show (s'.h 7059000).2 = .box t (.old w.heap.size d0 (some v0)::es.map .dat) from by rw [hh]] at hobj
  obtain ⟨b',vals',p1,p2,p3,p4⟩:=hobj
  obtain ⟨u0,us,e1,⟨F0,_,_,hu0⟩,p5⟩:=p4
  have hu0':u0=v0:=hu0 v0 rfl
  subst hu0'
  have hlive:live s'.h 7059000:=by unfold live;rw [hh];simp
  have hbb:b'=b:=by have:=(R''.q.2.2 b rfl).2 _ _ hh;rw [p1] at this;simpa using this
  subst hbb
  refine ⟨R''.defers,v,k1,v,us,rfl,k2,⟨R''.below.os,R''.below.tape,R''.below.output,R''.below.size,λk hk hne=>(R''.CI k ⟨hk,λe=>hne (by rw [e])⟩).2⟩,?_,VJ p5 hes⟩
  rw [p3,<-e1]
 cases e with
 | normal=>exact fin h1
 | ret=>exact fin h1
 | exit id=>exact h1.elim
 | goto l=>exact h1.elim
 | panic c=>exact h1.elim
 | outgrown=>exact h1.elim
def aFv(T:Sa)(vars:List ResultVar)(t:TypeId)(es:List D)(s:St):Prop:=
 ∃i ver,HF T s vars=some [(false,[.bp i ver 0])]/\s.h i=(ver,.box t (es.map .dat))
theorem TE{g:Gh}{h:Heap}{w:World}:∀{es:List D} {j:List Value},aV g h w (es.map .dat) j->∃G,aO w es j G/\∀b∈G,g.S b
 |[],j,hc=>⟨[],by simp only[aO];exact⟨hc,trivial⟩,we⟩
 |d::es,j,hc=>by obtain⟨v,C,rfl,⟨F,h1,h2⟩,h3⟩:=hc;obtain⟨G,h4,h5⟩:=TE h3;refine⟨F++G,by simp only[aO];exact⟨v,C,F,G,rfl,rfl,h1,h4⟩,λb hb=> ?_⟩;rcases qP.1 hb with hb|hb;(exact h2 b hb);·exact h5 b hb
theorem aBy {P : Program} {f : FuncId} {fn : Func} {c : Code} {t : TypeId} {es : List D} {args : List (Bool × List D)} {N : Nat} {vars : List ResultVar} (hf : P.funcs[f]? = some fn) (hb : fn.body = some c) (hN : fn.ntmps = N) (hv : fn.results.toList = vars) (hnm : (fn.name == "runtime.NumGoroutine") = false) (hn : args.length <= N)
  (h : ∀(base:Nat) (w0:W0),SW P base w0 N c (init args) (aft P base w0 N (aFv (fS P) vars t es) [])):kU P f args [(false,[.edit (.newb t es)])]:=by
 subst hN hv
 refine .inr (.inl ⟨.newb t es,rfl,⟨fn,c,hf,hb,hnm⟩,λw vs Fa ha => ?_⟩)
 obtain ⟨hlen,hat⟩:=args_at ha
 have hlen':vs.size=args.length:=by simpa using hlen
 refine calls_of_wp hf hb ?_
 have hFlt:=KW ha
 have R:=U6 (P:=P) (fn:=fn) ha hn
 refine wp_mono (h w.heap.size ⟨w,⟨λb=>b∈Fa,w.heap.size,none,slP P⟩,noK,Ua⟩ _ w R) ?_
 rintro e a' w' ⟨s',h1,g',R'⟩
 have fin:aFv (fS P) fn.results.toList t es s'->a'.defers=[] /\ ∃v,(results fn a'.tmps).run P w' = .ok v w'/\Below w.heap.size w w' /\ ∃b vals G,Ending.returned v = .returned (.pointer (some ⟨b,0,none⟩))/\w.heap.size<=b /\
   w'.heap[b]? = some (.cells vals t (0,0))/\aO w' es vals.toList G/\b∉G /\ ∀x∈G,(x∈Fa\/w.heap.size<=x)/\x<w'.heap.size:=by
  rintro ⟨i,ver,hg,hh⟩
  have hobj:=R'.inv.obj i
  rw [show (s'.h i).2 = .box t (es.map .dat) from by rw [hh]] at hobj
  obtain ⟨b,vals,p1,p2,p3,p4⟩:=hobj
  obtain ⟨G,p5,p6⟩:=TE p4
  have hlive:live s'.h i:=by unfold live;rw [hh];simp
  have hfb:w.heap.size<=b:=by have h1:=R'.q.2.1;have h2:(⟨w,⟨λb=>b∈Fa,w.heap.size,none,slP P⟩,noK,Ua⟩:W0).Q.fb=w.heap.size:=rfl;omega
  obtain ⟨vs,k1,k2,k3⟩:=Gr R' hg
  have hrun:=Mb (P:=P) (w:=w') (λx=>match x with | .tmp t=>(pure (a'.tmps.getD t undef):Sem Value) | .cell p t=>(do loadVar t (<-asAddr (a'.tmps.getD p undef)):Sem Value)) fn.results.toList vs (by rw [k1]) k3
  have hrun':(results fn a'.tmps).run P w' = .ok (if h:vs.toArray.size=1 then vs.toArray[0] else .tuple vs.toArray) w':=by unfold results;rw [<-Array.toArray_toList (xs:=fn.results)];rw [List.mapM_toArray];simp only [qs,Sem.run_map,qu];exact (congrArg (λr:Result (List Value)=>(r.andThen λa w'=>Result.ok a.toArray w').andThen λa w'=>Result.ok (if h:a.size=1 then a[0] else Value.tuple a) w') hrun).trans rfl
  obtain ⟨u,vs',rfl,⟨u',us,e1,m1,m2⟩,m3⟩:=k2
  have m3':vs'=[]:=m3
  subst m3'
  simp only [List.cons.injEq] at e1
  obtain ⟨rfl,_⟩:=e1
  obtain ⟨b2,q1,q2⟩:=m1.2.2 (by rw [hh]) t (es.map .dat) (by rw [hh])
  have hbb:b2=b:=by rw [p1] at q1;simp at q1;exact q1.symm
  subst hbb
  refine ⟨R'.defers,u,hrun',R'.below,b2,vals,G,by rw [q2],hfb,p3,p5,λhx=>R'.inv.mtb i b2 hlive (by rw [p1];rfl) (p6 _ hx),λx hx=>⟨?_,R'.inv.S_lt x (p6 x hx)⟩⟩
  rcases jR x w.heap.size with hlt | hge
  ·exact .inl (R'.q.1 x (R'.inv.S_old x (p6 x hx) hlt))
  ·exact .inr hge
 cases e with
 | normal=>exact fin h1
 | ret=>exact fin h1
 | exit id=>exact h1.elim
 | goto l=>exact h1.elim
 | panic c=>exact h1.elim
 | outgrown=>exact h1.elim
def SC.clean(base:Nat):SC->Prop
 | .dat d=>d.flat=true
 | .old B _ _=>B<=base
 | .exa _ _ _=>False
 |_=>True
def SV.clean(base:Nat):SV->Prop
 | .v _ j=>∀c∈j,SC.clean base c
 | .tup C=>∀x∈C,∀c∈x.2,SC.clean base c
 |_=>True
def FQ.clean(base:Nat):FQ->Prop
 | .none=>True
 | .box _ j=>∀c∈j,SC.clean base c
 | .row _ _ _ C=>C=true
 | .pin _ _ _=>False
section
variable {P:Program}{base N:Nat}{w0:W0}{w:World}{g:Gh}{s:St}{a:Act}
theorem XR{Q:Exit->Act->World->Prop}{ops:Array Oper}{K:St->Prop}(m:Nat):∀(l:List Oper) (i:Nat) {s:St} {a:Act} {w:World},(ops.toList.drop i).take l.length=l->Rel P base w0 N s a w->uX P (fS P) N ops l s K->
  (∀s' I w',K s'->Rel P base w0 N s' I w'->wpOps P ops Q (List.range' (i+l.length) m) I w')->wpOps P ops Q (List.range' i (l.length+m)) a w
 |[],i,s,a,w,C,R,h,hq=>by simpa using hq s a w h R
 |o::l,i,s,a,w,C,R,h,hq=>by
  rw[show(o::l).length+m=(l.length+m)+1 from by simp;omega,List.range'_succ,wpOps_cons]
  have J:ops[i]? =some o:=by
   have:((ops.toList.drop i).take (o::l).length)[0]? =some o:=by rw[C];rfl
   rw[List.getElem?_take]at this
   simp at this
   exact this
  have U:(ops.toList.drop (i+1)).take l.length=l:=by
   have h1:(ops.toList.drop i)=o::ops.toList.drop (i+1):=by
    have j:i<ops.toList.length:=by simpa using(qm.1 J).1
    rw[qX j]
    have:ops.toList[i]? =some o:=by simpa using J
    rw[qF j]at this
    simp at this
    simp[this]
   rw[h1]at C
   simpa using C
  refine wpOp_mono ?_ (Ug J R h)
  rintro I w' ⟨s',k1,k2⟩
  refine XR m l (i+1) U k2 k1 λs2 a2 w2 h2 R2=> ?_
  have:=hq s2 a2 w2 h2 R2
  rwa [show i+(o::l).length=i+1+l.length from by simp;omega]at this
def aFQ(s:St):Operand->SV
 | .tmp t=>s.t t
 | .const c=>cst c
 | .func f=>.v false [.dat (.fn f [])]
 | .global _=>.unk
theorem aAu(R:oN P base w0 N g s a w [])(x:Operand):zY g s.h w (aFQ s x) (a.eval x):=by
 cases x with
 |tmp t=>exact R.tmp t
 |const c=>exact Y0 c g s.h w
 |func f=>exact⟨_,[],rfl,⟨[],jk,we⟩,rfl⟩
 |global j=>trivial
def aEH(s:St)(as:List Operand):St:=
 { t:=λi=>match as[i]? with|some x=>aFQ s x|none=>.undef,h:=s.h,fr:=λi=>if i<10000 then s.t i else s.fr (i-10000) }
def aCX(j:W0)(a:Act)(i:Nat):Value:=if i<10000 then a.tmps.getD i undef else j.fv (i-10000)
def aD7(s:St)(d:Nat)(sv:SV):St:=
 { t:=λi=>if i=d then sv else if i<10000 then s.fr i else .unk,h:=s.h,fr:=λi=>s.fr (i+10000) }
theorem aB8(j:W0)(a:Act)(i:Nat):aCX j a (i+10000)=j.fv i:=by
 unfold aCX
 have h1:¬i+10000<10000:=by omega
 have h2:i+10000-10000=i:=by omega
 rw[jF h1,h2]
theorem aBP(s:St)(as:List Operand)(i:Nat):(aEH s as).t i=match as[i]? with|some x=>aFQ s x|none=>.undef:=rfl
theorem aEN(s:St)(as:List Operand)(i:Nat):(aEH s as).h i=s.h i:=rfl
theorem Y4(s:St)(as:List Operand)(i:Nat):(aEH s as).fr i=if i<10000 then s.t i else s.fr (i-10000):=rfl
theorem aBl(s:St)(d:Nat)(sv:SV)(i:Nat):(aD7 s d sv).t i=if i=d then sv else if i<10000 then s.fr i else .unk:=rfl
theorem aDV(s:St)(d:Nat)(sv:SV)(i:Nat):(aD7 s d sv).h i=s.h i:=rfl
theorem Yq(s:St)(d:Nat)(sv:SV)(i:Nat):(aD7 s d sv).fr i=s.fr (i+10000):=rfl
theorem St.aBz(s:St)(t:Nat)(v:SV)(i:Nat):(s.IV t v).fr i=s.fr i:=rfl
theorem St.aB3(s:St)(t:Nat)(v:Nat×FQ)(i:Nat):(s.fQ t v).fr i=s.fr i:=rfl
def MC:List (Bool×List SC)->SV
 |[(j,C)]=>.v j C
 |l=>.tup l
def VM(P:Program)(T:Sa)(vars:List ResultVar)(N:Nat)(ops:Array Oper)(n d:Nat)(K:St->Prop)(s:St):Prop:=
 ∃l,HF T s vars=some l/\uX P T N ops (ops.toList.drop (n+1)) (aD7 s d (MC l)) K
set_option maxRecDepth 20000 in
theorem Sd {Z:St->Prop} {kf:List Fr} {id n f d N':Nat} {ops:Array Oper} {o:Oper} {as:Array Operand} {ts:Array TypeId} {s1:St} {fn:Func} {c:Code} {vars:List ResultVar}
  (ho:ops.toList[n]? = some o) (hop:o.op = .call { callee:=.value (.func f),args:=as,argTypes:=ts }) (hg:o.guard=none) (hd:o.dst=some d) (hdN:d<N)
  (hf : P.funcs[f]? = some fn) (hb : fn.body = some c) (hN : fn.ntmps = N') (hv : fn.results.toList = vars) (hnm : (fn.name == "runtime.NumGoroutine") = false) (hn : as.toList.length <= N')
  (h1:uX P (fS P) N ops (ops.toList.take n) s (Is s1))
  (h : ∀fv,SW P base { w0 with fv:=fv } N' c (aEH s1 as.toList) (aft P base { w0 with fv:=fv } N' (VM P (fS P) vars N ops n d (λs3=>aft P base w0 N Z kf .normal s3)) [])) :
  SW P base w0 N (.region id ops false) s (aft P base w0 N Z kf):=by
 subst hN hv
 intro a w R
 refine wp_region ?_
 have hlt:n<ops.toList.length:=(qe.1 ho).1
 have hoi:ops[n]? = some o:=by simpa using ho
 have hsz:ops.size=ops.toList.length:=by simp
 have htl:(ops.toList.take n).length=n:=by rw [qV];omega
 rw [List.range_eq_range',hsz,show ops.toList.length=(ops.toList.take n).length+((ops.toList.drop (n+1)).length+1) from by rw [htl,qW];omega]
 refine XR _ (ops.toList.take n) 0 (by rw [htl];simp) R h1 λs' a' w' hs R' => ?_
 rw [show s'=s1 from hs] at R'
 rw [htl,qp,List.range'_succ,wpOps_cons]
 obtain ⟨g,R'⟩:=R'
 have hmid:wpOp P ops (λe a' w'=>∃s',aft P base w0 N Z kf e s'/\Rel P base w0 N s' a' w') n (λa2 w2=>∃s2,uX P (fS P) N ops (ops.toList.drop (n+1)) s2 (λs3=>aft P base w0 N Z kf .normal s3)/\Rel P base w0 N s2 a2 w2) a' w':=by
  unfold wpOp
  simp only [hoi]
  rw [jE (by simp [Region.wanted,hg])]
  refine .inl ?_
  unfold Oper.wp
  have hrun:(execOp a'.eval o).run P w' = .ok (.enter f (as.map a'.eval)) w':=by simp [execOp,hop,resolve,Act.eval,Deferred.ofValue,invoke,I5 ⟨fn,c,hf,hb,hnm⟩]
  rw [hrun]
  unfold Oper.upon
  refine calls_of_wp hf hb ?_
  let fv:=aCX w0 a'
  have hvl:(as.map a'.eval).size=as.toList.length:=by simp
  have R2:oN P base { w0 with fv:=fv } fn.ntmps g (aEH s1 as.toList) { tmps:=as.map a'.eval++Array.replicate (fn.ntmps-(as.map a'.eval).size) undef,defers:=[] } w' []:=by
   refine ⟨rfl,jh,R'.below,R'.q,R'.CI,R'.inv,λi => ?_,R'.lab,λi => ?_⟩
   ·rw [aBP]
    cases hx:as.toList[i]? with
    | none =>
     have hge:as.toList.length<=i:=List.getElem?_eq_none_iff.1 hx
     show _=undef
     simp only [jM,Array.getElem?_append]
     rw [jF wi]
     by_cases h2:i-(as.map a'.eval).size<fn.ntmps-(as.map a'.eval).size
     ·rw [Array.getElem?_replicate,jE h2];rfl
     ·rw [Array.getElem?_replicate,jF h2];rfl
    | some x =>
     have hil:i<as.toList.length:=(qe.1 hx).1
     have hv:(as.map a'.eval++Array.replicate (fn.ntmps-(as.map a'.eval).size) undef).getD i undef=a'.eval x:=by
      simp only [jM,Array.getElem?_append]
      rw [jE wi,Array.getElem?_map]
      have:as[i]? = some x:=by simpa using hx
      rw [this];rfl
     rw [show ({ tmps:=as.map a'.eval++Array.replicate (fn.ntmps-(as.map a'.eval).size) undef,defers:=[] }:Act).tmps.getD i undef=a'.eval x from hv]
     exact aAu R' x
   ·rw [Y4];show zY g s1.h w' _ (aCX w0 a' i);unfold aCX;split;(exact R'.tmp i);·exact R'.frm _
  refine wp_mono (h fv _ w' ⟨g,R2⟩) ?_
  rintro e a2 w2 ⟨s2,k1,g2,R3⟩
  have fin:VM P (fS P) fn.results.toList N ops n d (λs3=>aft P base w0 N Z kf .normal s3) s2->a2.defers=[] /\ ∃v,(results fn a2.tmps).run P w2 = .ok v w2 /\
    ∃s2,uX P (fS P) N ops (ops.toList.drop (n+1)) s2 (λs3=>aft P base w0 N Z kf .normal s3)/\Rel P base w0 N s2 (a'.put o.dst v) w2:=by
   rintro ⟨l,hgt,hrest⟩
   obtain ⟨vs,m1,m2,m3⟩:=Gr R3 hgt
   have hrun:=Mb (P:=P) (w:=w2) (λx=>match x with | .tmp t=>(pure (a2.tmps.getD t undef):Sem Value) | .cell p t=>(do loadVar t (<-asAddr (a2.tmps.getD p undef)):Sem Value)) fn.results.toList vs (by rw [m1]) m3
   have hrun':(results fn a2.tmps).run P w2 = .ok (if h:vs.toArray.size=1 then vs.toArray[0] else .tuple vs.toArray) w2:=by unfold results;rw [<-Array.toArray_toList (xs:=fn.results)];rw [List.mapM_toArray];simp only [qs,Sem.run_map,qu];exact (congrArg (λr:Result (List Value)=>(r.andThen λa w'=>Result.ok a.toArray w').andThen λa w'=>Result.ok (if h:a.size=1 then a[0] else Value.tuple a) w') hrun).trans rfl
   refine ⟨R3.defers,_,hrun',_,hrest,?_⟩
   have hres:zY g2 s2.h w2 (MC l) (if h:vs.toArray.size=1 then vs.toArray[0] else .tuple vs.toArray):=by
    match l,vs,m2 with
    | [],[],m2=>exact ⟨#[],rfl,rfl⟩
    | [(ag,cs)],[v],m2 =>
     obtain ⟨v',vs',e1,e2,e3⟩:=m2
     simp only [List.cons.injEq] at e1
     obtain ⟨rfl,rfl⟩:=e1
     exact e2
    | [(ag,cs)],v::v'::vs,m2 =>
     obtain ⟨v1,vs1,e1,e2,e3⟩:=m2
     simp only [List.cons.injEq] at e1
     obtain ⟨rfl,rfl⟩:=e1
     cases e3
    | x::y::l,[v],m2 =>
     obtain ⟨v1,vs1,e1,e2,v2,vs2,e3,_⟩:=m2
     simp only [List.cons.injEq] at e1
     rw [e3] at e1
     simp at e1
    | x::y::l,v::v'::vs,m2 =>
     have hne : ¬(v::v'::vs).toArray.size=1:=by simp
     rw [dif_neg hne]
     exact ⟨_,rfl,by simpa using m2⟩
    | [],v::vs,m2=>cases m2
    | x::l,[],m2=>obtain ⟨v1,vs1,e1,_⟩:=m2;cases e1
   generalize (if h:vs.toArray.size=1 then vs.toArray[0] else Value.tuple vs.toArray)=v at hres
   refine ⟨g2,by simp [Act.put,hd,R'.defers],by simp [Act.put,hd,R'.size],R3.below,R3.q,R3.CI,R3.inv,λi => ?_,R3.lab,λi => ?_⟩
   ·rw [aBl,hd,Va R'.size hdN];by_cases hi:i=d;(rw [jE hi,jE hi];exact hres);·rw [jF hi,jF hi];by_cases h1:i<10000;(rw [jE h1];have:=R3.frm i;rw [show ({ w0 with fv:=fv }:W0).fv i=a'.tmps.getD i undef from by show aCX w0 a' i=_;unfold aCX;rw [jE h1]] at this;exact this);·rw [jF h1];trivial
   ·rw [Yq];have h:=R3.frm (i+10000);have e:({ w0 with fv:=fv }:W0).fv (i+10000)=w0.fv i:=aB8 w0 a' i;rw [e] at h;exact h
  cases e with
  | normal=>exact fin k1
  | ret=>exact fin k1
  | exit id=>exact k1.elim
  | goto l=>exact k1.elim
  | panic c=>exact k1.elim
  | outgrown=>exact k1.elim
 refine wpOp_mono (λa2 w2 R2 => ?_) hmid
 obtain ⟨s2,k1,k2⟩:=R2
 exact UD (Q:=λe a' w'=>∃s',aft P base w0 N Z kf e s'/\Rel P base w0 N s' a' w') (ops.toList.drop (n+1)) (n+1) rfl k2 k1 λs' a' w' h1 h2=>⟨s',h1,h2⟩
def aIu:=PLift.up (qI @aBP (qI @aEN (qI @Y4 (qI @aBl (qI @aDV (qI @Yq (qI @St.aBz @St.aB3)))))))
theorem LI:type_of% aIu.down:=aIu.down
end
def aDx(h:Heap)(C:List Nat)(i ver:Nat)(e:TypeId)(sz:Nat)(xs:List (List D))(j:Nat)(x:List D)(off K:Nat)(e':TypeId)(sz':Nat)(ys:List (List D))(u:Value):Heap:=λl=>
 if l=i then(ver,.row e sz (xs.set j (x.set off (.val u))) true)else if l=K then((h K).1+1,.row e' sz' ys true)else if l=7058000 then((h 7058000).1+1,.pin K ((h K).1+1) u)else if l∈C then h l else((h l).1,.none)
def Vb(s:St)(I C:List Nat)(i ver:Nat)(e:TypeId)(sz:Nat)(xs:List (List D))(j:Nat)(x:List D)(off K:Nat)(e':TypeId)(sz':Nat)(ys:List (List D))(u:Value):St:=
 { t:=λt=>if t∈I then s.t t else .unk,h:=aDx s.h C i ver e sz xs j x off K e' sz' ys u }
theorem VT(s:St)(C I:List Nat)(i ver:Nat)(e:TypeId)(sz:Nat)(xs:List (List D))(j:Nat)(x:List D)(off K:Nat)(e':TypeId)(sz':Nat)(ys:List (List D))(u:Value)(t:Nat):(Vb s C I i ver e sz xs j x off K e' sz' ys u).t t=if t∈C then s.t t else .unk:=rfl
theorem aAK(s:St)(I C:List Nat)(i ver:Nat)(e:TypeId)(sz:Nat)(xs:List (List D))(j:Nat)(x:List D)(off K:Nat)(e':TypeId)(sz':Nat)(ys:List (List D))(u:Value)(l:Nat):(Vb s I C i ver e sz xs j x off K e' sz' ys u).h l=
  if l=i then(ver,.row e sz (xs.set j (x.set off (.val u))) true)else if l=K then((s.h K).1+1,.row e' sz' ys true)else if l=7058000 then((s.h 7058000).1+1,.pin K ((s.h K).1+1) u)else if l∈C then s.h l else((s.h l).1,.none):=rfl
section
variable {P:Program}{base N:Nat}{w0:W0}{w:World}{g:Gh}{s:St}{a:Act}
theorem cH.at_{L:TL}{ds:List D}{ts:Lb}{vs:List Value}{F:List Nat}(h:cH L w ds ts vs F){off:Nat}{d:D}(hd:ds[off]? =some d):
  ∃I v v3 C J F3,vs=I++v::v3/\I.length=off/\F=C++(J++F3)/\FO L w d (Sh.lab (ts.drop off)) v J/\∀(U:D) (v':Value) (j:List Nat),FO L w U (Sh.lab (ts.drop off)) v' j->cH L w (ds.set off U) ts (I++v'::v3) (C++(j++F3)):=by
 induction ds generalizing ts vs F off with
 |nil=>simp at hd
 |cons d0 ds ih=>
  simp only[cH]at h
  obtain⟨v,vs',C,J,rfl,rfl,h3,h4⟩:=h
  cases off with
  |zero=>
   simp at hd
   subst hd
   refine⟨[],v,vs',[],C,J,rfl,rfl,rfl,by simpa using h3,λU v' j h'=> ?_⟩
   simp only[List.set_cons_zero,cH,jO]
   exact⟨v',vs',j,J,rfl,rfl,by simpa using h',h4⟩
  |succ off=>
   obtain⟨I,v2,v3,G1,G2,G3,rfl,hl,rfl,k1,k2⟩:=ih h4 (by simpa using hd)
   rw[List.drop_tail]at k1 k2
   refine⟨v::I,v2,v3,C++G1,G2,G3,rfl,by simp[hl],we,k1,λU v' j h'=> ?_⟩
   simp only[List.set_cons_succ,cH]
   exact⟨v,I++v'::v3,C,G1++(j++G3),we,we,h3,k2 U v' j h'⟩
theorem WX{g':Gh}{h C:Heap}{B:Option Nat}(hB:∀b,B=some b->base<=b)(hlt:∀b,g.S b->some b≠B->g'.S b)(hval:∀i,(C i).1=(h i).1->(C i).2≠ .none->g'.val i=g.val i)(hver:∀i,(h i).1<=(C i).1)
  (hrow:∀i e sz xs dp,(C i).1=(h i).1->(C i).2=.row e sz xs dp->∃J I,(h i).2=.row e sz J I)(hbox:∀i t cs,(C i).1=(h i).1->(C i).2=.box t cs->∃cs0,(h i).2=.box t cs0)
  {c:SC}{v:Value}(hc:CF g h w c v)(hcl:SC.clean base c):CF g' C w c v:=by
 have cap:∀{c:Nat×Nat×Nat} {v:Value},Ma g h c v->Ma g' C c v:=by
  rintro c v ⟨h1,h2⟩
  refine⟨qh h1 (hver _),λhv t cs hx=> ?_⟩
  have e1:(C c.1).1=(h c.1).1:=by have:=hver c.1;omega
  obtain⟨cs0,hx0⟩:=hbox _ _ _ e1 hx
  rw[hval _ e1 (by rw[hx];simp)]
  exact h2 wi t cs0 hx0
 have caps:∀{cs:List (Nat×Nat×Nat)} {vs:List Value},GA g h cs vs->GA g' C cs vs:=by
  intro cs
  induction cs with
  |nil=>intro vs h;exact h
  |cons c cs ih=>rintro vs ⟨v,vs',rfl,h1,h2⟩;exact⟨v,vs',rfl,cap h1,ih h2⟩
 have row:∀{i ver:Nat},ver<=(h i).1->(C i).1=ver->∀{e sz xs dp},(C i).2=.row e sz xs dp->(h i).1=ver/\g'.val i=g.val i/\∃J I,(h i).2=.row e sz J I:=by
  intro i ver h1 hv e sz xs dp hr
  have e1:(C i).1=(h i).1:=by have:=hver i;omega
  exact⟨wi,hval _ e1 (by rw[hr];simp),hrow _ _ _ _ _ e1 hr⟩
 cases c with
 |dat d=>
  obtain⟨F',h1,h2⟩:=hc
  have:=Ml h1 hcl
  subst this
  exact⟨[],h1,we⟩
 |nil=>exact hc
 |row i ver=>
  obtain⟨h0,h1,h2⟩:=hc
  refine⟨h0,qh h1 (hver _),λhv e sz xs dp hr=> ?_⟩
  obtain⟨e1,e2,J,I,U⟩:=row h1 hv hr
  rw[e2];exact h2 e1 _ _ _ _ U
 |bp i ver off=>exact⟨hc.1,cap hc.2⟩
 |rp i ver j off=>
  obtain⟨h0,h1,h2⟩:=hc
  refine⟨h0,qh h1 (hver _),λhv e sz xs dp hr=> ?_⟩
  obtain⟨e1,e2,J,I,U⟩:=row h1 hv hr
  rw[e2];exact h2 e1 _ _ _ _ U
 |clo f cs=>obtain⟨vs,h1,h2⟩:=hc;exact⟨vs,h1,caps h2⟩
 |old B0 d u=>
  obtain⟨F',h1,h2,h3⟩:=hc
  have hB0:B0<=base:=hcl
  exact⟨F',h1,λb hm=>⟨hlt b (h2 b hm).1 λe=>by have:=hB b e.symm;have:=(h2 b hm).2;omega,(h2 b hm).2⟩,h3⟩
 |part i ver lo n=>
  obtain⟨h0,h1,h2⟩:=hc
  refine⟨h0,qh h1 (hver _),λhv e sz xs dp hr=> ?_⟩
  obtain⟨e1,e2,J,I,U⟩:=row h1 hv hr
  rw[e2];exact h2 e1 _ _ _ _ U
 |exa W d x=>exact hcl.elim
theorem aAk{kt kh:List Nat}{i ver:Nat}{e:TypeId}{sz:Nat}{xs:List (List D)}{j:Nat}{x:List D}{off K:Nat}{e':TypeId}{sz':Nat}{ys:List (List D)}(R:oN P base w0 N g s a w [])
  (hi:s.h i=(ver,.row e sz xs true))(hj:xs[j]? =some x)(ho:x[off]? =some (.sl ys))(hl:lab ((slP P e).drop off)=some (e',sz'))(hL:w0.Q.L=slP P)(hlent:w0.Q.lent=none\/(7059000∈kh/\i≠7059000/\K≠7059000))(hK0:∀b,w0.K b->b<base)
  (hiK:i≠K)(hi0:i≠7058000)(hK1:K≠7058000)(hkt:∀t∈kt,SV.clean base (s.t t))(hkh:∀l∈kh,FQ.clean base (s.h l).2):
  ∃u,Rel P base w0 N (Vb s kt kh i ver e sz xs j x off K e' sz' ys u) a w:=by
 have hi2:(s.h i).2=.row e sz xs true:=by rw[hi]
 have hob:=R.inv.obj i
 rw[hi2]at hob
 obtain⟨cells,p1,p2,p3,p4,p5⟩:=hob
 have hof:=p5 rfl
 have hlive:live s.h i:=by unfold live;rw[hi2];simp
 have hdeep:kQ s.h i:=⟨e,sz,xs,hi2⟩
 obtain⟨v1,v2,v3,F1,F2,F3,rfl,hF,hl1,hr1,hr2,hr3⟩:=p3.at_ p2 hj
 have hgL:g.Q.L=slP P:=R.lab.1.trans hL
 obtain⟨c1,u,c3,Fa,Fb,Fc,rfl,hc1,rfl,hu,sG⟩:=cH.at_ (show cH g.Q.L w x (g.Q.L e) v2 F2 from hr2) ho
 rw[hgL,hl]at hu
 simp only[FO]at hu
 obtain⟨cells',G,q1,q2,rfl,q3⟩:=hu
 have hone:u.oneCell'=true:=by rcases q1.2 with⟨rfl,_⟩|⟨_,_,_,rfl,_⟩<;>rfl
 have hset':=sG (.val u) u [] (by unfold FO;exact⟨⟨rfl,hone⟩,rfl⟩)
 have hnd:=hof.1
 rw[hF]at hnd
 have hBin:∀b,u.ownBlock=some b->b∈g.fp i:=λb hb=>by rw[hF,hb];simp
 have hGin:∀b∈G,b∈g.fp i:=λb hb=>by rw[hF];simp[hb]
 have hBbase:∀b,u.ownBlock=some b->base<=b:=λb hb=>(hof.2 b (hBin b hb)).1
 let FI:=F1++((Fa++([]++Fc))++F3)
 have hFI:∀b∈FI,b∈g.fp i:=λb hb=>by rw[hF];simp only[FI,qP,qO,false_or]at hb⊢;rcases hb with hb|((hb|hb)|hb);(exact .inl hb);(exact .inr (.inl (.inl hb)));(exact .inr (.inl (.inr (.inr hb))));·exact .inr (.inr hb)
 have hsub:List.Sublist FI (F1++((Fa++((u.ownBlock.toList++G)++Fc))++F3)):=
  (List.Sublist.refl _).append (((List.Sublist.refl _).append ((List.nil_sublist _).append (List.Sublist.refl _))).append (List.Sublist.refl _))
 have hBG:(u.ownBlock.toList++G).Nodup:=by have:=(qt.1 (qt.1 (qt.1 (qt.1 hnd).2.1).1).2.1).1;exact this
 have hFIB:∀b∈FI,b∉u.ownBlock.toList++G:=by intro b hb I;simp only[qt,qP]at hnd;simp only[FI,qP,qO,false_or]at hb;simp only[qP]at I;grind
 have hFIB1:∀b∈FI,u.ownBlock≠some b:=λb hb e0=>hFIB b hb (by rw[e0];simp)
 have hGB:∀b∈G,u.ownBlock≠some b:=λb hb e0=>by rw[e0]at hBG;simp at hBG;exact hBG.1 hb
 have hFIG:∀b∈FI,b∉G:=λb hb I=>hFIB b hb (by simp[I])
 have huB:Ee u=u.ownBlock:=uM q1
 let S':Nat->Prop:=λb=>g.S b/\u.ownBlock≠some b
 let g':Gh:={ val:=λl=>if l=K then u else if l=7058000 then undef else g.val l,fp:=λl=>if l=i then FI else if l=K then G else g.fp l,S:=S',Q:=g.Q }
 let h':=aDx s.h kh i ver e sz xs j x off K e' sz' ys u
 have h'i:h' i=(ver,.row e sz (xs.set j (x.set off (.val u))) true):=jE rfl
 have h'K:h' K=((s.h K).1+1,.row e' sz' ys true):=by show(if K=i then _ else _)=_;rw[jF (Ne.symm hiK),jE rfl]
 have h'0:h' 7058000=((s.h 7058000).1+1,.pin K ((s.h K).1+1) u):=by show(if 7058000=i then _ else _)=_;rw[jF (Ne.symm hi0),jF (Ne.symm hK1),jE rfl]
 have h'n:∀l,l≠i->l≠K->l≠7058000->h' l=if l∈kh then s.h l else((s.h l).1,.none):=λl U C a3=>by show(if l=i then _ else _)=_;rw[jF U,jF C,jF a3]
 have vi:g'.val i=g.val i:=by show(if i=K then _ else _)=_;rw[jF hiK,jF hi0]
 have vK:g'.val K=u:=jE rfl
 have v0:g'.val 7058000=undef:=by show(if 7058000=K then _ else _)=_;rw[jF (Ne.symm hK1),jE rfl]
 have vn:∀l,l≠K->l≠7058000->g'.val l=g.val l:=λl U C=>by show(if l=K then _ else _)=_;rw[jF U,jF C]
 have fi:g'.fp i=FI:=jE rfl
 have fK:g'.fp K=G:=by show(if K=i then _ else _)=_;rw[jF (Ne.symm hiK),jE rfl]
 have fn:∀l,l≠i->l≠K->g'.fp l=g.fp l:=λl U C=>by show(if l=i then _ else _)=_;rw[jF U,jF C]
 have hverle:∀l,(s.h l).1<=(h' l).1:=λl=>by by_cases U:l=i;(subst U;rw[h'i,hi];exact qg _);by_cases C:l=K;(subst C;rw[h'K];exact Nat.le_succ _);by_cases a3:l=7058000;(subst a3;rw[h'0];exact Nat.le_succ _);rw[h'n l U C a3];split<;>exact qg _
 have hnK:∀l,(h' l).1=(s.h l).1->l≠K/\l≠7058000:=λl hv=>by refine⟨λe0=> ?_,λe0=> ?_⟩;(subst e0;rw[h'K]at hv;simp at hv);·subst e0;rw[h'0]at hv;simp at hv
 have hcl:∀{c:SC} {v:Value},CF g s.h w c v->SC.clean base c->CF g' h' w c v:=λh1 h2=>by refine WX (g':=g') (B:=u.ownBlock) hBbase (λb hb hne=>⟨hb,λe0=>hne e0.symm⟩) (λl hv _=>vn l (hnK l hv).1 (hnK l hv).2) hverle (λl e1 sz1 xs1 dp1 hv hr=> ?_) (λl t cs hv hx=> ?_) h1 h2;(obtain⟨C,a3⟩:=hnK l hv;by_cases U:l=i;(subst U;rw[h'i]at hr;cases hr;exact⟨xs,true,hi2⟩);·rw[h'n l U C a3]at hr;split at hr;(exact⟨xs1,dp1,hr⟩);·cases hr);·obtain⟨C,a3⟩:=hnK l hv;by_cases U:l=i;(subst U;rw[h'i]at hx;cases hx);·rw[h'n l U C a3]at hx;split at hx;(exact⟨cs,hx⟩);·cases hx
 have hcls:∀{cs0:List SC} {us:List Value},aV g s.h w cs0 us->(∀c∈cs0,SC.clean base c)->aV g' h' w cs0 us:=by
  intro cs0
  induction cs0 with
  |nil=>intro us h _;exact h
  |cons c cs0 ih=>
   rintro us ⟨v,vs',rfl,h1,h2⟩ J
   exact⟨v,vs',rfl,hcl h1 (J c we),ih h2 λc' hc'=>J c' (by simp[hc'])⟩
 have hlv:∀l,live h' l->l≠K->l≠7058000->live s.h l:=λl hl C a3=>by by_cases U:l=i;(subst U;exact hlive);·unfold live at hl⊢;rw[h'n l U C a3]at hl;split at hl;(exact hl);·exact absurd rfl hl
 have hdp:∀l,kQ h' l->l≠K->kQ s.h l:=λl hd C=>by obtain⟨e1,sz1,xs1,hh⟩:=hd;by_cases U:l=i;(subst U;exact hdeep);by_cases a3:l=7058000;(subst a3;rw[h'0]at hh;cases hh);rw[h'n l U C a3]at hh;split at hh;(exact⟨e1,sz1,xs1,hh⟩);·cases hh
 have fsub:∀l,l≠K->∀b∈g'.fp l,b∈g.fp l:=λl C b hb=>by by_cases U:l=i;(subst U;rw[fi]at hb;exact hFI b hb);·rw[fn l U C]at hb;exact hb
 have hOK:CX base w G:=⟨(qt.1 hBG).2.1,λb hb=>hof.2 b (hGin b hb)⟩
 have hO1:CX base w FI:=⟨hnd.sublist hsub,λb hb=>hof.2 b (hFI b hb)⟩
 have hlent':Qo w0.Q.lent h' g':=by
  intro b hb
  rcases hlent with hn|⟨m1,m2,m3⟩
  ·rw[hn]at hb;cases hb
  ·have e1:h' 7059000=s.h 7059000:=by rw[h'n _ (Ne.symm m2) (Ne.symm m3) wh,jE m1]
   rw[e1,vn _ (Ne.symm m3) wh]
   exact R.q.2.2 b hb
 refine⟨u,g',R.defers,R.size,R.below,⟨R.q.1,R.q.2.1,hlent'⟩,λb hb=>⟨⟨(R.CI b hb).1,λe0=> ?_⟩,(R.CI b hb).2⟩,
  ⟨R.inv.base_le,λb hb hlt=>R.inv.S_old b hb.1 hlt,λb hb=>R.inv.S_lt b hb.1,λl=> ?_,λl b hl hb=> ?_,λl k b hne hl hk hb I=> ?_,λl k hne hl hk b hb I=> ?_,CX.nil _ _,λ_ hx=>absurd hx qO,λ_ _ _ _=>qO,R.inv.fb⟩,λt=> ?_,R.lab,λ_=>trivial⟩
 ·have:=hK0 b hb;have:=hBbase b e0;omega
 ·show Ex base g' h' w l (h' l).2
  by_cases U:l=i
  ·subst U;rw[h'i];refine⟨v1++((c1++u::c3)++v3),?_,?_,?_,?_,λ_=>by rw[fi];exact hO1⟩;(rw[vi,qN];exact p1);(intro y hy;rcases jD hy with hy|rfl;(exact p2 y hy);·rw[qN];exact p2 x (jC hj));(rw[fi];have hjlt:j<xs.length:=(qe.1 hj).1;rw[show xs.set j (x.set off (.val u))=xs.take j++([x.set off (.val u)]++xs.drop (j+1))from by rw[List.set_eq_take_append_cons_drop,jE hjlt];rfl];exact hr1.append (dU.append (dU.one hset') hr3));·rw[fi];exact λb hb=>⟨p4 b (hFI b hb),hFIB1 b hb⟩
  by_cases C:l=K
  ·subst C;rw[h'K];refine⟨cells',?_,q2,?_,?_,λ_=>by rw[fK];exact hOK⟩;(rw[vK];refine⟨q1.1,?_⟩;rcases q1.2 with k|⟨gg,cap,cur,k1,k2,k3⟩;(exact .inl k);·exact .inr ⟨gg,cap,cur,k1,hBbase gg (by rw[k1];rfl),k3⟩);(rw[fK];show oG g.Q.L w ys e' cells' G;rw[hgL];exact q3);·rw[fK];exact λb hb=>⟨p4 b (hGin b hb),hGB b hb⟩
  by_cases a3:l=7058000
  ·subst a3;rw[h'0];exact⟨v0,by rw[h'K];exact qg _,λ_ _ _ _ _ _=>vK⟩
  rw[h'n l U C a3]
  by_cases a4:l∈kh
  ·rw[jE a4]
   have J:=hkh l a4
   have hob:=R.inv.obj l
   cases hh:(s.h l).2 with
   |none=>trivial
   |pin j v u=>rw[hh]at J;exact J.elim
   |box t cells0=>
    rw[hh]at hob J
    obtain⟨b,vals,k1,k2,k3,k4⟩:=hob
    exact⟨b,vals,(vn l C a3).trans k1,k2,k3,hcls k4 J⟩
   |row e1 sz1 xs1 dp1=>
    rw[hh]at hob J
    have hd1:dp1=true:=J
    subst hd1
    obtain⟨cells1,k1,k2,k3,k4,k5⟩:=hob
    refine⟨cells1,by rw[vn l C a3];exact k1,k2,by rw[fn l U C];exact k3,by rw[fn l U C];exact λb hb=>⟨k4 b hb,λe0=>R.inv.dis l i U ⟨e1,sz1,xs1,hh⟩ hdeep b hb (hBin b e0)⟩,by rw[fn l U C];exact k5⟩
  ·rw[jF a4];trivial
 ·by_cases C:l=K;(subst C;rw[vK,huB]at hb;exact λhS=>hS.2 hb);by_cases a3:l=7058000;(subst a3;rw[v0]at hb;simp[undef,Ee]at hb);rw[vn l C a3]at hb;exact λhS=>R.inv.mtb l b (hlv l hl C a3) hb hS.1
 ·have key:∀m,m≠K->live h' m->Ee (g'.val m)=some b->u.ownBlock=some b->False:=λm C hm hmb hu=>by
   by_cases a3:m=7058000
   ·subst a3;rw[v0]at hmb;simp[undef,Ee]at hmb
   rw[vn m C a3]at hmb
   exact R.inv.mtb m b (hlv m hm C a3) hmb (p4 b (hBin b hu))
  by_cases C:l=K
  ·subst C;rw[vK,huB]at hb;exact key k (Ne.symm hne) hk I hb
  by_cases b2:k=K
  ·subst b2;rw[vK,huB]at I;exact key l C hl hb I
  by_cases a3:l=7058000
  ·subst a3;rw[v0]at hb;simp[undef,Ee]at hb
  by_cases b3:k=7058000
  ·subst b3;rw[v0]at I;simp[undef,Ee]at I
  rw[vn l C a3]at hb
  rw[vn k b2 b3]at I
  exact R.inv.inj l k b hne (hlv l hl C a3) (hlv k hk b2 b3) hb I
 ·by_cases C:l=K;(subst C;rw[fK]at hb;by_cases b1:k=i;(subst b1;rw[fi]at I;exact hFIG b I hb);·rw[fn k b1 (Ne.symm hne)]at I;exact R.inv.dis k i b1 (hdp k hk (Ne.symm hne)) hdeep b I (hGin b hb));by_cases b2:k=K;(subst b2;rw[fK]at I;by_cases b1:l=i;(subst b1;rw[fi]at hb;exact hFIG b hb I);·rw[fn l b1 C]at hb;exact R.inv.dis l i b1 (hdp l hl C) hdeep b hb (hGin b I));exact R.inv.dis l k hne (hdp l hl C) (hdp k hk b2) b (fsub l C b hb) (fsub k b2 b I)
 ·rw[VT]
  by_cases ht:t∈kt
  ·rw[jE ht]
   have hsv:=R.tmp t
   have J:=hkt t ht
   cases hx:s.t t with
   |unk=>trivial
   |undef=>rw[hx]at hsv;exact hsv
   |v ag cs0=>
    rw[hx]at hsv J
    cases ag with
    |false=>exact hcls hsv J
    |true=>obtain⟨us,h1,h2⟩:=hsv;exact⟨us,h1,hcls h2 J⟩
   |tup xs=>
    rw[hx]at hsv J
    obtain⟨us,h1,h2⟩:=hsv
    refine⟨us,h1,?_⟩
    revert h2 J
    generalize us.toList=vl
    intro J h2
    clear hx h1
    induction xs generalizing vl with
    |nil=>exact h2
    |cons x xs ih=>
     obtain⟨v,vs',rfl,q1,q2⟩:=h2
     refine⟨v,vs',rfl,?_,ih vs' (λy hy=>J y (by simp[hy])) q2⟩
     obtain⟨ag,cs1⟩:=x
     have hcx:=J (ag,cs1) we
     cases ag with
     |false=>exact hcls q1 hcx
     |true=>obtain⟨us',r1,r2⟩:=q1;exact⟨us',r1,hcls r2 hcx⟩
  ·rw[jF ht];trivial
theorem UJ{c:Code}{Q:Exit->St->Prop}(kt kh:List Nat){i ver:Nat}{e:TypeId}{sz:Nat}{xs:List (List D)}{j:Nat}{x:List D}{off K:Nat}{e':TypeId}{sz':Nat}{ys:List (List D)}
  (hi:s.h i=(ver,.row e sz xs true))(hj:xs[j]? =some x)(ho:x[off]? =some (.sl ys))(hl:lab ((slP P e).drop off)=some (e',sz'))(hL:w0.Q.L=slP P)(hlent:w0.Q.lent=none\/(7059000∈kh/\i≠7059000/\K≠7059000))(C:∀b,w0.K b->b<base)
  (U:i≠K)(J:i≠7058000)(I:K≠7058000)(hkt:∀t∈kt,SV.clean base (s.t t))(hkh:∀l∈kh,FQ.clean base (s.h l).2)
  (h:∀u,SW P base w0 N c (Vb s kt kh i ver e sz xs j x off K e' sz' ys u) Q):SW P base w0 N c s Q:=λa w ⟨g,R⟩=>by
 obtain⟨u,R'⟩:=aAk R hi hj ho hl hL hlent C U J I hkt hkh
 exact h u a w R'
theorem Gho.close{i ver:Nat}{e:TypeId}{sz:Nat}{xs:List (List D)}{j:Nat}{x:List D}{off K vK pv:Nat}{e':TypeId}{sz':Nat}{ys:List (List D)}{u:Value}
  (hi:s.h i=(ver,.row e sz xs true))(hj:xs[j]? =some x)(ho:x[off]? =some (.val u))(hp:s.h 7058000=(pv,.pin K vK u))(hk:s.h K=(vK,.row e' sz' ys true))(hl:lab ((slP P e).drop off)=some (e',sz'))(hL:w0.Q.L=slP P)(hiK:i≠K):
  Gho P base w0 N s ((s.fQ K (vK,.none)).fQ i (ver,.row e sz (xs.set j (x.set off (.sl ys))) true)):=by
 rintro a w ⟨g,R⟩
 have hgL:g.Q.L=slP P:=R.lab.1.trans hL
 have hk2:(s.h K).2=.row e' sz' ys true:=by rw[hk]
 have hob0:=R.inv.obj 7058000
 rw[show(s.h 7058000).2=.pin K vK u from by rw[hp]]at hob0
 have hval:g.val K=u:=hob0.2.2 (by rw[hk]) _ _ _ _ hk2
 obtain⟨J,F,t1,t1b,t2,tS,tF,t3,t4,t5⟩:=R.inv.take hk2
 have T1:mN g { g with S:=J } s.h (sG s.h K ((s.h K).1,.none)) w w:=mN.drop K J t1
 rw[show(s.h K).1=vK from by rw[hk]]at T1 t5
 have U:oN P base w0 N { g with S:=J } (s.fQ K (vK,.none)) a w ([]++F):=R.turn T1 rfl R.below t5
 have hi':(s.fQ K (vK,.none)).h i=(ver,.row e sz xs true):=by rw[St.O4,jF hiK];exact hi
 have I:((s.fQ K (vK,.none)).h i).2=.row e sz xs true:=by rw[hi']
 have hob:=U.inv.obj i
 rw[I]at hob
 obtain⟨cells,p1,p2,p3,p4,p5⟩:=hob
 have hof:=p5 rfl
 have hjlt:j<xs.length:=(qe.1 hj).1
 rcases p1.2 with⟨_,h0⟩|⟨gg,cap,cur,c1,c2,c3,c4⟩
 ·omega
 have hlive:live (s.fQ K (vK,.none)).h i:=by unfold live;rw[I];simp
 have hown:Ee (({ g with S:=J }:Gh).val i)=some gg:=by rw[c1];rfl
 have hdi:kQ (s.fQ K (vK,.none)).h i:=⟨e,sz,xs,I⟩
 obtain⟨v1,v2,v3,F1,F2,F3,rfl,hF,hl1,hr1,hr2,hr3⟩:=p3.at_ p2 hj
 obtain⟨d1,v,d3,Fa,Fb,Fc,rfl,hd1,rfl,hu,hsetc⟩:=cH.at_ (show cH g.Q.L w x (g.Q.L e) v2 F2 from hr2) ho
 have hu':(v=u/\v.oneCell'=true)/\Fb=[]:=by unfold FO at hu;exact hu
 obtain⟨⟨rfl,_⟩,rfl⟩:=hu'
 have hset':=hsetc (.sl ys) v F (by rw[hgL,hl,<-hval,<-hgL];exact tS rfl)
 have hpd:=U.inv.pool_dis i hdi
 have hpo:=U.inv.pool_own
 rw[jO]at hpd hpo
 have hnd:=hof.1
 rw[hF]at hnd
 have hnd2:(F1++((Fa++(F++Fc))++F3)).Nodup:=SB hnd hpo.1 λy C hy'=>hpd y (by rw[hF];exact hy') C
 have hin:∀y∈F1++((Fa++(F++Fc))++F3),y∈F\/y∈({ g with S:=J }:Gh).fp i:=λy C=>by rw[hF];simp only[qP,qO,false_or]at C⊢;rcases C with C|((C|C|C)|C)<;>simp[C]
 have hnS:=U.inv.mtb i gg hlive hown
 have T2:mN { g with S:=J } { ({ g with S:=J }:Gh)with fp:=IQ g.fp i (F1++((Fa++(F++Fc))++F3)) } (s.fQ K (vK,.none)).h (sG (s.fQ K (vK,.none)).h i (((s.fQ K (vK,.none)).h i).1,.row e sz (xs.set j (x.set off (.sl ys))) true)) w w:=
  mN.HE hnS (λ_ _=>rfl) (by intro e0 sz0 xs0 dp0 hh';cases hh';exact⟨_,_,I⟩) (by intro t0 cs0 hh';cases hh')
 have hrow:dU g.Q.L true w e (xs.set j (x.set off (.sl ys))) (v1++((d1++v::d3)++v3)) (F1++((Fa++(F++Fc))++F3)):=by rw[show xs.set j (x.set off (.sl ys))=xs.take j++([x.set off (.sl ys)]++xs.drop (j+1))from by rw[List.set_eq_take_append_cons_drop,jE hjlt];rfl];exact hr1.append (dU.append (dU.one hset') hr3)
 have I':=U.inv.HE (i:=i) (b:=gg) (F:=F1++((Fa++(F++Fc))++F3)) (pool':=[]) (w':=w) hlive hown rfl (λ_ _=>rfl) T2
  ⟨_,by rw[qN];exact p1,(λy C=>by
   rcases jD C with C|rfl
   ·exact p2 y C
   ·rw[qN];exact p2 x (jC hj)),(by
   show dU _ _ _ _ _ _ (IQ g.fp i _ i)
   rw[eT]
   exact hrow),(by
   show ∀y∈IQ g.fp i _ i,J y
   rw[eT]
   intro y C
   rcases hin y C with h|h
   ·exact t3 y h
   ·exact p4 y h),(by
   intro _
   show CX base w (IQ g.fp i _ i)
   rw[eT]
   refine⟨hnd2,λy C=> ?_⟩
   rcases hin y C with h|h
   ·exact hpo.2 y h
   ·exact hof.2 y h)⟩ we ja (by
   rintro _ y C
   refine⟨?_,qO⟩
   rcases hin y C with h|h
   ·exact .inl wN
   ·exact .inr ⟨hdi,h⟩)
 rw[show((s.fQ K (vK,.none)).h i).1=ver from by rw[hi']]at T2 I'
 exact⟨_,U.turn T2 rfl U.below I'⟩
end
def aAo(B:Nat)(d:D):SC:=if d.flat=true then .dat d else .old B d none
def Wx(B:Nat)(args:List (Bool×List D)):St:=
 { t:=λi=>match args[i]? with|some (j,ds)=>.v j (ds.map (aAo B))|none=>.undef,h:=λ_=>(0,.none) }
theorem aC9(B:Nat)(args:List (Bool×List D))(i:Nat):(Wx B args).t i=match args[i]? with|some (j,ds)=>.v j (ds.map (aAo B))|none=>.undef:=rfl
theorem aCM(B:Nat)(args:List (Bool×List D))(i:Nat):(Wx B args).h i=(0,.none):=rfl
theorem aAO(B:Nat)(k:IntKind)(n:Int):aAo B (.int k n)=.dat (.int k n):=rfl
theorem YR(B:Nat)(b:Bool):aAo B (.bool b)=.dat (.bool b):=rfl
theorem aBI(B:Nat)(b:ByteArray):aAo B (.str b)=.dat (.str b):=rfl
theorem aCK(B:Nat)(xs:List (List D)):aAo B (.sl xs)=.old B (.sl xs) none:=rfl
theorem aV.Xl{g:Gh}{h:Heap}{w:World}{B:Nat}:∀{ds:List D} {vs:List Value} {F:List Nat},aO w ds vs F->(∀b∈F,g.S b/\b<B)->aV g h w (ds.map (aAo B)) vs
 |[],vs,F,j,_=>by simp only[aO]at j;exact j.1
 |d::ds,vs,F,j,C=>by simp only[aO]at j;obtain⟨v,I,J,U,rfl,rfl,h3,h4⟩:=j;refine⟨v,I,rfl,?_,aV.Xl h4 λb hb=>C b (by simp[hb])⟩;unfold aAo;split;(exact⟨J,h3,λb hb=>(C b (by simp[hb])).1⟩);·exact⟨J,h3,λb hb=>C b (by simp[hb]),λ_ e=>by cases e⟩
def XK(j:List (Bool×List RC)):Bool:=j.all λr=>r.2.all λc=>match c with| .own _ _ _=>false|_=>true
theorem J2{L I:TL}{base:Nat}{w:World}{X:Nat->Prop}:∀{vs:List Value} {C:List RC} {F:List Nat},(C.all λc=>match c with| .own _ _ _=>false|_=>true)=true->vG L base w X vs C F->vG I base w X vs C F
 |[],[],F,_,h=>h
 |v::vs,.any d::C,F,j,h=>by simp only[List.all_cons,Bool.true_and]at j;exact⟨h.1,J2 j h.2⟩
 |v::vs,.ro d::C,F,j,h=>by simp only[List.all_cons,Bool.true_and]at j;exact⟨h.1,J2 j h.2⟩
 |v::vs,.own e sz J::C,F,j,h=>by simp at j
 |v::vs,.edit q::C,F,_,h=>h.elim
 |[],_::_,F,_,h=>h.elim
 |_::_,[],F,_,h=>h.elim
theorem Vy{L C:TL}{base:Nat}{w:World}{X:Nat->Prop}{v:Value}{r:Bool×List RC}{F:List Nat}(j:(r.2.all λc=>match c with| .own _ _ _=>false|_=>true)=true)(h:Pg L base w X v r F):Pg C base w X v r F:=by
 obtain⟨I,U⟩:=r
 cases I with
 |true=>obtain⟨J,rfl,h⟩:=h;exact⟨J,rfl,J2 j h⟩
 |false=>exact J2 j h
theorem Pb{L U:TL}{base:Nat}{w:World}{X:Nat->Prop}:∀{vs:List Value} {j:List (Bool×List RC)} {F:List Nat},XK j=true->FY L base w X vs j F->FY U base w X vs j F
 |[],[],F,_,h=>h
 |v::vs,r::j,F,C,⟨I,J,h0,h1,h2⟩=>by simp only[XK,List.all_cons,qM]at C;exact⟨I,J,h0,Vy C.1 h1,Pb C.2 h2⟩
 |[],_::_,F,_,h=>h.elim
 |_::_,[],F,_,h=>h.elim
theorem ZQ{L J:TL}{base:Nat}{w:World}{v:Value}{C:List (Bool×List RC)}{Q:Nat->Prop}(j:XK C=true)(h:Ni L base w v C Q):Ni J base w v C Q:=by
 obtain⟨F,X,h1,h2,h3,h4⟩:=h
 refine⟨F,X,h1,h2,h3,?_⟩
 match C,j,h4 with
 |[r],j,h4=>
  simp only[XK,List.all_cons,List.all_nil,jL]at j
  exact Vy j h4
 |[],j,h4=>obtain⟨I,e,h⟩:=h4;exact⟨I,e,Pb j h⟩
 |a::b::C,j,h4=>obtain⟨I,e,h⟩:=h4;exact⟨I,e,Pb j h⟩
theorem aCh {P : Program} (L : TL) {f : FuncId} {fn : Func} {c : Code} {args : List (Bool × List D)} {rs : List (Bool × List RC)} {N : Nat} {vars : List ResultVar} (hf : P.funcs[f]? = some fn) (hb : fn.body = some c) (hN : fn.ntmps = N) (hv : fn.results.toList = vars) (hnm : (fn.name == "runtime.NumGoroutine") = false) (hn : args.length <= N) (hL : L = slP P \/ (L = WQ /\ XK rs = true))
  (h : ∀(base:Nat) (wd:World×(Nat->Prop)),SW P base ⟨wd.1,⟨wd.2,base,none,L⟩,noK,Ua⟩ N c (Wx base args) (aft P base ⟨wd.1,⟨wd.2,base,none,L⟩,noK,Ua⟩ N (Ret (fS P) vars rs) [])):kU P f args rs:=by
 subst hN hv
 refine .inl ⟨⟨fn,c,hf,hb,hnm⟩,λw vs Fa ha => ?_⟩
 obtain ⟨hlen,hat⟩:=args_at ha
 have hlen':vs.size=args.length:=by simpa using hlen
 refine calls_of_wp hf hb ?_
 have hFlt:=KW ha
 let g:Gh:={ val:=λ_=>undef,fp:=λ_=>[],S:=λb=>b∈Fa,Q:=⟨λb=>b∈Fa,w.heap.size,none,L⟩ }
 have R:Rel P w.heap.size ⟨w,⟨λb=>b∈Fa,w.heap.size,none,L⟩,noK,Ua⟩ fn.ntmps (Wx w.heap.size args) { tmps:=vs++Array.replicate (fn.ntmps-vs.size) undef,defers:=[] } w:=by
  refine ⟨g,rfl,wX,Below.refl _ _,⟨λ_ x=>x,rfl,λ_ hx=>(by cases hx)⟩,λ_ x=>x.elim,⟨qg _,λ_ x _=>x,hFlt,λi=>trivial,λi b hl=>absurd rfl hl,λi j b _ hl=>absurd rfl hl,?_,CX.nil _ _,we,λi hd=>(by obtain ⟨_,_,_,hd⟩:=hd;cases hd),qg _⟩,λt => ?_,⟨rfl,hL.imp id And.left⟩,λ_=>trivial⟩
  ·rintro i j _ ⟨_,_,_,hd⟩;cases hd
  ·show zY g _ w (match args[t]? with | some (ag,ds)=>.v ag (ds.map (aAo w.heap.size)) | none=>.undef) _
   cases ht:args[t]? with
   | none =>
    have hge:args.length<=t:=List.getElem?_eq_none_iff.1 ht
    show _=undef
    simp only [jM,Array.getElem?_append]
    rw [jF wi]
    by_cases h2:t-vs.size<fn.ntmps-vs.size
    ·simp [h2]
    ·rw [Array.getElem?_eq_none wX];rfl
   | some x =>
    obtain ⟨v,Fi,h1,h2,hFi⟩:=hat t x ht
    have hlt:t<vs.size:=by have:=(qe.1 ht).1;omega
    have hv:(vs++Array.replicate (fn.ntmps-vs.size) undef).getD t undef=v:=by
     simp only [jM,Array.getElem?_append]
     rw [jE hlt]
     have:vs[t]? = some v:=by simpa using h1
     rw [this];rfl
    rw [hv]
    obtain ⟨ag,ds⟩:=x
    cases ag with
    | false =>
     obtain ⟨d,rfl,hr⟩:=h2
     have hcs:aO w [d] [v] Fi:=by simp only [aO];exact ⟨v,[],Fi,[],rfl,we,hr,we⟩
     exact aV.Xl hcs λb hb=>⟨hFi b hb,hFlt b (hFi b hb)⟩
    | true =>
     obtain ⟨cs,rfl,hr⟩:=h2
     exact ⟨cs,rfl,aV.Xl hr λb hb=>⟨hFi b hb,hFlt b (hFi b hb)⟩⟩
 refine wp_mono (h w.heap.size (w,λb=>b∈Fa) _ w R) ?_
 rintro e a' w' ⟨s',h1,R'⟩
 have fin:Ret (fS P) fn.results.toList rs s'->a'.defers=[] /\ ∃v,(results fn a'.tmps).run P w' = .ok v w' /\ ∃v',Ending.returned v = .returned v'/\Ni (slP P) w.heap.size w' v' rs (λb=>b∈Fa)/\Below w.heap.size w w':=by intro hr;obtain ⟨v,k1,k2⟩:=UA R' hr;obtain ⟨g',R''⟩:=R';refine ⟨R''.defers,v,k1,v,rfl,?_,R''.below⟩;rcases hL with rfl | ⟨_,hno⟩;(exact k2);·exact ZQ hno k2
 cases e with
 | normal=>exact fin h1
 | ret=>exact fin h1
 | exit id=>exact h1.elim
 | goto l=>exact h1.elim
 | panic c=>exact h1.elim
 | outgrown=>exact h1.elim
theorem aCR {P : Program} {f : FuncId} {fn : Func} {c : Code} {args : List (Bool × List D)} {rs : List (Bool × List RC)} {N : Nat} {vars : List ResultVar} (hf : P.funcs[f]? = some fn) (hb : fn.body = some c) (hN : fn.ntmps = N) (hv : fn.results.toList = vars) (hnm : (fn.name == "runtime.NumGoroutine") = false) (hn : args.length <= N)
  (h : ∀(base:Nat) (wd:World×(Nat->Prop)),SW P base ⟨wd.1,⟨wd.2,base,none,slP P⟩,noK,Ua⟩ N c (Wx base args) (aft P base ⟨wd.1,⟨wd.2,base,none,slP P⟩,noK,Ua⟩ N (Ret (fS P) vars rs) [])):kU P f args rs:=aCh (slP P) hf hb hN hv hnm hn (.inl rfl) h
theorem YA(B:Nat)(d:D)(u:Option Value)(cs:List SC)(k:List D->Prog):Ej (.old B d u::cs) k=Ej cs λds=>k (d::ds):=rfl
theorem Zu(b:Nat)(d:D):SC.clean b (.dat d)=(d.flat=true):=rfl
theorem Zt(b B:Nat)(d:D)(u:Option Value):SC.clean b (.old B d u)=(B<=b):=rfl
theorem YQ(b:Nat):SC.clean b .nil=True:=rfl
theorem XH(b i v:Nat):SC.clean b (.row i v)=True:=rfl
theorem aA1(b i v o:Nat):SC.clean b (.bp i v o)=True:=rfl
theorem aCH(b:Nat)(j:Bool)(cs:List SC):SV.clean b (.v j cs)=∀c∈cs,SC.clean b c:=rfl
theorem Yj(b:Nat)(xs:List (Bool×List SC)):SV.clean b (.tup xs)=∀x∈xs,∀c∈x.2,SC.clean b c:=rfl
theorem Xz(b:Nat):SV.clean b .unk=True:=rfl
theorem Uc(b:Nat):SV.clean b .undef=True:=rfl
theorem Wm(b:Nat):FQ.clean b .none=True:=rfl
theorem Y2(b:Nat)(t:TypeId)(cs:List SC):FQ.clean b (.box t cs)=∀c∈cs,SC.clean b c:=rfl
theorem We(b:Nat)(e:TypeId)(sz:Nat)(xs:List (List D))(dp:Bool):FQ.clean b (.row e sz xs dp)=(dp=true):=rfl
theorem aLK{α:Type}{p:α->Prop}{a:α}{l:List α}:(∀x∈a::l,p x)=(p a/\∀x∈l,p x):=by simp
theorem aLM{α:Type}{p:α->Prop}:(∀x∈([]:List α),p x)=True:=by simp
theorem aAP(k:IntKind)(n:Int):D.flat (.int k n)=true:=rfl
theorem Yh(b:Bool):D.flat (.bool b)=true:=rfl
theorem aAY(b:ByteArray):D.flat (.str b)=true:=rfl
theorem aB6(b:Nat):(b<=b)=True:=by simp
theorem Gho.shallow{P:Program}{base N:Nat}{w0:W0}{s:St}{i ver:Nat}{e:TypeId}{sz:Nat}{xs:List (List D)}(hi:s.h i=(ver,.row e sz xs true)):Gho P base w0 N s (s.fQ i (ver,.row e sz xs false)):=by
 rintro a w ⟨g,R⟩
 have hi2:(s.h i).2=.row e sz xs true:=by rw[hi]
 have T:mN g g s.h (sG s.h i (ver,.row e sz xs false)) w w:=by refine⟨λ_ x=>x,λ_ _=>rfl,λj=> ?_,λj e' sz' ys dp' _ C=>⟨rfl,?_⟩,λj t cs _ C=>⟨rfl,?_⟩,rfl⟩;(by_cases C:j=i;(subst C;rw[bT,hi];exact qg _);·rw[eI _ _ _ _ C];exact qg _);(by_cases J:j=i;(subst J;rw[bT]at C;cases C;exact⟨xs,true,hi2⟩);·rw[eI _ _ _ _ J]at C;exact⟨ys,dp',C⟩);·by_cases J:j=i;(subst J;rw[bT]at C;cases C);·rw[eI _ _ _ _ J]at C;exact⟨cs,C⟩
 have lv:∀j,live (sG s.h i (ver,.row e sz xs false)) j->live s.h j:=λj U=>by by_cases C:j=i;(subst C;unfold live;rw[hi2];simp);·unfold live at U⊢;rw[eI _ _ _ _ C]at U;exact U
 have dv:∀j,kQ (sG s.h i (ver,.row e sz xs false)) j->kQ s.h j:=λj U=>by obtain⟨e',sz',ys,hh⟩:=U;by_cases C:j=i;(subst C;rw[bT]at hh;cases hh);·rw[eI _ _ _ _ C]at hh;exact⟨e',sz',ys,hh⟩
 have I:=R.inv
 refine⟨g,R.turn T rfl R.below ⟨I.base_le,I.S_old,I.S_lt,λj=> ?_,λj b U=>I.mtb j b (lv j U),λj k b hne U hk=>I.inj j k b hne (lv j U) (lv k hk),λj k hne C hk=>I.dis j k hne (dv j C) (dv k hk),I.pool_own,I.pool_S,λj hd=>I.pool_dis j (dv j hd),I.fb⟩⟩
 show Ex base g (sG s.h i (ver,.row e sz xs false)) w j (sG s.h i (ver,.row e sz xs false) j).2
 by_cases C:j=i
 ·subst C;rw[bT];have ho:=I.obj j;rw[hi2]at ho;obtain⟨cells,h1,h2,h3,h4,_⟩:=ho;exact⟨cells,h1,h2,h3.rep,h4,λh=>by cases h⟩
 ·rw[eI _ _ _ _ C];exact Ex.turn T rfl rfl (λ_ _=>rfl) (I.obj j)
theorem exI{P:Program}{T:Sa}{N:Nat}{ops:Array Oper}{l:List Oper}{s j:St}{K:St->Prop}(h:uX P T N ops l s (Is j))(hk:K j):uX P T N ops l s K:=
 Hw l (λτ hτ=>by rw[show τ=j from hτ];exact hk) h
theorem Z6(b i v j o:Nat):SC.clean b (.rp i v j o)=True:=rfl
theorem Zf{α:Type}{l:List α}{i:Nat}{a b:α}(h:l[i]? =some b):(l.set i a)[i]? =some a:=by rw[List.getElem?_set_self (qe.1 h).1]
def aF1:=PLift.up (qI @Zu (qI @Zt (qI @YQ (qI @XH (qI @aA1 (qI @Z6 (qI @aCH (qI @Yj (qI @Xz (qI @Uc (qI @Wm (qI @Y2 (qI @We (qI @aLK (qI @aLM (qI @aAP (qI @Yh (qI @aAY (qI @aB6 (qI and_true (qI true_and and_self)))))))))))))))))))))
theorem LC:type_of% aF1.down:=aF1.down
def aGJ:=PLift.up (qI @Xk (qI @MW (qI @aC9 (qI @aCM (qI @aAO (qI @YR (qI @aBI (qI @aCK (qI @YA (qI @VT (qI @aAK (qI @List.set_set.{0} @List.length_set.{0}))))))))))))
theorem LN:type_of% aGJ.down:=aGJ.down
section
variable {P:Program}{base N:Nat}{w0:W0}{s:St}
theorem Sg{g:Gh}{a:Act}{w:World}{j K vj n:Nat}{e:TypeId}{sz:Nat}{xs ys:List (List D)}{dp:Bool}{v:Value}(R:oN P base w0 N g s a w [])(h2:s.h j=(vj,.row e sz xs dp))(hn:n<=xs.length)(J:xs.take n=ys)(hv:CF g s.h w (.part j vj 0 n) v):
  ∃g',oN P base w0 N g' ((s.fQ j (vj,.none)).fQ K ((s.h K).1+1,.row e sz ys dp)) a w []/\mN g g' s.h ((s.fQ j (vj,.none)).fQ K ((s.h K).1+1,.row e sz ys dp)).h w w/\
   CF g' ((s.fQ j (vj,.none)).fQ K ((s.h K).1+1,.row e sz ys dp)).h w (.row K ((s.h K).1+1)) v:=by
 have C:(s.h j).1=vj:=by rw[h2]
 have I:(s.h j).2=.row e sz xs dp:=by rw[h2]
 have hob:=R.inv.obj j
 rw[I]at hob
 obtain⟨cells,p1,p2,p3,p4,p5⟩:=hob
 obtain⟨I1,hfr⟩:=R.inv.Gm I
 rw[C]at I1 hfr
 have T1:mN g g s.h (sG s.h j (vj,.none)) w w:=by have:=mN.drop (g:=g) (h:=s.h) (w:=w) j g.S λ_ x=>x;rw[C]at this;exact this
 have hver:(sG s.h j (vj,.none) K).1=(s.h K).1:=by by_cases hk:K=j;(subst hk;rw[bT,C]);·rw[eI _ _ _ _ hk]
 obtain⟨hv0,_,hv⟩:=hv
 obtain⟨U,c,rfl,k2,_,k4⟩:=hv C e sz xs dp I
 obtain⟨m,k5,k6⟩:=k4 rfl
 have hyl:ys.length=n:=by rw[<-J,qV,jV hn]
 have hsp:dU g.Q.L dp w e (xs.take n++xs.drop n) cells (g.fp j):=by rw[qo];exact p3
 obtain⟨v1,v2,F1,F2,hce,hF,q1,q2⟩:=dU.split hsp
 rw[J]at q1
 have hxl:∀y∈ys,y.length=sz:=λy hy=>p2 y (qk (J ▸ hy))
 have hl1:v1.length=n*sz:=by rw[<-hyl];exact bC.length q1.rep hxl
 have ho:w.ownsRow base e sz (.slice U n c) ys.length v1:=by
  rw[hyl]
  refine⟨hl1,?_⟩
  rcases p1.2 with⟨h6,h7⟩|⟨gg,cap,cur,h6,h7,h8,h9,aa,ae,af⟩
  ·rw[k5]at h6
   simp at h6
   obtain⟨rfl,rfl,rfl⟩:=h6
   have:n=0:=by omega
   subst this
   exact .inl ⟨rfl,rfl⟩
  ·rw[k5]at h6
   simp at h6
   obtain⟨rfl,rfl,rfl⟩:=h6
   refine .inr ⟨gg,c,cur,rfl,h7,h8,k2,aa,ae,?_⟩
   have:(cur.toList.take (xs.length*sz)).take (n*sz)=v1:=by rw[af,hce];exact List.take_left' hl1
   rw[List.take_take,jV (qj sz hn)]at this
   exact this
 have hob2:∀b,Ee (.slice U n c)=some b->Ee (g.val j)=some b:=by intro b hb;rw[k5];cases U<;>first|(simp[Ee]at hb;done)|simpa[Ee]using hb
 have I2:=I1.Gz (i:=K) (v:=.slice U n c) (e:=e) (sz:=sz) (xs:=ys) (dp:=dp) (cells:=v1) (F:=F1) (pool':=[]) ho hxl q1 (λb hb=>p4 b (by rw[hF];simp[hb])) (λb hb=>hfr b (hob2 b hb)) we ja (λhd=>by subst hd;simp only[jH,jO];have hnd:=(p5 rfl).1;rw[hF]at hnd⊢;exact⟨(qt.1 hnd).1,λb hb=>⟨by simp[hb],we⟩⟩)
 have T2:=mN.create (g:=g) (h:=sG s.h j (vj,.none)) (w:=w) K (.slice U n c) F1 (.row e sz ys dp)
 rw[hver]at I2 T2
 refine⟨_,R.turn (T1.trans T2) rfl R.below I2,T1.trans T2,hv0,?_,?_⟩
 ·show _<=(sG _ K _ K).1;rw[bT];exact qg _
 ·intro _ e' sz' xs' dp' _;show _=IQ g.val K (.slice U n c) K;rw[eT]
theorem aV.aBR{g g':Gh}{h J:Heap}{w:World}(T:mN g g' h J w w){y:SC}:∀{cs:List SC} {vs:List Value} (c:Nat) (x:SC) (v:Value),aV g h w cs vs->cs[c]? =some x->vs[c]? =some v->CF g' J w y v->aV g' J w (cs.set c y) vs
 |[],vs,c,x,v,hc,I,_,_=>by simp at I
 |z::cs,vs,0,x,v,hc,I,C,U=>by obtain⟨v0,j,rfl,h1,h2⟩:=hc;simp at C;subst C;exact⟨v0,j,rfl,U,aV.turn T h2⟩
 |z::cs,vs,c+1,x,v,hc,I,C,U=>by obtain⟨v0,j,rfl,h1,h2⟩:=hc;exact⟨v0,j,rfl,CF.turn T h1,aV.aBR T c x v h2 (by simpa using I) (by simpa using C) U⟩
theorem aV.get{g:Gh}{h:Heap}{w:World}:∀{cs:List SC} {vs:List Value} (c:Nat) (x:SC),aV g h w cs vs->cs[c]? =some x->∃v,vs[c]? =some v/\CF g h w x v
 |[],vs,c,x,hc,j=>by simp at j
 |z::cs,vs,0,x,hc,j=>by obtain⟨I,C,rfl,h1,h2⟩:=hc;simp at j;subst j;exact⟨I,rfl,h1⟩
 |z::cs,vs,c+1,x,hc,j=>by obtain⟨I,C,rfl,h1,h2⟩:=hc;exact aV.get c x h2 (by simpa using j)
theorem Gho.Zm{b vb c j K vj n:Nat}{t:TypeId}{cells:List SC}{e:TypeId}{sz:Nat}{xs:List (List D)}{dp:Bool}(ys:List (List D))(I:s.h b=(vb,.box t cells))(h1:cells[c]? =some (.part j vj 0 n))(h2:s.h j=(vj,.row e sz xs dp))(hk:b≠K)(hn:n<=xs.length)(hys:xs.take n=ys):
  Gho P base w0 N s (((s.fQ j (vj,.none)).fQ K ((s.h K).1+1,.row e sz ys dp)).fQ b (vb,.box t (cells.set c (.row K ((s.h K).1+1))))):=by
 rintro a w ⟨g,R⟩
 have U:b≠j:=λe=>by rw[e,h2]at I;cases I
 have J:=R.inv.obj b
 rw[show(s.h b).2=.box t cells from by rw[I]]at J
 obtain⟨b',vals,h3,h4,h5,h6⟩:=J
 obtain⟨v,k1,k2⟩:=aV.get c _ h6 h1
 obtain⟨g',R',T,hc⟩:=Sg (K:=K) R h2 hn hys k2
 have C:((s.fQ j (vj,.none)).fQ K ((s.h K).1+1,.row e sz ys dp)).h b=(vb,.box t cells):=by show sG (sG s.h j _) K _ b=_;rw[eI _ _ _ _ hk,eI _ _ _ _ U,I]
 have hv:g'.val b=g.val b:=(T.box b t cells (by rw[C,I]) (by rw[C])).1
 exact aBW R' C (hv.trans h3) h5 (aV.aBR T c _ v h6 h1 k1 hc)
theorem Gho.aDE{i j K vj n:Nat}{e:TypeId}{sz:Nat}{xs:List (List D)}{dp:Bool}(ys:List (List D))(h1:s.t i=.v false [.part j vj 0 n])(h2:s.h j=(vj,.row e sz xs dp))(hn:n<=xs.length)(C:xs.take n=ys):
  Gho P base w0 N s (((s.fQ j (vj,.none)).fQ K ((s.h K).1+1,.row e sz ys dp)).IV i (.v false [.row K ((s.h K).1+1)])):=by
 rintro a w ⟨g,R⟩
 have I:=R.tmp i
 rw[h1]at I
 obtain⟨U,J,T,hc⟩:=Sg (K:=K) R h2 hn C (fF I)
 exact⟨U,Oe J ⟨_,[],rfl,hc,rfl⟩⟩
theorem VM.mk{P:Program}{T:Sa}{vars:List ResultVar}{ops:Array Oper}{n d:Nat}{K:St->Prop}{l:List (Bool×List SC)}{s s1:St}(h1:HF T s vars=some l)(h2:uX P T N ops (ops.toList.drop (n+1)) (aD7 s d (MC l)) (Is s1))(h3:K s1):VM P T vars N ops n d K s:=⟨l,h1,exI h2 h3⟩
end
section
variable {P:Program}{base N:Nat}{w0:W0}{Z:St->Prop}{k:List Fr}{s:St}
theorem tV{x y:Code}(J:St->Prop)(h1:SW P base w0 N x s (aft P base w0 N Z (.inv J::k)))(h2:∀s',J s'->SW P base w0 N y s' (aft P base w0 N Z k)):SW P base w0 N (.seq x y) s (aft P base w0 N Z k):=by
 refine sq λa w R=>wp_mono (h1 a w R) ?_
 rintro e a' w' ⟨s',k1,k2⟩
 refine⟨s',?_,k2⟩
 cases e with
 |normal=>exact h2 s' k1
 |_=>exact k1
