/-
  Helper text. No conditions.
-/
import Derived.Test.YtndidbigdalbnaaGreatNotesShC
import Derived.ProofKit
import Derived.OpenShut
import Derived.ShutString
import Derived.Deep.Slices
import Derived.Carry
set_option linter.all false
namespace Go.Sh
open Go.RowKit
theorem YL(args:List (Bool×List D))(i:Nat):(init args).t i=match args[i]? with|some (j,ds)=>.v j (ds.map .dat)|none=>.undef:=rfl
theorem Zm(args:List (Bool×List D))(i:Nat):(init args).h i=(0,.none):=rfl
def aDn(v:SV)(A B:Prop):Prop:=match v with
 | .v false [.dat (.bool b)]=>(b=true->A)/\(b=false->B)
 |_=>False
theorem UK(b:Bool)(A B:Prop):aDn (.v false [.dat (.bool b)]) A B=((b=true->A)/\(b=false->B)):=rfl
theorem bO{n:Int}(h1: -9223372036854775808<=n)(h2:n<=9223372036854775807):IntKind.i64.wrap n=n:=by rw[IntKind.wrap_i64];omega
attribute [simp] CM SO VI TF N3 Mm OR tQ EY evG CN vOp aDd put ex exF cst one aft St.M9 St.XT St.YV St.OY DD Ht Ju GI DB HR AL FF EF E2 rows Ac J8 lenOf OP Ox ME Dn EO HF QP D.flat rid TI.agg YL Zm Hg FJ Rj Lm Jj UK
open Go.ChangeShapes Go.WideShapes Go.Deep
inductive Shp where
 |int (k:IntKind)
 |bool
 |str
 |sl (es:List Shp)
def KW(P:Program)(f:TypeId->Option (List Shp)):Nat->List Field->Option (List Shp)
 |_,[]=>some []
 |j,x::C=>if x.offset=j then(match f x.type,KW P f (j+P.cellsOf x.type) C with
   |some a,some b=>if a.length=P.cellsOf x.type then some (a++b)else none
   |_,_=>none)else none
def Y7(P:Program):Nat->TypeId->Option (List Shp)
 |0,_=>none
 |n+1,t=>match P.underlying t with
  |some (.int k)=>some [.int k]
  |some .bool=>some [.bool]
  |some .string=>some [.str]
  |some (.slice e)=>match Y7 P n e with
   |some es=>if es.length=P.cellsOf e/\0<es.length then some [.sl es]else none
   |none=>none
  |some (.struct j)=>match KW P (Y7 P n) 0 j.toList with
   |some es=>if es.length=P.cellsOf t then some es else none
   |none=>none
  |_=>none
mutual
def Has:Shp->D->Prop
 | .int k,d=>∃n,d=.int k n/\(Lit.int k n).wf=true
 | .bool,d=>∃b,d=.bool b
 | .str,d=>∃s,d=.str s/\s.size<=maxLen
 | .sl es,d=>∃j,d=.sl j/\j.length<=maxLen/\∀x∈j,KR es x
def KR:List Shp->List D->Prop
 |[],ds=>ds=[]
 |e::es,ds=>∃d j,ds=d::j/\Has e d/\KR es j
end
theorem KR.append:∀{a b:List Shp} {x y:List D},KR a x->KR b y->KR (a++b) (x++y)
 |[],b,x,y,h,k=>by simp only[KR]at h;subst h;exact k
 |e::a,b,x,y,h,k=>by simp only[KR]at h;obtain⟨d,j,rfl,h1,h2⟩:=h;simp only[jQ,KR];exact⟨d,j++y,rfl,h1,KR.append h2 k⟩
theorem KR.length:∀{a:List Shp} {x:List D},KR a x->x.length=a.length
 |[],x,h=>by simp only[KR]at h;subst h;rfl
 |e::a,x,h=>by simp only[KR]at h;obtain⟨d,j,rfl,h1,h2⟩:=h;simp[KR.length h2]
section
variable {H:Type}{enc:TypeId×Value->H}{P:Program}{w:World}{base:Nat}{spare:Nat->Bool}{held:Bool}
theorem Dy{w:World}{d:D}{v:Value}{F:List Nat}(h:Rep w d v F):aM w [d] [v] F:=by simp only[aM];exact⟨v,[],F,[],rfl,wb,h,rfl,rfl⟩
theorem JK{e:Shp}{d:D}(h:Has e d):KR [e] [d]:=by simp only[KR];exact⟨d,[],rfl,h,rfl⟩
theorem QB{n m:Nat}(U:∀(t:TypeId) (j:List Shp) (cs:List Value) (x:DataW H×List MemPlace),Y7 P n t=some j->DataW.trod enc P w base spare held m t cs=some x->∃ds F,aM w ds cs F/\KR j ds):
  ∀(C:List Field) (off:Nat) (j:List Shp) (cs:List Value),KW P (Y7 P n) off C=some j->off+j.length=cs.length->
   (∀f∈C,∃x,DataW.trod enc P w base spare held m f.type ((cs.drop f.offset).take (P.cellsOf f.type))=some x)->∃ds F,aM w ds (cs.drop off) F/\KR j ds
 |[],off,j,cs,h,I,_=>by simp[KW]at h;subst h;refine⟨[],[],?_,by simp[KR]⟩;rw[List.drop_of_length_le (by simpa using Nat.le_of_eq I.symm)];simp[aM]
 |f::C,off,j,cs,h,I,J=>by
  simp only[KW]at h
  split at h
  ·rename_i ho
   split at h
   ·rename_i a b ha hb
    split at h
    ·rename_i hlen
     cases h
     obtain⟨x,hx⟩:=J f wb
     obtain⟨d1,F1,k1,k2⟩:=U _ _ _ _ ha hx
     obtain⟨d2,F2,k3,k4⟩:=QB U C _ b cs hb (by rw[qE,hlen]at I;omega) λy hy=>J y (by simp[hy])
     refine⟨d1++d2,F1++F2,?_,k2.append k4⟩
     have:cs.drop off=(cs.drop f.offset).take (P.cellsOf f.type)++cs.drop (off+P.cellsOf f.type):=by rw[ho,<-List.drop_drop,qo]
     rw[this]
     exact k1.append k3
    ·cases h
   ·cases h
  ·cases h
theorem XK{a:Addr}{v:Value}(h:w.cell? a=some v):a=⟨a.block,a.off,none⟩:=by
 obtain⟨b,o,s⟩:=a
 unfold World.cell? at h
 cases s with
 |none=>rfl
 |some s=>
  split at h
  ·simp at h
  ·cases h
theorem Ss{es:List Shp}{C:Nat}(hC:es.length=C){a:Addr}:∀(len:Nat),(∀i,i<len->∃I ds F,I.length=C/\(∀j,j<C->w.cell? (a.add (i*C+j))=I[j]?)/\aM w ds I F/\KR es ds)->
  ∃U cells G,U.length=len/\(∀x∈U,KR es x)/\bC w U cells G/\cells.length=len*C/\∀j,j<len*C->w.cell? (a.add j)=cells[j]?
 |0,_=>⟨[],[],[],rfl,wb,by simp[bC],wb,wb⟩
 |len+1,h=>by
  obtain⟨U,cells,G,h1,h2,h3,h4,h5⟩:=Ss hC len λi hi=>h i wg
  obtain⟨I,ds,F,k1,k2,k3,k4⟩:=h len wg
  refine⟨U++[ds],cells++I,G++F,by simp[h1],?_,?_,by rw[qE,h4,k1,Nat.add_mul];omega,?_⟩
  ·intro x J;rcases qP.1 J with J|J;(exact h2 x J);·simp at J;subst J;exact k4
  ·refine h3.append ?_;simp only[bC];exact⟨I,[],F,[],wb,wb,k3,rfl,rfl⟩
  ·intro j hj;rw[Nat.add_mul,Nat.one_mul]at hj;by_cases hjl:j<len*C;(rw[h5 j hjl,qy wg]);·have:=k2 (j-len*C) wg;rw[show len*C+(j-len*C)=j from by omega]at this;rw[this,qz wg,h4]
theorem R7:∀(n:Nat) (m:Nat) (t:TypeId) (C:List Shp) (cs:List Value) (x:DataW H×List MemPlace),Y7 P n t=some C->DataW.trod enc P w base spare held m t cs=some x->∃ds F,aM w ds cs F/\KR C ds
 |0,_,_,_,_,_,h,_=>by simp[Y7]at h
 |n+1,m,t,C,cs,x,h,hx=>by
  simp only[Y7]at h
  split at h
  ·rename_i k I;cases h;obtain⟨v,rfl,_,hw⟩:=DataW.trod_int I hx;exact⟨[.int k v],[],Dy wW,JK (by simp[Has,hw])⟩
  ·rename_i I;cases h;obtain⟨v,rfl,_⟩:=DataW.trod_bool I hx;exact⟨[.bool v],[],Dy wW,JK (by simp[Has])⟩
  ·rename_i I;cases h;obtain⟨v,rfl,_,hw⟩:=DataW.trod_string I hx;exact⟨[.str v],[],Dy wW,JK (by simp[Has,hw])⟩
  ·rename_i e I
   split at h
   ·rename_i es U
    split at h
    ·rename_i hc
     cases h
     rcases open_slice I hx with⟨rfl,_⟩|⟨a,len,cap,mm,fu,Dd,Pl,rfl,h1,h2,h3,h4,_,h6⟩
     ·refine⟨[.sl []],[],?_,?_⟩;(refine Dy ?_;simp only[Rep];exact⟨none,0,0,rfl,rfl,qg _,.inl wb⟩);·refine JK ?_;simp only[Has];exact⟨[],rfl,wb,wb⟩
     ·have hle:len<=mm:=by rw[h4];split<;>omega
      obtain⟨xs,cells,G,k1,k2,k3,k4,k5⟩:=Ss (w:=w) hc.1 (a:=a) len λi hi=>by obtain⟨cs',q1,q2⟩:=h6 i wg;obtain⟨_,q3,q4⟩:=World.cells?_some q1;obtain⟨ds,F,q5,q6⟩:=R7 n fu e es cs' _ U q2;exact⟨cs',ds,F,q3,λj hj=>by rw[<-Go.Deep.add_add];exact q4 j hj,q5,q6⟩
      rcases Nat.eq_zero_or_pos len with h0|h0
      ·have hxs:xs=[]:=ql wg;subst hxs;refine⟨[.sl []],[],?_,?_⟩;(refine Dy ?_;simp only[Rep];exact⟨some a,len,cap,rfl,by simpa using h0,h2,.inl ⟨h0,trivial⟩⟩);·refine JK ?_;simp only[Has];exact⟨[],rfl,wb,wb⟩
      ·have hpos:0<len*P.cellsOf e:=Nat.mul_pos h0 wg
       have J:=k5 0 hpos
       have hc0':cells[0]? =some (cells[0]'wg):=qF wg
       have hadd0:a.add 0=a:=by simp[Addr.add]
       rw[hadd0,hc0']at J
       have ha:=XK J
       refine⟨[.sl xs],a.block::G,?_,?_⟩
       ·refine Dy ?_
        simp only[Rep]
        refine⟨some a,len,cap,rfl,k1.symm,h2,.inr ⟨a.block,a.off,cells,P.cellsOf e,G,by rw[<-ha],World.block_lt_of_cell? w a J,rfl,?_,k4,?_,k3⟩⟩
        ·intro j u hu'
         have hj:j<len*P.cellsOf e:=by rw[<-k4];exact(qe.1 hu').1
         have:=k5 j hj
         rw[ha,Addr.add_lit]at this
         rw[this];exact hu'
        ·intro x hx';rw[(k2 x hx').length,hc.1]
       ·refine JK ?_;simp only[Has];exact⟨xs,rfl,wg,k2⟩
    ·cases h
   ·cases h
  ·rename_i fs I
   split at h
   ·rename_i es U
    split at h
    ·rename_i hc
     cases h
     obtain⟨xs,mm,rfl,_,q1,q2,q3⟩:=DataW.trod_struct I hx
     have:=QB (m:=mm) (λt C cs x=>R7 n mm t C cs x) fs.toList 0 C cs U wg (λf hf=>by
      obtain⟨i,hi⟩:=List.getElem?_of_mem hf
      have hi':fs[i]? =some f:=by simpa using hi
      have hlt:i<xs.length:=by rw[q2];exact(qm.1 hi').1
      exact⟨xs[i],by rw[q3 i f hi',qF hlt]⟩)
     simpa using this
    ·cases h
   ·cases h
  ·cases h
theorem aDF{n:Nat}{t:TypeId}{C:List Shp}{v:Value}{d:DataW H}{p:List MemPlace}{b:Nat}(h:Y7 P n t=some C)(I:Value.okWide P w .any b t v)(J:DataW.Trod enc P w base spare held t v d p):
  ∃ds F,KR C ds/\Vs w v (MZ P t,ds) F:=by
 obtain⟨aJ,hf⟩:=id J
 obtain⟨ds,F,h1,h2⟩:=R7 n aJ t C _ _ h hf
 refine⟨ds,F,h2,?_⟩
 have one:v.cells.toList=[v]->∃d,ds=[d]/\Rep w d v F:=by
  intro hc
  rw[hc]at h1
  have hl:=h1.length
  match ds,h1,hl with
  |[d],h1,_=>
   simp only[aM]at h1
   obtain⟨u,us,F1,F2,e1,e2,e3,_,e5⟩:=h1
   simp at e1
   rw[e5,qY]at e2
   exact⟨d,rfl,e2 ▸ e1.1 ▸ e3⟩
 cases n with
 |zero=>simp[Y7]at h
 |succ n=>
  simp only[Y7]at h
  unfold MZ
  split at h
  ·rename_i k j;obtain⟨x,rfl,_⟩:=open_int j I J;rw[j];exact one rfl
  ·rename_i j;obtain⟨x,rfl,_⟩:=open_bool j I J;rw[j];exact one rfl
  ·rename_i j;obtain⟨x,rfl,_⟩:=Go.ChangeMaps.open_string j I J;rw[j];exact one rfl
  ·rename_i e j;obtain⟨x,y,z,rfl⟩:=okWide_slice j I;rw[j];exact one rfl
  ·rename_i fs j;obtain⟨U,rfl,_⟩:=okWide_struct j I;rw[j];exact⟨U,rfl,h1⟩
  ·cases h
theorem WV{f:Func}{s:ChangeSpec}{apart fresh handsOn again:Bool}{W J:World}{args:Array Value}{v:Value}{ds gs:List (DataW H)}{before pa pv:List MemPlace}
  (hW:DataW.Whole enc P f.params.toList s.vars apart W args.toList ds gs before)
  (hres:∀(b:Nat) (sp:Nat->Bool) (hd:Bool),DataW.TrodAll enc P J b sp hd f.resultTypes.toList (v.resultList f.resultTypes.size) (s.fn H (ds++gs)).results [])
  (hargs:∀sp:Nat->Bool,(∀p∈before,sp p.block=true)->DataW.TrodAll enc P J 0 sp true f.params.toList args.toList (s.fn H (ds++gs)).args pa)
  (hvars:∀sp:Nat->Bool,(∀p∈before,sp p.block=true)->DataW.TrodVars enc P J sp s.vars (s.fn H (ds++gs)).vars pv)
  (I:before=pa++pv)(hb:Below W.heap.size W J)
  (hok:∀(j:Nat) (t:TypeId) (r:Value),f.resultTypes[j]? =some t->(v.resultList f.resultTypes.size)[j]? =some r->Value.okWide P J .any 0 t r):
  s.post enc P f apart fresh handsOn again W args v J:=by
 have hlt:∀p∈before,p.block<W.heap.size:=λp C=>hW.lt p C
 have hold:∀p∈before,(λb=>decide (b<W.heap.size)) p.block=true:=λp C=>by simpa using hlt p C
 refine⟨ds,gs,before,[],pa,pv,hW,hres _ _ _,hargs _ hold,hvars _ hold,World.keptBut_mono (λp C=>⟨C,?_⟩) (hb.frame (· ∈before)),λ_=> ?_⟩
 ·rw[I,qP]at C;exact Or.inr C
 ·obtain⟨_,_,_,_,_,hz,hn⟩:=hW
  refine⟨hok,_,_,([]++pa)++pv,⟨[]++pa,pv,trodAll_append (hargs _ (λ_ _=>rfl)) (hres _ _ _),hvars _ (λ_ _=>rfl),rfl,?_,?_⟩,?_⟩
  ·intro b off C
   have U:MemPlace.cell b off∈before:=by rw[I];simpa using C
   rw[hb.frozen (hlt _ U)]
   exact hz b off U
  ·intro ha;have:=hn ha;rw[I]at this;simpa using this
  ·intro p C _;rw[I];simpa using C
theorem LS(hl:laidOutB P=true){W W':World}(hb:Below W.heap.size W W'){sp:Nat->Bool}:∀{ts:List TypeId} {vs:List Value} {ds:List (DataW H)} {C:List MemPlace},DataW.TrodAll enc P W 0 (λ_=>true) true ts vs ds C->
  (∀t∈ts,P.readableRec t=true/\t<P.types.size)->(∀x∈C,x.block<W.heap.size)->(∀x∈C,sp x.block=true)->DataW.TrodAll enc P W' 0 sp true ts vs ds C
 |[],vs,ds,C,h,_,_,_=>by obtain⟨rfl,rfl,rfl⟩:=trodAll_nil h;rfl
 |t::ts,vs,ds,C,h,U,I,J=>by obtain⟨v,vs',d,ds',p,q,rfl,rfl,rfl,h1,h2⟩:=trodAll_cons h;refine⟨p,q,?_,?_,rfl⟩;(exact WideElems.Trod_stays hl (U t wb).1 (U t wb).2 h1 (λx j=>hb.same (I x (by simp[j]))) (λx j=>J x (by simp[j])));·exact LS hl hb h2 (λu hu=>U u (by simp[hu])) (λx j=>I x (by simp[j])) (λx j=>J x (by simp[j]))
def aDB(P:Program)(n:Nat):List TypeId->List (List Shp)->Prop
 |[],j=>j=[]
 |t::ts,j=>∃s C,j=s::C/\Y7 P n t=some s/\aDB P n ts C
def Yy:List (List Shp)->List (List D)->Prop
 |[],ds=>ds=[]
 |s::C,ds=>∃d j,ds=d::j/\KR s d/\Yy C j
def Yl(P:Program):List TypeId->List (List D)->List (Bool×List D)
 |t::ts,d::ds=>(MZ P t,d)::Yl P ts ds
 |_,_=>[]
theorem VM{n:Nat}{W:World}{b:Nat}:∀{ts:List TypeId} {vs:List Value} {ds:List (DataW H)} {ps:List MemPlace} {I:List (List Shp)},aDB P n ts I->DataW.TrodAll enc P W 0 (λ_=>true) true ts vs ds ps->
  (∀(j:Nat) t v,ts[j]? =some t->vs[j]? =some v->Value.okWide P W .any b t v)->∃C F,Yy I C/\AU W vs (Yl P ts C) F
 |[],vs,ds,ps,I,J,h,hv=>by obtain⟨rfl,rfl,rfl⟩:=trodAll_nil h;have:I=[]:=J;subst this;exact⟨[],[],rfl,rfl⟩
 |t::ts,vs,ds,ps,I,J,h,hv=>by
  obtain⟨s,ss,rfl,U,hs2⟩:=J
  obtain⟨v,vs',d,ds',p,q,rfl,rfl,rfl,h1,h2⟩:=trodAll_cons h
  obtain⟨d1,F1,k1,k2⟩:=aDF U (hv 0 t v rfl rfl) h1
  obtain⟨C,F2,k3,k4⟩:=VM hs2 h2 λj t' v' ht hv'=>hv (j+1) t' v' (by simpa using ht) (by simpa using hv')
  exact⟨d1::C,F1++F2,⟨d1,C,rfl,k1,k3⟩,F1,F2,rfl,k2,k4⟩
theorem ZH{f:FuncId}{fn:Func}{s:ChangeSpec}{n tb:Nat}{shs:List (List Shp)}(hl:laidOutB P=true)(hvars:s.vars=[])(hres:fn.resultTypes= #[tb])(htb:P.underlying tb=some .bool)(hsh:aDB P n fn.params.toList shs)
  (hread:∀t∈fn.params.toList,P.readableRec t=true/\t<P.types.size)
  (hfn:∀(ds:List (DataW H)),ds.length=fn.params.toList.length->s.fn H (ds++[])={ results:=[.lit (.bool true)],args:=ds })
  (hc:∀dss,Yy shs dss->lE P f (Yl P fn.params.toList dss) [(false,[.ro (.bool true)])])
  {W:World}{b:Nat}{args:Array Value}{ds gs:List (DataW H)}{before:List MemPlace}(hval:∀(j:Nat) t v,fn.params[j]? =some t->args[j]? =some v->Value.okWide P W .any b t v)
  (hW:DataW.Whole enc P fn.params.toList s.vars false W args.toList ds gs before):
  Calls P f args W λe W'=>∃v,e=.returned v/\s.post enc P fn false true false false W args v W':=by
 have hW':=hW
 obtain⟨p,q,hA,hV,rfl,hfz,hnd⟩:=hW
 rw[hvars]at hV
 obtain⟨rfl,rfl⟩:=trodVars_none hV
 obtain⟨dss,Fa,k1,k2⟩:=VM hsh hA λj t v ht hv=>hval j t v (by simpa using ht) (by simpa using hv)
 refine(((hc dss k1).old rfl).2 W args Fa k2).mono λe W' hh=> ?_
 obtain⟨v,rfl,⟨F,X,_,_,_,hr⟩,hb⟩:=hh
 have hv:v=.bool true:=by have h1:Rep W' (.bool true) v []:=hr.1;simp only[Rep]at h1;exact h1.1
 subst hv
 have hdl:ds.length=fn.params.toList.length:=by
  have:∀{ts:List TypeId} {vs:List Value} {ds:List (DataW H)} {ps:List MemPlace},DataW.TrodAll enc P W 0 (λ_=>true) true ts vs ds ps->ds.length=ts.length:=by
   intro ts
   induction ts with
   |nil=>intro vs ds ps h;obtain⟨_,rfl,_⟩:=trodAll_nil h;rfl
   |cons t ts ih=>intro vs ds ps h;obtain⟨v,vs',d,ds',p,q,rfl,rfl,rfl,h1,h2⟩:=trodAll_cons h;simp[ih h2]
  exact this hA
 have hfn':=hfn ds hdl
 refine⟨_,rfl,WV (pa:=p) (pv:=[]) hW' ?_ ?_ ?_ wb hb (ok_one hres rfl (okWide_bool_mk htb _))⟩
 ·intro b sp hd;rw[hfn',hres];exact trodAll_cons_mk (shut_bool htb _) trodAll_mk0
 ·intro sp hsp;rw[hfn'];exact LS hl hb hA hread (λx hx=>hW'.lt x (by simpa using hx)) (λx hx=>hsp x (by simpa using hx))
 ·intro sp hsp;rw[hfn',hvars];rfl
end
end Go.Sh
namespace Go.Sh
open Go.RowKit
def Is(s t:St):Prop:=t=s
theorem Is.mk(t:St):Is t t:=rfl
theorem G6{P:Program}{T:Sb}{N:Nat}{ops:Array Oper}:∀(l:List Oper) {s:St} {K K':St->Prop},(∀s,K s->K' s)->tQ P T N ops l s K->tQ P T N ops l s K'
 |[],_,_,_,h,j=>h _ j
 |o::l,s,_,_,h,j=>Jy (evG T N ops o) (λI C=>G6 l h C) j
theorem HX{P:Program}:∀(p:Prog) {s:St} {R W:List Loc} {K K':St->List Loc->List Loc->Prop},(∀s R W,K s R W->K' s R W)->exF P p s R W K->exF P p s R W K'
 | .done,_,_,_,_,_,h,j=>h _ _ _ j
 | .fail,_,_,_,_,_,_,j=>j
 | .getT t k,s,_,_,_,_,h,j=>HX (k (s.t t)) h j
 | .Ix t v k,s,_,_,_,_,h,j=>HX k h j
 | .getH i k,s,_,_,_,_,h,j=>HX (k (s.h i)) h j
 | .fL i x k,s,_,_,_,_,h,j=>HX k h j
 | .call f args k,s,_,_,_,_,h,⟨C,hc,j⟩=>⟨C,hc,HX (k C) h j⟩
 | .must p k,s,_,_,_,_,h,⟨I,j⟩=>⟨I,HX k h j⟩
theorem Pz{P:Program}{T:Sb}{N:Nat}{ops:Array Oper}:∀(l:List Oper) {s:St} {j:List Fp} {K K':St->List Fp->Prop},(∀s a,K s a->K' s a)->EY P T N ops l s j K->EY P T N ops l s j K'
 |[],_,_,_,_,h,C=>h _ _ C
 |o::l,s,_,_,_,h,C=>HX (evG T N ops o) (λJ R W I=>Pz l h I) C
section
variable {P:Program}{base N:Nat}{w0:W0}{Z:St->Prop}{k:List Fr}{s s':St}
theorem AA{id:Nat}{ops:Array Oper}(h:tQ P (fM P) N ops ops.toList s (Is s'))(hk:aft P base w0 N Z k .normal s'):SW P base w0 N (.region id ops false) s (aft P base w0 N Z k):=
 O1 (G6 ops.toList (λt j=>by rw[show t=s' from j];exact hk) h)
def PJ(ops:Array Oper)(j:List Fp):Prop:=KE ops j=true
theorem PJ.mk{ops:Array Oper}{j:List Fp}(h:KE ops j=true):PJ ops j:=h
theorem Em(I:P.follows .mixedOrders=true){id:Nat}{ops:Array Oper}(h:EY P (fM P) N ops ops.toList s [] λt j=>PJ ops j/\Is s' t)(hk:aft P base w0 N Z k .normal s'):SW P base w0 N (.region id ops true) s (aft P base w0 N Z k):=
 Yi I (Pz ops.toList (λt j C=>⟨C.1,by rw[show t=s' from C.2];exact hk⟩) h)
theorem Gs{id:Nat}(h:aft P base w0 N Z k .normal s):aft P base w0 N Z (.block id::k) (.exit id) s:=by simp only[aft,jI];exact h
theorem aFl{id j:Nat}(C:j≠id)(h:aft P base w0 N Z k (.exit j) s):aft P base w0 N Z (.block id::k) (.exit j) s:=by simp only[aft,C,jH];exact h
theorem CO{c:Code}{id:Nat}(h:aft P base w0 N Z k (.exit id) s):aft P base w0 N Z (.code c::k) (.exit id) s:=h
theorem fB{J:St->Prop}(h:J s):aft P base w0 N Z (.inv J::k) .normal s:=h
theorem CL{J:St->Prop}{id:Nat}(h:aft P base w0 N Z k (.exit id) s):aft P base w0 N Z (.inv J::k) (.exit id) s:=h
theorem yL{t:Nat}{x y:Code}(hb:s.t t=.v false [.dat (.bool true)])(h:SW P base w0 N x s (aft P base w0 N Z k)):SW P base w0 N (.cond (.tmp t) x y) s (aft P base w0 N Z k):=
 Up hb (λ_=>h) (λe=>by cases e)
theorem Ay{t:Nat}{x y:Code}(hb:s.t t=.v false [.dat (.bool false)])(h:SW P base w0 N y s (aft P base w0 N Z k)):SW P base w0 N (.cond (.tmp t) x y) s (aft P base w0 N Z k):=
 Up hb (λe=>by cases e) (λ_=>h)
theorem bY{c:Code}{Q:Exit->St->Prop}{J:St->Prop}(j:J s)(h:∀s,J s->SW P base w0 N c s Q):SW P base w0 N c s Q:=h s j
end
def aJ:Nat:=18446744073709551616
theorem gK(b:Bool):b=true\/b=false:=by cases b<;>simp
theorem CP(b:Bool):b=false\/b=true:=by cases b<;>simp
theorem bQ{α:Type}{b:Bool}{x y z:α}(hb:b=true)(h:(if b=true then x else y)=z):x=z:=by rw[jF hb]at h;exact h
theorem bP{α:Type}{b:Bool}{x y z:α}(hb:b=false)(h:(if b=true then x else y)=z):y=z:=by rw[hb]at h;simpa using h
theorem aA{α β:Type}{o:Option α}{f:α->Option β}{r:β}(h:o.bind f=some r):∃x,o=some x/\f x=some r:=by
 cases o with
 |none=>cases h
 |some x=>exact⟨x,rfl,h⟩
def idx{α:Type}(xs:List α)(i:Int):Option α:=if 0<=i then xs[i.toNat]? else none
theorem pK{α:Type}{xs:List α}{i:Int}{x:α}(h:idx xs i=some x):0<=i/\xs[i.toNat]? =some x/\i.toNat<xs.length:=by unfold idx at h;split at h;(rename_i j;exact⟨j,h,(qe.1 h).1⟩);·cases h
def aBH(s:ByteArray)(i:Int):Option UInt8:=if 0<=i then s[i.toNat]? else none
theorem XD{s:ByteArray}{i:Int}{x:UInt8}(h:aBH s i=some x):0<=i/\s[i.toNat]? =some x:=by unfold aBH at h;split at h;(rename_i j;exact⟨j,h⟩);·cases h
def app{α:Type}(b:Nat)(xs ys:List α):Option (List α):=if(xs.length+ys.length)*b<=140737488355328 then some (xs++ys)else none
theorem fJ{α:Type}{b:Nat}{xs ys zs:List α}(h:app b xs ys=some zs):(xs.length+ys.length)*b<=140737488355328:=by unfold app at h;split at h;(assumption);·cases h
def aEa{α:Type}(b:Nat)(ys:List α):Option (List α):=if ys.length*b<=140737488355328 then some ys else none
theorem gF{α:Type}{b:Nat}{ys zs:List α}(h:aEa b ys=some zs):ys.length*b<=140737488355328:=by unfold aEa at h;split at h;(assumption);·cases h
def mkL{α:Type}(b:Nat)(n:Int)(z:α):Option (List α):=if 0<=n/\n.toNat*b<=140737488355328/\n<=9223372036854775807 then some (List.replicate n.toNat z)else none
theorem aBD{α:Type}{b:Nat}{n:Int}{z:α}{x:List α}(h:mkL b n z=some x):0<=n/\n.toNat*b<=140737488355328/\n<=9223372036854775807:=by unfold mkL at h;split at h;(assumption);·cases h
def cat(x y:ByteArray):Option ByteArray:=if x.size+y.size<=9223372036854775807 then some (x++y)else none
theorem Z9{x y z:ByteArray}(h:cat x y=some z):x.size+y.size<=9223372036854775807:=by unfold cat at h;split at h;(assumption);·cases h
def enI(n:Int):List D:=[.int .i64 n]
def enB(n:Int):List D:=[.int .u8 n]
def enS(s:ByteArray):List D:=[.str s]
def enT(b:Bool):List D:=[.bool b]
def enL{α:Type}(f:α->List D)(xs:List α):List D:=[.sl (xs.map f)]
def bF(s:ByteArray):List Int:=s.data.toList.map λb=>(b.toNat:Int)
theorem ZD(s:ByteArray):E1 s.data.toList=(bF s).map enB:=by unfold E1 bF enB;rw[List.map_map];rfl
def bL(l:List Int):ByteArray:=⟨(l.map λn=>UInt8.ofNat n.toNat).toArray⟩
def toStr(l:List Int):Option ByteArray:=if l.all (λn=>decide (0<=n/\n<256))=true then some (bL l)else none
theorem KY(l:List Int):strOf (l.map enB)=bL l:=by unfold strOf bL enB;rw[List.map_map];rfl
theorem Mp{l:List Int}{z:ByteArray}(h:toStr l=some z):∀x∈l.map enB,∃b:UInt8,x=[.int .u8 (b.toNat:Int)]:=by
 unfold toStr at h
 split at h
 ·rename_i j
  intro x I
  obtain⟨n,C,rfl⟩:=qx.1 I
  have:=qR.1 j n C
  simp only[qL]at this
  refine⟨UInt8.ofNat n.toNat,?_⟩
  unfold enB
  have h1:(UInt8.ofNat n.toNat).toNat=n.toNat:=by simp;omega
  rw[h1,jT this.1]
 ·cases h
def BM{α:Type}(xs:List α)(i:Int):Option (List α):=if 0<=i/\i.toNat<=xs.length then some (xs.drop i.toNat)else none
def B6{α:Type}(xs:List α)(j:Int):Option (List α):=if 0<=j/\j.toNat<=xs.length then some (xs.take j.toNat)else none
def SY{α:Type}(xs:List α)(i j:Int):Option (List α):=if 0<=i/\i<=j/\j.toNat<=xs.length then some ((xs.take j.toNat).drop i.toNat)else none
theorem Qr{α:Type}{xs z:List α}{i:Int}{f:α->List D}{n:Nat}(C:∀x,(f x).length=n)(h:BM xs i=some z):0<=i/\i.toNat<=xs.length/\∀x∈xs.map f,x.length=n:=by unfold BM at h;split at h;(rename_i j;refine⟨j.1,j.2,λx I=> ?_⟩;obtain⟨y,_,rfl⟩:=qx.1 I;exact C y);·cases h
theorem Qh{α:Type}{xs z:List α}{i:Int}{f:α->List D}{n:Nat}(C:∀x,(f x).length=n)(h:B6 xs i=some z):0<=i/\i.toNat<=xs.length/\∀x∈xs.map f,x.length=n:=by unfold B6 at h;split at h;(rename_i j;refine⟨j.1,j.2,λx I=> ?_⟩;obtain⟨y,_,rfl⟩:=qx.1 I;exact C y);·cases h
theorem Mk{α:Type}{xs z:List α}{i j:Int}{f:α->List D}{n:Nat}(I:∀x,(f x).length=n)(h:SY xs i j=some z):0<=i/\i<=j/\j.toNat<=xs.length/\∀x∈xs.map f,x.length=n:=by unfold SY at h;split at h;(rename_i C;refine⟨C.1,C.2.1,C.2.2,λx J=> ?_⟩;obtain⟨y,_,rfl⟩:=qx.1 J;exact I y);·cases h
theorem IJ{α:Type}{f:α->List D}(j:∀x,(f x).all D.flat=true)(xs:List α):(xs.map f).all (λy=>y.all D.flat)=true:=by rw[qR];intro y C;obtain⟨x,_,rfl⟩:=qx.1 C;exact j x
theorem enI.fl(l:List Int):(List.map enI l).all (λy=>y.all D.flat)=true:=IJ (λ_=>rfl) l
theorem enB.fl(l:List Int):(List.map enB l).all (λy=>y.all D.flat)=true:=IJ (λ_=>rfl) l
theorem enS.fl(l:List ByteArray):(List.map enS l).all (λy=>y.all D.flat)=true:=IJ (λ_=>rfl) l
theorem enT.fl(l:List Bool):(List.map enT l).all (λy=>y.all D.flat)=true:=IJ (λ_=>rfl) l
theorem Rf {P : Program} {f : FuncId} {fn : Func} {c : Code} {args : List (Bool × List D)} {rs : List (Bool × List RC)} {N : Nat} {vars : List ResultVar} (hf : P.funcs[f]? = some fn) (hb : fn.body = some c) (hN : fn.ntmps = N) (hv : fn.results.toList = vars) (hnm : (fn.name == "runtime.NumGoroutine") = false) (hn : args.length <= N)
  (h : ∀(base:Nat) (w0:W0),SW P base w0 N c (init args) (aft P base w0 N (Ret (fM P) vars rs) [])):lE P f args rs:=by
 subst hN hv
 exact Zn hf hb hnm hn h
end Go.Sh
namespace Go.Sh
theorem UT(N d:Nat)(a b:Bool×List RC)(j:List (Bool×List RC)):EF N (some d) (a::b::j)=FF d 0 (a::b::j) λC=>put N (some d) (.tup C):=rfl
theorem Uv(N d:Nat):EF N (some d) []=FF d 0 [] λj=>put N (some d) (.tup j):=rfl
theorem Vh(sz k:Nat)(xs:List (List D)):(NK sz 0 k xs).drop k=xs.drop k:=by unfold NK;rw[List.take_zero,jP,qp];exact List.drop_left' wb
theorem ZO(sz k:Nat)(xs:List (List D)):(NK sz 0 k xs).length-k=xs.length-k:=by unfold NK;simp
theorem aAP{α:Type}(xs:List α)(k:Nat):(xs.drop k).take (xs.length-k)=xs.drop k:=jf wb
theorem SU{sz:Nat}{i:Int}{xs:List (List D)}(h:0<=i):0<=i/\i.toNat<=(NK sz 0 i.toNat xs).length:=⟨h,by unfold NK;simp⟩
theorem ZL{α:Type}(a:α)(as j:List α):List.append (a::as) j=a::List.append as j:=rfl
theorem aBT{α:Type}(j:List α):List.append [] j=j:=rfl
theorem aCW(xs:List (List D)):D.flat (.sl xs)=false:=rfl
theorem aAe(xs:List D):D.flat (.ptr xs)=false:=rfl
theorem ZT(u:Value):D.flat (.val u)=false:=rfl
def Ez9:=PLift.up (qI @tQ.eq_1 (qI @tQ.eq_2 (qI @EY.eq_1 (qI @EY.eq_2 (qI @evG.eq_1 (qI @CN.eq_1 (qI @vOp.eq_1 (qI @vOp.eq_2 (qI @vOp.eq_3 (qI @vOp.eq_4 (qI @aDd.eq_1 (qI @aDd.eq_2 (qI @put.eq_1 (qI @put.eq_2 (qI @ex.eq_1 (qI @ex.eq_2 (qI @ex.eq_3 (qI @ex.eq_4 (qI @ex.eq_5 (qI @ex.eq_6 (qI @ex.eq_7 (qI @ex.eq_8 (qI @exF.eq_1 (qI @exF.eq_2 (qI @exF.eq_3 (qI @exF.eq_4 (qI @exF.eq_5 (qI @exF.eq_6 (qI @exF.eq_7 (qI @exF.eq_8 (qI @cst.eq_1 (qI @cst.eq_2 (qI @cst.eq_3 (qI @cst.eq_4 (qI @one.eq_1 (qI @DD.eq_1 (qI @DD.eq_2 (qI @DD.eq_3 (qI @DD.eq_4 (qI @lab.eq_1 (qI @lab.eq_2 (qI @Nm.eq_1 (qI @Nm.eq_2 (qI @Nm.eq_3 (qI @Nm.eq_4 (qI @Nm.eq_5 (qI @Nm.eq_6 (qI @Nm.eq_7 (qI @Nm.eq_8 (qI @Nm.eq_9 (qI @Ht.eq_1 (qI @Ht.eq_2 (qI @Ht.eq_3 (qI @Ht.eq_4 (qI @Ht.eq_5 (qI @Ju.eq_1 (qI @GI.eq_1 (qI @GI.eq_2 (qI @DB.eq_1 (qI @DB.eq_2 (qI @DB.eq_3 (qI @DB.eq_4 (qI @DB.eq_5 (qI @DB.eq_6 (qI @DB.eq_7 (qI @DB.eq_8 (qI @DB.eq_9 (qI @HR.eq_1 (qI @HR.eq_2 (qI @AL.eq_1 (qI @AL.eq_2 (qI @AL.eq_3 (qI @AL.eq_4 (qI @AL.eq_5 (qI @FF.eq_1 (qI @FF.eq_2 (qI @EF.eq_1 (qI @EF.eq_2 (qI @N3.eq_1 (qI @Ch.eq_1 (qI @Ch.eq_2 (qI @Ch.eq_3 (qI @Ch.eq_4 (qI @Ch.eq_5 (qI @Ch.eq_6 (qI @Ch.eq_7 (qI @Tv.eq_1 (qI @Tv.eq_2 (qI @Sm.eq_1 (qI @Sm.eq_2 (qI @H0.eq_1 (qI @H0.eq_2 (qI @H0.eq_3 (qI @H0.eq_4 (qI @H0.eq_5 (qI @H0.eq_6 (qI @H0.eq_7 (qI @H0.eq_8 (qI @RC.ed.eq_1 (qI @RC.ed.eq_2 (qI @RC.ed.eq_3 (qI @RC.ed.eq_4 (qI @TT.eq_1 (qI @TT.eq_2 (qI @TT.eq_3 (qI @Qp.eq_1 (qI @Mm.eq_1 (qI @Mm.eq_2 (qI @Mm.eq_3 (qI @Mm.eq_4 (qI @Mm.eq_5 (qI @OR.eq_1 (qI @OR.eq_2 (qI @E2.eq_1 (qI @E2.eq_2 (qI @rows.eq_1 (qI @rows.eq_2 (qI @Ac.eq_1 (qI @Ac.eq_2 (qI @Ac.eq_3 (qI @Ac.eq_4 (qI @Ac.eq_5 (qI @Ac.eq_6 (qI @Ac.eq_7 (qI @Ac.eq_8 (qI @Ac.eq_9 (qI @Ac.eq_10 (qI @Ac.eq_11 (qI @Ac.eq_12 (qI @Ac.eq_13 (qI @Ac.eq_14 (qI @Ac.eq_15 (qI @Ac.eq_16 (qI @Ac.eq_17 (qI @J8.eq_1 (qI @J8.eq_2 (qI @J8.eq_3 (qI @J8.eq_4 (qI @J8.eq_5 (qI @J8.eq_6 (qI @lenOf.eq_1 (qI @lenOf.eq_2 (qI @lenOf.eq_3 (qI @lenOf.eq_4 (qI @lenOf.eq_5 (qI @OP.eq_1 (qI @OP.eq_2 (qI @OP.eq_3 (qI @OP.eq_4 (qI @Ox.eq_1 (qI @Ox.eq_2 (qI @ME.eq_1 (qI @ME.eq_2 (qI @ME.eq_3 (qI @Dn.eq_1 (qI @Dn.eq_2 (qI @Dn.eq_3 (qI @Dn.eq_4 (qI @EO.eq_1 (qI @EO.eq_2 (qI @EO.eq_3 (qI @EO.eq_4 (qI @HF.eq_1 (qI @HF.eq_2 (qI @HF.eq_3 (qI @HF.eq_4 (qI @UY.eq_1 (qI @QP.eq_1 (qI @QP.eq_2 (qI @Dp.eq_1 (qI @Dp.eq_2 (qI @Dp.eq_3 (qI @Dp.eq_4 (qI @RZ.eq_1 (qI @D.flat.eq_1 (qI @D.flat.eq_2 (qI @D.flat.eq_3 (qI @D.flat.eq_4 (qI @rid.eq_1 (qI @TI.agg.eq_1 (qI @SO (qI @VI (qI @TF (qI @WG (qI @WS (qI @Vh (qI @ZO (qI @aAP (qI @CM.eq_1 (qI @UT (qI @Uv (qI @aCW (qI @aAe (qI @ZT (qI @St.M9 (qI @St.XT (qI @St.YV (qI @St.OY (qI @YL @Zm)))))))))))))))))))))))))))))))))))))))))))))))))))))))))))))))))))))))))))))))))))))))))))))))))))))))))))))))))))))))))))))))))))))))))))))))))))))))))))))))))))))))))))))))))))))))))))))))))))))))
theorem E:type_of% Ez9.down:=Ez9.down
def Lz9:=PLift.up (qI @List.take_succ_cons.{0} (qI @List.take_zero.{0} (qI @List.drop_succ_cons.{0} (qI @List.drop_zero.{0} (qI @List.map_cons.{0,0} (qI @List.map_nil.{0,0} (qI @List.cons_append.{0} (qI @List.nil_append.{0} (qI @List.append_nil.{0} (qI @List.length_cons.{0} (qI @List.length_nil.{0} (qI (@List.getElem?_cons_zero.{0}) (qI (@List.getElem?_cons_succ.{0}) (qI @List.tail_cons.{0} (qI @List.tail_nil.{0} (qI @Option.isSome_some.{0} (qI @Option.isSome_none.{0} (qI @List.take_nil.{0} (qI @List.drop_nil.{0} (qI (@List.getElem?_map.{0,0}) (qI @Option.map_some.{0,0} (qI @Option.bind_some.{0,0} (qI @List.length_map.{0,0} (qI @List.replicate_succ.{0} (qI @List.replicate_zero.{0} (qI @List.flatten_cons.{0} (qI @List.flatten_nil.{0} (qI (@List.getElem?_toArray.{0}) (qI @List.toList_toArray.{0} (qI @ZL (qI @aBT (qI @List.any_cons.{0} (qI @List.any_nil.{0} (qI Bool.or_true (qI Bool.true_or (qI Bool.or_false (qI ja (qI jM (qI Bool.true_and (qI Bool.and_false (qI Bool.false_and (qI true_and (qI and_true and_self)))))))))))))))))))))))))))))))))))))))))))
theorem L:type_of% Lz9.down:=Lz9.down
def Fz9:=PLift.up (qI @List.set_cons_zero.{0} (qI @List.set_cons_succ.{0} (qI @St.M9 (qI @St.XT (qI @St.YV (qI @St.OY (qI @YL (qI @Zm (qI @List.map_append.{0,0} (qI @List.map_cons.{0,0} (qI @List.map_nil.{0,0} (qI @List.map_set.{0,0} (qI @List.map_replicate.{0,0} (qI @List.append_nil.{0} (qI @List.nil_append.{0} (qI @List.cons_append.{0} (qI (@List.getElem?_cons_zero.{0}) (qI (@List.getElem?_cons_succ.{0}) (qI jM Bool.true_and)))))))))))))))))))
theorem F:type_of% Fz9.down:=Fz9.down
open Go.RowKit
def Gho(P:Program)(base:Nat)(j:W0)(N:Nat)(s s':St):Prop:=∀a w,Rel P base j N s a w->Rel P base j N s' a w
theorem aJn{α β:Type}{f:α->β}{K:α}{r:β}(h:f K=r):∃j,j=K/\f j=r:=⟨K,rfl,h⟩
section
variable {P:Program}{base N:Nat}{w0:W0}{Z:St->Prop}{k:List Fr}{s s' s'':St}
theorem Gho.refl(s:St):Gho P base w0 N s s:=λ_ _ h=>h
theorem Gho.trans(h:Gho P base w0 N s s')(j:Gho P base w0 N s' s''):Gho P base w0 N s s'':=λa w R=>j a w (h a w R)
theorem Cj{c:Code}{Q:Exit->St->Prop}(j:Gho P base w0 N s s')(h:SW P base w0 N c s' Q):SW P base w0 N c s Q:=λa w R=>h a w (j a w R)
theorem GF{c:Code}(I:Nat->St->Prop)(n:Nat)(J:I n s)(h:∀m s,I m s->SW P base w0 N c s (aft P base w0 N Z (.inv (λs'=>∃j,Gho P base w0 N s' j/\∃C,C<m/\I C j)::k))):SW P base w0 N (.loop c) s (aft P base w0 N Z k):=by
 intro a w R
 refine wp_loop_ghost (λm a w=>∃s,I m s/\Rel P base w0 N s a w) n ⟨s,J,R⟩ ?_
 rintro m a w ⟨s,h1,R⟩
 refine wp_mono (h m s h1 a w R) ?_
 rintro e a' w' ⟨s',h2,h3⟩
 cases e with
 |normal=>obtain⟨j,U,C,h4,h5⟩:=h2;exact⟨C,h4,j,h5,U _ _ h3⟩
 |_=>exact⟨s',h2,h3⟩
theorem Vy{g:Gh}{a:Act}{w:World}{j K vj:Nat}{e:TypeId}{sz:Nat}{xs:List (List D)}{dp:Bool}(R:nV P base w0 N g s a w [])(h2:s.h j=(vj,.row e sz xs dp)):
  ∃g',nV P base w0 N g' ((s.fL j (vj,.none)).fL K ((s.h K).1+1,.row e sz xs dp)) a w []/\mA g g' s.h ((s.fL j (vj,.none)).fL K ((s.h K).1+1,.row e sz xs dp)).h w w/\
   ∀v,B3 g s.h w (.row j vj) v->B3 g' ((s.fL j (vj,.none)).fL K ((s.h K).1+1,.row e sz xs dp)).h w (.row K ((s.h K).1+1)) v:=by
 have C:(s.h j).1=vj:=by rw[h2]
 have I:(s.h j).2=.row e sz xs dp:=by rw[h2]
 have U:=R.inv.obj j
 rw[I]at U
 obtain⟨cells,p1,p2,p3,p4,p5⟩:=U
 obtain⟨I1,J⟩:=R.inv.FM I
 rw[C]at I1 J
 have T1:mA g g s.h (pZ s.h j (vj,.none)) w w:=by have:=mA.drop (g:=g) (h:=s.h) (w:=w) j g.S λ_ x=>x;rw[C]at this;exact this
 have hver:(pZ s.h j (vj,.none) K).1=(s.h K).1:=by by_cases hk:K=j;(subst hk;rw[bR,C]);·rw[eE _ _ _ _ hk]
 have I2:=I1.FY (i:=K) (v:=g.val j) (e:=e) (sz:=sz) (xs:=xs) (dp:=dp) (cells:=cells) (F:=g.fp j) (pool':=[]) p1 p2 p3 p4 J wb jb (λhd=>by subst hd;simp only[jI,jP];exact⟨(p5 rfl).1,λb hb=>⟨hb,wb⟩⟩)
 have T2:=mA.create (g:=g) (h:=pZ s.h j (vj,.none)) (w:=w) K (g.val j) (g.fp j) (.row e sz xs dp)
 rw[hver]at I2 T2
 refine⟨_,R.turn (T1.trans T2) rfl R.below I2,T1.trans T2,?_⟩
 rintro v ⟨h0,_,hv⟩
 refine⟨h0,?_,?_⟩
 ·show _<=(pZ _ K _ K).1;rw[bR];exact qg _
 ·intro _ e' sz' xs' dp' _;show v=Iw g.val K (g.val j) K;rw[eM];exact hv C e sz xs dp I
theorem Zk{g:Gh}{a:Act}{w:World}{K:Nat}(e:TypeId)(sz:Nat)(R:nV P base w0 N g s a w []):
  ∃j,nV P base w0 N j (s.fL K ((s.h K).1+1,.row e sz [] true)) a w []/\mA g j s.h (s.fL K ((s.h K).1+1,.row e sz [] true)).h w w/\
   ∀v,B3 g s.h w .nil v->B3 j (s.fL K ((s.h K).1+1,.row e sz [] true)).h w (.row K ((s.h K).1+1)) v:=by
 have J:=R.inv.FY (i:=K) (v:=.slice none 0 0) (e:=e) (sz:=sz) (xs:=[]) (dp:=true) (cells:=[]) (F:=[]) (pool':=[]) (World.ownsRow_nil w base e sz) wb dR.nil wb (by intro b hb;cases hb) wb jb (λ_=>⟨jb,wb⟩)
 have I:=mA.create (g:=g) (h:=s.h) (w:=w) K (.slice none 0 0) [] (.row e sz [] true)
 refine⟨_,R.turn I rfl R.below J,I,?_⟩
 intro v C
 have C:v=.slice none 0 0:=C
 subst C
 refine⟨rfl,?_,?_⟩
 ·show _<=(pZ _ K _ K).1;rw[bR];exact qg _
 ·intro _ e' sz' xs' U _;show _=Iw g.val K _ K;rw[eM]
theorem N7{g:Gh}{a:Act}{w:World}{i:Nat}{sv:SV}(R:nV P base w0 N g s a w [])(j:yM g s.h w sv (a.tmps.getD i undef)):nV P base w0 N g (s.Ix i sv) a w []:=by refine⟨R.defers,R.size,R.below,R.q,R.B8,R.inv,λt=> ?_,R.lab,R.frm⟩;rw[St.M9];by_cases ht:t=i;(subst ht;simp only[jI];exact j);·simp only[ht,jH];exact R.tmp t
theorem Gho.aDv{i j K vj:Nat}{e:TypeId}{sz:Nat}{xs:List (List D)}{dp:Bool}(h1:s.t i=.v false [.row j vj])(h2:s.h j=(vj,.row e sz xs dp)):
  Gho P base w0 N s (((s.fL j (vj,.none)).fL K ((s.h K).1+1,.row e sz xs dp)).Ix i (.v false [.row K ((s.h K).1+1)])):=by
 rintro a w ⟨g,R⟩
 have C:=R.tmp i
 rw[h1]at C
 obtain⟨J,I,T,hc⟩:=Vy (K:=K) R h2
 exact⟨J,N7 I ⟨_,[],rfl,hc _ (eZ C),rfl⟩⟩
theorem Gho.aFb{i K:Nat}(e:TypeId)(sz:Nat)(h1:s.t i=.v false [.nil]):
  Gho P base w0 N s ((s.fL K ((s.h K).1+1,.row e sz [] true)).Ix i (.v false [.row K ((s.h K).1+1)])):=by
 rintro a w ⟨g,R⟩
 have j:=R.tmp i
 rw[h1]at j
 obtain⟨I,C,T,hc⟩:=Zk (K:=K) e sz R
 exact⟨I,N7 C ⟨_,[],rfl,hc _ (eZ j),rfl⟩⟩
theorem aU.set{g:Gh}{h:Heap}{w:World}:∀{cs:List SC} {vs:List Value} (c:Nat) (x y:SC),aU g h w cs vs->cs[c]? =some x->(∀v,B3 g h w x v->B3 g h w y v)->aU g h w (cs.set c y) vs
 |[],vs,c,x,y,hc,I,_=>by simp at I
 |z::cs,vs,0,x,y,hc,I,j=>by obtain⟨v,C,rfl,h1,h2⟩:=hc;simp at I;subst I;exact⟨v,C,rfl,j v h1,h2⟩
 |z::cs,vs,c+1,x,y,hc,I,j=>by obtain⟨v,C,rfl,h1,h2⟩:=hc;exact⟨v,C,rfl,h1,aU.set c x y h2 (by simpa using I) j⟩
theorem aBl{g:Gh}{a:Act}{w:World}{b vb C:Nat}{t:TypeId}{cells cells':List SC}{vals:Array Value}(R:nV P base w0 N g s a w [])(hb:s.h b=(vb,.box t cells))(h3:g.val b=.pointer (some ⟨C,0,none⟩))(h5:w.heap[C]? =some (.cells vals t (0,0)))(hc:aU g s.h w cells' vals.toList):
  ∃g',nV P base w0 N g' (s.fL b (vb,.box t cells')) a w []:=by
 have I:(s.h b).1=vb:=by rw[hb]
 have hb2:(s.h b).2=.box t cells:=by rw[hb]
 have hlive:live s.h b:=by unfold live;rw[hb2];simp
 have hown:Ds (g.val b)=some C:=by rw[h3];rfl
 have J:=R.inv.mtb b C hlive hown
 have T:mA g { g with fp:=Iw g.fp b (g.fp b) } s.h (pZ s.h b ((s.h b).1,.box t cells')) w w:=
  mA.Hd J (λ_ _=>rfl) (by intro e sz xs dp j;cases j) (by intro t0 cs0 j;cases j;exact⟨_,hb2⟩)
 have U:=R.inv.Hd (i:=b) (b:=C) (F:=g.fp b) (pool':=[]) (w':=w) hlive hown rfl (λ_ _=>rfl) T
  ⟨C,vals,h3,(R.inv.H5 hlive hown).1,h5,hc.turn T⟩ wb jb (by rintro⟨_,_,_,j⟩;cases j)
 rw[I]at T U
 exact⟨_,R.turn T rfl R.below U⟩
theorem Ks{g g':Gh}{a:Act}{w:World}{b vb c:Nat}{t:TypeId}{cells:List SC}{x y:SC}(R:nV P base w0 N g s a w [])(R':nV P base w0 N g' s' a w [])(T:mA g g' s.h s'.h w w)(U:s.h b=(vb,.box t cells))(j:s'.h b=(vb,.box t cells))(h1:cells[c]? =some x)
  (hc:∀v,B3 g s.h w x v->B3 g' s'.h w y v):Rel P base w0 N (s'.fL b (vb,.box t (cells.set c y))) a w:=by
 have C:=R.inv.obj b
 rw[show(s.h b).2=.box t cells from by rw[U]]at C
 obtain⟨b',vals,h3,h4,h5,h6⟩:=C
 have hv:g'.val b=g.val b:=(T.box b t cells (by rw[j,U]) (by rw[j])).1
 have hnew:∀{cs:List SC} {vs:List Value} (c:Nat),aU g s.h w cs vs->cs[c]? =some x->aU g' s'.h w (cs.set c y) vs:=by
  intro cs
  induction cs with
  |nil=>intro vs c _ I;simp at I
  |cons z cs ih=>
   intro vs c hA I
   obtain⟨v,J,rfl,k1,k2⟩:=hA
   cases c with
   |zero=>simp at I;subst I;exact⟨v,J,rfl,hc v k1,k2.turn T⟩
   |succ c=>exact⟨v,J,rfl,k1.turn T,ih c k2 (by simpa using I)⟩
 exact aBl R' j (hv.trans h3) h5 (hnew c h6 h1)
theorem Gho.aBM{b vb c j K vj:Nat}{t:TypeId}{cells:List SC}{e:TypeId}{sz:Nat}{xs:List (List D)}{dp:Bool}(C:s.h b=(vb,.box t cells))(h1:cells[c]? =some (.row j vj))(h2:s.h j=(vj,.row e sz xs dp))(hk:b≠K):
  Gho P base w0 N s (((s.fL j (vj,.none)).fL K ((s.h K).1+1,.row e sz xs dp)).fL b (vb,.box t (cells.set c (.row K ((s.h K).1+1))))):=by
 rintro a w ⟨g,R⟩
 have I:b≠j:=λe=>by rw[e,h2]at C;cases C
 obtain⟨U,J,T,hc⟩:=Vy (K:=K) R h2
 refine Ks R J T C ?_ h1 hc
 show pZ (pZ s.h j _) K _ b=_
 rw[eE _ _ _ _ hk,eE _ _ _ _ I,C]
theorem Gho.aFO{b vb c K:Nat}{t:TypeId}{cells:List SC}(e:TypeId)(sz:Nat)(j:s.h b=(vb,.box t cells))(h1:cells[c]? =some .nil)(hk:b≠K):
  Gho P base w0 N s ((s.fL K ((s.h K).1+1,.row e sz [] true)).fL b (vb,.box t (cells.set c (.row K ((s.h K).1+1))))):=by
 rintro a w ⟨g,R⟩
 obtain⟨I,C,T,hc⟩:=Zk (K:=K) e sz R
 refine Ks R C T j ?_ h1 hc
 show pZ s.h K _ b=_
 rw[eE _ _ _ _ hk,j]
theorem sq{x y:Code}(h:SW P base w0 N x s (aft P base w0 N Z (.code y::k))):SW P base w0 N (.seq x y) s (aft P base w0 N Z k):=aDq h
theorem bk{id:Nat}{c:Code}(h:SW P base w0 N c s (aft P base w0 N Z (.block id::k))):SW P base w0 N (.block id c) s (aft P base w0 N Z k):=aBO h
theorem sk(h:aft P base w0 N Z k .normal s):SW P base w0 N .skip s (aft P base w0 N Z k):=aCO h
theorem xt{id:Nat}(h:aft P base w0 N Z k (.exit id) s):SW P base w0 N (.exit id) s (aft P base w0 N Z k):=aCe h
theorem rt(h:Z s):SW P base w0 N .ret s (aft P base w0 N Z k):=aDy h
theorem an{c:Code}(h:SW P base w0 N c s (aft P base w0 N Z k)):aft P base w0 N Z (.code c::k) .normal s:=h
theorem ab{id:Nat}(h:aft P base w0 N Z k .normal s):aft P base w0 N Z (.block id::k) .normal s:=h
end
section
variable {P:Program}{base N:Nat}{w0:W0}{Z:St->Prop}{k:List Fr}{s s':St}
theorem Xx{g:Gh}{a:Act}{w:World}{j vj:Nat}{e:TypeId}{sz:Nat}{xs:List (List D)}{dp:Bool}(R:nV P base w0 N g s a w [])(h2:s.h j=(vj,.row e sz xs dp)):
  ∃U,nV P base w0 N U (s.fL j (vj,.none)) a w []/\mA g U s.h (s.fL j (vj,.none)).h w w/\∀v,B3 g s.h w (.row j vj) v->B3 U (s.fL j (vj,.none)).h w (.dat (.sl xs)) v:=by
 have C:(s.h j).1=vj:=by rw[h2]
 have I:(s.h j).2=.row e sz xs dp:=by rw[h2]
 obtain⟨S',F,hS,_,hrep,_,_,hF,_,I1⟩:=R.inv.take I
 have J:=mA.drop (g:=g) (h:=s.h) (w:=w) j S' hS
 rw[C]at I1 J
 refine⟨_,R.turn J rfl R.below I1.forget,J,?_⟩
 rintro v ⟨h0,_,hv⟩
 have e1:v=g.val j:=hv C e sz xs dp I
 subst e1
 exact⟨F,hrep,hF⟩
theorem aU.swap{g g':Gh}{h I:Heap}{w:World}{x y:SC}(T:mA g g' h I w w)(hc:∀v,B3 g h w x v->B3 g' I w y v):∀{cs:List SC} {vs:List Value} (c:Nat),aU g h w cs vs->cs[c]? =some x->aU g' I w (cs.set c y) vs
 |[],_,c,_,C=>by simp at C
 |z::cs,vs,0,J,C=>by obtain⟨v,j,rfl,U,k2⟩:=J;simp at C;subst C;exact⟨v,j,rfl,hc v U,k2.turn T⟩
 |z::cs,vs,c+1,J,C=>by obtain⟨v,j,rfl,U,k2⟩:=J;exact⟨v,j,rfl,U.turn T,aU.swap T hc c k2 (by simpa using C)⟩
theorem Gho.aFk{i c j vj:Nat}{C:Bool}{cs:List SC}{e:TypeId}{sz:Nat}{xs:List (List D)}{dp:Bool}(h1:s.t i=.v C cs)(hc:cs[c]? =some (.row j vj))(h2:s.h j=(vj,.row e sz xs dp)):
  Gho P base w0 N s ((s.fL j (vj,.none)).Ix i (.v C (cs.set c (.dat (.sl xs))))):=by
 rintro a w ⟨g,R⟩
 have I:=R.tmp i
 rw[h1]at I
 obtain⟨g',U,T,J⟩:=Xx R h2
 refine⟨g',N7 U ?_⟩
 cases C with
 |false=>exact aU.swap T J c I hc
 |true=>
  obtain⟨vs,h3,h4⟩:=I
  exact⟨vs,h3,aU.swap T J c h4 hc⟩
theorem Gho.aFv{b vb c j vj:Nat}{t:TypeId}{cells:List SC}{e:TypeId}{sz:Nat}{xs:List (List D)}{dp:Bool}(C:s.h b=(vb,.box t cells))(h1:cells[c]? =some (.row j vj))(h2:s.h j=(vj,.row e sz xs dp)):
  Gho P base w0 N s ((s.fL j (vj,.none)).fL b (vb,.box t (cells.set c (.dat (.sl xs))))):=by
 rintro a w ⟨g,R⟩
 have I:b≠j:=λe=>by rw[e,h2]at C;cases C
 obtain⟨U,J,T,hc⟩:=Xx R h2
 refine Ks R J T C ?_ h1 hc
 show pZ s.h j _ b=_
 rw[eE _ _ _ _ I,C]
end
def ZQ(B:Nat)(j:Nat->Value):Nat->List D->List SC
 |_,[]=>[]
 |k,d::ds=>.old B d (some (j k))::ZQ B j (k+1) ds
theorem aA2(B:Nat)(j:Nat->Value)(k:Nat):ZQ B j k []=[]:=rfl
theorem Zr(B:Nat)(j:Nat->Value)(k:Nat)(d:D)(ds:List D):ZQ B j k (d::ds)=.old B d (some (j k))::ZQ B j (k+1) ds:=rfl
def aA9(B:Nat)(j:Nat->Value)(x y:List D):St:=
 { t:=λi=>if i=0 then .v true (x.map .dat)else if i=1 then .v true (ZQ B j 0 y)else .undef,h:=λ_=>(0,.none) }
theorem aC6(B:Nat)(j:Nat->Value)(x y:List D)(i:Nat):(aA9 B j x y).t i=if i=0 then .v true (x.map .dat)else if i=1 then .v true (ZQ B j 0 y)else .undef:=rfl
theorem aCA(B:Nat)(j:Nat->Value)(x y:List D)(i:Nat):(aA9 B j x y).h i=(0,.none):=rfl
theorem Wo(B:Nat)(d:D)(u:Option Value)(cs:List SC)(k:List D->Prog):DB (.old B d u::cs) k=DB cs λds=>k (d::ds):=rfl
def aFu(T:Sb)(vars:List ResultVar)(B:Nat)(j:Nat->Value)(y:List D)(s:St):Prop:=Hg T s vars=some [(true,ZQ B j 0 y),(false,[.dat (.bool true)])]
theorem Zl{g:Gh}{h:Heap}{w:World}{B:Nat}{U:Nat->Value}:∀{ds:List D} {vs:List Value} {F:List Nat} (k:Nat),aM w ds vs F->(∀b∈F,g.S b/\b<B)->(∀i v,vs[i]? =some v->v=U (k+i))->aU g h w (ZQ B U k ds) vs
 |[],vs,F,k,j,_,_=>by simp only[aM]at j;exact j.1
 |d::ds,vs,F,k,j,I,J=>by simp only[aM]at j;obtain⟨v,C,F1,F2,rfl,rfl,h3,h4⟩:=j;refine⟨v,C,rfl,⟨F1,h3,λb hb=>I b (by simp[hb]),λx hx=> ?_⟩,Zl (k+1) h4 (λb hb=>I b (by simp[hb])) λi u hi=> ?_⟩;(cases hx;exact J 0 v rfl);·rw[J (i+1) u (by simpa using hi)];congr 1;omega
theorem Y9{g:Gh}{h:Heap}{w:World}{B:Nat}{I:Nat->Value}:∀{ds:List D} {vs:List Value} (k:Nat),aU g h w (ZQ B I k ds) vs->vs.length=ds.length/\∀i v,vs[i]? =some v->v=I (k+i)
 |[],vs,k,j=>by rw[show vs=[]from j];exact⟨rfl,λi v J=>by simp at J⟩
 |d::ds,vs,k,j=>by
  obtain⟨v,vs',rfl,⟨F,_,_,h3⟩,h4⟩:=j
  obtain⟨U,k2⟩:=Y9 (k+1) h4
  refine⟨by simp[U],λi u C=> ?_⟩
  cases i with
  |zero=>simp at C;rw[<-C];exact h3 _ rfl
  |succ i=>
   rw[k2 i u (by simpa using C)]
   congr 1
   omega
theorem aCV {P : Program} {f : FuncId} {fn : Func} {c : Code} {x y : List D} {N : Nat} {vars : List ResultVar} (hf : P.funcs[f]? = some fn) (hb : fn.body = some c) (hN : fn.ntmps = N) (hv : fn.results.toList = vars) (hnm : (fn.name == "runtime.NumGoroutine") = false) (hn : 2 <= N)
  (h : ∀(base:Nat) (w0:W0) (us:Nat->Value),SW P base w0 N c (aA9 base us x y) (aft P base w0 N (aFu (fM P) vars base us y) [])):lE P f [(true,x),(true,y)] [(false,[.edit .pass])]:=by
 subst hN hv
 refine .inr (.inl ⟨.pass,rfl,⟨fn,c,hf,hb,hnm⟩,λw v1 v2 Fa ha => ?_⟩)
 have hFlt:=KJ (vs:=[v1,v2]) ha
 obtain ⟨F1,F',e1,h1,F2,F3,e2,h2,h3⟩:=ha
 have e3:F3=[]:=h3
 subst e3 e2 e1
 obtain ⟨c1,rfl,r1⟩:=h1
 obtain ⟨c2,rfl,r2⟩:=h2
 refine calls_of_wp hf hb ?_
 let us:Nat->Value:=λi=>c2.toList.getD i undef
 let g:Gh:={ val:=λ_=>undef,fp:=λ_=>[],S:=λb=>b∈F1++(F2++[]),Q:=⟨λb=>b∈F1++(F2++[]),w.heap.size,none,slP P⟩ }
 have R:Rel P w.heap.size ⟨w,⟨λb=>b∈F1++(F2++[]),w.heap.size,none,slP P⟩,noK,Ui⟩ fn.ntmps (aA9 w.heap.size us x y) { tmps := #[.agg c1,.agg c2]++Array.replicate (fn.ntmps-2) undef,defers:=[] } w:=by refine ⟨g,rfl,wV,Below.refl _ _,⟨λ_ x=>x,rfl,λ_ hx=>(by cases hx)⟩,λ_ x=>x.elim,⟨qg _,λ_ x _=>x,hFlt,λi=>trivial,λi b hl=>absurd rfl hl,λi j b _ hl=>absurd rfl hl,?_,Ck.nil _ _,wb,λi hd=>(by obtain ⟨_,_,_,hd⟩:=hd;cases hd),qg _⟩,λt => ?_,⟨rfl,.inl rfl⟩,λ_=>trivial⟩;(rintro i j _ ⟨_,_,_,hd⟩;cases hd);·show yM g _ w (if t=0 then .v true (x.map .dat) else if t=1 then .v true (ZQ w.heap.size us 0 y) else .undef) _;by_cases h0:t=0;(subst h0;rw [jF rfl];exact ⟨c1,by rw [jN,Array.getElem?_append_left wb];rfl,aU.J7 r1 λb hb=>by show b∈F1++(F2++[]);simp [hb]⟩);·rw [jG h0];by_cases h1:t=1;(subst h1;rw [jF rfl];refine ⟨c2,by rw [jN,Array.getElem?_append_left wb];rfl,Zl 0 r2 (λb hb=>⟨by show b∈F1++(F2++[]);simp [hb],hFlt b (by simp [hb])⟩) λi v hi => ?_⟩;show v=c2.toList.getD (0+i) undef;rw [qp,List.getD_eq_getElem?_getD,hi];rfl);·rw [jG h1];show _=undef;simp only [jN,Array.getElem?_append];rw [jG wV];by_cases h2:t-2<fn.ntmps-2;(simp [h2]);·rw [Array.getElem?_eq_none wV];rfl
 refine wp_mono (h w.heap.size ⟨w,⟨λb=>b∈F1++(F2++[]),w.heap.size,none,slP P⟩,noK,Ui⟩ us _ w R) ?_
 rintro e a' w' ⟨s',h1,g',R'⟩
 have fin:aFu (fM P) fn.results.toList w.heap.size us y s'->a'.defers=[] /\ ∃v,(results fn a'.tmps).run P w' = .ok v w'/\Ending.returned v = .returned (.tuple #[.agg c2,.bool true])/\Below w.heap.size w w':=by
  intro hr
  obtain ⟨vs,k1,k2,k3⟩:=FR R' hr
  have hrun:=L3 (P:=P) (w:=w') (λx=>match x with | .tmp t=>(pure (a'.tmps.getD t undef):Sem Value) | .cell p t=>(do loadVar t (<-asAddr (a'.tmps.getD p undef)):Sem Value)) fn.results.toList vs (by rw [k1]) k3
  have hrun':(results fn a'.tmps).run P w' = .ok (if h:vs.toArray.size=1 then vs.toArray[0] else .tuple vs.toArray) w':=by unfold results;rw [<-Array.toArray_toList (xs:=fn.results)];rw [List.mapM_toArray];simp only [qs,Sem.run_map,qu];exact (congrArg (λr:Result (List Value)=>(r.andThen λa w'=>Result.ok a.toArray w').andThen λa w'=>Result.ok (if h:a.size=1 then a[0] else Value.tuple a) w') hrun).trans rfl
  obtain ⟨u1,vs1,rfl,⟨d2,rfl,m1⟩,u2,vs2,rfl,m2,m3⟩:=k2
  have m3':vs2=[]:=m3
  subst m3'
  have e2:u2 = .bool true:=Fw (g:=g') (s:=s') (w:=w') (b:=true) m2
  subst e2
  obtain ⟨n1,n2⟩:=Y9 0 m1
  have n3:c2.toList.length=y.length:=r2.length
  have e1:d2=c2:=by
   apply Array.ext'
   apply List.ext_getElem?
   intro i
   rcases jS i y.length with hi | hi
   ·have hd:i<d2.toList.length:=by rw [n1];exact hi
    have hc:i<c2.toList.length:=by rw [n3];exact hi
    rw [qF hd,qF hc]
    have:=n2 i _ (qF hd)
    rw [this]
    show some (c2.toList.getD (0+i) undef)=_
    rw [qp,List.getD_eq_getElem?_getD,qF hc]
    rfl
   ·rw [qZ (by rw [n1];exact hi),qZ (by rw [n3];exact hi)]
  subst e1
  exact ⟨R'.defers,_,hrun',rfl,R'.below⟩
 cases e with
 | normal=>exact fin h1
 | ret=>exact fin h1
 | exit id=>exact h1.elim
 | goto l=>exact h1.elim
 | panic c=>exact h1.elim
 | outgrown=>exact h1.elim
def aHc:=PLift.up (qI @aA2 (qI @Zr (qI @aC6 (qI @aCA @Wo))))
theorem LP:type_of% aHc.down:=aHc.down
theorem LM{α:Type}{f:α->List D}{sz b:Nat}{xs z J U:List α}{k:Int}(j:∀x,(f x).length=sz)(hb:0<b)(h1:B6 xs k=some J)(h2:BM xs (IntKind.i64.wrap (k+1))=some U)(h:app b (List.take k.toNat xs) (List.drop (IntKind.i64.wrap (k+1)).toNat xs)=some z):
  List.take k.toNat (NK sz (IntKind.i64.wrap (k+1)).toNat (xs.length-(IntKind.i64.wrap (k+1)).toNat) (xs.map f))=List.take k.toNat (xs.map f)/\(∀y∈List.drop (IntKind.i64.wrap (k+1)).toNat (xs.map f),y.length=sz)/\
   (k.toNat+(xs.length-(IntKind.i64.wrap (k+1)).toNat))*b<=140737488355328:=by
 obtain⟨a1,a2⟩:0<=k/\k.toNat<=xs.length:=by unfold B6 at h1;split at h1;(assumption);·cases h1
 obtain⟨b1,b2⟩:0<=IntKind.i64.wrap (k+1)/\(IntKind.i64.wrap (k+1)).toNat<=xs.length:=by unfold BM at h2;split at h2;(assumption);·cases h2
 have h3:=fJ h
 have C:(List.take k.toNat xs).length=k.toNat:=by rw[qV];omega
 rw[C,qW]at h3
 have h4:k.toNat<=140737488355328:=qh (qh (Nat.le_mul_of_pos_right _ hb) (qj b (jU _ _))) h3
 have e:IntKind.i64.wrap (k+1)=k+1:=bO wg wg
 rw[e]at b1 b2 h3⊢
 refine⟨?_,λy I=> ?_,?_⟩
 ·unfold NK;rw[jX (by simp only[qV,qU];omega),List.take_take,jW wg]
 ·obtain⟨x,_,rfl⟩:=qx.1 (qv I);exact j x
 ·exact h3
theorem UW{α:Type}{xs z:List α}{i:Int}(h:BM xs i=some z):0<=i/\i.toNat<=xs.length:=by unfold BM at h;split at h;(assumption);·cases h
theorem Rc{α:Type}{xs z:List α}{i:Int}(h:BM xs i=some z):i.toNat+(xs.length-i.toNat)=xs.length:=by have:=UW h;omega
theorem Tw{α:Type}{f:α->List D}{xs z:List α}{i:Int}{r:List D}(h:BM xs i=some z):0<=i/\i.toNat<=(List.map f (List.take i.toNat xs)++List.replicate (xs.length-i.toNat) r).length:=by have:=UW h;refine⟨this.1,?_⟩;rw[qE,qU,qV,jB];omega
theorem aAj{α:Type}{f:α->List D}{xs z:List α}{i:Int}{n:Nat}{r:List D}(h:BM xs i=some z):(List.map f (List.take i.toNat xs)++List.replicate n r).take i.toNat=List.map f (List.take i.toNat xs):=by have:=UW h;exact List.take_left' (by rw[qU,qV];omega)
def Zi(t:TypeId)(B:Nat)(C:Value)(d0:D)(ds:List D)(rest:List (Bool×List D)):St:=
 { t:=λi=>match i with|0=>.v false [.bp 7059000 1 0]|i+1=>match rest[i]? with|some (j,ds)=>.v j (ds.map .dat)|none=>.undef,h:=λi=>if i=7059000 then(1,.box t (.old B d0 (some C)::ds.map .dat))else(0,.none) }
theorem Xr(t:TypeId)(B:Nat)(C:Value)(d0:D)(ds:List D)(rest:List (Bool×List D))(i:Nat):(Zi t B C d0 ds rest).t i=match i with|0=>.v false [.bp 7059000 1 0]|i+1=>(match rest[i]? with|some (j,ds)=>.v j (ds.map .dat)|none=>.undef):=rfl
theorem ML(t:TypeId)(B:Nat)(j:Value)(d0:D)(ds:List D)(rest:List (Bool×List D))(i:Nat):(Zi t B j d0 ds rest).h i=if i=7059000 then(1,.box t (.old B d0 (some j)::ds.map .dat))else(0,.none):=rfl
def Ma(T:Sb)(vars:List ResultVar)(t:TypeId)(B:Nat)(C:Value)(d0:D)(es:List D)(j:List (Bool×List RC))(s:St):Prop:=
 Ret T vars j s/\s.h 7059000=(1,.box t (.old B d0 (some C)::es.map .dat))
theorem VR{g:Gh}{h:Heap}{w:World}:∀{es:List D} {j:List Value},aU g h w (es.map .dat) j->es.all D.flat=true->aM w es j []
 |[],j,hc,_=>by simp only[aM];exact⟨hc,trivial⟩
 |d::es,j,hc,C=>by obtain⟨v,I,rfl,⟨F,h1,_⟩,h3⟩:=hc;simp only[List.all_cons,qM]at C;have e:F=[]:=Mg h1 C.1;subst e;simp only[aM];exact⟨v,I,[],[],rfl,rfl,h1,VR h3 C.2⟩
theorem aCw {P : Program} {f : FuncId} {fn : Func} {c : Code} {t : TypeId} {d0 : D} {ds es : List D} {rest : List (Bool × List D)} {rs : List (Bool × List RC)} {N : Nat} {vars : List ResultVar} (hf : P.funcs[f]? = some fn) (hb : fn.body = some c) (hN : fn.ntmps = N) (hv : fn.results.toList = vars) (hnm : (fn.name == "runtime.NumGoroutine") = false) (hn : rest.length + 1 <= N)
  (hrs:CM rs=false) (hds:ds.all D.flat=true) (hes:es.all D.flat=true) (hl:es.length=ds.length)
  (h : ∀(base:Nat) (w0:W0) (B:Nat) (v0:Value),(B<=base/\w0.Q.L=slP P /\ ∀b,w0.K b->b<base)->SW P base w0 N c (Zi t B v0 d0 ds rest) (aft P base w0 N (Ma (fM P) vars t B v0 d0 es rs) [])):lE P f ((false,[.ptr (d0::ds)])::rest) ((false,[.edit (.lend t es)])::rs):=by
 subst hN hv
 refine .inr (.inr ⟨t,es,rs,rfl,⟨fn,c,hf,hb,hnm⟩,hrs,hes,d0,ds,rest,rfl,hds,hl,λw b vals v0 vs0 vs Fb F hw hvals r0 r1 hbF ha hbF2 => ?_⟩)
 refine calls_of_wp hf hb ?_
 have hbl:b<w.heap.size:=(qm.1 hw).1
 obtain ⟨hlen,hat⟩:=args_at ha
 have hFlt:=KJ ha
 have hFb:=Rep.lt _ _ _ r0
 let K:Nat->Prop:=λx=>x<w.heap.size/\x≠b
 let q:QF:=⟨λx=>x<w.heap.size,b,some b,slP P⟩
 let g:Gh:={ val:=λ_=>.pointer (some ⟨b,0,none⟩),fp:=λ_=>[],S:=K,Q:=q }
 let s0:=Zi t w.heap.size v0 d0 ds rest
 have hlv : ∀i,live s0.h i->i=7059000:=λi hl=>by unfold live at hl;rw [ML] at hl;by_cases hi:i=7059000;(exact hi);·rw [jG hi] at hl;exact absurd rfl hl
 have R:Rel P w.heap.size ⟨w,q,K,Ui⟩ fn.ntmps s0 { tmps:=(.pointer (some ⟨b,0,none⟩)::vs).toArray++Array.replicate (fn.ntmps-(.pointer (some ⟨b,0,none⟩)::vs).toArray.size) undef,defers:=[] } w:=by
  have hsz:(Value.pointer (some ⟨b,0,none⟩)::vs).toArray.size=rest.length+1:=by simp [hlen]
  have hnd : ∀i,¬kB s0.h i:=by rintro i ⟨_,_,_,hd⟩;rw [ML] at hd;split at hd<;>cases hd
  have hmt : ∀i x,live s0.h i->Ds (g.val i)=some x -> ¬g.S x:=by intro i x hl hx hS;have:some b=some x:=hx;exact hS.2 (qd this).symm
  have hlt:Qj (some b) s0.h g:=by intro b' hb';cases hb';exact ⟨by rw [ML,jF rfl];exact qg _,λ_ _ _=>rfl⟩
  refine ⟨g,rfl,ji,Below.refl _ _,⟨λ_ x=>x,rfl,hlt⟩,λx hx=>⟨hx,rfl⟩,⟨qg _,λx hx _=>hx.1,λx hx=>hx.1,λi => ?_,hmt,λi j x hne hi hj=>absurd ((hlv i hi).trans (hlv j hj).symm) hne,λi j _ hi _=>absurd hi (hnd i),Ck.nil _ _,λ_ hx=>absurd hx qO,λi hi=>absurd hi (hnd i),Nat.le_of_lt hbl⟩,λi => ?_,⟨rfl,.inl rfl⟩,λ_=>trivial⟩
  ·rw [ML];by_cases hi:i=7059000;(rw [jF hi];refine ⟨b,vals,rfl,qg _,hw,?_⟩;rw [hvals];refine ⟨v0,vs0,rfl,⟨Fb,r0,λx hx=>⟨⟨hFb x hx,λe=>hbF (e ▸ hx)⟩,hFb x hx⟩,λx hx=>by cases hx;rfl⟩,aU.J7 r1 wb⟩);·rw [jG hi];trivial
  ·rw [Xr]
   cases i with
   | zero =>
    have:({ tmps:=(Value.pointer (some ⟨b,0,none⟩)::vs).toArray++Array.replicate (fn.ntmps-(Value.pointer (some ⟨b,0,none⟩)::vs).toArray.size) undef,defers:=[] }:Act).tmps.getD 0 undef = .pointer (some ⟨b,0,none⟩):=by rw [jN,Array.getElem?_append_left wb];simp
    rw [this]
    refine ⟨_,[],rfl,⟨rfl,?_,λ_ t' cs _=>⟨b,rfl,rfl⟩⟩,rfl⟩
    show 1<=(s0.h 7059000).1
    rw [ML,jF rfl]
    exact qg _
   | succ i =>
    show yM g _ w (match rest[i]? with | some (ag,ds)=>.v ag (ds.map .dat) | none=>.undef) _
    cases ht:rest[i]? with
    | none =>
     have hge:rest.length<=i:=List.getElem?_eq_none_iff.1 ht
     show _=undef
     simp only [jN,Array.getElem?_append]
     rw [jG wg]
     by_cases h2:i+1-(Value.pointer (some ⟨b,0,none⟩)::vs).toArray.size<fn.ntmps-(Value.pointer (some ⟨b,0,none⟩)::vs).toArray.size
     ·rw [Array.getElem?_replicate,jF h2];rfl
     ·rw [Array.getElem?_replicate,jG h2];rfl
    | some x =>
     obtain ⟨v,Fi,h1,h2,hFi⟩:=hat i x ht
     have hlt:i<vs.length:=by have:=(qe.1 ht).1;omega
     have hv:({ tmps:=(Value.pointer (some ⟨b,0,none⟩)::vs).toArray++Array.replicate (fn.ntmps-(Value.pointer (some ⟨b,0,none⟩)::vs).toArray.size) undef,defers:=[] }:Act).tmps.getD (i+1) undef=v:=by simp only [jN,Array.getElem?_append];rw [jF wg];simp [h1]
     rw [hv]
     have hK : ∀x∈Fi,K x:=λx hx=>⟨hFlt x (hFi x hx),λe=>hbF2 (e ▸ hFi x hx)⟩
     obtain ⟨ag,ds'⟩:=x
     cases ag with
     | false =>
      obtain ⟨d,rfl,hr⟩:=h2
      exact ⟨v,[],rfl,⟨Fi,hr,hK⟩,rfl⟩
     | true =>
      obtain ⟨cs,rfl,hr⟩:=h2
      exact ⟨cs,rfl,aU.J7 hr hK⟩
 refine wp_mono (h w.heap.size ⟨w,q,K,Ui⟩ w.heap.size v0 ⟨qg _,rfl,λb hb=>hb.1⟩ _ w R) ?_
 rintro e a' w' ⟨s',h1,R'⟩
 have fin:Ma (fM P) fn.results.toList t w.heap.size v0 d0 es rs s'->a'.defers=[] /\ ∃v,(results fn a'.tmps).run P w' = .ok v w' /\ ∃v' us,Ending.returned v = .returned v'/\M7 (slP P) w.heap.size w' v' rs (λx=>x<w.heap.size)/\w.grownBy w' (some b) /\
    w'.heap[b]? = some (.cells (v0::us).toArray t (0,0))/\aM w' es us []:=by
  rintro ⟨hr,hh⟩
  obtain ⟨v,k1,k2⟩:=UF R' hr
  obtain ⟨g',R''⟩:=R'
  have hobj:=R''.inv.obj 7059000
  rw [show (s'.h 7059000).2 = .box t (.old w.heap.size d0 (some v0)::es.map .dat) from by rw [hh]] at hobj
  obtain ⟨b',vals',p1,p2,p3,p4⟩:=hobj
  obtain ⟨u0,us,e1,⟨F0,_,_,hu0⟩,p5⟩:=p4
  have hu0':u0=v0:=hu0 v0 rfl
  subst hu0'
  have hlive:live s'.h 7059000:=by unfold live;rw [hh];simp
  have hbb:b'=b:=by have:=(R''.q.2.2 b rfl).2 _ _ hh;rw [p1] at this;simpa using this
  subst hbb
  refine ⟨R''.defers,v,k1,v,us,rfl,k2,⟨R''.below.os,R''.below.tape,R''.below.output,R''.below.size,λk hk hne=>(R''.B8 k ⟨hk,λe=>hne (by rw [e])⟩).2⟩,?_,VR p5 hes⟩
  rw [p3,<-e1]
 cases e with
 | normal=>exact fin h1
 | ret=>exact fin h1
 | exit id=>exact h1.elim
 | goto l=>exact h1.elim
 | panic c=>exact h1.elim
 | outgrown=>exact h1.elim
def aF7(T:Sb)(vars:List ResultVar)(t:TypeId)(es:List D)(s:St):Prop:=
 ∃i ver,Hg T s vars=some [(false,[.bp i ver 0])]/\s.h i=(ver,.box t (es.map .dat))
theorem TH{g:Gh}{h:Heap}{w:World}:∀{es:List D} {j:List Value},aU g h w (es.map .dat) j->∃G,aM w es j G/\∀b∈G,g.S b
 |[],j,hc=>⟨[],by simp only[aM];exact⟨hc,trivial⟩,wb⟩
 |d::es,j,hc=>by obtain⟨v,C,rfl,⟨F,h1,h2⟩,h3⟩:=hc;obtain⟨G,h4,h5⟩:=TH h3;refine⟨F++G,by simp only[aM];exact⟨v,C,F,G,rfl,rfl,h1,h4⟩,λb hb=> ?_⟩;rcases qP.1 hb with hb|hb;(exact h2 b hb);·exact h5 b hb
theorem aCF {P : Program} {f : FuncId} {fn : Func} {c : Code} {t : TypeId} {es : List D} {args : List (Bool × List D)} {N : Nat} {vars : List ResultVar} (hf : P.funcs[f]? = some fn) (hb : fn.body = some c) (hN : fn.ntmps = N) (hv : fn.results.toList = vars) (hnm : (fn.name == "runtime.NumGoroutine") = false) (hn : args.length <= N)
  (h : ∀(base:Nat) (w0:W0),SW P base w0 N c (init args) (aft P base w0 N (aF7 (fM P) vars t es) [])):lE P f args [(false,[.edit (.newb t es)])]:=by
 subst hN hv
 refine .inr (.inl ⟨.newb t es,rfl,⟨fn,c,hf,hb,hnm⟩,λw vs Fa ha => ?_⟩)
 obtain ⟨hlen,hat⟩:=args_at ha
 have hlen':vs.size=args.length:=by simpa using hlen
 refine calls_of_wp hf hb ?_
 have hFlt:=KJ ha
 have R:=U9 (P:=P) (fn:=fn) ha hn
 refine wp_mono (h w.heap.size ⟨w,⟨λb=>b∈Fa,w.heap.size,none,slP P⟩,noK,Ui⟩ _ w R) ?_
 rintro e a' w' ⟨s',h1,g',R'⟩
 have fin:aF7 (fM P) fn.results.toList t es s'->a'.defers=[] /\ ∃v,(results fn a'.tmps).run P w' = .ok v w'/\Below w.heap.size w w' /\ ∃b vals G,Ending.returned v = .returned (.pointer (some ⟨b,0,none⟩))/\w.heap.size<=b /\
   w'.heap[b]? = some (.cells vals t (0,0))/\aM w' es vals.toList G/\b∉G /\ ∀x∈G,(x∈Fa\/w.heap.size<=x)/\x<w'.heap.size:=by
  rintro ⟨i,ver,hg,hh⟩
  have hobj:=R'.inv.obj i
  rw [show (s'.h i).2 = .box t (es.map .dat) from by rw [hh]] at hobj
  obtain ⟨b,vals,p1,p2,p3,p4⟩:=hobj
  obtain ⟨G,p5,p6⟩:=TH p4
  have hlive:live s'.h i:=by unfold live;rw [hh];simp
  have hfb:w.heap.size<=b:=by have h1:=R'.q.2.1;have h2:(⟨w,⟨λb=>b∈Fa,w.heap.size,none,slP P⟩,noK,Ui⟩:W0).Q.fb=w.heap.size:=rfl;omega
  obtain ⟨vs,k1,k2,k3⟩:=FR R' hg
  have hrun:=L3 (P:=P) (w:=w') (λx=>match x with | .tmp t=>(pure (a'.tmps.getD t undef):Sem Value) | .cell p t=>(do loadVar t (<-asAddr (a'.tmps.getD p undef)):Sem Value)) fn.results.toList vs (by rw [k1]) k3
  have hrun':(results fn a'.tmps).run P w' = .ok (if h:vs.toArray.size=1 then vs.toArray[0] else .tuple vs.toArray) w':=by unfold results;rw [<-Array.toArray_toList (xs:=fn.results)];rw [List.mapM_toArray];simp only [qs,Sem.run_map,qu];exact (congrArg (λr:Result (List Value)=>(r.andThen λa w'=>Result.ok a.toArray w').andThen λa w'=>Result.ok (if h:a.size=1 then a[0] else Value.tuple a) w') hrun).trans rfl
  obtain ⟨u,vs',rfl,⟨u',us,e1,m1,m2⟩,m3⟩:=k2
  have m3':vs'=[]:=m3
  subst m3'
  simp only [List.cons.injEq] at e1
  obtain ⟨rfl,_⟩:=e1
  obtain ⟨b2,q1,q2⟩:=m1.2.2 (by rw [hh]) t (es.map .dat) (by rw [hh])
  have hbb:b2=b:=by rw [p1] at q1;simp at q1;exact q1.symm
  subst hbb
  refine ⟨R'.defers,u,hrun',R'.below,b2,vals,G,by rw [q2],hfb,p3,p5,λhx=>R'.inv.mtb i b2 hlive (by rw [p1];rfl) (p6 _ hx),λx hx=>⟨?_,R'.inv.S_lt x (p6 x hx)⟩⟩
  rcases jS x w.heap.size with hlt | hge
  ·exact .inl (R'.q.1 x (R'.inv.S_old x (p6 x hx) hlt))
  ·exact .inr hge
 cases e with
 | normal=>exact fin h1
 | ret=>exact fin h1
 | exit id=>exact h1.elim
 | goto l=>exact h1.elim
 | panic c=>exact h1.elim
 | outgrown=>exact h1.elim
def SC.clean(base:Nat):SC->Prop
 | .dat d=>d.flat=true
 | .old B _ _=>B<=base
 | .exa _ _ _=>False
 |_=>True
def SV.clean(base:Nat):SV->Prop
 | .v _ j=>∀c∈j,SC.clean base c
 | .tup C=>∀x∈C,∀c∈x.2,SC.clean base c
 |_=>True
def E7.clean(base:Nat):E7->Prop
 | .none=>True
 | .box _ j=>∀c∈j,SC.clean base c
 | .row _ _ _ C=>C=true
 | .pin _ _ _=>False
section
variable {P:Program}{base N:Nat}{w0:W0}{w:World}{g:Gh}{s:St}{a:Act}
theorem X7{Q:Exit->Act->World->Prop}{ops:Array Oper}{K:St->Prop}(m:Nat):∀(l:List Oper) (i:Nat) {s:St} {a:Act} {w:World},(ops.toList.drop i).take l.length=l->Rel P base w0 N s a w->tQ P (fM P) N ops l s K->
  (∀s' I w',K s'->Rel P base w0 N s' I w'->wpOps P ops Q (List.range' (i+l.length) m) I w')->wpOps P ops Q (List.range' i (l.length+m)) a w
 |[],i,s,a,w,C,R,h,hq=>by simpa using hq s a w h R
 |o::l,i,s,a,w,C,R,h,hq=>by
  rw[show(o::l).length+m=(l.length+m)+1 from by simp;omega,List.range'_succ,wpOps_cons]
  have J:ops[i]? =some o:=by
   have:((ops.toList.drop i).take (o::l).length)[0]? =some o:=by rw[C];rfl
   rw[List.getElem?_take]at this
   simp at this
   exact this
  have U:(ops.toList.drop (i+1)).take l.length=l:=by
   have h1:(ops.toList.drop i)=o::ops.toList.drop (i+1):=by
    have j:i<ops.toList.length:=by simpa using(qm.1 J).1
    rw[qX j]
    have:ops.toList[i]? =some o:=by simpa using J
    rw[qF j]at this
    simp at this
    simp[this]
   rw[h1]at C
   simpa using C
  refine wpOp_mono ?_ (Uo J R h)
  rintro I w' ⟨s',k1,k2⟩
  refine X7 m l (i+1) U k2 k1 λs2 a2 w2 h2 R2=> ?_
  have:=hq s2 a2 w2 h2 R2
  rwa [show i+(o::l).length=i+1+l.length from by simp;omega]at this
def aFZ(s:St):Operand->SV
 | .tmp t=>s.t t
 | .const c=>cst c
 | .func f=>.v false [.dat (.fn f [])]
 | .global _=>.unk
theorem aBC(R:nV P base w0 N g s a w [])(x:Operand):yM g s.h w (aFZ s x) (a.eval x):=by
 cases x with
 |tmp t=>exact R.tmp t
 |const c=>exact Zc c g s.h w
 |func f=>exact⟨_,[],rfl,⟨[],jl,wb⟩,rfl⟩
 |global j=>trivial
def aEb(s:St)(as:List Operand):St:=
 { t:=λi=>match as[i]? with|some x=>aFZ s x|none=>.undef,h:=s.h,fr:=λi=>if i<10000 then s.t i else s.fr (i-10000) }
def aCn(j:W0)(a:Act)(i:Nat):Value:=if i<10000 then a.tmps.getD i undef else j.fv (i-10000)
def aEQ(s:St)(d:Nat)(sv:SV):St:=
 { t:=λi=>if i=d then sv else if i<10000 then s.fr i else .unk,h:=s.h,fr:=λi=>s.fr (i+10000) }
theorem aCR(j:W0)(a:Act)(i:Nat):aCn j a (i+10000)=j.fv i:=by
 unfold aCn
 have h1:¬i+10000<10000:=by omega
 have h2:i+10000-10000=i:=by omega
 rw[jG h1,h2]
theorem aBd(s:St)(as:List Operand)(i:Nat):(aEb s as).t i=match as[i]? with|some x=>aFZ s x|none=>.undef:=rfl
theorem aEf(s:St)(as:List Operand)(i:Nat):(aEb s as).h i=s.h i:=rfl
theorem Zg(s:St)(as:List Operand)(i:Nat):(aEb s as).fr i=if i<10000 then s.t i else s.fr (i-10000):=rfl
theorem aB0(s:St)(d:Nat)(sv:SV)(i:Nat):(aEQ s d sv).t i=if i=d then sv else if i<10000 then s.fr i else .unk:=rfl
theorem aDm(s:St)(d:Nat)(sv:SV)(i:Nat):(aEQ s d sv).h i=s.h i:=rfl
theorem Yz(s:St)(d:Nat)(sv:SV)(i:Nat):(aEQ s d sv).fr i=s.fr (i+10000):=rfl
theorem St.aCG(s:St)(t:Nat)(v:SV)(i:Nat):(s.Ix t v).fr i=s.fr i:=rfl
theorem St.aCL(s:St)(t:Nat)(v:Nat×E7)(i:Nat):(s.fL t v).fr i=s.fr i:=rfl
def JT:List (Bool×List SC)->SV
 |[(j,C)]=>.v j C
 |l=>.tup l
def Tp(P:Program)(T:Sb)(vars:List ResultVar)(N:Nat)(ops:Array Oper)(n d:Nat)(K:St->Prop)(s:St):Prop:=
 ∃l,Hg T s vars=some l/\tQ P T N ops (ops.toList.drop (n+1)) (aEQ s d (JT l)) K
set_option maxRecDepth 20000 in
theorem N9 {Z:St->Prop} {kf:List Fr} {id n f d N':Nat} {ops:Array Oper} {o:Oper} {as:Array Operand} {ts:Array TypeId} {s1:St} {fn:Func} {c:Code} {vars:List ResultVar}
  (ho:ops.toList[n]? = some o) (hop:o.op = .call { callee:=.value (.func f),args:=as,argTypes:=ts }) (hg:o.guard=none) (hd:o.dst=some d) (hdN:d<N)
  (hf : P.funcs[f]? = some fn) (hb : fn.body = some c) (hN : fn.ntmps = N') (hv : fn.results.toList = vars) (hnm : (fn.name == "runtime.NumGoroutine") = false) (hn : as.toList.length <= N')
  (h1:tQ P (fM P) N ops (ops.toList.take n) s (Is s1))
  (h : ∀fv,SW P base { w0 with fv:=fv } N' c (aEb s1 as.toList) (aft P base { w0 with fv:=fv } N' (Tp P (fM P) vars N ops n d (λs3=>aft P base w0 N Z kf .normal s3)) [])) :
  SW P base w0 N (.region id ops false) s (aft P base w0 N Z kf):=by
 subst hN hv
 intro a w R
 refine wp_region ?_
 have hlt:n<ops.toList.length:=(qe.1 ho).1
 have hoi:ops[n]? = some o:=by simpa using ho
 have hsz:ops.size=ops.toList.length:=by simp
 have htl:(ops.toList.take n).length=n:=by rw [qV];omega
 rw [List.range_eq_range',hsz,show ops.toList.length=(ops.toList.take n).length+((ops.toList.drop (n+1)).length+1) from by rw [htl,qW];omega]
 refine X7 _ (ops.toList.take n) 0 (by rw [htl];simp) R h1 λs' a' w' hs R' => ?_
 rw [show s'=s1 from hs] at R'
 rw [htl,qp,List.range'_succ,wpOps_cons]
 obtain ⟨g,R'⟩:=R'
 have hmid:wpOp P ops (λe a' w'=>∃s',aft P base w0 N Z kf e s'/\Rel P base w0 N s' a' w') n (λa2 w2=>∃s2,tQ P (fM P) N ops (ops.toList.drop (n+1)) s2 (λs3=>aft P base w0 N Z kf .normal s3)/\Rel P base w0 N s2 a2 w2) a' w':=by
  unfold wpOp
  simp only [hoi]
  rw [jF (by simp [Region.wanted,hg])]
  refine .inl ?_
  unfold Oper.wp
  have hrun:(execOp a'.eval o).run P w' = .ok (.enter f (as.map a'.eval)) w':=by simp [execOp,hop,resolve,Act.eval,Deferred.ofValue,invoke,IE ⟨fn,c,hf,hb,hnm⟩]
  rw [hrun]
  unfold Oper.upon
  refine calls_of_wp hf hb ?_
  let fv:=aCn w0 a'
  have hvl:(as.map a'.eval).size=as.toList.length:=by simp
  have R2:nV P base { w0 with fv:=fv } fn.ntmps g (aEb s1 as.toList) { tmps:=as.map a'.eval++Array.replicate (fn.ntmps-(as.map a'.eval).size) undef,defers:=[] } w' []:=by
   refine ⟨rfl,ji,R'.below,R'.q,R'.B8,R'.inv,λi => ?_,R'.lab,λi => ?_⟩
   ·rw [aBd]
    cases hx:as.toList[i]? with
    | none =>
     have hge:as.toList.length<=i:=List.getElem?_eq_none_iff.1 hx
     show _=undef
     simp only [jN,Array.getElem?_append]
     rw [jG wg]
     by_cases h2:i-(as.map a'.eval).size<fn.ntmps-(as.map a'.eval).size
     ·rw [Array.getElem?_replicate,jF h2];rfl
     ·rw [Array.getElem?_replicate,jG h2];rfl
    | some x =>
     have hil:i<as.toList.length:=(qe.1 hx).1
     have hv:(as.map a'.eval++Array.replicate (fn.ntmps-(as.map a'.eval).size) undef).getD i undef=a'.eval x:=by
      simp only [jN,Array.getElem?_append]
      rw [jF wg,Array.getElem?_map]
      have:as[i]? = some x:=by simpa using hx
      rw [this];rfl
     rw [show ({ tmps:=as.map a'.eval++Array.replicate (fn.ntmps-(as.map a'.eval).size) undef,defers:=[] }:Act).tmps.getD i undef=a'.eval x from hv]
     exact aBC R' x
   ·rw [Zg];show yM g s1.h w' _ (aCn w0 a' i);unfold aCn;split;(exact R'.tmp i);·exact R'.frm _
  refine wp_mono (h fv _ w' ⟨g,R2⟩) ?_
  rintro e a2 w2 ⟨s2,k1,g2,R3⟩
  have fin:Tp P (fM P) fn.results.toList N ops n d (λs3=>aft P base w0 N Z kf .normal s3) s2->a2.defers=[] /\ ∃v,(results fn a2.tmps).run P w2 = .ok v w2 /\
    ∃s2,tQ P (fM P) N ops (ops.toList.drop (n+1)) s2 (λs3=>aft P base w0 N Z kf .normal s3)/\Rel P base w0 N s2 (a'.put o.dst v) w2:=by
   rintro ⟨l,hgt,hrest⟩
   obtain ⟨vs,m1,m2,m3⟩:=FR R3 hgt
   have hrun:=L3 (P:=P) (w:=w2) (λx=>match x with | .tmp t=>(pure (a2.tmps.getD t undef):Sem Value) | .cell p t=>(do loadVar t (<-asAddr (a2.tmps.getD p undef)):Sem Value)) fn.results.toList vs (by rw [m1]) m3
   have hrun':(results fn a2.tmps).run P w2 = .ok (if h:vs.toArray.size=1 then vs.toArray[0] else .tuple vs.toArray) w2:=by unfold results;rw [<-Array.toArray_toList (xs:=fn.results)];rw [List.mapM_toArray];simp only [qs,Sem.run_map,qu];exact (congrArg (λr:Result (List Value)=>(r.andThen λa w'=>Result.ok a.toArray w').andThen λa w'=>Result.ok (if h:a.size=1 then a[0] else Value.tuple a) w') hrun).trans rfl
   refine ⟨R3.defers,_,hrun',_,hrest,?_⟩
   have hres:yM g2 s2.h w2 (JT l) (if h:vs.toArray.size=1 then vs.toArray[0] else .tuple vs.toArray):=by
    match l,vs,m2 with
    | [],[],m2=>exact ⟨#[],rfl,rfl⟩
    | [(ag,cs)],[v],m2 =>
     obtain ⟨v',vs',e1,e2,e3⟩:=m2
     simp only [List.cons.injEq] at e1
     obtain ⟨rfl,rfl⟩:=e1
     exact e2
    | [(ag,cs)],v::v'::vs,m2 =>
     obtain ⟨v1,vs1,e1,e2,e3⟩:=m2
     simp only [List.cons.injEq] at e1
     obtain ⟨rfl,rfl⟩:=e1
     cases e3
    | x::y::l,[v],m2 =>
     obtain ⟨v1,vs1,e1,e2,v2,vs2,e3,_⟩:=m2
     simp only [List.cons.injEq] at e1
     rw [e3] at e1
     simp at e1
    | x::y::l,v::v'::vs,m2 =>
     have hne : ¬(v::v'::vs).toArray.size=1:=by simp
     rw [dif_neg hne]
     exact ⟨_,rfl,by simpa using m2⟩
    | [],v::vs,m2=>cases m2
    | x::l,[],m2=>obtain ⟨v1,vs1,e1,_⟩:=m2;cases e1
   generalize (if h:vs.toArray.size=1 then vs.toArray[0] else Value.tuple vs.toArray)=v at hres
   refine ⟨g2,by simp [Act.put,hd,R'.defers],by simp [Act.put,hd,R'.size],R3.below,R3.q,R3.B8,R3.inv,λi => ?_,R3.lab,λi => ?_⟩
   ·rw [aB0,hd,Vd R'.size hdN];by_cases hi:i=d;(rw [jF hi,jF hi];exact hres);·rw [jG hi,jG hi];by_cases h1:i<10000;(rw [jF h1];have:=R3.frm i;rw [show ({ w0 with fv:=fv }:W0).fv i=a'.tmps.getD i undef from by show aCn w0 a' i=_;unfold aCn;rw [jF h1]] at this;exact this);·rw [jG h1];trivial
   ·rw [Yz];have h:=R3.frm (i+10000);have e:({ w0 with fv:=fv }:W0).fv (i+10000)=w0.fv i:=aCR w0 a' i;rw [e] at h;exact h
  cases e with
  | normal=>exact fin k1
  | ret=>exact fin k1
  | exit id=>exact k1.elim
  | goto l=>exact k1.elim
  | panic c=>exact k1.elim
  | outgrown=>exact k1.elim
 refine wpOp_mono (λa2 w2 R2 => ?_) hmid
 obtain ⟨s2,k1,k2⟩:=R2
 exact UI (Q:=λe a' w'=>∃s',aft P base w0 N Z kf e s'/\Rel P base w0 N s' a' w') (ops.toList.drop (n+1)) (n+1) rfl k2 k1 λs' a' w' h1 h2=>⟨s',h1,h2⟩
def aIO:=PLift.up (qI @aBd (qI @aEf (qI @Zg (qI @aB0 (qI @aDm (qI @Yz (qI @St.aCG @St.aCL)))))))
theorem LI:type_of% aIO.down:=aIO.down
end
def aED(h:Heap)(C:List Nat)(i ver:Nat)(e:TypeId)(sz:Nat)(xs:List (List D))(j:Nat)(x:List D)(off K:Nat)(e':TypeId)(sz':Nat)(ys:List (List D))(u:Value):Heap:=λl=>
 if l=i then(ver,.row e sz (xs.set j (x.set off (.val u))) true)else if l=K then((h K).1+1,.row e' sz' ys true)else if l=7058000 then((h 7058000).1+1,.pin K ((h K).1+1) u)else if l∈C then h l else((h l).1,.none)
def Ve(s:St)(I C:List Nat)(i ver:Nat)(e:TypeId)(sz:Nat)(xs:List (List D))(j:Nat)(x:List D)(off K:Nat)(e':TypeId)(sz':Nat)(ys:List (List D))(u:Value):St:=
 { t:=λt=>if t∈I then s.t t else .unk,h:=aED s.h C i ver e sz xs j x off K e' sz' ys u }
theorem Wb(s:St)(C I:List Nat)(i ver:Nat)(e:TypeId)(sz:Nat)(xs:List (List D))(j:Nat)(x:List D)(off K:Nat)(e':TypeId)(sz':Nat)(ys:List (List D))(u:Value)(t:Nat):(Ve s C I i ver e sz xs j x off K e' sz' ys u).t t=if t∈C then s.t t else .unk:=rfl
theorem aAX(s:St)(I C:List Nat)(i ver:Nat)(e:TypeId)(sz:Nat)(xs:List (List D))(j:Nat)(x:List D)(off K:Nat)(e':TypeId)(sz':Nat)(ys:List (List D))(u:Value)(l:Nat):(Ve s I C i ver e sz xs j x off K e' sz' ys u).h l=
  if l=i then(ver,.row e sz (xs.set j (x.set off (.val u))) true)else if l=K then((s.h K).1+1,.row e' sz' ys true)else if l=7058000 then((s.h 7058000).1+1,.pin K ((s.h K).1+1) u)else if l∈C then s.h l else((s.h l).1,.none):=rfl
section
variable {P:Program}{base N:Nat}{w0:W0}{w:World}{g:Gh}{s:St}{a:Act}
theorem cM.at_{L:TL}{ds:List D}{ts:Lb}{vs:List Value}{F:List Nat}(h:cM L w ds ts vs F){off:Nat}{d:D}(hd:ds[off]? =some d):
  ∃I v v3 C J F3,vs=I++v::v3/\I.length=off/\F=C++(J++F3)/\E4 L w d (Sh.lab (ts.drop off)) v J/\∀(U:D) (v':Value) (j:List Nat),E4 L w U (Sh.lab (ts.drop off)) v' j->cM L w (ds.set off U) ts (I++v'::v3) (C++(j++F3)):=by
 induction ds generalizing ts vs F off with
 |nil=>simp at hd
 |cons d0 ds ih=>
  simp only[cM]at h
  obtain⟨v,vs',C,J,rfl,rfl,h3,h4⟩:=h
  cases off with
  |zero=>
   simp at hd
   subst hd
   refine⟨[],v,vs',[],C,J,rfl,rfl,rfl,by simpa using h3,λU v' j h'=> ?_⟩
   simp only[List.set_cons_zero,cM,jP]
   exact⟨v',vs',j,J,rfl,rfl,by simpa using h',h4⟩
  |succ off=>
   obtain⟨I,v2,v3,G1,G2,G3,rfl,hl,rfl,k1,k2⟩:=ih h4 (by simpa using hd)
   rw[List.drop_tail]at k1 k2
   refine⟨v::I,v2,v3,C++G1,G2,G3,rfl,by simp[hl],wb,k1,λU v' j h'=> ?_⟩
   simp only[List.set_cons_succ,cM]
   exact⟨v,I++v'::v3,C,G1++(j++G3),wb,wb,h3,k2 U v' j h'⟩
theorem W7{g':Gh}{h C:Heap}{B:Option Nat}(hB:∀b,B=some b->base<=b)(hlt:∀b,g.S b->some b≠B->g'.S b)(hval:∀i,(C i).1=(h i).1->(C i).2≠ .none->g'.val i=g.val i)(hver:∀i,(h i).1<=(C i).1)
  (hrow:∀i e sz xs dp,(C i).1=(h i).1->(C i).2=.row e sz xs dp->∃J I,(h i).2=.row e sz J I)(hbox:∀i t cs,(C i).1=(h i).1->(C i).2=.box t cs->∃cs0,(h i).2=.box t cs0)
  {c:SC}{v:Value}(hc:B3 g h w c v)(hcl:SC.clean base c):B3 g' C w c v:=by
 have cap:∀{c:Nat×Nat×Nat} {v:Value},L2 g h c v->L2 g' C c v:=by
  rintro c v ⟨h1,h2⟩
  refine⟨qh h1 (hver _),λhv t cs hx=> ?_⟩
  have e1:(C c.1).1=(h c.1).1:=by have:=hver c.1;omega
  obtain⟨cs0,hx0⟩:=hbox _ _ _ e1 hx
  rw[hval _ e1 (by rw[hx];simp)]
  exact h2 wg t cs0 hx0
 have caps:∀{cs:List (Nat×Nat×Nat)} {vs:List Value},FZ g h cs vs->FZ g' C cs vs:=by
  intro cs
  induction cs with
  |nil=>intro vs h;exact h
  |cons c cs ih=>rintro vs ⟨v,vs',rfl,h1,h2⟩;exact⟨v,vs',rfl,cap h1,ih h2⟩
 have row:∀{i ver:Nat},ver<=(h i).1->(C i).1=ver->∀{e sz xs dp},(C i).2=.row e sz xs dp->(h i).1=ver/\g'.val i=g.val i/\∃J I,(h i).2=.row e sz J I:=by
  intro i ver h1 hv e sz xs dp hr
  have e1:(C i).1=(h i).1:=by have:=hver i;omega
  exact⟨wg,hval _ e1 (by rw[hr];simp),hrow _ _ _ _ _ e1 hr⟩
 cases c with
 |dat d=>
  obtain⟨F',h1,h2⟩:=hc
  have:=Mg h1 hcl
  subst this
  exact⟨[],h1,wb⟩
 |nil=>exact hc
 |row i ver=>
  obtain⟨h0,h1,h2⟩:=hc
  refine⟨h0,qh h1 (hver _),λhv e sz xs dp hr=> ?_⟩
  obtain⟨e1,e2,J,I,U⟩:=row h1 hv hr
  rw[e2];exact h2 e1 _ _ _ _ U
 |bp i ver off=>exact⟨hc.1,cap hc.2⟩
 |rp i ver j off=>
  obtain⟨h0,h1,h2⟩:=hc
  refine⟨h0,qh h1 (hver _),λhv e sz xs dp hr=> ?_⟩
  obtain⟨e1,e2,J,I,U⟩:=row h1 hv hr
  rw[e2];exact h2 e1 _ _ _ _ U
 |clo f cs=>obtain⟨vs,h1,h2⟩:=hc;exact⟨vs,h1,caps h2⟩
 |old B0 d u=>
  obtain⟨F',h1,h2,h3⟩:=hc
  have hB0:B0<=base:=hcl
  exact⟨F',h1,λb hm=>⟨hlt b (h2 b hm).1 λe=>by have:=hB b e.symm;have:=(h2 b hm).2;omega,(h2 b hm).2⟩,h3⟩
 |part i ver lo n=>
  obtain⟨h0,h1,h2⟩:=hc
  refine⟨h0,qh h1 (hver _),λhv e sz xs dp hr=> ?_⟩
  obtain⟨e1,e2,J,I,U⟩:=row h1 hv hr
  rw[e2];exact h2 e1 _ _ _ _ U
 |exa W d x=>exact hcl.elim
theorem aA1{kt kh:List Nat}{i ver:Nat}{e:TypeId}{sz:Nat}{xs:List (List D)}{j:Nat}{x:List D}{off K:Nat}{e':TypeId}{sz':Nat}{ys:List (List D)}(R:nV P base w0 N g s a w [])
  (hi:s.h i=(ver,.row e sz xs true))(hj:xs[j]? =some x)(ho:x[off]? =some (.sl ys))(hl:lab ((slP P e).drop off)=some (e',sz'))(hL:w0.Q.L=slP P)(hlent:w0.Q.lent=none\/(7059000∈kh/\i≠7059000/\K≠7059000))(hK0:∀b,w0.K b->b<base)
  (hiK:i≠K)(hi0:i≠7058000)(hK1:K≠7058000)(hkt:∀t∈kt,SV.clean base (s.t t))(hkh:∀l∈kh,E7.clean base (s.h l).2):
  ∃u,Rel P base w0 N (Ve s kt kh i ver e sz xs j x off K e' sz' ys u) a w:=by
 have hi2:(s.h i).2=.row e sz xs true:=by rw[hi]
 have hob:=R.inv.obj i
 rw[hi2]at hob
 obtain⟨cells,p1,p2,p3,p4,p5⟩:=hob
 have hof:=p5 rfl
 have hlive:live s.h i:=by unfold live;rw[hi2];simp
 have hdeep:kB s.h i:=⟨e,sz,xs,hi2⟩
 obtain⟨v1,v2,v3,F1,F2,F3,rfl,hF,hl1,hr1,hr2,hr3⟩:=p3.at_ p2 hj
 have hgL:g.Q.L=slP P:=R.lab.1.trans hL
 obtain⟨c1,u,c3,Fa,Fb,Fc,rfl,hc1,rfl,hu,pZ⟩:=cM.at_ (show cM g.Q.L w x (g.Q.L e) v2 F2 from hr2) ho
 rw[hgL,hl]at hu
 simp only[E4]at hu
 obtain⟨cells',G,q1,q2,rfl,q3⟩:=hu
 have hone:u.oneCell'=true:=by rcases q1.2 with⟨rfl,_⟩|⟨_,_,_,rfl,_⟩<;>rfl
 have hset':=pZ (.val u) u [] (by unfold E4;exact⟨⟨rfl,hone⟩,rfl⟩)
 have hnd:=hof.1
 rw[hF]at hnd
 have hBin:∀b,u.ownBlock=some b->b∈g.fp i:=λb hb=>by rw[hF,hb];simp
 have hGin:∀b∈G,b∈g.fp i:=λb hb=>by rw[hF];simp[hb]
 have hBbase:∀b,u.ownBlock=some b->base<=b:=λb hb=>(hof.2 b (hBin b hb)).1
 let FI:=F1++((Fa++([]++Fc))++F3)
 have hFI:∀b∈FI,b∈g.fp i:=λb hb=>by rw[hF];simp only[FI,qP,qO,false_or]at hb⊢;rcases hb with hb|((hb|hb)|hb);(exact .inl hb);(exact .inr (.inl (.inl hb)));(exact .inr (.inl (.inr (.inr hb))));·exact .inr (.inr hb)
 have hsub:List.Sublist FI (F1++((Fa++((u.ownBlock.toList++G)++Fc))++F3)):=
  (List.Sublist.refl _).append (((List.Sublist.refl _).append ((List.nil_sublist _).append (List.Sublist.refl _))).append (List.Sublist.refl _))
 have hBG:(u.ownBlock.toList++G).Nodup:=by have:=(qt.1 (qt.1 (qt.1 (qt.1 hnd).2.1).1).2.1).1;exact this
 have hFIB:∀b∈FI,b∉u.ownBlock.toList++G:=by intro b hb I;simp only[qt,qP]at hnd;simp only[FI,qP,qO,false_or]at hb;simp only[qP]at I;grind
 have hFIB1:∀b∈FI,u.ownBlock≠some b:=λb hb e0=>hFIB b hb (by rw[e0];simp)
 have hGB:∀b∈G,u.ownBlock≠some b:=λb hb e0=>by rw[e0]at hBG;simp at hBG;exact hBG.1 hb
 have hFIG:∀b∈FI,b∉G:=λb hb I=>hFIB b hb (by simp[I])
 have huB:Ds u=u.ownBlock:=tE q1
 let S':Nat->Prop:=λb=>g.S b/\u.ownBlock≠some b
 let g':Gh:={ val:=λl=>if l=K then u else if l=7058000 then undef else g.val l,fp:=λl=>if l=i then FI else if l=K then G else g.fp l,S:=S',Q:=g.Q }
 let h':=aED s.h kh i ver e sz xs j x off K e' sz' ys u
 have h'i:h' i=(ver,.row e sz (xs.set j (x.set off (.val u))) true):=jF rfl
 have h'K:h' K=((s.h K).1+1,.row e' sz' ys true):=by show(if K=i then _ else _)=_;rw[jG (Ne.symm hiK),jF rfl]
 have h'0:h' 7058000=((s.h 7058000).1+1,.pin K ((s.h K).1+1) u):=by show(if 7058000=i then _ else _)=_;rw[jG (Ne.symm hi0),jG (Ne.symm hK1),jF rfl]
 have h'n:∀l,l≠i->l≠K->l≠7058000->h' l=if l∈kh then s.h l else((s.h l).1,.none):=λl U C a3=>by show(if l=i then _ else _)=_;rw[jG U,jG C,jG a3]
 have vi:g'.val i=g.val i:=by show(if i=K then _ else _)=_;rw[jG hiK,jG hi0]
 have vK:g'.val K=u:=jF rfl
 have v0:g'.val 7058000=undef:=by show(if 7058000=K then _ else _)=_;rw[jG (Ne.symm hK1),jF rfl]
 have vn:∀l,l≠K->l≠7058000->g'.val l=g.val l:=λl U C=>by show(if l=K then _ else _)=_;rw[jG U,jG C]
 have fi:g'.fp i=FI:=jF rfl
 have fK:g'.fp K=G:=by show(if K=i then _ else _)=_;rw[jG (Ne.symm hiK),jF rfl]
 have fn:∀l,l≠i->l≠K->g'.fp l=g.fp l:=λl U C=>by show(if l=i then _ else _)=_;rw[jG U,jG C]
 have hverle:∀l,(s.h l).1<=(h' l).1:=λl=>by by_cases U:l=i;(subst U;rw[h'i,hi];exact qg _);by_cases C:l=K;(subst C;rw[h'K];exact Nat.le_succ _);by_cases a3:l=7058000;(subst a3;rw[h'0];exact Nat.le_succ _);rw[h'n l U C a3];split<;>exact qg _
 have hnK:∀l,(h' l).1=(s.h l).1->l≠K/\l≠7058000:=λl hv=>by refine⟨λe0=> ?_,λe0=> ?_⟩;(subst e0;rw[h'K]at hv;simp at hv);·subst e0;rw[h'0]at hv;simp at hv
 have hcl:∀{c:SC} {v:Value},B3 g s.h w c v->SC.clean base c->B3 g' h' w c v:=λh1 h2=>by refine W7 (g':=g') (B:=u.ownBlock) hBbase (λb hb hne=>⟨hb,λe0=>hne e0.symm⟩) (λl hv _=>vn l (hnK l hv).1 (hnK l hv).2) hverle (λl e1 sz1 xs1 dp1 hv hr=> ?_) (λl t cs hv hx=> ?_) h1 h2;(obtain⟨C,a3⟩:=hnK l hv;by_cases U:l=i;(subst U;rw[h'i]at hr;cases hr;exact⟨xs,true,hi2⟩);·rw[h'n l U C a3]at hr;split at hr;(exact⟨xs1,dp1,hr⟩);·cases hr);·obtain⟨C,a3⟩:=hnK l hv;by_cases U:l=i;(subst U;rw[h'i]at hx;cases hx);·rw[h'n l U C a3]at hx;split at hx;(exact⟨cs,hx⟩);·cases hx
 have hcls:∀{cs0:List SC} {us:List Value},aU g s.h w cs0 us->(∀c∈cs0,SC.clean base c)->aU g' h' w cs0 us:=by
  intro cs0
  induction cs0 with
  |nil=>intro us h _;exact h
  |cons c cs0 ih=>
   rintro us ⟨v,vs',rfl,h1,h2⟩ J
   exact⟨v,vs',rfl,hcl h1 (J c wb),ih h2 λc' hc'=>J c' (by simp[hc'])⟩
 have hlv:∀l,live h' l->l≠K->l≠7058000->live s.h l:=λl hl C a3=>by by_cases U:l=i;(subst U;exact hlive);·unfold live at hl⊢;rw[h'n l U C a3]at hl;split at hl;(exact hl);·exact absurd rfl hl
 have hdp:∀l,kB h' l->l≠K->kB s.h l:=λl hd C=>by obtain⟨e1,sz1,xs1,hh⟩:=hd;by_cases U:l=i;(subst U;exact hdeep);by_cases a3:l=7058000;(subst a3;rw[h'0]at hh;cases hh);rw[h'n l U C a3]at hh;split at hh;(exact⟨e1,sz1,xs1,hh⟩);·cases hh
 have fsub:∀l,l≠K->∀b∈g'.fp l,b∈g.fp l:=λl C b hb=>by by_cases U:l=i;(subst U;rw[fi]at hb;exact hFI b hb);·rw[fn l U C]at hb;exact hb
 have hOK:Ck base w G:=⟨(qt.1 hBG).2.1,λb hb=>hof.2 b (hGin b hb)⟩
 have hO1:Ck base w FI:=⟨hnd.sublist hsub,λb hb=>hof.2 b (hFI b hb)⟩
 have hlent':Qj w0.Q.lent h' g':=by
  intro b hb
  rcases hlent with hn|⟨m1,m2,m3⟩
  ·rw[hn]at hb;cases hb
  ·have e1:h' 7059000=s.h 7059000:=by rw[h'n _ (Ne.symm m2) (Ne.symm m3) we,jF m1]
   rw[e1,vn _ (Ne.symm m3) we]
   exact R.q.2.2 b hb
 refine⟨u,g',R.defers,R.size,R.below,⟨R.q.1,R.q.2.1,hlent'⟩,λb hb=>⟨⟨(R.B8 b hb).1,λe0=> ?_⟩,(R.B8 b hb).2⟩,
  ⟨R.inv.base_le,λb hb hlt=>R.inv.S_old b hb.1 hlt,λb hb=>R.inv.S_lt b hb.1,λl=> ?_,λl b hl hb=> ?_,λl k b hne hl hk hb I=> ?_,λl k hne hl hk b hb I=> ?_,Ck.nil _ _,λ_ hx=>absurd hx qO,λ_ _ _ _=>qO,R.inv.fb⟩,λt=> ?_,R.lab,λ_=>trivial⟩
 ·have:=hK0 b hb;have:=hBbase b e0;omega
 ·show DQ base g' h' w l (h' l).2
  by_cases U:l=i
  ·subst U;rw[h'i];refine⟨v1++((c1++u::c3)++v3),?_,?_,?_,?_,λ_=>by rw[fi];exact hO1⟩;(rw[vi,qN];exact p1);(intro y hy;rcases jE hy with hy|rfl;(exact p2 y hy);·rw[qN];exact p2 x (jD hj));(rw[fi];have hjlt:j<xs.length:=(qe.1 hj).1;rw[show xs.set j (x.set off (.val u))=xs.take j++([x.set off (.val u)]++xs.drop (j+1))from by rw[List.set_eq_take_append_cons_drop,jF hjlt];rfl];exact hr1.append (dR.append (dR.one hset') hr3));·rw[fi];exact λb hb=>⟨p4 b (hFI b hb),hFIB1 b hb⟩
  by_cases C:l=K
  ·subst C;rw[h'K];refine⟨cells',?_,q2,?_,?_,λ_=>by rw[fK];exact hOK⟩;(rw[vK];refine⟨q1.1,?_⟩;rcases q1.2 with k|⟨gg,cap,cur,k1,k2,k3⟩;(exact .inl k);·exact .inr ⟨gg,cap,cur,k1,hBbase gg (by rw[k1];rfl),k3⟩);(rw[fK];show nQ g.Q.L w ys e' cells' G;rw[hgL];exact q3);·rw[fK];exact λb hb=>⟨p4 b (hGin b hb),hGB b hb⟩
  by_cases a3:l=7058000
  ·subst a3;rw[h'0];exact⟨v0,by rw[h'K];exact qg _,λ_ _ _ _ _ _=>vK⟩
  rw[h'n l U C a3]
  by_cases a4:l∈kh
  ·rw[jF a4]
   have J:=hkh l a4
   have hob:=R.inv.obj l
   cases hh:(s.h l).2 with
   |none=>trivial
   |pin j v u=>rw[hh]at J;exact J.elim
   |box t cells0=>
    rw[hh]at hob J
    obtain⟨b,vals,k1,k2,k3,k4⟩:=hob
    exact⟨b,vals,(vn l C a3).trans k1,k2,k3,hcls k4 J⟩
   |row e1 sz1 xs1 dp1=>
    rw[hh]at hob J
    have hd1:dp1=true:=J
    subst hd1
    obtain⟨cells1,k1,k2,k3,k4,k5⟩:=hob
    refine⟨cells1,by rw[vn l C a3];exact k1,k2,by rw[fn l U C];exact k3,by rw[fn l U C];exact λb hb=>⟨k4 b hb,λe0=>R.inv.dis l i U ⟨e1,sz1,xs1,hh⟩ hdeep b hb (hBin b e0)⟩,by rw[fn l U C];exact k5⟩
  ·rw[jG a4];trivial
 ·by_cases C:l=K;(subst C;rw[vK,huB]at hb;exact λhS=>hS.2 hb);by_cases a3:l=7058000;(subst a3;rw[v0]at hb;simp[undef,Ds]at hb);rw[vn l C a3]at hb;exact λhS=>R.inv.mtb l b (hlv l hl C a3) hb hS.1
 ·have key:∀m,m≠K->live h' m->Ds (g'.val m)=some b->u.ownBlock=some b->False:=λm C hm hmb hu=>by
   by_cases a3:m=7058000
   ·subst a3;rw[v0]at hmb;simp[undef,Ds]at hmb
   rw[vn m C a3]at hmb
   exact R.inv.mtb m b (hlv m hm C a3) hmb (p4 b (hBin b hu))
  by_cases C:l=K
  ·subst C;rw[vK,huB]at hb;exact key k (Ne.symm hne) hk I hb
  by_cases b2:k=K
  ·subst b2;rw[vK,huB]at I;exact key l C hl hb I
  by_cases a3:l=7058000
  ·subst a3;rw[v0]at hb;simp[undef,Ds]at hb
  by_cases b3:k=7058000
  ·subst b3;rw[v0]at I;simp[undef,Ds]at I
  rw[vn l C a3]at hb
  rw[vn k b2 b3]at I
  exact R.inv.inj l k b hne (hlv l hl C a3) (hlv k hk b2 b3) hb I
 ·by_cases C:l=K;(subst C;rw[fK]at hb;by_cases b1:k=i;(subst b1;rw[fi]at I;exact hFIG b I hb);·rw[fn k b1 (Ne.symm hne)]at I;exact R.inv.dis k i b1 (hdp k hk (Ne.symm hne)) hdeep b I (hGin b hb));by_cases b2:k=K;(subst b2;rw[fK]at I;by_cases b1:l=i;(subst b1;rw[fi]at hb;exact hFIG b hb I);·rw[fn l b1 C]at hb;exact R.inv.dis l i b1 (hdp l hl C) hdeep b hb (hGin b I));exact R.inv.dis l k hne (hdp l hl C) (hdp k hk b2) b (fsub l C b hb) (fsub k b2 b I)
 ·rw[Wb]
  by_cases ht:t∈kt
  ·rw[jF ht]
   have hsv:=R.tmp t
   have J:=hkt t ht
   cases hx:s.t t with
   |unk=>trivial
   |undef=>rw[hx]at hsv;exact hsv
   |v ag cs0=>
    rw[hx]at hsv J
    cases ag with
    |false=>exact hcls hsv J
    |true=>obtain⟨us,h1,h2⟩:=hsv;exact⟨us,h1,hcls h2 J⟩
   |tup xs=>
    rw[hx]at hsv J
    obtain⟨us,h1,h2⟩:=hsv
    refine⟨us,h1,?_⟩
    revert h2 J
    generalize us.toList=vl
    intro J h2
    clear hx h1
    induction xs generalizing vl with
    |nil=>exact h2
    |cons x xs ih=>
     obtain⟨v,vs',rfl,q1,q2⟩:=h2
     refine⟨v,vs',rfl,?_,ih vs' (λy hy=>J y (by simp[hy])) q2⟩
     obtain⟨ag,cs1⟩:=x
     have hcx:=J (ag,cs1) wb
     cases ag with
     |false=>exact hcls q1 hcx
     |true=>obtain⟨us',r1,r2⟩:=q1;exact⟨us',r1,hcls r2 hcx⟩
  ·rw[jG ht];trivial
theorem UO{c:Code}{Q:Exit->St->Prop}(kt kh:List Nat){i ver:Nat}{e:TypeId}{sz:Nat}{xs:List (List D)}{j:Nat}{x:List D}{off K:Nat}{e':TypeId}{sz':Nat}{ys:List (List D)}
  (hi:s.h i=(ver,.row e sz xs true))(hj:xs[j]? =some x)(ho:x[off]? =some (.sl ys))(hl:lab ((slP P e).drop off)=some (e',sz'))(hL:w0.Q.L=slP P)(hlent:w0.Q.lent=none\/(7059000∈kh/\i≠7059000/\K≠7059000))(C:∀b,w0.K b->b<base)
  (U:i≠K)(J:i≠7058000)(I:K≠7058000)(hkt:∀t∈kt,SV.clean base (s.t t))(hkh:∀l∈kh,E7.clean base (s.h l).2)
  (h:∀u,SW P base w0 N c (Ve s kt kh i ver e sz xs j x off K e' sz' ys u) Q):SW P base w0 N c s Q:=λa w ⟨g,R⟩=>by
 obtain⟨u,R'⟩:=aA1 R hi hj ho hl hL hlent C U J I hkt hkh
 exact h u a w R'
theorem Gho.close{i ver:Nat}{e:TypeId}{sz:Nat}{xs:List (List D)}{j:Nat}{x:List D}{off K vK pv:Nat}{e':TypeId}{sz':Nat}{ys:List (List D)}{u:Value}
  (hi:s.h i=(ver,.row e sz xs true))(hj:xs[j]? =some x)(ho:x[off]? =some (.val u))(hp:s.h 7058000=(pv,.pin K vK u))(hk:s.h K=(vK,.row e' sz' ys true))(hl:lab ((slP P e).drop off)=some (e',sz'))(hL:w0.Q.L=slP P)(hiK:i≠K):
  Gho P base w0 N s ((s.fL K (vK,.none)).fL i (ver,.row e sz (xs.set j (x.set off (.sl ys))) true)):=by
 rintro a w ⟨g,R⟩
 have hgL:g.Q.L=slP P:=R.lab.1.trans hL
 have hk2:(s.h K).2=.row e' sz' ys true:=by rw[hk]
 have hob0:=R.inv.obj 7058000
 rw[show(s.h 7058000).2=.pin K vK u from by rw[hp]]at hob0
 have hval:g.val K=u:=hob0.2.2 (by rw[hk]) _ _ _ _ hk2
 obtain⟨J,F,t1,t1b,t2,tS,tF,t3,t4,t5⟩:=R.inv.take hk2
 have T1:mA g { g with S:=J } s.h (pZ s.h K ((s.h K).1,.none)) w w:=mA.drop K J t1
 rw[show(s.h K).1=vK from by rw[hk]]at T1 t5
 have U:nV P base w0 N { g with S:=J } (s.fL K (vK,.none)) a w ([]++F):=R.turn T1 rfl R.below t5
 have hi':(s.fL K (vK,.none)).h i=(ver,.row e sz xs true):=by rw[St.OY,jG hiK];exact hi
 have I:((s.fL K (vK,.none)).h i).2=.row e sz xs true:=by rw[hi']
 have hob:=U.inv.obj i
 rw[I]at hob
 obtain⟨cells,p1,p2,p3,p4,p5⟩:=hob
 have hof:=p5 rfl
 have hjlt:j<xs.length:=(qe.1 hj).1
 rcases p1.2 with⟨_,h0⟩|⟨gg,cap,cur,c1,c2,c3,c4⟩
 ·omega
 have hlive:live (s.fL K (vK,.none)).h i:=by unfold live;rw[I];simp
 have hown:Ds (({ g with S:=J }:Gh).val i)=some gg:=by rw[c1];rfl
 have hdi:kB (s.fL K (vK,.none)).h i:=⟨e,sz,xs,I⟩
 obtain⟨v1,v2,v3,F1,F2,F3,rfl,hF,hl1,hr1,hr2,hr3⟩:=p3.at_ p2 hj
 obtain⟨d1,v,d3,Fa,Fb,Fc,rfl,hd1,rfl,hu,hsetc⟩:=cM.at_ (show cM g.Q.L w x (g.Q.L e) v2 F2 from hr2) ho
 have hu':(v=u/\v.oneCell'=true)/\Fb=[]:=by unfold E4 at hu;exact hu
 obtain⟨⟨rfl,_⟩,rfl⟩:=hu'
 have hset':=hsetc (.sl ys) v F (by rw[hgL,hl,<-hval,<-hgL];exact tS rfl)
 have hpd:=U.inv.pool_dis i hdi
 have hpo:=U.inv.pool_own
 rw[jP]at hpd hpo
 have hnd:=hof.1
 rw[hF]at hnd
 have hnd2:(F1++((Fa++(F++Fc))++F3)).Nodup:=SD hnd hpo.1 λy C hy'=>hpd y (by rw[hF];exact hy') C
 have hin:∀y∈F1++((Fa++(F++Fc))++F3),y∈F\/y∈({ g with S:=J }:Gh).fp i:=λy C=>by rw[hF];simp only[qP,qO,false_or]at C⊢;rcases C with C|((C|C|C)|C)<;>simp[C]
 have hnS:=U.inv.mtb i gg hlive hown
 have T2:mA { g with S:=J } { ({ g with S:=J }:Gh)with fp:=Iw g.fp i (F1++((Fa++(F++Fc))++F3)) } (s.fL K (vK,.none)).h (pZ (s.fL K (vK,.none)).h i (((s.fL K (vK,.none)).h i).1,.row e sz (xs.set j (x.set off (.sl ys))) true)) w w:=
  mA.Hd hnS (λ_ _=>rfl) (by intro e0 sz0 xs0 dp0 hh';cases hh';exact⟨_,_,I⟩) (by intro t0 cs0 hh';cases hh')
 have hrow:dR g.Q.L true w e (xs.set j (x.set off (.sl ys))) (v1++((d1++v::d3)++v3)) (F1++((Fa++(F++Fc))++F3)):=by rw[show xs.set j (x.set off (.sl ys))=xs.take j++([x.set off (.sl ys)]++xs.drop (j+1))from by rw[List.set_eq_take_append_cons_drop,jF hjlt];rfl];exact hr1.append (dR.append (dR.one hset') hr3)
 have I':=U.inv.Hd (i:=i) (b:=gg) (F:=F1++((Fa++(F++Fc))++F3)) (pool':=[]) (w':=w) hlive hown rfl (λ_ _=>rfl) T2
  ⟨_,by rw[qN];exact p1,(λy C=>by
   rcases jE C with C|rfl
   ·exact p2 y C
   ·rw[qN];exact p2 x (jD hj)),(by
   show dR _ _ _ _ _ _ (Iw g.fp i _ i)
   rw[eM]
   exact hrow),(by
   show ∀y∈Iw g.fp i _ i,J y
   rw[eM]
   intro y C
   rcases hin y C with h|h
   ·exact t3 y h
   ·exact p4 y h),(by
   intro _
   show Ck base w (Iw g.fp i _ i)
   rw[eM]
   refine⟨hnd2,λy C=> ?_⟩
   rcases hin y C with h|h
   ·exact hpo.2 y h
   ·exact hof.2 y h)⟩ wb jb (by
   rintro _ y C
   refine⟨?_,qO⟩
   rcases hin y C with h|h
   ·exact .inl wM
   ·exact .inr ⟨hdi,h⟩)
 rw[show((s.fL K (vK,.none)).h i).1=ver from by rw[hi']]at T2 I'
 exact⟨_,U.turn T2 rfl U.below I'⟩
end
def aA7(B:Nat)(d:D):SC:=if d.flat=true then .dat d else .old B d none
def WE(B:Nat)(args:List (Bool×List D)):St:=
 { t:=λi=>match args[i]? with|some (j,ds)=>.v j (ds.map (aA7 B))|none=>.undef,h:=λ_=>(0,.none) }
theorem aDT(B:Nat)(args:List (Bool×List D))(i:Nat):(WE B args).t i=match args[i]? with|some (j,ds)=>.v j (ds.map (aA7 B))|none=>.undef:=rfl
theorem aCd(B:Nat)(args:List (Bool×List D))(i:Nat):(WE B args).h i=(0,.none):=rfl
theorem aAc(B:Nat)(k:IntKind)(n:Int):aA7 B (.int k n)=.dat (.int k n):=rfl
theorem Y3(B:Nat)(b:Bool):aA7 B (.bool b)=.dat (.bool b):=rfl
theorem aBY(B:Nat)(b:ByteArray):aA7 B (.str b)=.dat (.str b):=rfl
theorem aCc(B:Nat)(xs:List (List D)):aA7 B (.sl xs)=.old B (.sl xs) none:=rfl
theorem aU.Xs{g:Gh}{h:Heap}{w:World}{B:Nat}:∀{ds:List D} {vs:List Value} {F:List Nat},aM w ds vs F->(∀b∈F,g.S b/\b<B)->aU g h w (ds.map (aA7 B)) vs
 |[],vs,F,j,_=>by simp only[aM]at j;exact j.1
 |d::ds,vs,F,j,C=>by simp only[aM]at j;obtain⟨v,I,J,U,rfl,rfl,h3,h4⟩:=j;refine⟨v,I,rfl,?_,aU.Xs h4 λb hb=>C b (by simp[hb])⟩;unfold aA7;split;(exact⟨J,h3,λb hb=>(C b (by simp[hb])).1⟩);·exact⟨J,h3,λb hb=>C b (by simp[hb]),λ_ e=>by cases e⟩
def XU(j:List (Bool×List RC)):Bool:=j.all λr=>r.2.all λc=>match c with| .own _ _ _=>false|_=>true
theorem JN{L I:TL}{base:Nat}{w:World}{X:Nat->Prop}:∀{vs:List Value} {C:List RC} {F:List Nat},(C.all λc=>match c with| .own _ _ _=>false|_=>true)=true->tX L base w X vs C F->tX I base w X vs C F
 |[],[],F,_,h=>h
 |v::vs,.any d::C,F,j,h=>by simp only[List.all_cons,Bool.true_and]at j;exact⟨h.1,JN j h.2⟩
 |v::vs,.ro d::C,F,j,h=>by simp only[List.all_cons,Bool.true_and]at j;exact⟨h.1,JN j h.2⟩
 |v::vs,.own e sz J::C,F,j,h=>by simp at j
 |v::vs,.edit q::C,F,_,h=>h.elim
 |[],_::_,F,_,h=>h.elim
 |_::_,[],F,_,h=>h.elim
theorem VD{L C:TL}{base:Nat}{w:World}{X:Nat->Prop}{v:Value}{r:Bool×List RC}{F:List Nat}(j:(r.2.all λc=>match c with| .own _ _ _=>false|_=>true)=true)(h:Pb L base w X v r F):Pb C base w X v r F:=by
 obtain⟨I,U⟩:=r
 cases I with
 |true=>obtain⟨J,rfl,h⟩:=h;exact⟨J,rfl,JN j h⟩
 |false=>exact JN j h
theorem O6{L U:TL}{base:Nat}{w:World}{X:Nat->Prop}:∀{vs:List Value} {j:List (Bool×List RC)} {F:List Nat},XU j=true->Fl L base w X vs j F->Fl U base w X vs j F
 |[],[],F,_,h=>h
 |v::vs,r::j,F,C,⟨I,J,h0,h1,h2⟩=>by simp only[XU,List.all_cons,qM]at C;exact⟨I,J,h0,VD C.1 h1,O6 C.2 h2⟩
 |[],_::_,F,_,h=>h.elim
 |_::_,[],F,_,h=>h.elim
theorem Z1{L J:TL}{base:Nat}{w:World}{v:Value}{C:List (Bool×List RC)}{Q:Nat->Prop}(j:XU C=true)(h:M7 L base w v C Q):M7 J base w v C Q:=by
 obtain⟨F,X,h1,h2,h3,h4⟩:=h
 refine⟨F,X,h1,h2,h3,?_⟩
 match C,j,h4 with
 |[r],j,h4=>
  simp only[XU,List.all_cons,List.all_nil,jM]at j
  exact VD j h4
 |[],j,h4=>obtain⟨I,e,h⟩:=h4;exact⟨I,e,O6 j h⟩
 |a::b::C,j,h4=>obtain⟨I,e,h⟩:=h4;exact⟨I,e,O6 j h⟩
theorem aCv {P : Program} (L : TL) {f : FuncId} {fn : Func} {c : Code} {args : List (Bool × List D)} {rs : List (Bool × List RC)} {N : Nat} {vars : List ResultVar} (hf : P.funcs[f]? = some fn) (hb : fn.body = some c) (hN : fn.ntmps = N) (hv : fn.results.toList = vars) (hnm : (fn.name == "runtime.NumGoroutine") = false) (hn : args.length <= N) (hL : L = slP P \/ (L = WX /\ XU rs = true))
  (h : ∀(base:Nat) (wd:World×(Nat->Prop)),SW P base ⟨wd.1,⟨wd.2,base,none,L⟩,noK,Ui⟩ N c (WE base args) (aft P base ⟨wd.1,⟨wd.2,base,none,L⟩,noK,Ui⟩ N (Ret (fM P) vars rs) [])):lE P f args rs:=by
 subst hN hv
 refine .inl ⟨⟨fn,c,hf,hb,hnm⟩,λw vs Fa ha => ?_⟩
 obtain ⟨hlen,hat⟩:=args_at ha
 have hlen':vs.size=args.length:=by simpa using hlen
 refine calls_of_wp hf hb ?_
 have hFlt:=KJ ha
 let g:Gh:={ val:=λ_=>undef,fp:=λ_=>[],S:=λb=>b∈Fa,Q:=⟨λb=>b∈Fa,w.heap.size,none,L⟩ }
 have R:Rel P w.heap.size ⟨w,⟨λb=>b∈Fa,w.heap.size,none,L⟩,noK,Ui⟩ fn.ntmps (WE w.heap.size args) { tmps:=vs++Array.replicate (fn.ntmps-vs.size) undef,defers:=[] } w:=by
  refine ⟨g,rfl,wV,Below.refl _ _,⟨λ_ x=>x,rfl,λ_ hx=>(by cases hx)⟩,λ_ x=>x.elim,⟨qg _,λ_ x _=>x,hFlt,λi=>trivial,λi b hl=>absurd rfl hl,λi j b _ hl=>absurd rfl hl,?_,Ck.nil _ _,wb,λi hd=>(by obtain ⟨_,_,_,hd⟩:=hd;cases hd),qg _⟩,λt => ?_,⟨rfl,hL.imp id And.left⟩,λ_=>trivial⟩
  ·rintro i j _ ⟨_,_,_,hd⟩;cases hd
  ·show yM g _ w (match args[t]? with | some (ag,ds)=>.v ag (ds.map (aA7 w.heap.size)) | none=>.undef) _
   cases ht:args[t]? with
   | none =>
    have hge:args.length<=t:=List.getElem?_eq_none_iff.1 ht
    show _=undef
    simp only [jN,Array.getElem?_append]
    rw [jG wg]
    by_cases h2:t-vs.size<fn.ntmps-vs.size
    ·simp [h2]
    ·rw [Array.getElem?_eq_none wV];rfl
   | some x =>
    obtain ⟨v,Fi,h1,h2,hFi⟩:=hat t x ht
    have hlt:t<vs.size:=by have:=(qe.1 ht).1;omega
    have hv:(vs++Array.replicate (fn.ntmps-vs.size) undef).getD t undef=v:=by
     simp only [jN,Array.getElem?_append]
     rw [jF hlt]
     have:vs[t]? = some v:=by simpa using h1
     rw [this];rfl
    rw [hv]
    obtain ⟨ag,ds⟩:=x
    cases ag with
    | false =>
     obtain ⟨d,rfl,hr⟩:=h2
     have hcs:aM w [d] [v] Fi:=by simp only [aM];exact ⟨v,[],Fi,[],rfl,wb,hr,wb⟩
     exact aU.Xs hcs λb hb=>⟨hFi b hb,hFlt b (hFi b hb)⟩
    | true =>
     obtain ⟨cs,rfl,hr⟩:=h2
     exact ⟨cs,rfl,aU.Xs hr λb hb=>⟨hFi b hb,hFlt b (hFi b hb)⟩⟩
 refine wp_mono (h w.heap.size (w,λb=>b∈Fa) _ w R) ?_
 rintro e a' w' ⟨s',h1,R'⟩
 have fin:Ret (fM P) fn.results.toList rs s'->a'.defers=[] /\ ∃v,(results fn a'.tmps).run P w' = .ok v w' /\ ∃v',Ending.returned v = .returned v'/\M7 (slP P) w.heap.size w' v' rs (λb=>b∈Fa)/\Below w.heap.size w w':=by intro hr;obtain ⟨v,k1,k2⟩:=UF R' hr;obtain ⟨g',R''⟩:=R';refine ⟨R''.defers,v,k1,v,rfl,?_,R''.below⟩;rcases hL with rfl | ⟨_,hno⟩;(exact k2);·exact Z1 hno k2
 cases e with
 | normal=>exact fin h1
 | ret=>exact fin h1
 | exit id=>exact h1.elim
 | goto l=>exact h1.elim
 | panic c=>exact h1.elim
 | outgrown=>exact h1.elim
theorem aCg {P : Program} {f : FuncId} {fn : Func} {c : Code} {args : List (Bool × List D)} {rs : List (Bool × List RC)} {N : Nat} {vars : List ResultVar} (hf : P.funcs[f]? = some fn) (hb : fn.body = some c) (hN : fn.ntmps = N) (hv : fn.results.toList = vars) (hnm : (fn.name == "runtime.NumGoroutine") = false) (hn : args.length <= N)
  (h : ∀(base:Nat) (wd:World×(Nat->Prop)),SW P base ⟨wd.1,⟨wd.2,base,none,slP P⟩,noK,Ui⟩ N c (WE base args) (aft P base ⟨wd.1,⟨wd.2,base,none,slP P⟩,noK,Ui⟩ N (Ret (fM P) vars rs) [])):lE P f args rs:=aCv (slP P) hf hb hN hv hnm hn (.inl rfl) h
theorem YK(B:Nat)(d:D)(u:Option Value)(cs:List SC)(k:List D->Prog):DB (.old B d u::cs) k=DB cs λds=>k (d::ds):=rfl
theorem ZG(b:Nat)(d:D):SC.clean b (.dat d)=(d.flat=true):=rfl
theorem ZF(b B:Nat)(d:D)(u:Option Value):SC.clean b (.old B d u)=(B<=b):=rfl
theorem Y2(b:Nat):SC.clean b .nil=True:=rfl
theorem XQ(b i v:Nat):SC.clean b (.row i v)=True:=rfl
theorem aBI(b i v o:Nat):SC.clean b (.bp i v o)=True:=rfl
theorem aCa(b:Nat)(j:Bool)(cs:List SC):SV.clean b (.v j cs)=∀c∈cs,SC.clean b c:=rfl
theorem Ys(b:Nat)(xs:List (Bool×List SC)):SV.clean b (.tup xs)=∀x∈xs,∀c∈x.2,SC.clean b c:=rfl
theorem XH(b:Nat):SV.clean b .unk=True:=rfl
theorem Uk(b:Nat):SV.clean b .undef=True:=rfl
theorem Wt(b:Nat):E7.clean b .none=True:=rfl
theorem Ze(b:Nat)(t:TypeId)(cs:List SC):E7.clean b (.box t cs)=∀c∈cs,SC.clean b c:=rfl
theorem Wl(b:Nat)(e:TypeId)(sz:Nat)(xs:List (List D))(dp:Bool):E7.clean b (.row e sz xs dp)=(dp=true):=rfl
theorem aKO{α:Type}{p:α->Prop}{a:α}{l:List α}:(∀x∈a::l,p x)=(p a/\∀x∈l,p x):=by simp
theorem aKS{α:Type}{p:α->Prop}:(∀x∈([]:List α),p x)=True:=by simp
theorem aAd(k:IntKind)(n:Int):D.flat (.int k n)=true:=rfl
theorem Yr(b:Bool):D.flat (.bool b)=true:=rfl
theorem aAm(b:ByteArray):D.flat (.str b)=true:=rfl
theorem aCP(b:Nat):(b<=b)=True:=by simp
theorem Gho.shallow{P:Program}{base N:Nat}{w0:W0}{s:St}{i ver:Nat}{e:TypeId}{sz:Nat}{xs:List (List D)}(hi:s.h i=(ver,.row e sz xs true)):Gho P base w0 N s (s.fL i (ver,.row e sz xs false)):=by
 rintro a w ⟨g,R⟩
 have hi2:(s.h i).2=.row e sz xs true:=by rw[hi]
 have T:mA g g s.h (pZ s.h i (ver,.row e sz xs false)) w w:=by refine⟨λ_ x=>x,λ_ _=>rfl,λj=> ?_,λj e' sz' ys dp' _ C=>⟨rfl,?_⟩,λj t cs _ C=>⟨rfl,?_⟩,rfl⟩;(by_cases C:j=i;(subst C;rw[bR,hi];exact qg _);·rw[eE _ _ _ _ C];exact qg _);(by_cases J:j=i;(subst J;rw[bR]at C;cases C;exact⟨xs,true,hi2⟩);·rw[eE _ _ _ _ J]at C;exact⟨ys,dp',C⟩);·by_cases J:j=i;(subst J;rw[bR]at C;cases C);·rw[eE _ _ _ _ J]at C;exact⟨cs,C⟩
 have lv:∀j,live (pZ s.h i (ver,.row e sz xs false)) j->live s.h j:=λj U=>by by_cases C:j=i;(subst C;unfold live;rw[hi2];simp);·unfold live at U⊢;rw[eE _ _ _ _ C]at U;exact U
 have dv:∀j,kB (pZ s.h i (ver,.row e sz xs false)) j->kB s.h j:=λj U=>by obtain⟨e',sz',ys,hh⟩:=U;by_cases C:j=i;(subst C;rw[bR]at hh;cases hh);·rw[eE _ _ _ _ C]at hh;exact⟨e',sz',ys,hh⟩
 have I:=R.inv
 refine⟨g,R.turn T rfl R.below ⟨I.base_le,I.S_old,I.S_lt,λj=> ?_,λj b U=>I.mtb j b (lv j U),λj k b hne U hk=>I.inj j k b hne (lv j U) (lv k hk),λj k hne C hk=>I.dis j k hne (dv j C) (dv k hk),I.pool_own,I.pool_S,λj hd=>I.pool_dis j (dv j hd),I.fb⟩⟩
 show DQ base g (pZ s.h i (ver,.row e sz xs false)) w j (pZ s.h i (ver,.row e sz xs false) j).2
 by_cases C:j=i
 ·subst C;rw[bR];have ho:=I.obj j;rw[hi2]at ho;obtain⟨cells,h1,h2,h3,h4,_⟩:=ho;exact⟨cells,h1,h2,h3.rep,h4,λh=>by cases h⟩
 ·rw[eE _ _ _ _ C];exact DQ.turn T rfl rfl (λ_ _=>rfl) (I.obj j)
theorem exI{P:Program}{T:Sb}{N:Nat}{ops:Array Oper}{l:List Oper}{s j:St}{K:St->Prop}(h:tQ P T N ops l s (Is j))(hk:K j):tQ P T N ops l s K:=
 G6 l (λτ hτ=>by rw[show τ=j from hτ];exact hk) h
theorem aAH(b i v j o:Nat):SC.clean b (.rp i v j o)=True:=rfl
theorem Zq{α:Type}{l:List α}{i:Nat}{a b:α}(h:l[i]? =some b):(l.set i a)[i]? =some a:=by rw[List.getElem?_set_self (qe.1 h).1]
def aGE:=PLift.up (qI @ZG (qI @ZF (qI @Y2 (qI @XQ (qI @aBI (qI @aAH (qI @aCa (qI @Ys (qI @XH (qI @Uk (qI @Wt (qI @Ze (qI @Wl (qI @aKO (qI @aKS (qI @aAd (qI @Yr (qI @aAm (qI @aCP (qI and_true (qI true_and and_self)))))))))))))))))))))
theorem LC:type_of% aGE.down:=aGE.down
def aGT:=PLift.up (qI @Xr (qI @ML (qI @aDT (qI @aCd (qI @aAc (qI @Y3 (qI @aBY (qI @aCc (qI @YK (qI @Wb (qI @aAX (qI @List.set_set.{0} @List.length_set.{0}))))))))))))
theorem LN:type_of% aGT.down:=aGT.down
section
variable {P:Program}{base N:Nat}{w0:W0}{s:St}
theorem Sg{g:Gh}{a:Act}{w:World}{j K vj n:Nat}{e:TypeId}{sz:Nat}{xs ys:List (List D)}{dp:Bool}{v:Value}(R:nV P base w0 N g s a w [])(h2:s.h j=(vj,.row e sz xs dp))(hn:n<=xs.length)(J:xs.take n=ys)(hv:B3 g s.h w (.part j vj 0 n) v):
  ∃g',nV P base w0 N g' ((s.fL j (vj,.none)).fL K ((s.h K).1+1,.row e sz ys dp)) a w []/\mA g g' s.h ((s.fL j (vj,.none)).fL K ((s.h K).1+1,.row e sz ys dp)).h w w/\
   B3 g' ((s.fL j (vj,.none)).fL K ((s.h K).1+1,.row e sz ys dp)).h w (.row K ((s.h K).1+1)) v:=by
 have C:(s.h j).1=vj:=by rw[h2]
 have I:(s.h j).2=.row e sz xs dp:=by rw[h2]
 have hob:=R.inv.obj j
 rw[I]at hob
 obtain⟨cells,p1,p2,p3,p4,p5⟩:=hob
 obtain⟨I1,hfr⟩:=R.inv.FM I
 rw[C]at I1 hfr
 have T1:mA g g s.h (pZ s.h j (vj,.none)) w w:=by have:=mA.drop (g:=g) (h:=s.h) (w:=w) j g.S λ_ x=>x;rw[C]at this;exact this
 have hver:(pZ s.h j (vj,.none) K).1=(s.h K).1:=by by_cases hk:K=j;(subst hk;rw[bR,C]);·rw[eE _ _ _ _ hk]
 obtain⟨hv0,_,hv⟩:=hv
 obtain⟨U,c,rfl,k2,_,k4⟩:=hv C e sz xs dp I
 obtain⟨m,k5,k6⟩:=k4 rfl
 have hyl:ys.length=n:=by rw[<-J,qV,jW hn]
 have hsp:dR g.Q.L dp w e (xs.take n++xs.drop n) cells (g.fp j):=by rw[qo];exact p3
 obtain⟨v1,v2,F1,F2,hce,hF,q1,q2⟩:=dR.split hsp
 rw[J]at q1
 have hxl:∀y∈ys,y.length=sz:=λy hy=>p2 y (qk (J ▸ hy))
 have hl1:v1.length=n*sz:=by rw[<-hyl];exact bC.length q1.rep hxl
 have ho:w.ownsRow base e sz (.slice U n c) ys.length v1:=by
  rw[hyl]
  refine⟨hl1,?_⟩
  rcases p1.2 with⟨h6,h7⟩|⟨gg,cap,cur,h6,h7,h8,h9,aa,ae,af⟩
  ·rw[k5]at h6
   simp at h6
   obtain⟨rfl,rfl,rfl⟩:=h6
   have:n=0:=by omega
   subst this
   exact .inl ⟨rfl,rfl⟩
  ·rw[k5]at h6
   simp at h6
   obtain⟨rfl,rfl,rfl⟩:=h6
   refine .inr ⟨gg,c,cur,rfl,h7,h8,k2,aa,ae,?_⟩
   have:(cur.toList.take (xs.length*sz)).take (n*sz)=v1:=by rw[af,hce];exact List.take_left' hl1
   rw[List.take_take,jW (qj sz hn)]at this
   exact this
 have hob2:∀b,Ds (.slice U n c)=some b->Ds (g.val j)=some b:=by intro b hb;rw[k5];cases U<;>first|(simp[Ds]at hb;done)|simpa[Ds]using hb
 have I2:=I1.FY (i:=K) (v:=.slice U n c) (e:=e) (sz:=sz) (xs:=ys) (dp:=dp) (cells:=v1) (F:=F1) (pool':=[]) ho hxl q1 (λb hb=>p4 b (by rw[hF];simp[hb])) (λb hb=>hfr b (hob2 b hb)) wb jb (λhd=>by subst hd;simp only[jI,jP];have hnd:=(p5 rfl).1;rw[hF]at hnd⊢;exact⟨(qt.1 hnd).1,λb hb=>⟨by simp[hb],wb⟩⟩)
 have T2:=mA.create (g:=g) (h:=pZ s.h j (vj,.none)) (w:=w) K (.slice U n c) F1 (.row e sz ys dp)
 rw[hver]at I2 T2
 refine⟨_,R.turn (T1.trans T2) rfl R.below I2,T1.trans T2,hv0,?_,?_⟩
 ·show _<=(pZ _ K _ K).1;rw[bR];exact qg _
 ·intro _ e' sz' xs' dp' _;show _=Iw g.val K (.slice U n c) K;rw[eM]
theorem aU.aBg{g g':Gh}{h J:Heap}{w:World}(T:mA g g' h J w w){y:SC}:∀{cs:List SC} {vs:List Value} (c:Nat) (x:SC) (v:Value),aU g h w cs vs->cs[c]? =some x->vs[c]? =some v->B3 g' J w y v->aU g' J w (cs.set c y) vs
 |[],vs,c,x,v,hc,I,_,_=>by simp at I
 |z::cs,vs,0,x,v,hc,I,C,U=>by obtain⟨v0,j,rfl,h1,h2⟩:=hc;simp at C;subst C;exact⟨v0,j,rfl,U,aU.turn T h2⟩
 |z::cs,vs,c+1,x,v,hc,I,C,U=>by obtain⟨v0,j,rfl,h1,h2⟩:=hc;exact⟨v0,j,rfl,B3.turn T h1,aU.aBg T c x v h2 (by simpa using I) (by simpa using C) U⟩
theorem aU.get{g:Gh}{h:Heap}{w:World}:∀{cs:List SC} {vs:List Value} (c:Nat) (x:SC),aU g h w cs vs->cs[c]? =some x->∃v,vs[c]? =some v/\B3 g h w x v
 |[],vs,c,x,hc,j=>by simp at j
 |z::cs,vs,0,x,hc,j=>by obtain⟨I,C,rfl,h1,h2⟩:=hc;simp at j;subst j;exact⟨I,rfl,h1⟩
 |z::cs,vs,c+1,x,hc,j=>by obtain⟨I,C,rfl,h1,h2⟩:=hc;exact aU.get c x h2 (by simpa using j)
theorem Gho.Zz{b vb c j K vj n:Nat}{t:TypeId}{cells:List SC}{e:TypeId}{sz:Nat}{xs:List (List D)}{dp:Bool}(ys:List (List D))(I:s.h b=(vb,.box t cells))(h1:cells[c]? =some (.part j vj 0 n))(h2:s.h j=(vj,.row e sz xs dp))(hk:b≠K)(hn:n<=xs.length)(hys:xs.take n=ys):
  Gho P base w0 N s (((s.fL j (vj,.none)).fL K ((s.h K).1+1,.row e sz ys dp)).fL b (vb,.box t (cells.set c (.row K ((s.h K).1+1))))):=by
 rintro a w ⟨g,R⟩
 have U:b≠j:=λe=>by rw[e,h2]at I;cases I
 have J:=R.inv.obj b
 rw[show(s.h b).2=.box t cells from by rw[I]]at J
 obtain⟨b',vals,h3,h4,h5,h6⟩:=J
 obtain⟨v,k1,k2⟩:=aU.get c _ h6 h1
 obtain⟨g',R',T,hc⟩:=Sg (K:=K) R h2 hn hys k2
 have C:((s.fL j (vj,.none)).fL K ((s.h K).1+1,.row e sz ys dp)).h b=(vb,.box t cells):=by show pZ (pZ s.h j _) K _ b=_;rw[eE _ _ _ _ hk,eE _ _ _ _ U,I]
 have hv:g'.val b=g.val b:=(T.box b t cells (by rw[C,I]) (by rw[C])).1
 exact aBl R' C (hv.trans h3) h5 (aU.aBg T c _ v h6 h1 k1 hc)
theorem Gho.aDX{i j K vj n:Nat}{e:TypeId}{sz:Nat}{xs:List (List D)}{dp:Bool}(ys:List (List D))(h1:s.t i=.v false [.part j vj 0 n])(h2:s.h j=(vj,.row e sz xs dp))(hn:n<=xs.length)(C:xs.take n=ys):
  Gho P base w0 N s (((s.fL j (vj,.none)).fL K ((s.h K).1+1,.row e sz ys dp)).Ix i (.v false [.row K ((s.h K).1+1)])):=by
 rintro a w ⟨g,R⟩
 have I:=R.tmp i
 rw[h1]at I
 obtain⟨U,J,T,hc⟩:=Sg (K:=K) R h2 hn C (eZ I)
 exact⟨U,N7 J ⟨_,[],rfl,hc,rfl⟩⟩
theorem Tp.mk{P:Program}{T:Sb}{vars:List ResultVar}{ops:Array Oper}{n d:Nat}{K:St->Prop}{l:List (Bool×List SC)}{s s1:St}(h1:Hg T s vars=some l)(h2:tQ P T N ops (ops.toList.drop (n+1)) (aEQ s d (JT l)) (Is s1))(h3:K s1):Tp P T vars N ops n d K s:=⟨l,h1,exI h2 h3⟩
end
section
variable {P:Program}{base N:Nat}{w0:W0}{Z:St->Prop}{k:List Fr}{s:St}
theorem yN{x y:Code}(J:St->Prop)(h1:SW P base w0 N x s (aft P base w0 N Z (.inv J::k)))(h2:∀s',J s'->SW P base w0 N y s' (aft P base w0 N Z k)):SW P base w0 N (.seq x y) s (aft P base w0 N Z k):=by
 refine sq λa w R=>wp_mono (h1 a w R) ?_
 rintro e a' w' ⟨s',k1,k2⟩
 refine⟨s',?_,k2⟩
 cases e with
 |normal=>exact h2 s' k1
 |_=>exact k1
