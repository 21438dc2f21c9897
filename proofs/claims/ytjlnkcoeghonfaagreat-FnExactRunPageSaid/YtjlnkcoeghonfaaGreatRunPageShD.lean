/-
  Helper text. No conditions.
-/
import Derived.Test.YtjlnkcoeghonfaaGreatRunPageShC
import Derived.ProofKit
import Derived.OpenShut
import Derived.ShutString
import Derived.Deep.Slices
import Derived.Carry
set_option linter.all false
namespace Go.Sh
open Go.RowKit
theorem We(args:List (Bool×List D))(i:Nat):(init args).t i=match args[i]? with|some (j,ds)=>.v j (ds.map .dat)|none=>.undef:=rfl
theorem WJ(args:List (Bool×List D))(i:Nat):(init args).h i=(0,.none):=rfl
def aAQ(v:SV)(A B:Prop):Prop:=match v with
 | .v false [.dat (.bool b)]=>(b=true->A)/\(b=false->B)
 |_=>False
theorem SN(b:Bool)(A B:Prop):aAQ (.v false [.dat (.bool b)]) A B=((b=true->A)/\(b=false->B)):=rfl
theorem bI{n:Int}(h1: -9223372036854775808<=n)(h2:n<=9223372036854775807):IntKind.i64.wrap n=n:=by rw[IntKind.wrap_i64];omega
attribute [simp] Du QW TJ RG M4 Ld NP En F6 evG AU vOp aAH put ex exF cst one aft St.GA St.Vp St.Wi St.Pj DG Hd IX GC Dy HB xD FF EA E0 rows tD Jr lenOf NN Nt LB Dk EL Hs Pw D.flat rid TI.agg We WJ It FH PS Ko II SN
open Go.ChangeShapes Go.WideShapes Go.Deep
inductive Shp where
 |int (k:IntKind)
 |bool
 |str
 |sl (es:List Shp)
def J7(P:Program)(f:TypeId->Option (List Shp)):Nat->List Field->Option (List Shp)
 |_,[]=>some []
 |j,x::C=>if x.offset=j then(match f x.type,J7 P f (j+P.cellsOf x.type) C with
   |some a,some b=>if a.length=P.cellsOf x.type then some (a++b)else none
   |_,_=>none)else none
def Wq(P:Program):Nat->TypeId->Option (List Shp)
 |0,_=>none
 |n+1,t=>match P.underlying t with
  |some (.int k)=>some [.int k]
  |some .bool=>some [.bool]
  |some .string=>some [.str]
  |some (.slice e)=>match Wq P n e with
   |some es=>if es.length=P.cellsOf e/\0<es.length then some [.sl es]else none
   |none=>none
  |some (.struct j)=>match J7 P (Wq P n) 0 j.toList with
   |some es=>if es.length=P.cellsOf t then some es else none
   |none=>none
  |_=>none
mutual
def Has:Shp->D->Prop
 | .int k,d=>∃n,d=.int k n/\(Lit.int k n).wf=true
 | .bool,d=>∃b,d=.bool b
 | .str,d=>∃s,d=.str s/\s.size<=maxLen
 | .sl es,d=>∃j,d=.sl j/\j.length<=maxLen/\∀x∈j,sP es x
def sP:List Shp->List D->Prop
 |[],ds=>ds=[]
 |e::es,ds=>∃d j,ds=d::j/\Has e d/\sP es j
end
theorem sP.append:∀{a b:List Shp} {x y:List D},sP a x->sP b y->sP (a++b) (x++y)
 |[],b,x,y,h,k=>by simp only[sP]at h;subst h;exact k
 |e::a,b,x,y,h,k=>by simp only[sP]at h;obtain⟨d,j,rfl,h1,h2⟩:=h;simp only[List.cons_append,sP];exact⟨d,j++y,rfl,h1,sP.append h2 k⟩
theorem sP.length:∀{a:List Shp} {x:List D},sP a x->x.length=a.length
 |[],x,h=>by simp only[sP]at h;subst h;rfl
 |e::a,x,h=>by simp only[sP]at h;obtain⟨d,j,rfl,h1,h2⟩:=h;simp[sP.length h2]
section
variable {H:Type}{enc:TypeId×Value->H}{P:Program}{w:World}{base:Nat}{spare:Nat->Bool}{held:Bool}
theorem Dq{w:World}{d:D}{v:Value}{F:List Nat}(h:Rep w d v F):aF w [d] [v] F:=by simp only[aF];exact⟨v,[],F,[],rfl,jF,h,rfl,rfl⟩
theorem I9{e:Shp}{d:D}(h:Has e d):sP [e] [d]:=by simp only[sP];exact⟨d,[],rfl,h,rfl⟩
theorem Po{n m:Nat}(U:∀(t:TypeId) (j:List Shp) (cs:List Value) (x:DataW H×List MemPlace),Wq P n t=some j->DataW.trod enc P w base spare held m t cs=some x->∃ds F,aF w ds cs F/\sP j ds):
  ∀(C:List Field) (off:Nat) (j:List Shp) (cs:List Value),J7 P (Wq P n) off C=some j->off+j.length=cs.length->
   (∀f∈C,∃x,DataW.trod enc P w base spare held m f.type ((cs.drop f.offset).take (P.cellsOf f.type))=some x)->∃ds F,aF w ds (cs.drop off) F/\sP j ds
 |[],off,j,cs,h,I,_=>by simp[J7]at h;subst h;refine⟨[],[],?_,by simp[sP]⟩;rw[List.drop_of_length_le (by simpa using Nat.le_of_eq I.symm)];simp[aF]
 |f::C,off,j,cs,h,I,J=>by
  simp only[J7]at h
  split at h
  ·rename_i ho
   split at h
   ·rename_i a b ha hb
    split at h
    ·rename_i hlen
     cases h
     obtain⟨x,hx⟩:=J f jF
     obtain⟨d1,F1,k1,k2⟩:=U _ _ _ _ ha hx
     obtain⟨d2,F2,k3,k4⟩:=Po U C _ b cs hb (by rw[qE,hlen]at I;omega) λy hy=>J y (by simp[hy])
     refine⟨d1++d2,F1++F2,?_,k2.append k4⟩
     have:cs.drop off=(cs.drop f.offset).take (P.cellsOf f.type)++cs.drop (off+P.cellsOf f.type):=by rw[ho,<-List.drop_drop,qn]
     rw[this]
     exact k1.append k3
    ·cases h
   ·cases h
  ·cases h
theorem Vh{a:Addr}{v:Value}(h:w.cell? a=some v):a=⟨a.block,a.off,none⟩:=by
 obtain⟨b,o,s⟩:=a
 unfold World.cell? at h
 cases s with
 |none=>rfl
 |some s=>
  split at h
  ·simp at h
  ·cases h
theorem QI{es:List Shp}{C:Nat}(hC:es.length=C){a:Addr}:∀(len:Nat),(∀i,i<len->∃I ds F,I.length=C/\(∀j,j<C->w.cell? (a.add (i*C+j))=I[j]?)/\aF w ds I F/\sP es ds)->
  ∃U cells G,U.length=len/\(∀x∈U,sP es x)/\aT w U cells G/\cells.length=len*C/\∀j,j<len*C->w.cell? (a.add j)=cells[j]?
 |0,_=>⟨[],[],[],rfl,jF,by simp[aT],jF,jF⟩
 |len+1,h=>by
  obtain⟨U,cells,G,h1,h2,h3,h4,h5⟩:=QI hC len λi hi=>h i jD
  obtain⟨I,ds,F,k1,k2,k3,k4⟩:=h len jD
  refine⟨U++[ds],cells++I,G++F,by simp[h1],?_,?_,by rw[qE,h4,k1,Nat.add_mul];omega,?_⟩
  ·intro x J;rcases qP.1 J with J|J;(exact h2 x J);·simp at J;subst J;exact k4
  ·refine h3.append ?_;simp only[aT];exact⟨I,[],F,[],jF,jF,k3,rfl,rfl⟩
  ·intro j hj;rw[Nat.add_mul,Nat.one_mul]at hj;by_cases hjl:j<len*C;(rw[h5 j hjl,List.getElem?_append_left jD]);·have:=k2 (j-len*C) jD;rw[show len*C+(j-len*C)=j from by omega]at this;rw[this,List.getElem?_append_right jD,h4]
theorem Qp:∀(n:Nat) (m:Nat) (t:TypeId) (C:List Shp) (cs:List Value) (x:DataW H×List MemPlace),Wq P n t=some C->DataW.trod enc P w base spare held m t cs=some x->∃ds F,aF w ds cs F/\sP C ds
 |0,_,_,_,_,_,h,_=>by simp[Wq]at h
 |n+1,m,t,C,cs,x,h,hx=>by
  simp only[Wq]at h
  split at h
  ·rename_i k I;cases h;obtain⟨v,rfl,_,hw⟩:=DataW.trod_int I hx;exact⟨[.int k v],[],Dq (by simp[Rep]),I9 (by simp[Has,hw])⟩
  ·rename_i I;cases h;obtain⟨v,rfl,_⟩:=DataW.trod_bool I hx;exact⟨[.bool v],[],Dq (by simp[Rep]),I9 (by simp[Has])⟩
  ·rename_i I;cases h;obtain⟨v,rfl,_,hw⟩:=DataW.trod_string I hx;exact⟨[.str v],[],Dq (by simp[Rep]),I9 (by simp[Has,hw])⟩
  ·rename_i e I
   split at h
   ·rename_i es U
    split at h
    ·rename_i hc
     cases h
     rcases open_slice I hx with⟨rfl,_⟩|⟨a,len,cap,mm,fu,Dd,Pl,rfl,h1,h2,h3,h4,_,h6⟩
     ·refine⟨[.sl []],[],?_,?_⟩;(refine Dq ?_;simp only[Rep];exact⟨none,0,0,rfl,rfl,qf _,.inl jF⟩);·refine I9 ?_;simp only[Has];exact⟨[],rfl,jF,jF⟩
     ·have hle:len<=mm:=by rw[h4];split<;>omega
      obtain⟨xs,cells,G,k1,k2,k3,k4,k5⟩:=QI (w:=w) hc.1 (a:=a) len λi hi=>by obtain⟨cs',q1,q2⟩:=h6 i jD;obtain⟨_,q3,q4⟩:=World.cells?_some q1;obtain⟨ds,F,q5,q6⟩:=Qp n fu e es cs' _ U q2;exact⟨cs',ds,F,q3,λj hj=>by rw[<-Go.Deep.add_add];exact q4 j hj,q5,q6⟩
      rcases Nat.eq_zero_or_pos len with h0|h0
      ·have hxs:xs=[]:=qk jD;subst hxs;refine⟨[.sl []],[],?_,?_⟩;(refine Dq ?_;simp only[Rep];exact⟨some a,len,cap,rfl,by simpa using h0,h2,.inl ⟨h0,trivial⟩⟩);·refine I9 ?_;simp only[Has];exact⟨[],rfl,jF,jF⟩
      ·have hpos:0<len*P.cellsOf e:=Nat.mul_pos h0 jD
       have J:=k5 0 hpos
       have hc0':cells[0]? =some (cells[0]'jD):=qF jD
       have hadd0:a.add 0=a:=by simp[Addr.add]
       rw[hadd0,hc0']at J
       have ha:=Vh J
       refine⟨[.sl xs],a.block::G,?_,?_⟩
       ·refine Dq ?_
        simp only[Rep]
        refine⟨some a,len,cap,rfl,k1.symm,h2,.inr ⟨a.block,a.off,cells,P.cellsOf e,G,by rw[<-ha],World.block_lt_of_cell? w a J,rfl,?_,k4,?_,k3⟩⟩
        ·intro j u hu'
         have hj:j<len*P.cellsOf e:=by rw[<-k4];exact(qd.1 hu').1
         have:=k5 j hj
         rw[ha,Addr.add_lit]at this
         rw[this];exact hu'
        ·intro x hx';rw[(k2 x hx').length,hc.1]
       ·refine I9 ?_;simp only[Has];exact⟨xs,rfl,jD,k2⟩
    ·cases h
   ·cases h
  ·rename_i fs I
   split at h
   ·rename_i es U
    split at h
    ·rename_i hc
     cases h
     obtain⟨xs,mm,rfl,_,q1,q2,q3⟩:=DataW.trod_struct I hx
     have:=Po (m:=mm) (λt C cs x=>Qp n mm t C cs x) fs.toList 0 C cs U jD (λf hf=>by
      obtain⟨i,hi⟩:=List.getElem?_of_mem hf
      have hi':fs[i]? =some f:=by simpa using hi
      have hlt:i<xs.length:=by rw[q2];exact(ql.1 hi').1
      exact⟨xs[i],by rw[q3 i f hi',qF hlt]⟩)
     simpa using this
    ·cases h
   ·cases h
  ·cases h
theorem Z1{n:Nat}{t:TypeId}{C:List Shp}{v:Value}{d:DataW H}{p:List MemPlace}{b:Nat}(h:Wq P n t=some C)(I:Value.okWide P w .any b t v)(J:DataW.Trod enc P w base spare held t v d p):
  ∃ds F,sP C ds/\Ts w v (L3 P t,ds) F:=by
 obtain⟨fuel,hf⟩:=id J
 obtain⟨ds,F,h1,h2⟩:=Qp n fuel t C _ _ h hf
 refine⟨ds,F,h2,?_⟩
 have one:v.cells.toList=[v]->∃d,ds=[d]/\Rep w d v F:=by
  intro hc
  rw[hc]at h1
  have hl:=h1.length
  match ds,h1,hl with
  |[d],h1,_=>
   simp only[aF]at h1
   obtain⟨u,us,F1,F2,e1,e2,e3,_,e5⟩:=h1
   simp at e1
   rw[e5,qX]at e2
   exact⟨d,rfl,e2 ▸ e1.1 ▸ e3⟩
 cases n with
 |zero=>simp[Wq]at h
 |succ n=>
  simp only[Wq]at h
  unfold L3
  split at h
  ·rename_i k j;obtain⟨x,rfl,_⟩:=open_int j I J;rw[j];exact one rfl
  ·rename_i j;obtain⟨x,rfl,_⟩:=open_bool j I J;rw[j];exact one rfl
  ·rename_i j;obtain⟨x,rfl,_⟩:=Go.ChangeMaps.open_string j I J;rw[j];exact one rfl
  ·rename_i e j;obtain⟨x,y,z,rfl⟩:=okWide_slice j I;rw[j];exact one rfl
  ·rename_i fs j;obtain⟨U,rfl,_⟩:=okWide_struct j I;rw[j];exact⟨U,rfl,h1⟩
  ·cases h
theorem UF{f:Func}{s:ChangeSpec}{apart fresh handsOn again:Bool}{W J:World}{args:Array Value}{v:Value}{ds gs:List (DataW H)}{before pa pv:List MemPlace}
  (hW:DataW.Whole enc P f.params.toList s.vars apart W args.toList ds gs before)
  (hres:∀(b:Nat) (sp:Nat->Bool) (hd:Bool),DataW.TrodAll enc P J b sp hd f.resultTypes.toList (v.resultList f.resultTypes.size) (s.fn H (ds++gs)).results [])
  (hargs:∀sp:Nat->Bool,(∀p∈before,sp p.block=true)->DataW.TrodAll enc P J 0 sp true f.params.toList args.toList (s.fn H (ds++gs)).args pa)
  (hvars:∀sp:Nat->Bool,(∀p∈before,sp p.block=true)->DataW.TrodVars enc P J sp s.vars (s.fn H (ds++gs)).vars pv)
  (I:before=pa++pv)(hb:Below W.heap.size W J)
  (hok:∀(j:Nat) (t:TypeId) (r:Value),f.resultTypes[j]? =some t->(v.resultList f.resultTypes.size)[j]? =some r->Value.okWide P J .any 0 t r):
  s.post enc P f apart fresh handsOn again W args v J:=by
 have hlt:∀p∈before,p.block<W.heap.size:=λp C=>hW.lt p C
 have hold:∀p∈before,(λb=>decide (b<W.heap.size)) p.block=true:=λp C=>by simpa using hlt p C
 refine⟨ds,gs,before,[],pa,pv,hW,hres _ _ _,hargs _ hold,hvars _ hold,World.keptBut_mono (λp C=>⟨C,?_⟩) (hb.frame (· ∈before)),λ_=> ?_⟩
 ·rw[I,qP]at C;exact Or.inr C
 ·obtain⟨_,_,_,_,_,hz,hn⟩:=hW
  refine⟨hok,_,_,([]++pa)++pv,⟨[]++pa,pv,trodAll_append (hargs _ (λ_ _=>rfl)) (hres _ _ _),hvars _ (λ_ _=>rfl),rfl,?_,?_⟩,?_⟩
  ·intro b off C
   have U:MemPlace.cell b off∈before:=by rw[I];simpa using C
   rw[hb.frozen (hlt _ U)]
   exact hz b off U
  ·intro ha;have:=hn ha;rw[I]at this;simpa using this
  ·intro p C _;rw[I];simpa using C
theorem KL(hl:laidOutB P=true){W W':World}(hb:Below W.heap.size W W'){sp:Nat->Bool}:∀{ts:List TypeId} {vs:List Value} {ds:List (DataW H)} {C:List MemPlace},DataW.TrodAll enc P W 0 (λ_=>true) true ts vs ds C->
  (∀t∈ts,P.readableRec t=true/\t<P.types.size)->(∀x∈C,x.block<W.heap.size)->(∀x∈C,sp x.block=true)->DataW.TrodAll enc P W' 0 sp true ts vs ds C
 |[],vs,ds,C,h,_,_,_=>by obtain⟨rfl,rfl,rfl⟩:=trodAll_nil h;rfl
 |t::ts,vs,ds,C,h,U,I,J=>by obtain⟨v,vs',d,ds',p,q,rfl,rfl,rfl,h1,h2⟩:=trodAll_cons h;refine⟨p,q,?_,?_,rfl⟩;(exact WideElems.Trod_stays hl (U t jF).1 (U t jF).2 h1 (λx j=>hb.same (I x (by simp[j]))) (λx j=>J x (by simp[j])));·exact KL hl hb h2 (λu hu=>U u (by simp[hu])) (λx j=>I x (by simp[j])) (λx j=>J x (by simp[j]))
def ZX(P:Program)(n:Nat):List TypeId->List (List Shp)->Prop
 |[],j=>j=[]
 |t::ts,j=>∃s C,j=s::C/\Wq P n t=some s/\ZX P n ts C
def V4:List (List Shp)->List (List D)->Prop
 |[],ds=>ds=[]
 |s::C,ds=>∃d j,ds=d::j/\sP s d/\V4 C j
def VP(P:Program):List TypeId->List (List D)->List (Bool×List D)
 |t::ts,d::ds=>(L3 P t,d)::VP P ts ds
 |_,_=>[]
theorem TO{n:Nat}{W:World}{b:Nat}:∀{ts:List TypeId} {vs:List Value} {ds:List (DataW H)} {ps:List MemPlace} {I:List (List Shp)},ZX P n ts I->DataW.TrodAll enc P W 0 (λ_=>true) true ts vs ds ps->
  (∀(j:Nat) t v,ts[j]? =some t->vs[j]? =some v->Value.okWide P W .any b t v)->∃C F,V4 I C/\xP W vs (VP P ts C) F
 |[],vs,ds,ps,I,J,h,hv=>by obtain⟨rfl,rfl,rfl⟩:=trodAll_nil h;have:I=[]:=J;subst this;exact⟨[],[],rfl,rfl⟩
 |t::ts,vs,ds,ps,I,J,h,hv=>by
  obtain⟨s,ss,rfl,U,hs2⟩:=J
  obtain⟨v,vs',d,ds',p,q,rfl,rfl,rfl,h1,h2⟩:=trodAll_cons h
  obtain⟨d1,F1,k1,k2⟩:=Z1 U (hv 0 t v rfl rfl) h1
  obtain⟨C,F2,k3,k4⟩:=TO hs2 h2 λj t' v' ht hv'=>hv (j+1) t' v' (by simpa using ht) (by simpa using hv')
  exact⟨d1::C,F1++F2,⟨d1,C,rfl,k1,k3⟩,F1,F2,rfl,k2,k4⟩
theorem W2{f:FuncId}{fn:Func}{s:ChangeSpec}{n tb:Nat}{shs:List (List Shp)}(hl:laidOutB P=true)(hvars:s.vars=[])(hres:fn.resultTypes= #[tb])(htb:P.underlying tb=some .bool)(hsh:ZX P n fn.params.toList shs)
  (hread:∀t∈fn.params.toList,P.readableRec t=true/\t<P.types.size)
  (hfn:∀(ds:List (DataW H)),ds.length=fn.params.toList.length->s.fn H (ds++[])={ results:=[.lit (.bool true)],args:=ds })
  (hc:∀dss,V4 shs dss->pH P f (VP P fn.params.toList dss) [(false,[.ro (.bool true)])])
  {W:World}{b:Nat}{args:Array Value}{ds gs:List (DataW H)}{before:List MemPlace}(hval:∀(j:Nat) t v,fn.params[j]? =some t->args[j]? =some v->Value.okWide P W .any b t v)
  (hW:DataW.Whole enc P fn.params.toList s.vars false W args.toList ds gs before):
  Calls P f args W λe W'=>∃v,e=.returned v/\s.post enc P fn false true false false W args v W':=by
 have hW':=hW
 obtain⟨p,q,hA,hV,rfl,hfz,hnd⟩:=hW
 rw[hvars]at hV
 obtain⟨rfl,rfl⟩:=trodVars_none hV
 obtain⟨dss,Fa,k1,k2⟩:=TO hsh hA λj t v ht hv=>hval j t v (by simpa using ht) (by simpa using hv)
 refine(((hc dss k1).old rfl).2 W args Fa k2).mono λe W' hh=> ?_
 obtain⟨v,rfl,⟨F,X,_,_,_,hr⟩,hb⟩:=hh
 have hv:v=.bool true:=by have h1:Rep W' (.bool true) v []:=hr.1;simp only[Rep]at h1;exact h1.1
 subst hv
 have hdl:ds.length=fn.params.toList.length:=by
  have:∀{ts:List TypeId} {vs:List Value} {ds:List (DataW H)} {ps:List MemPlace},DataW.TrodAll enc P W 0 (λ_=>true) true ts vs ds ps->ds.length=ts.length:=by
   intro ts
   induction ts with
   |nil=>intro vs ds ps h;obtain⟨_,rfl,_⟩:=trodAll_nil h;rfl
   |cons t ts ih=>intro vs ds ps h;obtain⟨v,vs',d,ds',p,q,rfl,rfl,rfl,h1,h2⟩:=trodAll_cons h;simp[ih h2]
  exact this hA
 have hfn':=hfn ds hdl
 refine⟨_,rfl,UF (pa:=p) (pv:=[]) hW' ?_ ?_ ?_ jF hb (ok_one hres rfl (okWide_bool_mk htb _))⟩
 ·intro b sp hd;rw[hfn',hres];exact trodAll_cons_mk (shut_bool htb _) trodAll_mk0
 ·intro sp hsp;rw[hfn'];exact KL hl hb hA hread (λx hx=>hW'.lt x (by simpa using hx)) (λx hx=>hsp x (by simpa using hx))
 ·intro sp hsp;rw[hfn',hvars];rfl
end
end Go.Sh
namespace Go.Sh
open Go.RowKit
def Is(s t:St):Prop:=t=s
theorem Is.mk(t:St):Is t t:=rfl
theorem K4{P:Program}{T:K0}{N:Nat}{ops:Array Oper}:∀(l:List Oper) {s:St} {K C:St->Prop},(∀s,K s->C s)->En P T N ops l s K->En P T N ops l s C
 |[],_,_,_,h,j=>h _ j
 |o::l,s,_,_,h,j=>J0 (evG T N ops o) (λJ I=>K4 l h I) j
theorem HE{P:Program}:∀(p:Prog) {s:St} {R W:List Loc} {K C:St->List Loc->List Loc->Prop},(∀s R W,K s R W->C s R W)->exF P p s R W K->exF P p s R W C
 | .done,_,_,_,_,_,h,j=>h _ _ _ j
 | .fail,_,_,_,_,_,_,j=>j
 | .getT t k,s,_,_,_,_,h,j=>HE (k (s.t t)) h j
 | .Hg t v k,s,_,_,_,_,h,j=>HE k h j
 | .getH i k,s,_,_,_,_,h,j=>HE (k (s.h i)) h j
 | .fK i x k,s,_,_,_,_,h,j=>HE k h j
 | .call f args k,s,_,_,_,_,h,⟨I,hc,j⟩=>⟨I,hc,HE (k I) h j⟩
 | .must p k,s,_,_,_,_,h,⟨J,j⟩=>⟨J,HE k h j⟩
theorem Ol{P:Program}{T:K0}{N:Nat}{ops:Array Oper}:∀(l:List Oper) {s:St} {j:List Fp} {K I:St->List Fp->Prop},(∀s a,K s a->I s a)->F6 P T N ops l s j K->F6 P T N ops l s j I
 |[],_,_,_,_,h,C=>h _ _ C
 |o::l,s,_,_,_,h,C=>HE (evG T N ops o) (λU R W J=>Ol l h J) C
section
variable {P:Program}{base N:Nat}{w0:W0}{Z:St->Prop}{k:List Fr}{s s':St}
theorem iT{id:Nat}{ops:Array Oper}(h:En P (dJ P) N ops ops.toList s (Is s'))(hk:aft P base w0 N Z k .normal s'):SW P base w0 N (.region id ops false) s (aft P base w0 N Z k):=
 Rm (K4 ops.toList (λt j=>by rw[show t=s' from j];exact hk) h)
def QT(ops:Array Oper)(j:List Fp):Prop:=JT ops j=true
theorem QT.mk{ops:Array Oper}{j:List Fp}(h:JT ops j=true):QT ops j:=h
theorem K6(I:P.follows .mixedOrders=true){id:Nat}{ops:Array Oper}(h:F6 P (dJ P) N ops ops.toList s [] λt j=>QT ops j/\Is s' t)(hk:aft P base w0 N Z k .normal s'):SW P base w0 N (.region id ops true) s (aft P base w0 N Z k):=
 VL I (Ol ops.toList (λt j C=>⟨C.1,by rw[show t=s' from C.2];exact hk⟩) h)
theorem IA{id:Nat}(h:aft P base w0 N Z k .normal s):aft P base w0 N Z (.block id::k) (.exit id) s:=by simp only[aft,if_true];exact h
theorem aCM{id j:Nat}(C:j≠id)(h:aft P base w0 N Z k (.exit j) s):aft P base w0 N Z (.block id::k) (.exit j) s:=by simp only[aft,C,if_false];exact h
theorem E2{c:Code}{id:Nat}(h:aft P base w0 N Z k (.exit id) s):aft P base w0 N Z (.code c::k) (.exit id) s:=h
theorem jX{J:St->Prop}(h:J s):aft P base w0 N Z (.inv J::k) .normal s:=h
theorem EW{J:St->Prop}{id:Nat}(h:aft P base w0 N Z k (.exit id) s):aft P base w0 N Z (.inv J::k) (.exit id) s:=h
theorem Fz{t:Nat}{x y:Code}(hb:s.t t=.v false [.dat (.bool true)])(h:SW P base w0 N x s (aft P base w0 N Z k)):SW P base w0 N (.cond (.tmp t) x y) s (aft P base w0 N Z k):=
 So hb (λ_=>h) (λe=>by cases e)
theorem Gb{t:Nat}{x y:Code}(hb:s.t t=.v false [.dat (.bool false)])(h:SW P base w0 N y s (aft P base w0 N Z k)):SW P base w0 N (.cond (.tmp t) x y) s (aft P base w0 N Z k):=
 So hb (λe=>by cases e) (λ_=>h)
theorem Eo{c:Code}{Q:Exit->St->Prop}{J:St->Prop}(j:J s)(h:∀s,J s->SW P base w0 N c s Q):SW P base w0 N c s Q:=h s j
end
def fuel:Nat:=18446744073709551616
theorem cM(b:Bool):b=true\/b=false:=by cases b<;>simp
theorem GH(b:Bool):b=false\/b=true:=by cases b<;>simp
theorem bK{α:Type}{b:Bool}{x y z:α}(hb:b=true)(h:(if b=true then x else y)=z):x=z:=by rw[if_pos hb]at h;exact h
theorem bJ{α:Type}{b:Bool}{x y z:α}(hb:b=false)(h:(if b=true then x else y)=z):y=z:=by rw[hb]at h;simpa using h
theorem bind_some{α β:Type}{o:Option α}{f:α->Option β}{r:β}(h:o.bind f=some r):∃x,o=some x/\f x=some r:=by
 cases o with
 |none=>cases h
 |some x=>exact⟨x,rfl,h⟩
def idx{α:Type}(xs:List α)(i:Int):Option α:=if 0<=i then xs[i.toNat]? else none
theorem aU{α:Type}{xs:List α}{i:Int}{x:α}(h:idx xs i=some x):0<=i/\xs[i.toNat]? =some x/\i.toNat<xs.length:=by unfold idx at h;split at h;(rename_i j;exact⟨j,h,(qd.1 h).1⟩);·cases h
def Ym(s:ByteArray)(i:Int):Option UInt8:=if 0<=i then s[i.toNat]? else none
theorem Va{s:ByteArray}{i:Int}{x:UInt8}(h:Ym s i=some x):0<=i/\s[i.toNat]? =some x:=by unfold Ym at h;split at h;(rename_i j;exact⟨j,h⟩);·cases h
def app{α:Type}(b:Nat)(xs ys:List α):Option (List α):=if(xs.length+ys.length)*b<=140737488355328 then some (xs++ys)else none
theorem zH{α:Type}{b:Nat}{xs ys zs:List α}(h:app b xs ys=some zs):(xs.length+ys.length)*b<=140737488355328:=by unfold app at h;split at h;(assumption);·cases h
def aHu{α:Type}(b:Nat)(ys:List α):Option (List α):=if ys.length*b<=140737488355328 then some ys else none
theorem sM{α:Type}{b:Nat}{ys zs:List α}(h:aHu b ys=some zs):ys.length*b<=140737488355328:=by unfold aHu at h;split at h;(assumption);·cases h
def mkL{α:Type}(b:Nat)(n:Int)(z:α):Option (List α):=if 0<=n/\n.toNat*b<=140737488355328/\n<=9223372036854775807 then some (List.replicate n.toNat z)else none
theorem Yg{α:Type}{b:Nat}{n:Int}{z:α}{x:List α}(h:mkL b n z=some x):0<=n/\n.toNat*b<=140737488355328/\n<=9223372036854775807:=by unfold mkL at h;split at h;(assumption);·cases h
def cat(x y:ByteArray):Option ByteArray:=if x.size+y.size<=9223372036854775807 then some (x++y)else none
theorem Xv{x y z:ByteArray}(h:cat x y=some z):x.size+y.size<=9223372036854775807:=by unfold cat at h;split at h;(assumption);·cases h
def enI(n:Int):List D:=[.int .i64 n]
def enB(n:Int):List D:=[.int .u8 n]
def enS(s:ByteArray):List D:=[.str s]
def enT(b:Bool):List D:=[.bool b]
def enL{α:Type}(f:α->List D)(xs:List α):List D:=[.sl (xs.map f)]
def bC(s:ByteArray):List Int:=s.data.toList.map λb=>(b.toNat:Int)
theorem WW(s:ByteArray):EZ s.data.toList=(bC s).map enB:=by unfold EZ bC enB;rw[List.map_map];rfl
def bF(l:List Int):ByteArray:=⟨(l.map λn=>UInt8.ofNat n.toNat).toArray⟩
def toStr(l:List Int):Option ByteArray:=if l.all (λn=>decide (0<=n/\n<256))=true then some (bF l)else none
theorem J8(l:List Int):strOf (l.map enB)=bF l:=by unfold strOf bF enB;rw[List.map_map];rfl
theorem Lg{l:List Int}{z:ByteArray}(h:toStr l=some z):∀x∈l.map enB,∃b:UInt8,x=[.int .u8 (b.toNat:Int)]:=by
 unfold toStr at h
 split at h
 ·rename_i j
  intro x I
  obtain⟨n,C,rfl⟩:=qx.1 I
  have:=qR.1 j n C
  simp only[qL]at this
  refine⟨UInt8.ofNat n.toNat,?_⟩
  unfold enB
  have h1:(UInt8.ofNat n.toNat).toNat=n.toNat:=by simp;omega
  rw[h1,Int.toNat_of_nonneg this.1]
 ·cases h
def Ea{α:Type}(xs:List α)(i:Int):Option (List α):=if 0<=i/\i.toNat<=xs.length then some (xs.drop i.toNat)else none
def GR{α:Type}(xs:List α)(j:Int):Option (List α):=if 0<=j/\j.toNat<=xs.length then some (xs.take j.toNat)else none
def Q1{α:Type}(xs:List α)(i j:Int):Option (List α):=if 0<=i/\i<=j/\j.toNat<=xs.length then some ((xs.take j.toNat).drop i.toNat)else none
theorem Pe{α:Type}{xs z:List α}{i:Int}{f:α->List D}{n:Nat}(C:∀x,(f x).length=n)(h:Ea xs i=some z):0<=i/\i.toNat<=xs.length/\∀x∈xs.map f,x.length=n:=by unfold Ea at h;split at h;(rename_i j;refine⟨j.1,j.2,λx I=> ?_⟩;obtain⟨y,_,rfl⟩:=qx.1 I;exact C y);·cases h
theorem O4{α:Type}{xs z:List α}{i:Int}{f:α->List D}{n:Nat}(C:∀x,(f x).length=n)(h:GR xs i=some z):0<=i/\i.toNat<=xs.length/\∀x∈xs.map f,x.length=n:=by unfold GR at h;split at h;(rename_i j;refine⟨j.1,j.2,λx I=> ?_⟩;obtain⟨y,_,rfl⟩:=qx.1 I;exact C y);·cases h
theorem Lc{α:Type}{xs z:List α}{i j:Int}{f:α->List D}{n:Nat}(I:∀x,(f x).length=n)(h:Q1 xs i j=some z):0<=i/\i<=j/\j.toNat<=xs.length/\∀x∈xs.map f,x.length=n:=by unfold Q1 at h;split at h;(rename_i C;refine⟨C.1,C.2.1,C.2.2,λx J=> ?_⟩;obtain⟨y,_,rfl⟩:=qx.1 J;exact I y);·cases h
theorem Ji{α:Type}{f:α->List D}(j:∀x,(f x).all D.flat=true)(xs:List α):(xs.map f).all (λy=>y.all D.flat)=true:=by rw[qR];intro y C;obtain⟨x,_,rfl⟩:=qx.1 C;exact j x
theorem enI.fl(l:List Int):(List.map enI l).all (λy=>y.all D.flat)=true:=Ji (λ_=>rfl) l
theorem enB.fl(l:List Int):(List.map enB l).all (λy=>y.all D.flat)=true:=Ji (λ_=>rfl) l
theorem enS.fl(l:List ByteArray):(List.map enS l).all (λy=>y.all D.flat)=true:=Ji (λ_=>rfl) l
theorem enT.fl(l:List Bool):(List.map enT l).all (λy=>y.all D.flat)=true:=Ji (λ_=>rfl) l
theorem PQ {P : Program} {f : FuncId} {fn : Func} {c : Code} {args : List (Bool × List D)} {rs : List (Bool × List RC)} {N : Nat} {vars : List ResultVar} (hf : P.funcs[f]? = some fn) (hb : fn.body = some c) (hN : fn.ntmps = N) (hv : fn.results.toList = vars) (hnm : (fn.name == "runtime.NumGoroutine") = false) (hn : args.length <= N)
  (h : ∀(base:Nat) (w0:W0),SW P base w0 N c (init args) (aft P base w0 N (Ret (dJ P) vars rs) [])):pH P f args rs:=by
 subst hN hv
 exact WL hf hb hnm hn h
end Go.Sh
namespace Go.Sh
theorem SU(N d:Nat)(a b:Bool×List RC)(j:List (Bool×List RC)):EA N (some d) (a::b::j)=FF d 0 (a::b::j) λC=>put N (some d) (.tup C):=rfl
theorem Sx(N d:Nat):EA N (some d) []=FF d 0 [] λj=>put N (some d) (.tup j):=rfl
theorem Tf(sz k:Nat)(xs:List (List D)):(Re sz 0 k xs).drop k=xs.drop k:=by unfold Re;rw[List.take_zero,List.nil_append,qo];exact List.drop_left' jF
theorem W8(sz k:Nat)(xs:List (List D)):(Re sz 0 k xs).length-k=xs.length-k:=by unfold Re;simp
theorem XD{α:Type}(xs:List α)(k:Nat):(xs.drop k).take (xs.length-k)=xs.drop k:=List.take_of_length_le jF
theorem YR{sz:Nat}{i:Int}{xs:List (List D)}(h:0<=i):0<=i/\i.toNat<=(Re sz 0 i.toNat xs).length:=⟨h,by unfold Re;simp⟩
theorem W4{α:Type}(a:α)(as j:List α):List.append (a::as) j=a::List.append as j:=rfl
theorem YB{α:Type}(j:List α):List.append [] j=j:=rfl
theorem Zy(xs:List (List D)):D.flat (.sl xs)=false:=rfl
theorem XP(xs:List D):D.flat (.ptr xs)=false:=rfl
theorem Xg(u:Value):D.flat (.val u)=false:=rfl
def Ez9:=PLift.up (qI @En.eq_1 (qI @En.eq_2 (qI @F6.eq_1 (qI @F6.eq_2 (qI @evG.eq_1 (qI @AU.eq_1 (qI @vOp.eq_1 (qI @vOp.eq_2 (qI @vOp.eq_3 (qI @vOp.eq_4 (qI @aAH.eq_1 (qI @aAH.eq_2 (qI @put.eq_1 (qI @put.eq_2 (qI @ex.eq_1 (qI @ex.eq_2 (qI @ex.eq_3 (qI @ex.eq_4 (qI @ex.eq_5 (qI @ex.eq_6 (qI @ex.eq_7 (qI @ex.eq_8 (qI @exF.eq_1 (qI @exF.eq_2 (qI @exF.eq_3 (qI @exF.eq_4 (qI @exF.eq_5 (qI @exF.eq_6 (qI @exF.eq_7 (qI @exF.eq_8 (qI @cst.eq_1 (qI @cst.eq_2 (qI @cst.eq_3 (qI @cst.eq_4 (qI @one.eq_1 (qI @DG.eq_1 (qI @DG.eq_2 (qI @DG.eq_3 (qI @DG.eq_4 (qI @lab.eq_1 (qI @lab.eq_2 (qI @Mo.eq_1 (qI @Mo.eq_2 (qI @Mo.eq_3 (qI @Mo.eq_4 (qI @Mo.eq_5 (qI @Mo.eq_6 (qI @Mo.eq_7 (qI @Mo.eq_8 (qI @Mo.eq_9 (qI @Hd.eq_1 (qI @Hd.eq_2 (qI @Hd.eq_3 (qI @Hd.eq_4 (qI @Hd.eq_5 (qI @IX.eq_1 (qI @GC.eq_1 (qI @GC.eq_2 (qI @Dy.eq_1 (qI @Dy.eq_2 (qI @Dy.eq_3 (qI @Dy.eq_4 (qI @Dy.eq_5 (qI @Dy.eq_6 (qI @Dy.eq_7 (qI @Dy.eq_8 (qI @Dy.eq_9 (qI @HB.eq_1 (qI @HB.eq_2 (qI @xD.eq_1 (qI @xD.eq_2 (qI @xD.eq_3 (qI @xD.eq_4 (qI @xD.eq_5 (qI @FF.eq_1 (qI @FF.eq_2 (qI @EA.eq_1 (qI @EA.eq_2 (qI @M4.eq_1 (qI @Bi.eq_1 (qI @Bi.eq_2 (qI @Bi.eq_3 (qI @Bi.eq_4 (qI @Bi.eq_5 (qI @Bi.eq_6 (qI @Bi.eq_7 (qI @Rz.eq_1 (qI @Rz.eq_2 (qI @QA.eq_1 (qI @QA.eq_2 (qI @HI.eq_1 (qI @HI.eq_2 (qI @HI.eq_3 (qI @HI.eq_4 (qI @HI.eq_5 (qI @HI.eq_6 (qI @HI.eq_7 (qI @HI.eq_8 (qI @RC.ed.eq_1 (qI @RC.ed.eq_2 (qI @RC.ed.eq_3 (qI @RC.ed.eq_4 (qI @RS.eq_1 (qI @RS.eq_2 (qI @RS.eq_3 (qI @Pb.eq_1 (qI @Ld.eq_1 (qI @Ld.eq_2 (qI @Ld.eq_3 (qI @Ld.eq_4 (qI @Ld.eq_5 (qI @NP.eq_1 (qI @NP.eq_2 (qI @E0.eq_1 (qI @E0.eq_2 (qI @rows.eq_1 (qI @rows.eq_2 (qI @tD.eq_1 (qI @tD.eq_2 (qI @tD.eq_3 (qI @tD.eq_4 (qI @tD.eq_5 (qI @tD.eq_6 (qI @tD.eq_7 (qI @tD.eq_8 (qI @tD.eq_9 (qI @tD.eq_10 (qI @tD.eq_11 (qI @tD.eq_12 (qI @tD.eq_13 (qI @tD.eq_14 (qI @tD.eq_15 (qI @tD.eq_16 (qI @tD.eq_17 (qI @Jr.eq_1 (qI @Jr.eq_2 (qI @Jr.eq_3 (qI @Jr.eq_4 (qI @Jr.eq_5 (qI @Jr.eq_6 (qI @lenOf.eq_1 (qI @lenOf.eq_2 (qI @lenOf.eq_3 (qI @lenOf.eq_4 (qI @lenOf.eq_5 (qI @NN.eq_1 (qI @NN.eq_2 (qI @NN.eq_3 (qI @NN.eq_4 (qI @Nt.eq_1 (qI @Nt.eq_2 (qI @LB.eq_1 (qI @LB.eq_2 (qI @LB.eq_3 (qI @Dk.eq_1 (qI @Dk.eq_2 (qI @Dk.eq_3 (qI @Dk.eq_4 (qI @EL.eq_1 (qI @EL.eq_2 (qI @EL.eq_3 (qI @EL.eq_4 (qI @Hs.eq_1 (qI @Hs.eq_2 (qI @Hs.eq_3 (qI @Hs.eq_4 (qI @S0.eq_1 (qI @Pw.eq_1 (qI @Pw.eq_2 (qI @Dl.eq_1 (qI @Dl.eq_2 (qI @Dl.eq_3 (qI @Dl.eq_4 (qI @Ql.eq_1 (qI @D.flat.eq_1 (qI @D.flat.eq_2 (qI @D.flat.eq_3 (qI @D.flat.eq_4 (qI @rid.eq_1 (qI @TI.agg.eq_1 (qI @QW (qI @TJ (qI @RG (qI @Us (qI @UD (qI @Tf (qI @W8 (qI @XD (qI @Du.eq_1 (qI @SU (qI @Sx (qI @Zy (qI @XP (qI @Xg (qI @St.GA (qI @St.Vp (qI @St.Wi (qI @St.Pj (qI @We @WJ)))))))))))))))))))))))))))))))))))))))))))))))))))))))))))))))))))))))))))))))))))))))))))))))))))))))))))))))))))))))))))))))))))))))))))))))))))))))))))))))))))))))))))))))))))))))))))))))))))))))
theorem E:type_of% Ez9.down:=Ez9.down
def Lz9:=PLift.up (qI @List.take_succ_cons.{0} (qI @List.take_zero.{0} (qI @List.drop_succ_cons.{0} (qI @List.drop_zero.{0} (qI @List.map_cons.{0,0} (qI @List.map_nil.{0,0} (qI @List.cons_append.{0} (qI @List.nil_append.{0} (qI @List.append_nil.{0} (qI @List.length_cons.{0} (qI @List.length_nil.{0} (qI (@List.getElem?_cons_zero.{0}) (qI (@List.getElem?_cons_succ.{0}) (qI @List.tail_cons.{0} (qI @List.tail_nil.{0} (qI @Option.isSome_some.{0} (qI @Option.isSome_none.{0} (qI @List.take_nil.{0} (qI @List.drop_nil.{0} (qI (@List.getElem?_map.{0,0}) (qI @Option.map_some.{0,0} (qI @Option.bind_some.{0,0} (qI @List.length_map.{0,0} (qI @List.replicate_succ.{0} (qI @List.replicate_zero.{0} (qI @List.flatten_cons.{0} (qI @List.flatten_nil.{0} (qI (@List.getElem?_toArray.{0}) (qI @List.toList_toArray.{0} (qI @W4 (qI @YB (qI @List.any_cons.{0} (qI @List.any_nil.{0} (qI Bool.or_true (qI Bool.true_or (qI Bool.or_false (qI Bool.false_or (qI Bool.and_true (qI Bool.true_and (qI Bool.and_false (qI Bool.false_and (qI true_and (qI and_true and_self)))))))))))))))))))))))))))))))))))))))))))
theorem L:type_of% Lz9.down:=Lz9.down
def Fz9:=PLift.up (qI @List.set_cons_zero.{0} (qI @List.set_cons_succ.{0} (qI @St.GA (qI @St.Vp (qI @St.Wi (qI @St.Pj (qI @We (qI @WJ (qI @List.map_append.{0,0} (qI @List.map_cons.{0,0} (qI @List.map_nil.{0,0} (qI @List.map_set.{0,0} (qI @List.map_replicate.{0,0} (qI @List.append_nil.{0} (qI @List.nil_append.{0} (qI @List.cons_append.{0} (qI (@List.getElem?_cons_zero.{0}) (qI (@List.getElem?_cons_succ.{0}) (qI Bool.and_true Bool.true_and)))))))))))))))))))
theorem F:type_of% Fz9.down:=Fz9.down
open Go.RowKit
def Gho(P:Program)(base:Nat)(w0:W0)(N:Nat)(s s':St):Prop:=∀a w,Rel P base w0 N s a w->Rel P base w0 N s' a w
theorem aIq{α β:Type}{f:α->β}{K:α}{r:β}(h:f K=r):∃j,j=K/\f j=r:=⟨K,rfl,h⟩
section
variable {P:Program}{base N:Nat}{w0:W0}{Z:St->Prop}{k:List Fr}{s s' s'':St}
theorem Gho.refl(s:St):Gho P base w0 N s s:=λ_ _ h=>h
theorem Gho.trans(h:Gho P base w0 N s s')(j:Gho P base w0 N s' s''):Gho P base w0 N s s'':=λa w R=>j a w (h a w R)
theorem Iz{c:Code}{Q:Exit->St->Prop}(j:Gho P base w0 N s s')(h:SW P base w0 N c s' Q):SW P base w0 N c s Q:=λa w R=>h a w (j a w R)
theorem PR{c:Code}(I:Nat->St->Prop)(n:Nat)(J:I n s)(h:∀m s,I m s->SW P base w0 N c s (aft P base w0 N Z (.inv (λs'=>∃j,Gho P base w0 N s' j/\∃C,C<m/\I C j)::k))):SW P base w0 N (.loop c) s (aft P base w0 N Z k):=by
 intro a w R
 refine wp_loop_ghost (λm a w=>∃s,I m s/\Rel P base w0 N s a w) n ⟨s,J,R⟩ ?_
 rintro m a w ⟨s,h1,R⟩
 refine wp_mono (h m s h1 a w R) ?_
 rintro e a' w' ⟨s',h2,h3⟩
 cases e with
 |normal=>obtain⟨j,U,C,h4,h5⟩:=h2;exact⟨C,h4,j,h5,U _ _ h3⟩
 |_=>exact⟨s',h2,h3⟩
theorem Tx{g:Gh}{a:Act}{w:World}{j K vj:Nat}{e:TypeId}{sz:Nat}{xs:List (List D)}{dp:Bool}(R:lI P base w0 N g s a w [])(h2:s.h j=(vj,.row e sz xs dp)):
  ∃g',lI P base w0 N g' ((s.fK j (vj,.none)).fK K ((s.h K).1+1,.row e sz xs dp)) a w []/\kL g g' s.h ((s.fK j (vj,.none)).fK K ((s.h K).1+1,.row e sz xs dp)).h w w/\
   ∀v,yT g s.h w (.row j vj) v->yT g' ((s.fK j (vj,.none)).fK K ((s.h K).1+1,.row e sz xs dp)).h w (.row K ((s.h K).1+1)) v:=by
 have C:(s.h j).1=vj:=by rw[h2]
 have I:(s.h j).2=.row e sz xs dp:=by rw[h2]
 have U:=R.inv.obj j
 rw[I]at U
 obtain⟨cells,p1,p2,p3,p4,p5⟩:=U
 obtain⟨I1,J⟩:=R.inv.FJ I
 rw[C]at I1 J
 have T1:kL g g s.h (nM s.h j (vj,.none)) w w:=by have:=kL.drop (g:=g) (h:=s.h) (w:=w) j g.S λ_ x=>x;rw[C]at this;exact this
 have hver:(nM s.h j (vj,.none) K).1=(s.h K).1:=by by_cases hk:K=j;(subst hk;rw[bM,C]);·rw[dQ _ _ _ _ hk]
 have I2:=I1.FU (i:=K) (v:=g.val j) (e:=e) (sz:=sz) (xs:=xs) (dp:=dp) (cells:=cells) (F:=g.fp j) (pool':=[]) p1 p2 p3 p4 J jF List.nodup_nil (λhd=>by subst hd;simp only[if_true,List.nil_append];exact⟨(p5 rfl).1,λb hb=>⟨hb,jF⟩⟩)
 have T2:=kL.create (g:=g) (h:=nM s.h j (vj,.none)) (w:=w) K (g.val j) (g.fp j) (.row e sz xs dp)
 rw[hver]at I2 T2
 refine⟨_,R.turn (T1.trans T2) rfl R.below I2,T1.trans T2,?_⟩
 rintro v ⟨h0,_,hv⟩
 refine⟨h0,?_,?_⟩
 ·show _<=(nM _ K _ K).1;rw[bM];exact qf _
 ·intro _ e' sz' xs' dp' _;show v=Jp g.val K (g.val j) K;rw[fG];exact hv C e sz xs dp I
theorem WG{g:Gh}{a:Act}{w:World}{K:Nat}(e:TypeId)(sz:Nat)(R:lI P base w0 N g s a w []):
  ∃j,lI P base w0 N j (s.fK K ((s.h K).1+1,.row e sz [] true)) a w []/\kL g j s.h (s.fK K ((s.h K).1+1,.row e sz [] true)).h w w/\
   ∀v,yT g s.h w .nil v->yT j (s.fK K ((s.h K).1+1,.row e sz [] true)).h w (.row K ((s.h K).1+1)) v:=by
 have J:=R.inv.FU (i:=K) (v:=.slice none 0 0) (e:=e) (sz:=sz) (xs:=[]) (dp:=true) (cells:=[]) (F:=[]) (pool':=[]) (World.ownsRow_nil w base e sz) jF dH.nil jF (by intro b hb;cases hb) jF List.nodup_nil (λ_=>⟨List.nodup_nil,jF⟩)
 have I:=kL.create (g:=g) (h:=s.h) (w:=w) K (.slice none 0 0) [] (.row e sz [] true)
 refine⟨_,R.turn I rfl R.below J,I,?_⟩
 intro v C
 have C:v=.slice none 0 0:=C
 subst C
 refine⟨rfl,?_,?_⟩
 ·show _<=(nM _ K _ K).1;rw[bM];exact qf _
 ·intro _ e' sz' xs' U _;show _=Jp g.val K _ K;rw[fG]
theorem Qo{g:Gh}{a:Act}{w:World}{i:Nat}{sv:SV}(R:lI P base w0 N g s a w [])(j:nN g s.h w sv (a.tmps.getD i undef)):lI P base w0 N g (s.Hg i sv) a w []:=by refine⟨R.defers,R.size,R.below,R.q,R.oR,R.inv,λt=> ?_,R.lab,R.frm⟩;rw[St.GA];by_cases ht:t=i;(subst ht;simp only[if_true];exact j);·simp only[ht,if_false];exact R.tmp t
theorem Gho.aAW{i j K vj:Nat}{e:TypeId}{sz:Nat}{xs:List (List D)}{dp:Bool}(h1:s.t i=.v false [.row j vj])(h2:s.h j=(vj,.row e sz xs dp)):
  Gho P base w0 N s (((s.fK j (vj,.none)).fK K ((s.h K).1+1,.row e sz xs dp)).Hg i (.v false [.row K ((s.h K).1+1)])):=by
 rintro a w ⟨g,R⟩
 have C:=R.tmp i
 rw[h1]at C
 obtain⟨J,I,T,hc⟩:=Tx (K:=K) R h2
 exact⟨J,Qo I ⟨_,[],rfl,hc _ (eK C),rfl⟩⟩
theorem Gho.aCB{i K:Nat}(e:TypeId)(sz:Nat)(h1:s.t i=.v false [.nil]):
  Gho P base w0 N s ((s.fK K ((s.h K).1+1,.row e sz [] true)).Hg i (.v false [.row K ((s.h K).1+1)])):=by
 rintro a w ⟨g,R⟩
 have j:=R.tmp i
 rw[h1]at j
 obtain⟨I,C,T,hc⟩:=WG (K:=K) e sz R
 exact⟨I,Qo C ⟨_,[],rfl,hc _ (eK j),rfl⟩⟩
theorem aQ.set{g:Gh}{h:Heap}{w:World}:∀{cs:List SC} {vs:List Value} (c:Nat) (x y:SC),aQ g h w cs vs->cs[c]? =some x->(∀v,yT g h w x v->yT g h w y v)->aQ g h w (cs.set c y) vs
 |[],vs,c,x,y,hc,I,_=>by simp at I
 |z::cs,vs,0,x,y,hc,I,j=>by obtain⟨v,C,rfl,h1,h2⟩:=hc;simp at I;subst I;exact⟨v,C,rfl,j v h1,h2⟩
 |z::cs,vs,c+1,x,y,hc,I,j=>by obtain⟨v,C,rfl,h1,h2⟩:=hc;exact⟨v,C,rfl,h1,aQ.set c x y h2 (by simpa using I) j⟩
theorem YT{g:Gh}{a:Act}{w:World}{b vb C:Nat}{t:TypeId}{cells cells':List SC}{vals:Array Value}(R:lI P base w0 N g s a w [])(hb:s.h b=(vb,.box t cells))(h3:g.val b=.pointer (some ⟨C,0,none⟩))(h5:w.heap[C]? =some (.cells vals t (0,0)))(hc:aQ g s.h w cells' vals.toList):
  ∃g',lI P base w0 N g' (s.fK b (vb,.box t cells')) a w []:=by
 have I:(s.h b).1=vb:=by rw[hb]
 have hb2:(s.h b).2=.box t cells:=by rw[hb]
 have hlive:live s.h b:=by unfold live;rw[hb2];simp
 have hown:Dz (g.val b)=some C:=by rw[h3];rfl
 have J:=R.inv.mtb b C hlive hown
 have T:kL g { g with fp:=Jp g.fp b (g.fp b) } s.h (nM s.h b ((s.h b).1,.box t cells')) w w:=
  kL.Ip J (λ_ _=>rfl) (by intro e sz xs dp j;cases j) (by intro t0 cs0 j;cases j;exact⟨_,hb2⟩)
 have U:=R.inv.Ip (i:=b) (b:=C) (F:=g.fp b) (pool':=[]) (w':=w) hlive hown rfl (λ_ _=>rfl) T
  ⟨C,vals,h3,(R.inv.HN hlive hown).1,h5,hc.turn T⟩ jF List.nodup_nil (by rintro⟨_,_,_,j⟩;cases j)
 rw[I]at T U
 exact⟨_,R.turn T rfl R.below U⟩
theorem JG{g C:Gh}{a:Act}{w:World}{b vb c:Nat}{t:TypeId}{cells:List SC}{x y:SC}(R:lI P base w0 N g s a w [])(R':lI P base w0 N C s' a w [])(T:kL g C s.h s'.h w w)(h0:s.h b=(vb,.box t cells))(j:s'.h b=(vb,.box t cells))(h1:cells[c]? =some x)
  (hc:∀v,yT g s.h w x v->yT C s'.h w y v):Rel P base w0 N (s'.fK b (vb,.box t (cells.set c y))) a w:=by
 have I:=R.inv.obj b
 rw[show(s.h b).2=.box t cells from by rw[h0]]at I
 obtain⟨b',vals,h3,h4,h5,h6⟩:=I
 have hv:C.val b=g.val b:=(T.box b t cells (by rw[j,h0]) (by rw[j])).1
 have hnew:∀{cs:List SC} {vs:List Value} (c:Nat),aQ g s.h w cs vs->cs[c]? =some x->aQ C s'.h w (cs.set c y) vs:=by
  intro cs
  induction cs with
  |nil=>intro vs c _ J;simp at J
  |cons z cs ih=>
   intro vs c hA J
   obtain⟨v,U,rfl,k1,k2⟩:=hA
   cases c with
   |zero=>simp at J;subst J;exact⟨v,U,rfl,hc v k1,k2.turn T⟩
   |succ c=>exact⟨v,U,rfl,k1.turn T,ih c k2 (by simpa using J)⟩
 exact YT R' j (hv.trans h3) h5 (hnew c h6 h1)
theorem Gho.aAm{b vb c j K vj:Nat}{t:TypeId}{cells:List SC}{e:TypeId}{sz:Nat}{xs:List (List D)}{dp:Bool}(C:s.h b=(vb,.box t cells))(h1:cells[c]? =some (.row j vj))(h2:s.h j=(vj,.row e sz xs dp))(hk:b≠K):
  Gho P base w0 N s (((s.fK j (vj,.none)).fK K ((s.h K).1+1,.row e sz xs dp)).fK b (vb,.box t (cells.set c (.row K ((s.h K).1+1))))):=by
 rintro a w ⟨g,R⟩
 have I:b≠j:=λe=>by rw[e,h2]at C;cases C
 obtain⟨U,J,T,hc⟩:=Tx (K:=K) R h2
 refine JG R J T C ?_ h1 hc
 show nM (nM s.h j _) K _ b=_
 rw[dQ _ _ _ _ hk,dQ _ _ _ _ I,C]
theorem Gho.aBu{b vb c K:Nat}{t:TypeId}{cells:List SC}(e:TypeId)(sz:Nat)(j:s.h b=(vb,.box t cells))(h1:cells[c]? =some .nil)(hk:b≠K):
  Gho P base w0 N s ((s.fK K ((s.h K).1+1,.row e sz [] true)).fK b (vb,.box t (cells.set c (.row K ((s.h K).1+1))))):=by
 rintro a w ⟨g,R⟩
 obtain⟨I,C,T,hc⟩:=WG (K:=K) e sz R
 refine JG R C T j ?_ h1 hc
 show nM s.h K _ b=_
 rw[dQ _ _ _ _ hk,j]
theorem sq{x y:Code}(h:SW P base w0 N x s (aft P base w0 N Z (.code y::k))):SW P base w0 N (.seq x y) s (aft P base w0 N Z k):=aAS h
theorem bk{id:Nat}{c:Code}(h:SW P base w0 N c s (aft P base w0 N Z (.block id::k))):SW P base w0 N (.block id c) s (aft P base w0 N Z k):=Yu h
theorem sk(h:aft P base w0 N Z k .normal s):SW P base w0 N .skip s (aft P base w0 N Z k):=Zr h
theorem xt{id:Nat}(h:aft P base w0 N Z k (.exit id) s):SW P base w0 N (.exit id) s (aft P base w0 N Z k):=ZC h
theorem rt(h:Z s):SW P base w0 N .ret s (aft P base w0 N Z k):=aAX h
theorem an{c:Code}(h:SW P base w0 N c s (aft P base w0 N Z k)):aft P base w0 N Z (.code c::k) .normal s:=h
theorem ab{id:Nat}(h:aft P base w0 N Z k .normal s):aft P base w0 N Z (.block id::k) .normal s:=h
end
section
variable {P:Program}{base N:Nat}{w0:W0}{Z:St->Prop}{k:List Fr}{s s':St}
theorem U4{g:Gh}{a:Act}{w:World}{j vj:Nat}{e:TypeId}{sz:Nat}{xs:List (List D)}{dp:Bool}(R:lI P base w0 N g s a w [])(h2:s.h j=(vj,.row e sz xs dp)):
  ∃U,lI P base w0 N U (s.fK j (vj,.none)) a w []/\kL g U s.h (s.fK j (vj,.none)).h w w/\∀v,yT g s.h w (.row j vj) v->yT U (s.fK j (vj,.none)).h w (.dat (.sl xs)) v:=by
 have C:(s.h j).1=vj:=by rw[h2]
 have I:(s.h j).2=.row e sz xs dp:=by rw[h2]
 obtain⟨S',F,hS,_,hrep,_,_,hF,_,I1⟩:=R.inv.take I
 have J:=kL.drop (g:=g) (h:=s.h) (w:=w) j S' hS
 rw[C]at I1 J
 refine⟨_,R.turn J rfl R.below I1.forget,J,?_⟩
 rintro v ⟨h0,_,hv⟩
 have e1:v=g.val j:=hv C e sz xs dp I
 subst e1
 exact⟨F,hrep,hF⟩
theorem aQ.swap{g I:Gh}{h J:Heap}{w:World}{x y:SC}(T:kL g I h J w w)(hc:∀v,yT g h w x v->yT I J w y v):∀{cs:List SC} {vs:List Value} (c:Nat),aQ g h w cs vs->cs[c]? =some x->aQ I J w (cs.set c y) vs
 |[],_,c,_,C=>by simp at C
 |z::cs,vs,0,U,C=>by obtain⟨v,j,rfl,k1,k2⟩:=U;simp at C;subst C;exact⟨v,j,rfl,hc v k1,k2.turn T⟩
 |z::cs,vs,c+1,U,C=>by obtain⟨v,j,rfl,k1,k2⟩:=U;exact⟨v,j,rfl,k1.turn T,aQ.swap T hc c k2 (by simpa using C)⟩
theorem Gho.aCL{i c j vj:Nat}{ag:Bool}{cs:List SC}{e:TypeId}{sz:Nat}{xs:List (List D)}{dp:Bool}(h1:s.t i=.v ag cs)(hc:cs[c]? =some (.row j vj))(h2:s.h j=(vj,.row e sz xs dp)):
  Gho P base w0 N s ((s.fK j (vj,.none)).Hg i (.v ag (cs.set c (.dat (.sl xs))))):=by
 rintro a w ⟨g,R⟩
 have C:=R.tmp i
 rw[h1]at C
 obtain⟨U,J,T,I⟩:=U4 R h2
 refine⟨U,Qo J ?_⟩
 cases ag with
 |false=>exact aQ.swap T I c C hc
 |true=>
  obtain⟨vs,h3,h4⟩:=C
  exact⟨vs,h3,aQ.swap T I c h4 hc⟩
theorem Gho.aCZ{b vb c j vj:Nat}{t:TypeId}{cells:List SC}{e:TypeId}{sz:Nat}{xs:List (List D)}{dp:Bool}(C:s.h b=(vb,.box t cells))(h1:cells[c]? =some (.row j vj))(h2:s.h j=(vj,.row e sz xs dp)):
  Gho P base w0 N s ((s.fK j (vj,.none)).fK b (vb,.box t (cells.set c (.dat (.sl xs))))):=by
 rintro a w ⟨g,R⟩
 have I:b≠j:=λe=>by rw[e,h2]at C;cases C
 obtain⟨U,J,T,hc⟩:=U4 R h2
 refine JG R J T C ?_ h1 hc
 show nM s.h j _ b=_
 rw[dQ _ _ _ _ I,C]
end
def Xc(B:Nat)(j:Nat->Value):Nat->List D->List SC
 |_,[]=>[]
 |k,d::ds=>.old B d (some (j k))::Xc B j (k+1) ds
theorem Ya(B:Nat)(j:Nat->Value)(k:Nat):Xc B j k []=[]:=rfl
theorem WM(B:Nat)(j:Nat->Value)(k:Nat)(d:D)(ds:List D):Xc B j k (d::ds)=.old B d (some (j k))::Xc B j (k+1) ds:=rfl
def Yd(B:Nat)(j:Nat->Value)(x y:List D):St:=
 { t:=λi=>if i=0 then .v true (x.map .dat)else if i=1 then .v true (Xc B j 0 y)else .undef,h:=λ_=>(0,.none) }
theorem ZT(B:Nat)(j:Nat->Value)(x y:List D)(i:Nat):(Yd B j x y).t i=if i=0 then .v true (x.map .dat)else if i=1 then .v true (Xc B j 0 y)else .undef:=rfl
theorem Zh(B:Nat)(j:Nat->Value)(x y:List D)(i:Nat):(Yd B j x y).h i=(0,.none):=rfl
theorem Ud(B:Nat)(d:D)(u:Option Value)(cs:List SC)(k:List D->Prog):Dy (.old B d u::cs) k=Dy cs λds=>k (d::ds):=rfl
def aCW(T:K0)(vars:List ResultVar)(B:Nat)(j:Nat->Value)(y:List D)(s:St):Prop:=It T s vars=some [(true,Xc B j 0 y),(false,[.dat (.bool true)])]
theorem WH{g:Gh}{h:Heap}{w:World}{B:Nat}{U:Nat->Value}:∀{ds:List D} {vs:List Value} {F:List Nat} (k:Nat),aF w ds vs F->(∀b∈F,g.S b/\b<B)->(∀i v,vs[i]? =some v->v=U (k+i))->aQ g h w (Xc B U k ds) vs
 |[],vs,F,k,j,_,_=>by simp only[aF]at j;exact j.1
 |d::ds,vs,F,k,j,I,J=>by simp only[aF]at j;obtain⟨v,C,F1,F2,rfl,rfl,h3,h4⟩:=j;refine⟨v,C,rfl,⟨F1,h3,λb hb=>I b (by simp[hb]),λx hx=> ?_⟩,WH (k+1) h4 (λb hb=>I b (by simp[hb])) λi u hi=> ?_⟩;(cases hx;exact J 0 v rfl);·rw[J (i+1) u (by simpa using hi)];congr 1;omega
theorem Ws{g:Gh}{h:Heap}{w:World}{B:Nat}{I:Nat->Value}:∀{ds:List D} {vs:List Value} (k:Nat),aQ g h w (Xc B I k ds) vs->vs.length=ds.length/\∀i v,vs[i]? =some v->v=I (k+i)
 |[],vs,k,j=>by rw[show vs=[]from j];exact⟨rfl,λi v J=>by simp at J⟩
 |d::ds,vs,k,j=>by
  obtain⟨v,vs',rfl,⟨F,_,_,h3⟩,h4⟩:=j
  obtain⟨U,k2⟩:=Ws (k+1) h4
  refine⟨by simp[U],λi u C=> ?_⟩
  cases i with
  |zero=>simp at C;rw[<-C];exact h3 _ rfl
  |succ i=>
   rw[k2 i u (by simpa using C)]
   congr 1
   omega
theorem Zx {P : Program} {f : FuncId} {fn : Func} {c : Code} {x y : List D} {N : Nat} {vars : List ResultVar} (hf : P.funcs[f]? = some fn) (hb : fn.body = some c) (hN : fn.ntmps = N) (hv : fn.results.toList = vars) (hnm : (fn.name == "runtime.NumGoroutine") = false) (hn : 2 <= N)
  (h : ∀(base:Nat) (w0:W0) (us:Nat->Value),SW P base w0 N c (Yd base us x y) (aft P base w0 N (aCW (dJ P) vars base us y) [])):pH P f [(true,x),(true,y)] [(false,[.edit .pass])]:=by
 subst hN hv
 refine .inr (.inl ⟨.pass,rfl,⟨fn,c,hf,hb,hnm⟩,λw v1 v2 Fa ha => ?_⟩)
 have hFlt:=N5 (vs:=[v1,v2]) ha
 obtain ⟨F1,F',e1,h1,F2,F3,e2,h2,h3⟩:=ha
 have e3:F3=[]:=h3
 subst e3 e2 e1
 obtain ⟨c1,rfl,r1⟩:=h1
 obtain ⟨c2,rfl,r2⟩:=h2
 refine calls_of_wp hf hb ?_
 let us:Nat->Value:=λi=>c2.toList.getD i undef
 let g:Gh:={ val:=λ_=>undef,fp:=λ_=>[],S:=λb=>b∈F1++(F2++[]),Q:=⟨λb=>b∈F1++(F2++[]),w.heap.size,none,slP P⟩ }
 have R:Rel P w.heap.size ⟨w,⟨λb=>b∈F1++(F2++[]),w.heap.size,none,slP P⟩,noK,Xd⟩ fn.ntmps (Yd w.heap.size us x y) { tmps := #[.agg c1,.agg c2]++Array.replicate (fn.ntmps-2) undef,defers:=[] } w:=by refine ⟨g,rfl,jE,Below.refl _ _,⟨λ_ x=>x,rfl,λ_ hx=>(by cases hx)⟩,λ_ x=>x.elim,⟨qf _,λ_ x _=>x,hFlt,λi=>trivial,λi b hl=>absurd rfl hl,λi j b _ hl=>absurd rfl hl,?_,Co.nil _ _,jF,λi hd=>(by obtain ⟨_,_,_,hd⟩:=hd;cases hd),qf _⟩,λt => ?_,⟨rfl,.inl rfl⟩,λ_=>trivial⟩;(rintro i j _ ⟨_,_,_,hd⟩;cases hd);·show nN g _ w (if t=0 then .v true (x.map .dat) else if t=1 then .v true (Xc w.heap.size us 0 y) else .undef) _;by_cases h0:t=0;(subst h0;rw [if_pos rfl];exact ⟨c1,by rw [Array.getD_eq_getD_getElem?,Array.getElem?_append_left jF];rfl,aQ.L9 r1 λb hb=>by show b∈F1++(F2++[]);simp [hb]⟩);·rw [if_neg h0];by_cases h1:t=1;(subst h1;rw [if_pos rfl];refine ⟨c2,by rw [Array.getD_eq_getD_getElem?,Array.getElem?_append_left jF];rfl,WH 0 r2 (λb hb=>⟨by show b∈F1++(F2++[]);simp [hb],hFlt b (by simp [hb])⟩) λi v hi => ?_⟩;show v=c2.toList.getD (0+i) undef;rw [qo,List.getD_eq_getElem?_getD,hi];rfl);·rw [if_neg h1];show _=undef;simp only [Array.getD_eq_getD_getElem?,Array.getElem?_append];rw [if_neg jE];by_cases h2:t-2<fn.ntmps-2;(simp [h2]);·rw [Array.getElem?_eq_none jE];rfl
 refine wp_mono (h w.heap.size ⟨w,⟨λb=>b∈F1++(F2++[]),w.heap.size,none,slP P⟩,noK,Xd⟩ us _ w R) ?_
 rintro e a' w' ⟨s',h1,g',R'⟩
 have fin:aCW (dJ P) fn.results.toList w.heap.size us y s'->a'.defers=[] /\ ∃v,(results fn a'.tmps).run P w' = .ok v w'/\Ending.returned v = .returned (.tuple #[.agg c2,.bool true])/\Below w.heap.size w w':=by
  intro hr
  obtain ⟨vs,k1,k2,k3⟩:=G9 R' hr
  have hrun:=M5 (P:=P) (w:=w') (λx=>match x with | .tmp t=>(pure (a'.tmps.getD t undef):Sem Value) | .cell p t=>(do loadVar t (<-asAddr (a'.tmps.getD p undef)):Sem Value)) fn.results.toList vs (by rw [k1]) k3
  have hrun':(results fn a'.tmps).run P w' = .ok (if h:vs.toArray.size=1 then vs.toArray[0] else .tuple vs.toArray) w':=by unfold results;rw [<-Array.toArray_toList (xs:=fn.results)];rw [List.mapM_toArray];simp only [qs,Sem.run_map,qu];exact (congrArg (λr:Result (List Value)=>(r.andThen λa w'=>Result.ok a.toArray w').andThen λa w'=>Result.ok (if h:a.size=1 then a[0] else Value.tuple a) w') hrun).trans rfl
  obtain ⟨u1,vs1,rfl,⟨d2,rfl,m1⟩,u2,vs2,rfl,m2,m3⟩:=k2
  have m3':vs2=[]:=m3
  subst m3'
  have e2:u2 = .bool true:=Fx (g:=g') (s:=s') (w:=w') (b:=true) m2
  subst e2
  obtain ⟨n1,n2⟩:=Ws 0 m1
  have n3:c2.toList.length=y.length:=r2.length
  have e1:d2=c2:=by
   apply Array.ext'
   apply List.ext_getElem?
   intro i
   rcases Nat.lt_or_ge i y.length with hi | hi
   ·have hd:i<d2.toList.length:=by rw [n1];exact hi
    have hc:i<c2.toList.length:=by rw [n3];exact hi
    rw [qF hd,qF hc]
    have:=n2 i _ (qF hd)
    rw [this]
    show some (c2.toList.getD (0+i) undef)=_
    rw [qo,List.getD_eq_getElem?_getD,qF hc]
    rfl
   ·rw [qY (by rw [n1];exact hi),qY (by rw [n3];exact hi)]
  subst e1
  exact ⟨R'.defers,_,hrun',rfl,R'.below⟩
 cases e with
 | normal=>exact fin h1
 | ret=>exact fin h1
 | exit id=>exact h1.elim
 | goto l=>exact h1.elim
 | panic c=>exact h1.elim
 | outgrown=>exact h1.elim
def aFG:=PLift.up (qI @Ya (qI @WM (qI @ZT (qI @Zh @Ud))))
theorem LP:type_of% aFG.down:=aFG.down
theorem SY{α:Type}{xs z:List α}{i:Int}(h:Ea xs i=some z):0<=i/\i.toNat<=xs.length:=by unfold Ea at h;split at h;(assumption);·cases h
theorem PL{α:Type}{xs z:List α}{i:Int}(h:Ea xs i=some z):i.toNat+(xs.length-i.toNat)=xs.length:=by have:=SY h;omega
theorem RA{α:Type}{f:α->List D}{xs z:List α}{i:Int}{r:List D}(h:Ea xs i=some z):0<=i/\i.toNat<=(List.map f (List.take i.toNat xs)++List.replicate (xs.length-i.toNat) r).length:=by have:=SY h;refine⟨this.1,?_⟩;rw[qE,List.length_map,qU,qz];omega
theorem XU{α:Type}{f:α->List D}{xs z:List α}{i:Int}{n:Nat}{r:List D}(h:Ea xs i=some z):(List.map f (List.take i.toNat xs)++List.replicate n r).take i.toNat=List.map f (List.take i.toNat xs):=by have:=SY h;exact List.take_left' (by rw[List.length_map,qU];omega)
def aAk(t:TypeId)(B:Nat)(C:Value)(d0:D)(ds:List D)(rest:List (Bool×List D)):St:=
 { t:=λi=>match i with|0=>.v false [.bp 7059000 1 0]|i+1=>match rest[i]? with|some (j,ds)=>.v j (ds.map .dat)|none=>.undef,h:=λi=>if i=7059000 then(1,.box t (.old B d0 (some C)::ds.map .dat))else(0,.none) }
theorem Zb(t:TypeId)(B:Nat)(C:Value)(d0:D)(ds:List D)(rest:List (Bool×List D))(i:Nat):(aAk t B C d0 ds rest).t i=match i with|0=>.v false [.bp 7059000 1 0]|i+1=>(match rest[i]? with|some (j,ds)=>.v j (ds.map .dat)|none=>.undef):=rfl
theorem ZS(t:TypeId)(B:Nat)(j:Value)(d0:D)(ds:List D)(rest:List (Bool×List D))(i:Nat):(aAk t B j d0 ds rest).h i=if i=7059000 then(1,.box t (.old B d0 (some j)::ds.map .dat))else(0,.none):=rfl
def SC.clean(base:Nat):SC->Prop
 | .dat d=>d.flat=true
 | .old B _ _=>B<=base
 | .exa _ _ _=>False
 |_=>True
def SV.clean(base:Nat):SV->Prop
 | .v _ j=>∀c∈j,SC.clean base c
 | .tup C=>∀x∈C,∀c∈x.2,SC.clean base c
 |_=>True
def Fo.clean(base:Nat):Fo->Prop
 | .none=>True
 | .box _ j=>∀c∈j,SC.clean base c
 | .row _ _ _ C=>C=true
 | .pin _ _ _=>False
section
variable {P:Program}{base N:Nat}{w0:W0}{w:World}{g:Gh}{s:St}{a:Act}
theorem Sb{Q:Exit->Act->World->Prop}{ops:Array Oper}{K:St->Prop}(m:Nat):∀(l:List Oper) (i:Nat) {s:St} {a:Act} {w:World},(ops.toList.drop i).take l.length=l->Rel P base w0 N s a w->En P (dJ P) N ops l s K->
  (∀s' I w',K s'->Rel P base w0 N s' I w'->wpOps P ops Q (List.range' (i+l.length) m) I w')->wpOps P ops Q (List.range' i (l.length+m)) a w
 |[],i,s,a,w,C,R,h,hq=>by simpa using hq s a w h R
 |o::l,i,s,a,w,C,R,h,hq=>by
  rw[show(o::l).length+m=(l.length+m)+1 from by simp;omega,List.range'_succ,wpOps_cons]
  have J:ops[i]? =some o:=by
   have:((ops.toList.drop i).take (o::l).length)[0]? =some o:=by rw[C];rfl
   rw[List.getElem?_take]at this
   simp at this
   exact this
  have U:(ops.toList.drop (i+1)).take l.length=l:=by
   have h1:(ops.toList.drop i)=o::ops.toList.drop (i+1):=by
    have j:i<ops.toList.length:=by simpa using(ql.1 J).1
    rw[qW j]
    have:ops.toList[i]? =some o:=by simpa using J
    rw[qF j]at this
    simp at this
    simp[this]
   rw[h1]at C
   simpa using C
  refine wpOp_mono ?_ (Sn J R h)
  rintro I w' ⟨s',k1,k2⟩
  refine Sb m l (i+1) U k2 k1 λs2 a2 w2 h2 R2=> ?_
  have:=hq s2 a2 w2 h2 R2
  rwa [show i+(o::l).length=i+1+l.length from by simp;omega]at this
def aB9(s:St):Operand->SV
 | .tmp t=>s.t t
 | .const c=>cst c
 | .func f=>.v false [.dat (.fn f [])]
 | .global _=>.unk
theorem Yf(R:lI P base w0 N g s a w [])(x:Operand):nN g s.h w (aB9 s x) (a.eval x):=by
 cases x with
 |tmp t=>exact R.tmp t
 |const c=>exact Wv c g s.h w
 |func f=>exact⟨_,[],rfl,⟨[],by simp only[Rep];exact⟨[],rfl,by simp[aF]⟩,jF⟩,rfl⟩
 |global j=>trivial
def aAu(s:St)(as:List Operand):St:=
 { t:=λi=>match as[i]? with|some x=>aB9 s x|none=>.undef,h:=s.h,fr:=λi=>if i<10000 then s.t i else s.fr (i-10000) }
def ZI(w0:W0)(a:Act)(i:Nat):Value:=if i<10000 then a.tmps.getD i undef else w0.fv (i-10000)
def aAp(s:St)(d:Nat)(sv:SV):St:=
 { t:=λi=>if i=d then sv else if i<10000 then s.fr i else .unk,h:=s.h,fr:=λi=>s.fr (i+10000) }
theorem Zv(w0:W0)(a:Act)(i:Nat):ZI w0 a (i+10000)=w0.fv i:=by
 unfold ZI
 have h1:¬i+10000<10000:=by omega
 have h2:i+10000-10000=i:=by omega
 rw[if_neg h1,h2]
theorem YK(s:St)(as:List Operand)(i:Nat):(aAu s as).t i=match as[i]? with|some x=>aB9 s x|none=>.undef:=rfl
theorem aAz(s:St)(as:List Operand)(i:Nat):(aAu s as).h i=s.h i:=rfl
theorem WA(s:St)(as:List Operand)(i:Nat):(aAu s as).fr i=if i<10000 then s.t i else s.fr (i-10000):=rfl
theorem Y8(s:St)(d:Nat)(sv:SV)(i:Nat):(aAp s d sv).t i=if i=d then sv else if i<10000 then s.fr i else .unk:=rfl
theorem aAP(s:St)(d:Nat)(sv:SV)(i:Nat):(aAp s d sv).h i=s.h i:=rfl
theorem V5(s:St)(d:Nat)(sv:SV)(i:Nat):(aAp s d sv).fr i=s.fr (i+10000):=rfl
theorem St.Zl(s:St)(t:Nat)(v:SV)(i:Nat):(s.Hg t v).fr i=s.fr i:=rfl
theorem St.Zq(s:St)(t:Nat)(v:Nat×Fo)(i:Nat):(s.fK t v).fr i=s.fr i:=rfl
def VR:List (Bool×List SC)->SV
 |[(j,C)]=>.v j C
 |l=>.tup l
def aAI(P:Program)(T:K0)(vars:List ResultVar)(N:Nat)(ops:Array Oper)(n d:Nat)(K:St->Prop)(s:St):Prop:=
 ∃l,It T s vars=some l/\En P T N ops (ops.toList.drop (n+1)) (aAp s d (VR l)) K
set_option maxRecDepth 20000 in
theorem U2 {Z:St->Prop} {kf:List Fr} {id n f d N':Nat} {ops:Array Oper} {o:Oper} {as:Array Operand} {ts:Array TypeId} {s1:St} {fn:Func} {c:Code} {vars:List ResultVar}
  (ho:ops.toList[n]? = some o) (hop:o.op = .call { callee:=.value (.func f),args:=as,argTypes:=ts }) (hg:o.guard=none) (hd:o.dst=some d) (hdN:d<N)
  (hf : P.funcs[f]? = some fn) (hb : fn.body = some c) (hN : fn.ntmps = N') (hv : fn.results.toList = vars) (hnm : (fn.name == "runtime.NumGoroutine") = false) (hn : as.toList.length <= N')
  (h1:En P (dJ P) N ops (ops.toList.take n) s (Is s1))
  (h : ∀fv,SW P base { w0 with fv:=fv } N' c (aAu s1 as.toList) (aft P base { w0 with fv:=fv } N' (aAI P (dJ P) vars N ops n d (λs3=>aft P base w0 N Z kf .normal s3)) [])) :
  SW P base w0 N (.region id ops false) s (aft P base w0 N Z kf):=by
 subst hN hv
 intro a w R
 refine wp_region ?_
 have hlt:n<ops.toList.length:=(qd.1 ho).1
 have hoi:ops[n]? = some o:=by simpa using ho
 have hsz:ops.size=ops.toList.length:=by simp
 have htl:(ops.toList.take n).length=n:=by rw [qU];omega
 rw [List.range_eq_range',hsz,show ops.toList.length=(ops.toList.take n).length+((ops.toList.drop (n+1)).length+1) from by rw [htl,qV];omega]
 refine Sb _ (ops.toList.take n) 0 (by rw [htl];simp) R h1 λs' a' w' hs R' => ?_
 rw [show s'=s1 from hs] at R'
 rw [htl,qo,List.range'_succ,wpOps_cons]
 obtain ⟨g,R'⟩:=R'
 have hmid:wpOp P ops (λe a' w'=>∃s',aft P base w0 N Z kf e s'/\Rel P base w0 N s' a' w') n (λa2 w2=>∃s2,En P (dJ P) N ops (ops.toList.drop (n+1)) s2 (λs3=>aft P base w0 N Z kf .normal s3)/\Rel P base w0 N s2 a2 w2) a' w':=by
  unfold wpOp
  simp only [hoi]
  rw [if_pos (by simp [Region.wanted,hg])]
  refine .inl ?_
  unfold Oper.wp
  have hrun:(execOp a'.eval o).run P w' = .ok (.enter f (as.map a'.eval)) w':=by simp [execOp,hop,resolve,Act.eval,Deferred.ofValue,invoke,Dn ⟨fn,c,hf,hb,hnm⟩]
  rw [hrun]
  unfold Oper.upon
  refine calls_of_wp hf hb ?_
  let fv:=ZI w0 a'
  have hvl:(as.map a'.eval).size=as.toList.length:=by simp
  have R2:lI P base { w0 with fv:=fv } fn.ntmps g (aAu s1 as.toList) { tmps:=as.map a'.eval++Array.replicate (fn.ntmps-(as.map a'.eval).size) undef,defers:=[] } w' []:=by
   refine ⟨rfl,by simp only [Array.size_append,Array.size_replicate];omega,R'.below,R'.q,R'.oR,R'.inv,λi => ?_,R'.lab,λi => ?_⟩
   ·rw [YK]
    cases hx:as.toList[i]? with
    | none =>
     have hge:as.toList.length<=i:=List.getElem?_eq_none_iff.1 hx
     show _=undef
     simp only [Array.getD_eq_getD_getElem?,Array.getElem?_append]
     rw [if_neg jD]
     by_cases h2:i-(as.map a'.eval).size<fn.ntmps-(as.map a'.eval).size
     ·rw [Array.getElem?_replicate,if_pos h2];rfl
     ·rw [Array.getElem?_replicate,if_neg h2];rfl
    | some x =>
     have hil:i<as.toList.length:=(qd.1 hx).1
     have hv:(as.map a'.eval++Array.replicate (fn.ntmps-(as.map a'.eval).size) undef).getD i undef=a'.eval x:=by
      simp only [Array.getD_eq_getD_getElem?,Array.getElem?_append]
      rw [if_pos jD,Array.getElem?_map]
      have:as[i]? = some x:=by simpa using hx
      rw [this];rfl
     rw [show ({ tmps:=as.map a'.eval++Array.replicate (fn.ntmps-(as.map a'.eval).size) undef,defers:=[] }:Act).tmps.getD i undef=a'.eval x from hv]
     exact Yf R' x
   ·rw [WA];show nN g s1.h w' _ (ZI w0 a' i);unfold ZI;split;(exact R'.tmp i);·exact R'.frm _
  refine wp_mono (h fv _ w' ⟨g,R2⟩) ?_
  rintro e a2 w2 ⟨s2,k1,g2,R3⟩
  have fin:aAI P (dJ P) fn.results.toList N ops n d (λs3=>aft P base w0 N Z kf .normal s3) s2->a2.defers=[] /\ ∃v,(results fn a2.tmps).run P w2 = .ok v w2 /\
    ∃s2,En P (dJ P) N ops (ops.toList.drop (n+1)) s2 (λs3=>aft P base w0 N Z kf .normal s3)/\Rel P base w0 N s2 (a'.put o.dst v) w2:=by
   rintro ⟨l,hgt,hrest⟩
   obtain ⟨vs,m1,m2,m3⟩:=G9 R3 hgt
   have hrun:=M5 (P:=P) (w:=w2) (λx=>match x with | .tmp t=>(pure (a2.tmps.getD t undef):Sem Value) | .cell p t=>(do loadVar t (<-asAddr (a2.tmps.getD p undef)):Sem Value)) fn.results.toList vs (by rw [m1]) m3
   have hrun':(results fn a2.tmps).run P w2 = .ok (if h:vs.toArray.size=1 then vs.toArray[0] else .tuple vs.toArray) w2:=by unfold results;rw [<-Array.toArray_toList (xs:=fn.results)];rw [List.mapM_toArray];simp only [qs,Sem.run_map,qu];exact (congrArg (λr:Result (List Value)=>(r.andThen λa w'=>Result.ok a.toArray w').andThen λa w'=>Result.ok (if h:a.size=1 then a[0] else Value.tuple a) w') hrun).trans rfl
   refine ⟨R3.defers,_,hrun',_,hrest,?_⟩
   have hres:nN g2 s2.h w2 (VR l) (if h:vs.toArray.size=1 then vs.toArray[0] else .tuple vs.toArray):=by
    match l,vs,m2 with
    | [],[],m2=>exact ⟨#[],rfl,rfl⟩
    | [(ag,cs)],[v],m2 =>
     obtain ⟨v',vs',e1,e2,e3⟩:=m2
     simp only [List.cons.injEq] at e1
     obtain ⟨rfl,rfl⟩:=e1
     exact e2
    | [(ag,cs)],v::v'::vs,m2 =>
     obtain ⟨v1,vs1,e1,e2,e3⟩:=m2
     simp only [List.cons.injEq] at e1
     obtain ⟨rfl,rfl⟩:=e1
     cases e3
    | x::y::l,[v],m2 =>
     obtain ⟨v1,vs1,e1,e2,v2,vs2,e3,_⟩:=m2
     simp only [List.cons.injEq] at e1
     rw [e3] at e1
     simp at e1
    | x::y::l,v::v'::vs,m2 =>
     have hne : ¬(v::v'::vs).toArray.size=1:=by simp
     rw [dif_neg hne]
     exact ⟨_,rfl,by simpa using m2⟩
    | [],v::vs,m2=>cases m2
    | x::l,[],m2=>obtain ⟨v1,vs1,e1,_⟩:=m2;cases e1
   generalize (if h:vs.toArray.size=1 then vs.toArray[0] else Value.tuple vs.toArray)=v at hres
   refine ⟨g2,by simp [Act.put,hd,R'.defers],by simp [Act.put,hd,R'.size],R3.below,R3.q,R3.oR,R3.inv,λi => ?_,R3.lab,λi => ?_⟩
   ·rw [Y8,hd,Hq R'.size hdN];by_cases hi:i=d;(rw [if_pos hi,if_pos hi];exact hres);·rw [if_neg hi,if_neg hi];by_cases h1:i<10000;(rw [if_pos h1];have:=R3.frm i;rw [show ({ w0 with fv:=fv }:W0).fv i=a'.tmps.getD i undef from by show ZI w0 a' i=_;unfold ZI;rw [if_pos h1]] at this;exact this);·rw [if_neg h1];trivial
   ·rw [V5];have h:=R3.frm (i+10000);have e:({ w0 with fv:=fv }:W0).fv (i+10000)=w0.fv i:=Zv w0 a' i;rw [e] at h;exact h
  cases e with
  | normal=>exact fin k1
  | ret=>exact fin k1
  | exit id=>exact k1.elim
  | goto l=>exact k1.elim
  | panic c=>exact k1.elim
  | outgrown=>exact k1.elim
 refine wpOp_mono (λa2 w2 R2 => ?_) hmid
 obtain ⟨s2,k1,k2⟩:=R2
 exact Qd (Q:=λe a' w'=>∃s',aft P base w0 N Z kf e s'/\Rel P base w0 N s' a' w') (ops.toList.drop (n+1)) (n+1) rfl k2 k1 λs' a' w' h1 h2=>⟨s',h1,h2⟩
def aGY:=PLift.up (qI @YK (qI @aAz (qI @WA (qI @Y8 (qI @aAP (qI @V5 (qI @St.Zl @St.Zq)))))))
theorem LI:type_of% aGY.down:=aGY.down
end
def aCE(h:Heap)(kh:List Nat)(i ver:Nat)(e:TypeId)(sz:Nat)(xs:List (List D))(j:Nat)(x:List D)(off K:Nat)(I:TypeId)(C:Nat)(ys:List (List D))(u:Value):Heap:=λl=>
 if l=i then(ver,.row e sz (xs.set j (x.set off (.val u))) true)else if l=K then((h K).1+1,.row I C ys true)else if l=7058000 then((h 7058000).1+1,.pin K ((h K).1+1) u)else if l∈kh then h l else((h l).1,.none)
def YJ(s:St)(kt kh:List Nat)(i ver:Nat)(e:TypeId)(sz:Nat)(xs:List (List D))(j:Nat)(x:List D)(off K:Nat)(I:TypeId)(C:Nat)(ys:List (List D))(u:Value):St:=
 { t:=λt=>if t∈kt then s.t t else .unk,h:=aCE s.h kh i ver e sz xs j x off K I C ys u }
theorem Yw(s:St)(kt kh:List Nat)(i ver:Nat)(e:TypeId)(sz:Nat)(xs:List (List D))(j:Nat)(x:List D)(off K:Nat)(I:TypeId)(C:Nat)(ys:List (List D))(u:Value)(t:Nat):(YJ s kt kh i ver e sz xs j x off K I C ys u).t t=if t∈kt then s.t t else .unk:=rfl
theorem XI(s:St)(kt kh:List Nat)(i ver:Nat)(e:TypeId)(sz:Nat)(xs:List (List D))(j:Nat)(x:List D)(off K:Nat)(I:TypeId)(C:Nat)(ys:List (List D))(u:Value)(l:Nat):(YJ s kt kh i ver e sz xs j x off K I C ys u).h l=
  if l=i then(ver,.row e sz (xs.set j (x.set off (.val u))) true)else if l=K then((s.h K).1+1,.row I C ys true)else if l=7058000 then((s.h 7058000).1+1,.pin K ((s.h K).1+1) u)else if l∈kh then s.h l else((s.h l).1,.none):=rfl
section
variable {P:Program}{base N:Nat}{w0:W0}{w:World}{g:Gh}{s:St}{a:Act}
theorem bZ.at_{L:TL}{ds:List D}{ts:Lb}{vs:List Value}{F:List Nat}(h:bZ L w ds ts vs F){off:Nat}{d:D}(hd:ds[off]? =some d):
  ∃I v v3 C J F3,vs=I++v::v3/\I.length=off/\F=C++(J++F3)/\FE L w d (Sh.lab (ts.drop off)) v J/\∀(U:D) (v':Value) (j:List Nat),FE L w U (Sh.lab (ts.drop off)) v' j->bZ L w (ds.set off U) ts (I++v'::v3) (C++(j++F3)):=by
 induction ds generalizing ts vs F off with
 |nil=>simp at hd
 |cons d0 ds ih=>
  simp only[bZ]at h
  obtain⟨v,vs',C,J,rfl,rfl,h3,h4⟩:=h
  cases off with
  |zero=>
   simp at hd
   subst hd
   refine⟨[],v,vs',[],C,J,rfl,rfl,rfl,by simpa using h3,λU v' j h'=> ?_⟩
   simp only[List.set_cons_zero,bZ,List.nil_append]
   exact⟨v',vs',j,J,rfl,rfl,by simpa using h',h4⟩
  |succ off=>
   obtain⟨I,v2,v3,G1,G2,G3,rfl,hl,rfl,k1,k2⟩:=ih h4 (by simpa using hd)
   rw[List.drop_tail]at k1 k2
   refine⟨v::I,v2,v3,C++G1,G2,G3,rfl,by simp[hl],jF,k1,λU v' j h'=> ?_⟩
   simp only[List.set_cons_succ,bZ]
   exact⟨v,I++v'::v3,C,G1++(j++G3),jF,jF,h3,k2 U v' j h'⟩
end
def Yc(B:Nat)(d:D):SC:=if d.flat=true then .dat d else .old B d none
def VM(B:Nat)(args:List (Bool×List D)):St:=
 { t:=λi=>match args[i]? with|some (j,ds)=>.v j (ds.map (Yc B))|none=>.undef,h:=λ_=>(0,.none) }
theorem WU(B:Nat)(args:List (Bool×List D))(i:Nat):(VM B args).t i=match args[i]? with|some (j,ds)=>.v j (ds.map (Yc B))|none=>.undef:=rfl
theorem VX(B:Nat)(args:List (Bool×List D))(i:Nat):(VM B args).h i=(0,.none):=rfl
theorem Tv(B:Nat)(k:IntKind)(n:Int):Yc B (.int k n)=.dat (.int k n):=rfl
theorem Rh(B:Nat)(b:Bool):Yc B (.bool b)=.dat (.bool b):=rfl
theorem T9(B:Nat)(b:ByteArray):Yc B (.str b)=.dat (.str b):=rfl
theorem VV(B:Nat)(xs:List (List D)):Yc B (.sl xs)=.old B (.sl xs) none:=rfl
theorem aQ.U0{g:Gh}{h:Heap}{w:World}{B:Nat}:∀{ds:List D} {vs:List Value} {F:List Nat},aF w ds vs F->(∀b∈F,g.S b/\b<B)->aQ g h w (ds.map (Yc B)) vs
 |[],vs,F,j,_=>by simp only[aF]at j;exact j.1
 |d::ds,vs,F,j,C=>by simp only[aF]at j;obtain⟨v,I,J,U,rfl,rfl,h3,h4⟩:=j;refine⟨v,I,rfl,?_,aQ.U0 h4 λb hb=>C b (by simp[hb])⟩;unfold Yc;split;(exact⟨J,h3,λb hb=>(C b (by simp[hb])).1⟩);·exact⟨J,h3,λb hb=>C b (by simp[hb]),λ_ e=>by cases e⟩
def Ul(j:List (Bool×List RC)):Bool:=j.all λr=>r.2.all λc=>match c with| .own _ _ _=>false|_=>true
theorem Jc{L I:TL}{base:Nat}{w:World}{X:Nat->Prop}:∀{vs:List Value} {C:List RC} {F:List Nat},(C.all λc=>match c with| .own _ _ _=>false|_=>true)=true->pQ L base w X vs C F->pQ I base w X vs C F
 |[],[],F,_,h=>h
 |v::vs,.any d::C,F,j,h=>by simp only[List.all_cons,Bool.true_and]at j;exact⟨h.1,Jc j h.2⟩
 |v::vs,.ro d::C,F,j,h=>by simp only[List.all_cons,Bool.true_and]at j;exact⟨h.1,Jc j h.2⟩
 |v::vs,.own e sz J::C,F,j,h=>by simp at j
 |v::vs,.edit q::C,F,_,h=>h.elim
 |[],_::_,F,_,h=>h.elim
 |_::_,[],F,_,h=>h.elim
theorem TD{L C:TL}{base:Nat}{w:World}{X:Nat->Prop}{v:Value}{r:Bool×List RC}{F:List Nat}(j:(r.2.all λc=>match c with| .own _ _ _=>false|_=>true)=true)(h:N2 L base w X v r F):N2 C base w X v r F:=by
 obtain⟨I,U⟩:=r
 cases I with
 |true=>obtain⟨J,rfl,h⟩:=h;exact⟨J,rfl,Jc j h⟩
 |false=>exact Jc j h
theorem NY{L U:TL}{base:Nat}{w:World}{X:Nat->Prop}:∀{vs:List Value} {j:List (Bool×List RC)} {F:List Nat},Ul j=true->Fl L base w X vs j F->Fl U base w X vs j F
 |[],[],F,_,h=>h
 |v::vs,r::j,F,C,⟨I,J,h0,h1,h2⟩=>by simp only[Ul,List.all_cons,qM]at C;exact⟨I,J,h0,TD C.1 h1,NY C.2 h2⟩
 |[],_::_,F,_,h=>h.elim
 |_::_,[],F,_,h=>h.elim
theorem Xn{L J:TL}{base:Nat}{w:World}{v:Value}{C:List (Bool×List RC)}{Q:Nat->Prop}(j:Ul C=true)(h:Nx L base w v C Q):Nx J base w v C Q:=by
 obtain⟨F,X,h1,h2,h3,h4⟩:=h
 refine⟨F,X,h1,h2,h3,?_⟩
 match C,j,h4 with
 |[r],j,h4=>
  simp only[Ul,List.all_cons,List.all_nil,Bool.and_true]at j
  exact TD j h4
 |[],j,h4=>obtain⟨I,e,h⟩:=h4;exact⟨I,e,NY j h⟩
 |a::b::C,j,h4=>obtain⟨I,e,h⟩:=h4;exact⟨I,e,NY j h⟩
theorem ZP {P : Program} (L : TL) {f : FuncId} {fn : Func} {c : Code} {args : List (Bool × List D)} {rs : List (Bool × List RC)} {N : Nat} {vars : List ResultVar} (hf : P.funcs[f]? = some fn) (hb : fn.body = some c) (hN : fn.ntmps = N) (hv : fn.results.toList = vars) (hnm : (fn.name == "runtime.NumGoroutine") = false) (hn : args.length <= N) (hL : L = slP P \/ (L = Kz /\ Ul rs = true))
  (h : ∀(base:Nat) (wd:World×(Nat->Prop)),SW P base ⟨wd.1,⟨wd.2,base,none,L⟩,noK,Xd⟩ N c (VM base args) (aft P base ⟨wd.1,⟨wd.2,base,none,L⟩,noK,Xd⟩ N (Ret (dJ P) vars rs) [])):pH P f args rs:=by
 subst hN hv
 refine .inl ⟨⟨fn,c,hf,hb,hnm⟩,λw vs Fa ha => ?_⟩
 obtain ⟨hlen,hat⟩:=args_at ha
 have hlen':vs.size=args.length:=by simpa using hlen
 refine calls_of_wp hf hb ?_
 have hFlt:=N5 ha
 let g:Gh:={ val:=λ_=>undef,fp:=λ_=>[],S:=λb=>b∈Fa,Q:=⟨λb=>b∈Fa,w.heap.size,none,L⟩ }
 have R:Rel P w.heap.size ⟨w,⟨λb=>b∈Fa,w.heap.size,none,L⟩,noK,Xd⟩ fn.ntmps (VM w.heap.size args) { tmps:=vs++Array.replicate (fn.ntmps-vs.size) undef,defers:=[] } w:=by
  refine ⟨g,rfl,jE,Below.refl _ _,⟨λ_ x=>x,rfl,λ_ hx=>(by cases hx)⟩,λ_ x=>x.elim,⟨qf _,λ_ x _=>x,hFlt,λi=>trivial,λi b hl=>absurd rfl hl,λi j b _ hl=>absurd rfl hl,?_,Co.nil _ _,jF,λi hd=>(by obtain ⟨_,_,_,hd⟩:=hd;cases hd),qf _⟩,λt => ?_,⟨rfl,hL.imp id And.left⟩,λ_=>trivial⟩
  ·rintro i j _ ⟨_,_,_,hd⟩;cases hd
  ·show nN g _ w (match args[t]? with | some (ag,ds)=>.v ag (ds.map (Yc w.heap.size)) | none=>.undef) _
   cases ht:args[t]? with
   | none =>
    have hge:args.length<=t:=List.getElem?_eq_none_iff.1 ht
    show _=undef
    simp only [Array.getD_eq_getD_getElem?,Array.getElem?_append]
    rw [if_neg jD]
    by_cases h2:t-vs.size<fn.ntmps-vs.size
    ·simp [h2]
    ·rw [Array.getElem?_eq_none jE];rfl
   | some x =>
    obtain ⟨v,Fi,h1,h2,hFi⟩:=hat t x ht
    have hlt:t<vs.size:=by have:=(qd.1 ht).1;omega
    have hv:(vs++Array.replicate (fn.ntmps-vs.size) undef).getD t undef=v:=by
     simp only [Array.getD_eq_getD_getElem?,Array.getElem?_append]
     rw [if_pos hlt]
     have:vs[t]? = some v:=by simpa using h1
     rw [this];rfl
    rw [hv]
    obtain ⟨ag,ds⟩:=x
    cases ag with
    | false =>
     obtain ⟨d,rfl,hr⟩:=h2
     have hcs:aF w [d] [v] Fi:=by simp only [aF];exact ⟨v,[],Fi,[],rfl,jF,hr,jF⟩
     exact aQ.U0 hcs λb hb=>⟨hFi b hb,hFlt b (hFi b hb)⟩
    | true =>
     obtain ⟨cs,rfl,hr⟩:=h2
     exact ⟨cs,rfl,aQ.U0 hr λb hb=>⟨hFi b hb,hFlt b (hFi b hb)⟩⟩
 refine wp_mono (h w.heap.size (w,λb=>b∈Fa) _ w R) ?_
 rintro e a' w' ⟨s',h1,R'⟩
 have fin:Ret (dJ P) fn.results.toList rs s'->a'.defers=[] /\ ∃v,(results fn a'.tmps).run P w' = .ok v w' /\ ∃v',Ending.returned v = .returned v'/\Nx (slP P) w.heap.size w' v' rs (λb=>b∈Fa)/\Below w.heap.size w w':=by intro hr;obtain ⟨v,k1,k2⟩:=WD R' hr;obtain ⟨g',R''⟩:=R';refine ⟨R''.defers,v,k1,v,rfl,?_,R''.below⟩;rcases hL with rfl | ⟨_,hno⟩;(exact k2);·exact Xn hno k2
 cases e with
 | normal=>exact fin h1
 | ret=>exact fin h1
 | exit id=>exact h1.elim
 | goto l=>exact h1.elim
 | panic c=>exact h1.elim
 | outgrown=>exact h1.elim
theorem ZG {P : Program} {f : FuncId} {fn : Func} {c : Code} {args : List (Bool × List D)} {rs : List (Bool × List RC)} {N : Nat} {vars : List ResultVar} (hf : P.funcs[f]? = some fn) (hb : fn.body = some c) (hN : fn.ntmps = N) (hv : fn.results.toList = vars) (hnm : (fn.name == "runtime.NumGoroutine") = false) (hn : args.length <= N)
  (h : ∀(base:Nat) (wd:World×(Nat->Prop)),SW P base ⟨wd.1,⟨wd.2,base,none,Kz⟩,noK,Xd⟩ N c (VM base args) (aft P base ⟨wd.1,⟨wd.2,base,none,Kz⟩,noK,Xd⟩ N (Ret (dJ P) vars rs) [])) (hno:Ul rs=true:=by exact rfl):pH P f args rs:=ZP Kz hf hb hN hv hnm hn (.inr ⟨rfl,hno⟩) h
theorem Ra(B:Nat)(d:D)(u:Option Value)(cs:List SC)(k:List D->Prog):Dy (.old B d u::cs) k=Dy cs λds=>k (d::ds):=rfl
theorem WZ(b:Nat)(d:D):SC.clean b (.dat d)=(d.flat=true):=rfl
theorem WY(b B:Nat)(d:D)(u:Option Value):SC.clean b (.old B d u)=(B<=b):=rfl
theorem Wl(b:Nat):SC.clean b .nil=True:=rfl
theorem Vl(b i v:Nat):SC.clean b (.row i v)=True:=rfl
theorem Yn(b i v o:Nat):SC.clean b (.bp i v o)=True:=rfl
theorem ZA(b:Nat)(ag:Bool)(cs:List SC):SV.clean b (.v ag cs)=∀c∈cs,SC.clean b c:=rfl
theorem VZ(b:Nat)(xs:List (Bool×List SC)):SV.clean b (.tup xs)=∀x∈xs,∀c∈x.2,SC.clean b c:=rfl
theorem Vd(b:Nat):SV.clean b .unk=True:=rfl
theorem Si(b:Nat):SV.clean b .undef=True:=rfl
theorem Uk(b:Nat):Fo.clean b .none=True:=rfl
theorem Wy(b:Nat)(t:TypeId)(cs:List SC):Fo.clean b (.box t cs)=∀c∈cs,SC.clean b c:=rfl
theorem Ua(b:Nat)(e:TypeId)(sz:Nat)(xs:List (List D))(dp:Bool):Fo.clean b (.row e sz xs dp)=(dp=true):=rfl
theorem aJZ{α:Type}{p:α->Prop}{a:α}{l:List α}:(∀x∈a::l,p x)=(p a/\∀x∈l,p x):=by simp
theorem aJb{α:Type}{p:α->Prop}:(∀x∈([]:List α),p x)=True:=by simp
theorem XO(k:IntKind)(n:Int):D.flat (.int k n)=true:=rfl
theorem VU(b:Bool):D.flat (.bool b)=true:=rfl
theorem XX(b:ByteArray):D.flat (.str b)=true:=rfl
theorem Zs(b:Nat):(b<=b)=True:=by simp
theorem Gho.shallow{P:Program}{base N:Nat}{w0:W0}{s:St}{i ver:Nat}{e:TypeId}{sz:Nat}{xs:List (List D)}(hi:s.h i=(ver,.row e sz xs true)):Gho P base w0 N s (s.fK i (ver,.row e sz xs false)):=by
 rintro a w ⟨g,R⟩
 have hi2:(s.h i).2=.row e sz xs true:=by rw[hi]
 have T:kL g g s.h (nM s.h i (ver,.row e sz xs false)) w w:=by refine⟨λ_ x=>x,λ_ _=>rfl,λj=> ?_,λj e' sz' ys dp' _ C=>⟨rfl,?_⟩,λj t cs _ C=>⟨rfl,?_⟩,rfl⟩;(by_cases C:j=i;(subst C;rw[bM,hi];exact qf _);·rw[dQ _ _ _ _ C];exact qf _);(by_cases J:j=i;(subst J;rw[bM]at C;cases C;exact⟨xs,true,hi2⟩);·rw[dQ _ _ _ _ J]at C;exact⟨ys,dp',C⟩);·by_cases J:j=i;(subst J;rw[bM]at C;cases C);·rw[dQ _ _ _ _ J]at C;exact⟨cs,C⟩
 have lv:∀j,live (nM s.h i (ver,.row e sz xs false)) j->live s.h j:=λj U=>by by_cases C:j=i;(subst C;unfold live;rw[hi2];simp);·unfold live at U⊢;rw[dQ _ _ _ _ C]at U;exact U
 have dv:∀j,gT (nM s.h i (ver,.row e sz xs false)) j->gT s.h j:=λj U=>by obtain⟨e',sz',ys,hh⟩:=U;by_cases C:j=i;(subst C;rw[bM]at hh;cases hh);·rw[dQ _ _ _ _ C]at hh;exact⟨e',sz',ys,hh⟩
 have I:=R.inv
 refine⟨g,R.turn T rfl R.below ⟨I.base_le,I.S_old,I.S_lt,λj=> ?_,λj b U=>I.mtb j b (lv j U),λj k b hne U hk=>I.inj j k b hne (lv j U) (lv k hk),λj k hne C hk=>I.dis j k hne (dv j C) (dv k hk),I.pool_own,I.pool_S,λj hd=>I.pool_dis j (dv j hd),I.fb⟩⟩
 show Ck base g (nM s.h i (ver,.row e sz xs false)) w j (nM s.h i (ver,.row e sz xs false) j).2
 by_cases C:j=i
 ·subst C;rw[bM];have ho:=I.obj j;rw[hi2]at ho;obtain⟨cells,h1,h2,h3,h4,_⟩:=ho;exact⟨cells,h1,h2,h3.rep,h4,λh=>by cases h⟩
 ·rw[dQ _ _ _ _ C];exact Ck.turn T rfl rfl (λ_ _=>rfl) (I.obj j)
theorem exI{P:Program}{T:K0}{N:Nat}{ops:Array Oper}{l:List Oper}{s s3:St}{K:St->Prop}(h:En P T N ops l s (Is s3))(hk:K s3):En P T N ops l s K:=
 K4 l (λτ hτ=>by rw[show τ=s3 from hτ];exact hk) h
theorem Xz(b i v j o:Nat):SC.clean b (.rp i v j o)=True:=rfl
def aC1:=PLift.up (qI @WZ (qI @WY (qI @Wl (qI @Vl (qI @Yn (qI @Xz (qI @ZA (qI @VZ (qI @Vd (qI @Si (qI @Uk (qI @Wy (qI @Ua (qI @aJZ (qI @aJb (qI @XO (qI @VU (qI @XX (qI @Zs (qI and_true (qI true_and and_self)))))))))))))))))))))
theorem LC:type_of% aC1.down:=aC1.down
def aDL:=PLift.up (qI @Zb (qI @ZS (qI @WU (qI @VX (qI @Tv (qI @Rh (qI @T9 (qI @VV (qI @Ra (qI @Yw (qI @XI (qI @List.set_set.{0} @List.length_set.{0}))))))))))))
theorem LN:type_of% aDL.down:=aDL.down
section
variable {P:Program}{base N:Nat}{w0:W0}{s:St}
theorem U5{g:Gh}{a:Act}{w:World}{j K vj n:Nat}{e:TypeId}{sz:Nat}{xs ys:List (List D)}{dp:Bool}{v:Value}(R:lI P base w0 N g s a w [])(h2:s.h j=(vj,.row e sz xs dp))(hn:n<=xs.length)(J:xs.take n=ys)(hv:yT g s.h w (.part j vj 0 n) v):
  ∃g',lI P base w0 N g' ((s.fK j (vj,.none)).fK K ((s.h K).1+1,.row e sz ys dp)) a w []/\kL g g' s.h ((s.fK j (vj,.none)).fK K ((s.h K).1+1,.row e sz ys dp)).h w w/\
   yT g' ((s.fK j (vj,.none)).fK K ((s.h K).1+1,.row e sz ys dp)).h w (.row K ((s.h K).1+1)) v:=by
 have C:(s.h j).1=vj:=by rw[h2]
 have I:(s.h j).2=.row e sz xs dp:=by rw[h2]
 have hob:=R.inv.obj j
 rw[I]at hob
 obtain⟨cells,p1,p2,p3,p4,p5⟩:=hob
 obtain⟨I1,hfr⟩:=R.inv.FJ I
 rw[C]at I1 hfr
 have T1:kL g g s.h (nM s.h j (vj,.none)) w w:=by have:=kL.drop (g:=g) (h:=s.h) (w:=w) j g.S λ_ x=>x;rw[C]at this;exact this
 have hver:(nM s.h j (vj,.none) K).1=(s.h K).1:=by by_cases hk:K=j;(subst hk;rw[bM,C]);·rw[dQ _ _ _ _ hk]
 obtain⟨hv0,_,hv⟩:=hv
 obtain⟨U,c,rfl,k2,_,k4⟩:=hv C e sz xs dp I
 obtain⟨m,k5,k6⟩:=k4 rfl
 have hyl:ys.length=n:=by rw[<-J,qU,Nat.min_eq_left hn]
 have hsp:dH g.Q.L dp w e (xs.take n++xs.drop n) cells (g.fp j):=by rw[qn];exact p3
 obtain⟨v1,v2,F1,F2,hce,hF,q1,q2⟩:=dH.split hsp
 rw[J]at q1
 have hxl:∀y∈ys,y.length=sz:=λy hy=>p2 y (qj (J ▸ hy))
 have hl1:v1.length=n*sz:=by rw[<-hyl];exact aT.length q1.rep hxl
 have ho:w.ownsRow base e sz (.slice U n c) ys.length v1:=by
  rw[hyl]
  refine⟨hl1,?_⟩
  rcases p1.2 with⟨h6,h7⟩|⟨gg,cap,cur,h6,h7,h8,h9,aa,ae,af⟩
  ·rw[k5]at h6
   simp at h6
   obtain⟨rfl,rfl,rfl⟩:=h6
   have:n=0:=by omega
   subst this
   exact .inl ⟨rfl,rfl⟩
  ·rw[k5]at h6
   simp at h6
   obtain⟨rfl,rfl,rfl⟩:=h6
   refine .inr ⟨gg,c,cur,rfl,h7,h8,k2,aa,ae,?_⟩
   have:(cur.toList.take (xs.length*sz)).take (n*sz)=v1:=by rw[af,hce];exact List.take_left' hl1
   rw[List.take_take,Nat.min_eq_left (qi sz hn)]at this
   exact this
 have hob2:∀b,Dz (.slice U n c)=some b->Dz (g.val j)=some b:=by intro b hb;rw[k5];cases U<;>first|(simp[Dz]at hb;done)|simpa[Dz]using hb
 have I2:=I1.FU (i:=K) (v:=.slice U n c) (e:=e) (sz:=sz) (xs:=ys) (dp:=dp) (cells:=v1) (F:=F1) (pool':=[]) ho hxl q1 (λb hb=>p4 b (by rw[hF];simp[hb])) (λb hb=>hfr b (hob2 b hb)) jF List.nodup_nil (λhd=>by subst hd;simp only[if_true,List.nil_append];have hnd:=(p5 rfl).1;rw[hF]at hnd⊢;exact⟨(qt.1 hnd).1,λb hb=>⟨by simp[hb],jF⟩⟩)
 have T2:=kL.create (g:=g) (h:=nM s.h j (vj,.none)) (w:=w) K (.slice U n c) F1 (.row e sz ys dp)
 rw[hver]at I2 T2
 refine⟨_,R.turn (T1.trans T2) rfl R.below I2,T1.trans T2,hv0,?_,?_⟩
 ·show _<=(nM _ K _ K).1;rw[bM];exact qf _
 ·intro _ e' sz' xs' dp' _;show _=Jp g.val K (.slice U n c) K;rw[fG]
theorem aQ.YP{g J:Gh}{h U:Heap}{w:World}(T:kL g J h U w w){y:SC}:∀{cs:List SC} {vs:List Value} (c:Nat) (x:SC) (v:Value),aQ g h w cs vs->cs[c]? =some x->vs[c]? =some v->yT J U w y v->aQ J U w (cs.set c y) vs
 |[],vs,c,x,v,hc,I,_,_=>by simp at I
 |z::cs,vs,0,x,v,hc,I,C,hy=>by obtain⟨v0,j,rfl,h1,h2⟩:=hc;simp at C;subst C;exact⟨v0,j,rfl,hy,aQ.turn T h2⟩
 |z::cs,vs,c+1,x,v,hc,I,C,hy=>by obtain⟨v0,j,rfl,h1,h2⟩:=hc;exact⟨v0,j,rfl,yT.turn T h1,aQ.YP T c x v h2 (by simpa using I) (by simpa using C) hy⟩
theorem aQ.get{g:Gh}{h:Heap}{w:World}:∀{cs:List SC} {vs:List Value} (c:Nat) (x:SC),aQ g h w cs vs->cs[c]? =some x->∃v,vs[c]? =some v/\yT g h w x v
 |[],vs,c,x,hc,j=>by simp at j
 |z::cs,vs,0,x,hc,j=>by obtain⟨I,C,rfl,h1,h2⟩:=hc;simp at j;subst j;exact⟨I,rfl,h1⟩
 |z::cs,vs,c+1,x,hc,j=>by obtain⟨I,C,rfl,h1,h2⟩:=hc;exact aQ.get c x h2 (by simpa using j)
theorem Gho.Z7{b vb c j K vj n:Nat}{t:TypeId}{cells:List SC}{e:TypeId}{sz:Nat}{xs:List (List D)}{dp:Bool}(ys:List (List D))(I:s.h b=(vb,.box t cells))(h1:cells[c]? =some (.part j vj 0 n))(h2:s.h j=(vj,.row e sz xs dp))(hk:b≠K)(hn:n<=xs.length)(hys:xs.take n=ys):
  Gho P base w0 N s (((s.fK j (vj,.none)).fK K ((s.h K).1+1,.row e sz ys dp)).fK b (vb,.box t (cells.set c (.row K ((s.h K).1+1))))):=by
 rintro a w ⟨g,R⟩
 have U:b≠j:=λe=>by rw[e,h2]at I;cases I
 have J:=R.inv.obj b
 rw[show(s.h b).2=.box t cells from by rw[I]]at J
 obtain⟨b',vals,h3,h4,h5,h6⟩:=J
 obtain⟨v,k1,k2⟩:=aQ.get c _ h6 h1
 obtain⟨g',R',T,hc⟩:=U5 (K:=K) R h2 hn hys k2
 have C:((s.fK j (vj,.none)).fK K ((s.h K).1+1,.row e sz ys dp)).h b=(vb,.box t cells):=by show nM (nM s.h j _) K _ b=_;rw[dQ _ _ _ _ hk,dQ _ _ _ _ U,I]
 have hv:g'.val b=g.val b:=(T.box b t cells (by rw[C,I]) (by rw[C])).1
 exact YT R' C (hv.trans h3) h5 (aQ.YP T c _ v h6 h1 k1 hc)
theorem aAI.mk{P:Program}{T:K0}{vars:List ResultVar}{ops:Array Oper}{n d:Nat}{K:St->Prop}{l:List (Bool×List SC)}{s s1:St}(h1:It T s vars=some l)(h2:En P T N ops (ops.toList.drop (n+1)) (aAp s d (VR l)) (Is s1))(h3:K s1):aAI P T vars N ops n d K s:=⟨l,h1,exI h2 h3⟩
end
section
variable {P:Program}{base N:Nat}{w0:W0}{Z:St->Prop}{k:List Fr}{s:St}
theorem Fk{x y:Code}(J:St->Prop)(h1:SW P base w0 N x s (aft P base w0 N Z (.inv J::k)))(h2:∀s',J s'->SW P base w0 N y s' (aft P base w0 N Z k)):SW P base w0 N (.seq x y) s (aft P base w0 N Z k):=by
 refine sq λa w R=>wp_mono (h1 a w R) ?_
 rintro e a' w' ⟨s',k1,k2⟩
 refine⟨s',?_,k2⟩
 cases e with
 |normal=>exact h2 s' k1
 |_=>exact k1
