/-
  Helper text. No conditions.
-/
import Derived.Test.YtipmihbgjolaaaaGreatStorageShC
import Derived.ProofKit
import Derived.OpenShut
import Derived.ShutString
import Derived.Deep.Slices
import Derived.Carry
set_option linter.unusedVariables false
set_option linter.unusedSimpArgs false
namespace Go.Sh
open Go.RowKit
theorem OS(args:List (Bool×List D))(i:Nat):(init args).t i=match args[i]? with|some (j,ds)=>.v j (ds.map .dat)|none=>.undef:=rfl
theorem Pu(args:List (Bool×List D))(i:Nat):(init args).h i=(0,.none):=rfl
def Te(v:SV)(A B:Prop):Prop:=match v with
 | .v false [.dat (.bool b)]=>(b=true->A)/\(b=false->B)
 |_=>False
theorem Ll(b:Bool)(A B:Prop):Te (.v false [.dat (.bool b)]) A B=((b=true->A)/\(b=false->B)):=rfl
theorem bT{n:Int}(C: -9223372036854775808<=n)(j:n<=9223372036854775807):IntKind.i64.wrap n=n:=by rw[IntKind.wrap_i64];omega
attribute [simp] vQ JR Mg Kx Gr Ew GV A6 Ao evG vT vOp S4 put ex exF cst one aft St.FC St.NT St.OX St.G0 xE Bh Ct AG xZ Bx sA zW yL zH rows pY CY lenOf GU GJ EU wR yU Bq Im D.flat rid TI.agg OS Pu A7 zX IV D0 Cj Ll
end Go.Sh
namespace Go.Sh
open Go.RowKit Go.ChangeShapes Go.WideShapes Go.Deep
inductive Shp where
 |int (k:IntKind)
 |bool
 |str
 |sl (es:List Shp)
def DI(P:Program)(f:TypeId->Option (List Shp)):Nat->List Field->Option (List Shp)
 |_,[]=>some []
 |j,x::C=>if x.offset=j then(match f x.type,DI P f (j+P.cellsOf x.type) C with
   |some a,some b=>if a.length=P.cellsOf x.type then some (a++b)else none
   |_,_=>none)else none
def Pd(P:Program):Nat->TypeId->Option (List Shp)
 |0,_=>none
 |n+1,t=>match P.underlying t with
  |some (.int k)=>some [.int k]
  |some .bool=>some [.bool]
  |some .string=>some [.str]
  |some (.slice e)=>match Pd P n e with
   |some es=>if es.length=P.cellsOf e/\0<es.length then some [.sl es]else none
   |none=>none
  |some (.struct j)=>match DI P (Pd P n) 0 j.toList with
   |some es=>if es.length=P.cellsOf t then some es else none
   |none=>none
  |_=>none
mutual
def Has:Shp->D->Prop
 | .int k,d=>∃n,d=.int k n/\(Lit.int k n).wf=true
 | .bool,d=>∃b,d=.bool b
 | .str,d=>∃s,d=.str s/\s.size<=maxLen
 | .sl es,d=>∃j,d=.sl j/\j.length<=maxLen/\∀x∈j,DE es x
def DE:List Shp->List D->Prop
 |[],ds=>ds=[]
 |e::es,ds=>∃d j,ds=d::j/\Has e d/\DE es j
end
theorem DE.append:∀{a b:List Shp} {x y:List D},DE a x->DE b y->DE (a++b) (x++y)
 |[],b,x,y,h,k=>by simp only[DE]at h;subst h;exact k
 |e::a,b,x,y,h,k=>by simp only[DE]at h;obtain⟨d,j,rfl,I,C⟩:=h;simp only[List.cons_append,DE];exact⟨d,j++y,rfl,I,DE.append C k⟩
theorem DE.length:∀{a:List Shp} {x:List D},DE a x->x.length=a.length
 |[],x,h=>by simp only[DE]at h;subst h;rfl
 |e::a,x,h=>by simp only[DE]at h;obtain⟨d,C,rfl,I,j⟩:=h;simp[DE.length j]
section
variable {H:Type}{enc:TypeId×Value->H}{P:Program}{w:World}{base:Nat}{spare:Nat->Bool}{held:Bool}
theorem xA{w:World}{d:D}{v:Value}{F:List Nat}(h:Rep w d v F):aG w [d] [v] F:=by simp only[aG];exact⟨v,[],F,[],rfl,qe,h,rfl,rfl⟩
theorem CC{e:Shp}{d:D}(h:Has e d):DE [e] [d]:=by simp only[DE];exact⟨d,[],rfl,h,rfl⟩
theorem Ie{n m:Nat}(U:∀(t:TypeId) (j:List Shp) (cs:List Value) (x:DataW H×List MemPlace),Pd P n t=some j->DataW.trod enc P w base spare held m t cs=some x->∃ds F,aG w ds cs F/\DE j ds):
  ∀(I:List Field) (C:Nat) (j:List Shp) (cs:List Value),DI P (Pd P n) C I=some j->C+j.length=cs.length->
   (∀f∈I,∃x,DataW.trod enc P w base spare held m f.type ((cs.drop f.offset).take (P.cellsOf f.type))=some x)->∃ds F,aG w ds (cs.drop C) F/\DE j ds
 |[],C,j,cs,h,J,_=>by simp[DI]at h;subst h;refine⟨[],[],?_,by simp[DE]⟩;rw[List.drop_of_length_le (by simpa using Nat.le_of_eq J.symm)];simp[aG]
 |f::I,C,j,cs,h,J,hf=>by
  simp only[DI]at h
  split at h
  ·rename_i ho
   split at h
   ·rename_i a b ha hb
    split at h
    ·rename_i hlen
     cases h
     obtain⟨x,hx⟩:=hf f qe
     obtain⟨d1,F1,k1,k2⟩:=U _ _ _ _ ha hx
     obtain⟨d2,F2,k3,k4⟩:=Ie U I _ b cs hb (by rw[qE,hlen]at J;omega) λy hy=>hf y (by simp[hy])
     refine⟨d1++d2,F1++F2,?_,k2.append k4⟩
     have:cs.drop C=(cs.drop f.offset).take (P.cellsOf f.type)++cs.drop (C+P.cellsOf f.type):=by rw[ho,<-List.drop_drop,List.take_append_drop]
     rw[this]
     exact k1.append k3
    ·cases h
   ·cases h
  ·cases h
theorem NK{a:Addr}{v:Value}(h:w.cell? a=some v):a=⟨a.block,a.off,none⟩:=by
 obtain⟨b,o,s⟩:=a
 unfold World.cell? at h
 cases s with
 |none=>rfl
 |some s=>
  split at h
  ·simp at h
  ·cases h
theorem JE{es:List Shp}{C:Nat}(hC:es.length=C){a:Addr}:∀(len:Nat),(∀i,i<len->∃I ds F,I.length=C/\(∀j,j<C->w.cell? (a.add (i*C+j))=I[j]?)/\aG w ds I F/\DE es ds)->
  ∃U cells G,U.length=len/\(∀x∈U,DE es x)/\aQ w U cells G/\cells.length=len*C/\∀j,j<len*C->w.cell? (a.add j)=cells[j]?
 |0,_=>⟨[],[],[],rfl,qe,by simp[aQ],qe,qe⟩
 |len+1,h=>by
  obtain⟨U,cells,G,h1,h2,h3,h4,h5⟩:=JE hC len λi hi=>h i qc
  obtain⟨I,ds,F,k1,k2,k3,k4⟩:=h len qc
  refine⟨U++[ds],cells++I,G++F,by simp[h1],?_,?_,by rw[qE,h4,k1,Nat.add_mul];omega,?_⟩
  ·intro x J;rcases List.mem_append.1 J with J|J;(exact h2 x J);·simp at J;subst J;exact k4
  ·refine h3.append ?_;simp only[aQ];exact⟨I,[],F,[],qe,qe,k3,rfl,rfl⟩
  ·intro j hj;rw[Nat.add_mul,Nat.one_mul]at hj;by_cases hjl:j<len*C;(rw[h5 j hjl,List.getElem?_append_left qc]);·have:=k2 (j-len*C) qc;rw[show len*C+(j-len*C)=j from by omega]at this;rw[this,List.getElem?_append_right qc,h4]
theorem Jq:∀(n:Nat) (m:Nat) (t:TypeId) (C:List Shp) (cs:List Value) (x:DataW H×List MemPlace),Pd P n t=some C->DataW.trod enc P w base spare held m t cs=some x->∃ds F,aG w ds cs F/\DE C ds
 |0,_,_,_,_,_,h,_=>by simp[Pd]at h
 |n+1,m,t,C,cs,x,h,hx=>by
  simp only[Pd]at h
  split at h
  ·rename_i k I;cases h;obtain⟨v,rfl,_,hw⟩:=DataW.trod_int I hx;exact⟨[.int k v],[],xA (by simp[Rep]),CC (by simp[Has,hw])⟩
  ·rename_i I;cases h;obtain⟨v,rfl,_⟩:=DataW.trod_bool I hx;exact⟨[.bool v],[],xA (by simp[Rep]),CC (by simp[Has])⟩
  ·rename_i I;cases h;obtain⟨v,rfl,_,hw⟩:=DataW.trod_string I hx;exact⟨[.str v],[],xA (by simp[Rep]),CC (by simp[Has,hw])⟩
  ·rename_i e I
   split at h
   ·rename_i es U
    split at h
    ·rename_i hc
     cases h
     rcases open_slice I hx with⟨rfl,_⟩|⟨a,len,cap,mm,fu,Dd,Pl,rfl,h1,h2,h3,h4,_,h6⟩
     ·refine⟨[.sl []],[],?_,?_⟩;(refine xA ?_;simp only[Rep];exact⟨none,0,0,rfl,rfl,Nat.le_refl _,.inl qe⟩);·refine CC ?_;simp only[Has];exact⟨[],rfl,qe,qe⟩
     ·have hle:len<=mm:=by rw[h4];split<;>omega
      obtain⟨xs,cells,G,k1,k2,k3,k4,k5⟩:=JE (w:=w) hc.1 (a:=a) len λi hi=>by obtain⟨cs',q1,q2⟩:=h6 i qc;obtain⟨_,q3,q4⟩:=World.cells?_some q1;obtain⟨ds,F,q5,q6⟩:=Jq n fu e es cs' _ U q2;exact⟨cs',ds,F,q3,λj hj=>by rw[<-Go.Deep.add_add];exact q4 j hj,q5,q6⟩
      rcases Nat.eq_zero_or_pos len with h0|h0
      ·have hxs:xs=[]:=List.eq_nil_of_length_eq_zero qc;subst hxs;refine⟨[.sl []],[],?_,?_⟩;(refine xA ?_;simp only[Rep];exact⟨some a,len,cap,rfl,by simpa using h0,h2,.inl ⟨h0,trivial⟩⟩);·refine CC ?_;simp only[Has];exact⟨[],rfl,qe,qe⟩
      ·have hpos:0<len*P.cellsOf e:=Nat.mul_pos h0 qc
       have J:=k5 0 hpos
       have hc0':cells[0]? =some (cells[0]'qc):=qF qc
       have hadd0:a.add 0=a:=by simp[Addr.add]
       rw[hadd0,hc0']at J
       have ha:=NK J
       refine⟨[.sl xs],a.block::G,?_,?_⟩
       ·refine xA ?_
        simp only[Rep]
        refine⟨some a,len,cap,rfl,k1.symm,h2,.inr ⟨a.block,a.off,cells,P.cellsOf e,G,by rw[<-ha],World.block_lt_of_cell? w a J,rfl,?_,k4,?_,k3⟩⟩
        ·intro j u hu'
         have hj:j<len*P.cellsOf e:=by rw[<-k4];exact(List.getElem?_eq_some_iff.1 hu').1
         have:=k5 j hj
         rw[ha,Addr.add_lit]at this
         rw[this];exact hu'
        ·intro x hx';rw[(k2 x hx').length,hc.1]
       ·refine CC ?_;simp only[Has];exact⟨xs,rfl,qc,k2⟩
    ·cases h
   ·cases h
  ·rename_i fs I
   split at h
   ·rename_i es U
    split at h
    ·rename_i hc
     cases h
     obtain⟨xs,mm,rfl,_,q1,q2,q3⟩:=DataW.trod_struct I hx
     have:=Ie (m:=mm) (λt C cs x=>Jq n mm t C cs x) fs.toList 0 C cs U qc (λf hf=>by
      obtain⟨i,hi⟩:=List.getElem?_of_mem hf
      have hi':fs[i]? =some f:=by simpa using hi
      have hlt:i<xs.length:=by rw[q2];exact(Array.getElem?_eq_some_iff.1 hi').1
      exact⟨xs[i],by rw[q3 i f hi',qF hlt]⟩)
     simpa using this
    ·cases h
   ·cases h
  ·cases h
theorem SN{n:Nat}{t:TypeId}{I:List Shp}{v:Value}{d:DataW H}{p:List MemPlace}{b:Nat}(h:Pd P n t=some I)(J:Value.okWide P w .any b t v)(U:DataW.Trod enc P w base spare held t v d p):
  ∃ds F,DE I ds/\L2 w v (Fl P t,ds) F:=by
 obtain⟨fuel,hf⟩:=id U
 obtain⟨ds,F,C,h2⟩:=Jq n fuel t I _ _ h hf
 refine⟨ds,F,h2,?_⟩
 have one:v.cells.toList=[v]->∃d,ds=[d]/\Rep w d v F:=by
  intro hc
  rw[hc]at C
  have hl:=C.length
  match ds,C,hl with
  |[d],C,_=>
   simp only[aG]at C
   obtain⟨u,us,F1,F2,e1,e2,e3,_,e5⟩:=C
   simp at e1
   rw[e5,qX]at e2
   exact⟨d,rfl,e2 ▸ e1.1 ▸ e3⟩
 cases n with
 |zero=>simp[Pd]at h
 |succ n=>
  simp only[Pd]at h
  unfold Fl
  split at h
  ·rename_i k j;obtain⟨x,rfl,_⟩:=open_int j J U;rw[j];exact one rfl
  ·rename_i j;obtain⟨x,rfl,_⟩:=open_bool j J U;rw[j];exact one rfl
  ·rename_i j;obtain⟨x,rfl,_⟩:=Go.ChangeMaps.open_string j J U;rw[j];exact one rfl
  ·rename_i e j;obtain⟨x,y,z,rfl⟩:=okWide_slice j J;rw[j];exact one rfl
  ·rename_i fs j;obtain⟨cs,rfl,_⟩:=okWide_struct j J;rw[j];exact⟨cs,rfl,C⟩
  ·cases h
theorem Nb{f:Func}{s:ChangeSpec}{apart fresh handsOn again:Bool}{W J:World}{args:Array Value}{v:Value}{ds gs:List (DataW H)}{before pa pv:List MemPlace}
  (hW:DataW.Whole enc P f.params.toList s.vars apart W args.toList ds gs before)
  (hres:∀(b:Nat) (sp:Nat->Bool) (hd:Bool),DataW.TrodAll enc P J b sp hd f.resultTypes.toList (v.resultList f.resultTypes.size) (s.fn H (ds++gs)).results [])
  (hargs:∀sp:Nat->Bool,(∀p∈before,sp p.block=true)->DataW.TrodAll enc P J 0 sp true f.params.toList args.toList (s.fn H (ds++gs)).args pa)
  (hvars:∀sp:Nat->Bool,(∀p∈before,sp p.block=true)->DataW.TrodVars enc P J sp s.vars (s.fn H (ds++gs)).vars pv)
  (I:before=pa++pv)(hb:Below W.heap.size W J)
  (hok:∀(j:Nat) (t:TypeId) (r:Value),f.resultTypes[j]? =some t->(v.resultList f.resultTypes.size)[j]? =some r->Value.okWide P J .any 0 t r):
  s.post enc P f apart fresh handsOn again W args v J:=by
 have U:∀p∈before,p.block<W.heap.size:=λp C=>hW.lt p C
 have hold:∀p∈before,(λb=>decide (b<W.heap.size)) p.block=true:=λp C=>by simpa using U p C
 refine⟨ds,gs,before,[],pa,pv,hW,hres _ _ _,hargs _ hold,hvars _ hold,World.keptBut_mono (λp C=>⟨C,?_⟩) (hb.frame (· ∈before)),λ_=> ?_⟩
 ·rw[I,qP]at C;exact Or.inr C
 ·obtain⟨_,_,_,_,_,hz,hn⟩:=hW
  refine⟨hok,_,_,([]++pa)++pv,⟨[]++pa,pv,trodAll_append (hargs _ (λ_ _=>rfl)) (hres _ _ _),hvars _ (λ_ _=>rfl),rfl,?_,?_⟩,?_⟩
  ·intro b off C
   have hin:MemPlace.cell b off∈before:=by rw[I];simpa using C
   rw[hb.frozen (U _ hin)]
   exact hz b off hin
  ·intro ha;have:=hn ha;rw[I]at this;simpa using this
  ·intro p C _;rw[I];simpa using C
theorem Ec(hl:laidOutB P=true){W W':World}(hb:Below W.heap.size W W'){sp:Nat->Bool}:∀{ts:List TypeId} {U:List Value} {ds:List (DataW H)} {C:List MemPlace},DataW.TrodAll enc P W 0 (λ_=>true) true ts U ds C->
  (∀t∈ts,P.readableRec t=true/\t<P.types.size)->(∀x∈C,x.block<W.heap.size)->(∀x∈C,sp x.block=true)->DataW.TrodAll enc P W' 0 sp true ts U ds C
 |[],U,ds,C,h,_,_,_=>by obtain⟨rfl,rfl,rfl⟩:=trodAll_nil h;rfl
 |t::ts,U,ds,C,h,ht,I,J=>by obtain⟨v,vs',d,ds',p,q,rfl,rfl,rfl,h1,h2⟩:=trodAll_cons h;refine⟨p,q,?_,?_,rfl⟩;(exact WideElems.Trod_stays hl (ht t qe).1 (ht t qe).2 h1 (λx j=>hb.same (I x (by simp[j]))) (λx j=>J x (by simp[j])));·exact Ec hl hb h2 (λu hu=>ht u (by simp[hu])) (λx j=>I x (by simp[j])) (λx j=>J x (by simp[j]))
def SJ(P:Program)(n:Nat):List TypeId->List (List Shp)->Prop
 |[],j=>j=[]
 |t::ts,j=>∃s C,j=s::C/\Pd P n t=some s/\SJ P n ts C
def OD:List (List Shp)->List (List D)->Prop
 |[],ds=>ds=[]
 |s::C,ds=>∃d j,ds=d::j/\DE s d/\OD C j
def Om(P:Program):List TypeId->List (List D)->List (Bool×List D)
 |t::ts,d::ds=>(Fl P t,d)::Om P ts ds
 |_,_=>[]
theorem Mk{n:Nat}{W:World}{b:Nat}:∀{ts:List TypeId} {J:List Value} {ds:List (DataW H)} {ps:List MemPlace} {C:List (List Shp)},SJ P n ts C->DataW.TrodAll enc P W 0 (λ_=>true) true ts J ds ps->
  (∀(j:Nat) t v,ts[j]? =some t->J[j]? =some v->Value.okWide P W .any b t v)->∃I F,OD C I/\sH W J (Om P ts I) F
 |[],J,ds,ps,C,hs,h,hv=>by obtain⟨rfl,rfl,rfl⟩:=trodAll_nil h;have:C=[]:=hs;subst this;exact⟨[],[],rfl,rfl⟩
 |t::ts,J,ds,ps,C,hs,h,hv=>by
  obtain⟨s,ss,rfl,U,hs2⟩:=hs
  obtain⟨v,vs',d,ds',p,q,rfl,rfl,rfl,h1,h2⟩:=trodAll_cons h
  obtain⟨d1,F1,k1,k2⟩:=SN U (hv 0 t v rfl rfl) h1
  obtain⟨I,F2,k3,k4⟩:=Mk hs2 h2 λj t' v' ht hv'=>hv (j+1) t' v' (by simpa using ht) (by simpa using hv')
  exact⟨d1::I,F1++F2,⟨d1,I,rfl,k1,k3⟩,F1,F2,rfl,k2,k4⟩
theorem PK{f:FuncId}{fn:Func}{s:ChangeSpec}{n tb:Nat}{shs:List (List Shp)}(hl:laidOutB P=true)(hvars:s.vars=[])(hres:fn.resultTypes= #[tb])(htb:P.underlying tb=some .bool)(hsh:SJ P n fn.params.toList shs)
  (hread:∀t∈fn.params.toList,P.readableRec t=true/\t<P.types.size)
  (hfn:∀(ds:List (DataW H)),ds.length=fn.params.toList.length->s.fn H (ds++[])={ results:=[.lit (.bool true)],args:=ds })
  (hc:∀dss,OD shs dss->kM P f (Om P fn.params.toList dss) [(false,[.ro (.bool true)])])
  {W:World}{b:Nat}{args:Array Value}{ds gs:List (DataW H)}{before:List MemPlace}(hval:∀(j:Nat) t v,fn.params[j]? =some t->args[j]? =some v->Value.okWide P W .any b t v)
  (hW:DataW.Whole enc P fn.params.toList s.vars false W args.toList ds gs before):
  Calls P f args W λe W'=>∃v,e=.returned v/\s.post enc P fn false true false false W args v W':=by
 have hW':=hW
 obtain⟨p,q,hA,hV,rfl,hfz,hnd⟩:=hW
 rw[hvars]at hV
 obtain⟨rfl,rfl⟩:=trodVars_none hV
 obtain⟨dss,Fa,k1,k2⟩:=Mk hsh hA λj t v ht hv=>hval j t v (by simpa using ht) (by simpa using hv)
 refine(((hc dss k1).old rfl).2 W args Fa k2).mono λe W' hh=> ?_
 obtain⟨v,rfl,⟨F,X,_,_,_,hr⟩,hb⟩:=hh
 have hv:v=.bool true:=by have h1:Rep W' (.bool true) v []:=hr.1;simp only[Rep]at h1;exact h1.1
 subst hv
 have hdl:ds.length=fn.params.toList.length:=by
  have:∀{ts:List TypeId} {vs:List Value} {ds:List (DataW H)} {ps:List MemPlace},DataW.TrodAll enc P W 0 (λ_=>true) true ts vs ds ps->ds.length=ts.length:=by
   intro ts
   induction ts with
   |nil=>intro vs ds ps h;obtain⟨_,rfl,_⟩:=trodAll_nil h;rfl
   |cons t ts ih=>intro vs ds ps h;obtain⟨v,vs',d,ds',p,q,rfl,rfl,rfl,h1,h2⟩:=trodAll_cons h;simp[ih h2]
  exact this hA
 have hfn':=hfn ds hdl
 refine⟨_,rfl,Nb (pa:=p) (pv:=[]) hW' ?_ ?_ ?_ qe hb (ok_one hres rfl (okWide_bool_mk htb _))⟩
 ·intro b sp hd;rw[hfn',hres];exact trodAll_cons_mk (shut_bool htb _) trodAll_mk0
 ·intro sp hsp;rw[hfn'];exact Ec hl hb hA hread (λx hx=>hW'.lt x (by simpa using hx)) (λx hx=>hsp x (by simpa using hx))
 ·intro sp hsp;rw[hfn',hvars];rfl
end
end Go.Sh
namespace Go.Sh
open Go.RowKit
def Is(s t:St):Prop:=t=s
theorem Is.mk(t:St):Is t t:=rfl
theorem En{P:Program}{T:KK}{N:Nat}{ops:Array Oper}:∀(l:List Oper) {s:St} {K C:St->Prop},(∀s,K s->C s)->A6 P T N ops l s K->A6 P T N ops l s C
 |[],_,_,_,h,j=>h _ j
 |o::l,s,_,_,h,j=>DA (evG T N ops o) (λJ I=>En l h I) j
theorem BC{P:Program}:∀(p:Prog) {s:St} {R W:List Loc} {K C:St->List Loc->List Loc->Prop},(∀s R W,K s R W->C s R W)->exF P p s R W K->exF P p s R W C
 | .done,_,_,_,_,_,h,j=>h _ _ _ j
 | .fail,_,_,_,_,_,_,j=>j
 | .getT t k,s,_,_,_,_,h,j=>BC (k (s.t t)) h j
 | .C8 t v k,s,_,_,_,_,h,j=>BC k h j
 | .getH i k,s,_,_,_,_,h,j=>BC (k (s.h i)) h j
 | .eV i x k,s,_,_,_,_,h,j=>BC k h j
 | .call f args k,s,_,_,_,_,h,⟨I,J,j⟩=>⟨I,J,BC (k I) h j⟩
 | .must p k,s,_,_,_,_,h,⟨U,j⟩=>⟨U,BC k h j⟩
theorem Hr{P:Program}{T:KK}{N:Nat}{ops:Array Oper}:∀(l:List Oper) {s:St} {j:List Fp} {K I:St->List Fp->Prop},(∀s a,K s a->I s a)->Ao P T N ops l s j K->Ao P T N ops l s j I
 |[],_,_,_,_,h,C=>h _ _ C
 |o::l,s,_,_,_,h,C=>BC (evG T N ops o) (λU R W J=>Hr l h J) C
section
variable {P:Program}{base N:Nat}{w0:W0}{Z:St->Prop}{k:List Fr}{s s':St}
theorem iH{id:Nat}{ops:Array Oper}(h:A6 P (jP P) N ops ops.toList s (Is s'))(j:aft P base w0 N Z k .normal s'):SW P base w0 N (.region id ops false) s (aft P base w0 N Z k):=
 Kb (En ops.toList (λt C=>by rw[show t=s' from C];exact j) h)
def JN(ops:Array Oper)(j:List Fp):Prop:=Dv ops j=true
theorem JN.mk{ops:Array Oper}{j:List Fp}(h:Dv ops j=true):JN ops j:=h
theorem AM(J:P.follows .mixedOrders=true){id:Nat}{ops:Array Oper}(h:Ao P (jP P) N ops ops.toList s [] λt j=>JN ops j/\Is s' t)(I:aft P base w0 N Z k .normal s'):SW P base w0 N (.region id ops true) s (aft P base w0 N Z k):=
 Oh J (Hr ops.toList (λt j C=>⟨C.1,by rw[show t=s' from C.2];exact I⟩) h)
theorem EJ{id:Nat}(h:aft P base w0 N Z k .normal s):aft P base w0 N Z (.block id::k) (.exit id) s:=by simp only[aft,if_true];exact h
theorem UH{id j:Nat}(C:j≠id)(h:aft P base w0 N Z k (.exit j) s):aft P base w0 N Z (.block id::k) (.exit j) s:=by simp only[aft,C,if_false];exact h
theorem Bl{c:Code}{id:Nat}(h:aft P base w0 N Z k (.exit id) s):aft P base w0 N Z (.code c::k) (.exit id) s:=h
theorem fA{J:St->Prop}(h:J s):aft P base w0 N Z (.inv J::k) .normal s:=h
theorem Bb{J:St->Prop}{id:Nat}(h:aft P base w0 N Z k (.exit id) s):aft P base w0 N Z (.inv J::k) (.exit id) s:=h
theorem FX{t:Nat}{x y:Code}(j:s.t t=.v false [.dat (.bool true)])(h:SW P base w0 N x s (aft P base w0 N Z k)):SW P base w0 N (.cond (.tmp t) x y) s (aft P base w0 N Z k):=
 K0 j (λ_=>h) (λe=>by cases e)
theorem HI{t:Nat}{x y:Code}(j:s.t t=.v false [.dat (.bool false)])(h:SW P base w0 N y s (aft P base w0 N Z k)):SW P base w0 N (.cond (.tmp t) x y) s (aft P base w0 N Z k):=
 K0 j (λe=>by cases e) (λ_=>h)
theorem gK{c:Code}{Q:Exit->St->Prop}{J:St->Prop}(j:J s)(h:∀s,J s->SW P base w0 N c s Q):SW P base w0 N c s Q:=h s j
end
def fuel:Nat:=18446744073709551616
theorem jR(b:Bool):b=true\/b=false:=by cases b<;>simp
theorem AU(b:Bool):b=false\/b=true:=by cases b<;>simp
theorem bX{α:Type}{b:Bool}{x y z:α}(j:b=true)(h:(if b=true then x else y)=z):x=z:=by rw[if_pos j]at h;exact h
theorem bW{α:Type}{b:Bool}{x y z:α}(j:b=false)(h:(if b=true then x else y)=z):y=z:=by rw[j]at h;simpa using h
theorem bind_some{α β:Type}{o:Option α}{f:α->Option β}{r:β}(h:o.bind f=some r):∃x,o=some x/\f x=some r:=by
 cases o with
 |none=>cases h
 |some x=>exact⟨x,rfl,h⟩
def idx{α:Type}(xs:List α)(i:Int):Option α:=if 0<=i then xs[i.toNat]? else none
theorem pZ{α:Type}{xs:List α}{i:Int}{x:α}(h:idx xs i=some x):0<=i/\xs[i.toNat]? =some x/\i.toNat<xs.length:=by unfold idx at h;split at h;(rename_i j;exact⟨j,h,(List.getElem?_eq_some_iff.1 h).1⟩);·cases h
def Rz(s:ByteArray)(i:Int):Option UInt8:=if 0<=i then s[i.toNat]? else none
theorem NF{s:ByteArray}{i:Int}{x:UInt8}(h:Rz s i=some x):0<=i/\s[i.toNat]? =some x:=by unfold Rz at h;split at h;(rename_i j;exact⟨j,h⟩);·cases h
def app{α:Type}(b:Nat)(xs ys:List α):Option (List α):=if(xs.length+ys.length)*b<=140737488355328 then some (xs++ys)else none
theorem kN{α:Type}{b:Nat}{xs ys zs:List α}(h:app b xs ys=some zs):(xs.length+ys.length)*b<=140737488355328:=by unfold app at h;split at h;(assumption);·cases h
def TO{α:Type}(b:Nat)(ys:List α):Option (List α):=if ys.length*b<=140737488355328 then some ys else none
theorem mD{α:Type}{b:Nat}{ys zs:List α}(h:TO b ys=some zs):ys.length*b<=140737488355328:=by unfold TO at h;split at h;(assumption);·cases h
def mkL{α:Type}(b:Nat)(n:Int)(z:α):Option (List α):=if 0<=n/\n.toNat*b<=140737488355328/\n<=9223372036854775807 then some (List.replicate n.toNat z)else none
theorem QZ{α:Type}{b:Nat}{n:Int}{z:α}{x:List α}(h:mkL b n z=some x):0<=n/\n.toNat*b<=140737488355328/\n<=9223372036854775807:=by unfold mkL at h;split at h;(assumption);·cases h
def cat(x y:ByteArray):Option ByteArray:=if x.size+y.size<=9223372036854775807 then some (x++y)else none
theorem Iv{x y z:ByteArray}(h:cat x y=some z):x.size+y.size<=9223372036854775807:=by unfold cat at h;split at h;(assumption);·cases h
def enI(n:Int):List D:=[.int .i64 n]
def enB(n:Int):List D:=[.int .u8 n]
def enS(s:ByteArray):List D:=[.str s]
def enT(b:Bool):List D:=[.bool b]
def enL{α:Type}(f:α->List D)(xs:List α):List D:=[.sl (xs.map f)]
def cO(s:ByteArray):List Int:=s.data.toList.map λb=>(b.toNat:Int)
theorem PG(s:ByteArray):zF s.data.toList=(cO s).map enB:=by unfold zF cO enB;rw[List.map_map];rfl
def cP(l:List Int):ByteArray:=⟨(l.map λn=>UInt8.ofNat n.toNat).toArray⟩
def toStr(l:List Int):Option ByteArray:=if l.all (λn=>decide (0<=n/\n<256))=true then some (cP l)else none
theorem P5(l:List Int):strOf (l.map enB)=cP l:=by unfold strOf cP enB;rw[List.map_map];rfl
theorem MS{l:List Int}{z:ByteArray}(h:toStr l=some z):∀x∈l.map enB,∃b:UInt8,x=[.int .u8 (b.toNat:Int)]:=by
 unfold toStr at h
 split at h
 ·rename_i C
  intro x J
  obtain⟨n,j,rfl⟩:=List.mem_map.1 J
  have:=List.all_eq_true.1 C n j
  simp only[qL]at this
  refine⟨UInt8.ofNat n.toNat,?_⟩
  unfold enB
  have I:(UInt8.ofNat n.toNat).toNat=n.toNat:=by simp;omega
  rw[I,Int.toNat_of_nonneg this.1]
 ·cases h
def zN{α:Type}(xs:List α)(i:Int):Option (List α):=if 0<=i/\i.toNat<=xs.length then some (xs.drop i.toNat)else none
def yK{α:Type}(xs:List α)(j:Int):Option (List α):=if 0<=j/\j.toNat<=xs.length then some (xs.take j.toNat)else none
def OE{α:Type}(xs:List α)(i j:Int):Option (List α):=if 0<=i/\i<=j/\j.toNat<=xs.length then some ((xs.take j.toNat).drop i.toNat)else none
theorem H7{α:Type}{xs z:List α}{i:Int}{f:α->List D}{n:Nat}(C:∀x,(f x).length=n)(h:zN xs i=some z):0<=i/\i.toNat<=xs.length/\∀x∈xs.map f,x.length=n:=by unfold zN at h;split at h;(rename_i j;refine⟨j.1,j.2,λx I=> ?_⟩;obtain⟨y,_,rfl⟩:=List.mem_map.1 I;exact C y);·cases h
theorem HX{α:Type}{xs z:List α}{i:Int}{f:α->List D}{n:Nat}(C:∀x,(f x).length=n)(h:yK xs i=some z):0<=i/\i.toNat<=xs.length/\∀x∈xs.map f,x.length=n:=by unfold yK at h;split at h;(rename_i j;refine⟨j.1,j.2,λx I=> ?_⟩;obtain⟨y,_,rfl⟩:=List.mem_map.1 I;exact C y);·cases h
theorem Ev{α:Type}{xs z:List α}{i j:Int}{f:α->List D}{n:Nat}(I:∀x,(f x).length=n)(h:OE xs i j=some z):0<=i/\i<=j/\j.toNat<=xs.length/\∀x∈xs.map f,x.length=n:=by unfold OE at h;split at h;(rename_i C;refine⟨C.1,C.2.1,C.2.2,λx J=> ?_⟩;obtain⟨y,_,rfl⟩:=List.mem_map.1 J;exact I y);·cases h
theorem DL{α:Type}{f:α->List D}(j:∀x,(f x).all D.flat=true)(xs:List α):(xs.map f).all (λy=>y.all D.flat)=true:=by rw[qQ];intro y C;obtain⟨x,_,rfl⟩:=List.mem_map.1 C;exact j x
theorem enI.fl(l:List Int):(List.map enI l).all (λy=>y.all D.flat)=true:=DL (λ_=>rfl) l
theorem enB.fl(l:List Int):(List.map enB l).all (λy=>y.all D.flat)=true:=DL (λ_=>rfl) l
theorem enS.fl(l:List ByteArray):(List.map enS l).all (λy=>y.all D.flat)=true:=DL (λ_=>rfl) l
theorem enT.fl(l:List Bool):(List.map enT l).all (λy=>y.all D.flat)=true:=DL (λ_=>rfl) l
theorem L9 {P : Program} {f : FuncId} {fn : Func} {c : Code} {args : List (Bool × List D)} {rs : List (Bool × List RC)} {N : Nat} {vars : List ResultVar} (hf : P.funcs[f]? = some fn) (hb : fn.body = some c) (hN : fn.ntmps = N) (hv : fn.results.toList = vars) (hnm : (fn.name == "runtime.NumGoroutine") = false) (hn : args.length <= N)
  (h : ∀(base:Nat) (w0:W0),SW P base w0 N c (init args) (aft P base w0 N (Ret (jP P) vars rs) [])):kM P f args rs:=by
 subst hN hv
 exact Pv hf hb hnm hn h
end Go.Sh
namespace Go.Sh
theorem Lr(N d:Nat)(a b:Bool×List RC)(j:List (Bool×List RC)):yL N (some d) (a::b::j)=zW d 0 (a::b::j) λC=>put N (some d) (.tup C):=rfl
theorem K7(N d:Nat):yL N (some d) []=zW d 0 [] λj=>put N (some d) (.tup j):=rfl
theorem LS(sz k:Nat)(xs:List (List D)):(F8 sz 0 k xs).drop k=xs.drop k:=by unfold F8;rw[List.take_zero,List.nil_append,Nat.zero_add];exact List.drop_left' qe
theorem PO(sz k:Nat)(xs:List (List D)):(F8 sz 0 k xs).length-k=xs.length-k:=by unfold F8;simp
theorem Ql{α:Type}(xs:List α)(k:Nat):(xs.drop k).take (xs.length-k)=xs.drop k:=List.take_of_length_le qe
theorem JX{sz:Nat}{i:Int}{xs:List (List D)}(h:0<=i):0<=i/\i.toNat<=(F8 sz 0 i.toNat xs).length:=⟨h,by unfold F8;simp⟩
theorem PM{α:Type}(a:α)(as j:List α):List.append (a::as) j=a::List.append as j:=rfl
theorem Rc{α:Type}(j:List α):List.append [] j=j:=rfl
theorem RZ(xs:List (List D)):D.flat (.sl xs)=false:=rfl
theorem Qz(xs:List D):D.flat (.ptr xs)=false:=rfl
theorem PU(u:Value):D.flat (.val u)=false:=rfl
def Ez9:=PLift.up (qI @A6.eq_1 (qI @A6.eq_2 (qI @Ao.eq_1 (qI @Ao.eq_2 (qI @evG.eq_1 (qI @vT.eq_1 (qI @vOp.eq_1 (qI @vOp.eq_2 (qI @vOp.eq_3 (qI @vOp.eq_4 (qI @S4.eq_1 (qI @S4.eq_2 (qI @put.eq_1 (qI @put.eq_2 (qI @ex.eq_1 (qI @ex.eq_2 (qI @ex.eq_3 (qI @ex.eq_4 (qI @ex.eq_5 (qI @ex.eq_6 (qI @ex.eq_7 (qI @ex.eq_8 (qI @exF.eq_1 (qI @exF.eq_2 (qI @exF.eq_3 (qI @exF.eq_4 (qI @exF.eq_5 (qI @exF.eq_6 (qI @exF.eq_7 (qI @exF.eq_8 (qI @cst.eq_1 (qI @cst.eq_2 (qI @cst.eq_3 (qI @cst.eq_4 (qI @one.eq_1 (qI @xE.eq_1 (qI @xE.eq_2 (qI @xE.eq_3 (qI @xE.eq_4 (qI @lab.eq_1 (qI @lab.eq_2 (qI @FN.eq_1 (qI @FN.eq_2 (qI @FN.eq_3 (qI @FN.eq_4 (qI @FN.eq_5 (qI @FN.eq_6 (qI @FN.eq_7 (qI @FN.eq_8 (qI @FN.eq_9 (qI @Bh.eq_1 (qI @Bh.eq_2 (qI @Bh.eq_3 (qI @Bh.eq_4 (qI @Bh.eq_5 (qI @Ct.eq_1 (qI @AG.eq_1 (qI @AG.eq_2 (qI @xZ.eq_1 (qI @xZ.eq_2 (qI @xZ.eq_3 (qI @xZ.eq_4 (qI @xZ.eq_5 (qI @xZ.eq_6 (qI @xZ.eq_7 (qI @xZ.eq_8 (qI @xZ.eq_9 (qI @Bx.eq_1 (qI @Bx.eq_2 (qI @sA.eq_1 (qI @sA.eq_2 (qI @sA.eq_3 (qI @sA.eq_4 (qI @sA.eq_5 (qI @zW.eq_1 (qI @zW.eq_2 (qI @yL.eq_1 (qI @yL.eq_2 (qI @Gr.eq_1 (qI @uL.eq_1 (qI @uL.eq_2 (qI @uL.eq_3 (qI @uL.eq_4 (qI @uL.eq_5 (qI @uL.eq_6 (qI @uL.eq_7 (qI @Kq.eq_1 (qI @Kq.eq_2 (qI @Jz.eq_1 (qI @Jz.eq_2 (qI @BF.eq_1 (qI @BF.eq_2 (qI @BF.eq_3 (qI @BF.eq_4 (qI @BF.eq_5 (qI @BF.eq_6 (qI @BF.eq_7 (qI @BF.eq_8 (qI @RC.ed.eq_1 (qI @RC.ed.eq_2 (qI @RC.ed.eq_3 (qI @RC.ed.eq_4 (qI @KH.eq_1 (qI @KH.eq_2 (qI @KH.eq_3 (qI @H3.eq_1 (qI @Ew.eq_1 (qI @Ew.eq_2 (qI @Ew.eq_3 (qI @Ew.eq_4 (qI @Ew.eq_5 (qI @GV.eq_1 (qI @GV.eq_2 (qI @zH.eq_1 (qI @zH.eq_2 (qI @rows.eq_1 (qI @rows.eq_2 (qI @pY.eq_1 (qI @pY.eq_2 (qI @pY.eq_3 (qI @pY.eq_4 (qI @pY.eq_5 (qI @pY.eq_6 (qI @pY.eq_7 (qI @pY.eq_8 (qI @pY.eq_9 (qI @pY.eq_10 (qI @pY.eq_11 (qI @pY.eq_12 (qI @pY.eq_13 (qI @pY.eq_14 (qI @pY.eq_15 (qI @pY.eq_16 (qI @pY.eq_17 (qI @CY.eq_1 (qI @CY.eq_2 (qI @CY.eq_3 (qI @CY.eq_4 (qI @CY.eq_5 (qI @CY.eq_6 (qI @lenOf.eq_1 (qI @lenOf.eq_2 (qI @lenOf.eq_3 (qI @lenOf.eq_4 (qI @lenOf.eq_5 (qI @GU.eq_1 (qI @GU.eq_2 (qI @GU.eq_3 (qI @GU.eq_4 (qI @GJ.eq_1 (qI @GJ.eq_2 (qI @EU.eq_1 (qI @EU.eq_2 (qI @EU.eq_3 (qI @wR.eq_1 (qI @wR.eq_2 (qI @wR.eq_3 (qI @wR.eq_4 (qI @yU.eq_1 (qI @yU.eq_2 (qI @yU.eq_3 (qI @yU.eq_4 (qI @Bq.eq_1 (qI @Bq.eq_2 (qI @Bq.eq_3 (qI @Bq.eq_4 (qI @Lv.eq_1 (qI @Im.eq_1 (qI @Im.eq_2 (qI @wS.eq_1 (qI @wS.eq_2 (qI @wS.eq_3 (qI @wS.eq_4 (qI @Jn.eq_1 (qI @D.flat.eq_1 (qI @D.flat.eq_2 (qI @D.flat.eq_3 (qI @D.flat.eq_4 (qI @rid.eq_1 (qI @TI.agg.eq_1 (qI @JR (qI @Mg (qI @Kx (qI @MZ (qI @M9 (qI @LS (qI @PO (qI @Ql (qI @vQ.eq_1 (qI @Lr (qI @K7 (qI @RZ (qI @Qz (qI @PU (qI @St.FC (qI @St.NT (qI @St.OX (qI @St.G0 (qI @OS @Pu)))))))))))))))))))))))))))))))))))))))))))))))))))))))))))))))))))))))))))))))))))))))))))))))))))))))))))))))))))))))))))))))))))))))))))))))))))))))))))))))))))))))))))))))))))))))))))))))))))))))
theorem E:type_of% Ez9.down:=Ez9.down
def Lz9:=PLift.up (qI @List.take_succ_cons.{0} (qI @List.take_zero.{0} (qI @List.drop_succ_cons.{0} (qI @List.drop_zero.{0} (qI @List.map_cons.{0,0} (qI @List.map_nil.{0,0} (qI @List.cons_append.{0} (qI @List.nil_append.{0} (qI @List.append_nil.{0} (qI @List.length_cons.{0} (qI @List.length_nil.{0} (qI (@List.getElem?_cons_zero.{0}) (qI (@List.getElem?_cons_succ.{0}) (qI @List.tail_cons.{0} (qI @List.tail_nil.{0} (qI @Option.isSome_some.{0} (qI @Option.isSome_none.{0} (qI @List.take_nil.{0} (qI @List.drop_nil.{0} (qI (@List.getElem?_map.{0,0}) (qI @Option.map_some.{0,0} (qI @Option.bind_some.{0,0} (qI @List.length_map.{0,0} (qI @List.replicate_succ.{0} (qI @List.replicate_zero.{0} (qI @List.flatten_cons.{0} (qI @List.flatten_nil.{0} (qI (@List.getElem?_toArray.{0}) (qI @List.toList_toArray.{0} (qI @PM (qI @Rc (qI @List.any_cons.{0} (qI @List.any_nil.{0} (qI Bool.or_true (qI Bool.true_or (qI Bool.or_false (qI Bool.false_or (qI Bool.and_true (qI Bool.true_and (qI Bool.and_false (qI Bool.false_and (qI true_and (qI and_true and_self)))))))))))))))))))))))))))))))))))))))))))
theorem L:type_of% Lz9.down:=Lz9.down
def Fz9:=PLift.up (qI @List.set_cons_zero.{0} (qI @List.set_cons_succ.{0} (qI @St.FC (qI @St.NT (qI @St.OX (qI @St.G0 (qI @OS (qI @Pu (qI @List.map_append.{0,0} (qI @List.map_cons.{0,0} (qI @List.map_nil.{0,0} (qI @List.map_set.{0,0} (qI @List.map_replicate.{0,0} (qI @List.append_nil.{0} (qI @List.nil_append.{0} (qI @List.cons_append.{0} (qI (@List.getElem?_cons_zero.{0}) (qI (@List.getElem?_cons_succ.{0}) (qI Bool.and_true Bool.true_and)))))))))))))))))))
theorem F:type_of% Fz9.down:=Fz9.down
end Go.Sh
namespace Go.Sh
open Go.RowKit
def Gho(P:Program)(base:Nat)(j:W0)(N:Nat)(s s':St):Prop:=∀a w,Rel P base j N s a w->Rel P base j N s' a w
section
variable {P:Program}{base N:Nat}{w0:W0}{Z:St->Prop}{k:List Fr}{s s' s'':St}
theorem Gho.refl(s:St):Gho P base w0 N s s:=λ_ _ h=>h
theorem Gho.trans(h:Gho P base w0 N s s')(j:Gho P base w0 N s' s''):Gho P base w0 N s s'':=λa w R=>j a w (h a w R)
theorem FA{c:Code}{Q:Exit->St->Prop}(j:Gho P base w0 N s s')(h:SW P base w0 N c s' Q):SW P base w0 N c s Q:=λa w R=>h a w (j a w R)
theorem CE{c:Code}(I:Nat->St->Prop)(n:Nat)(h0:I n s)(h:∀m s,I m s->SW P base w0 N c s (aft P base w0 N Z (.inv (λs'=>∃j,Gho P base w0 N s' j/\∃C,C<m/\I C j)::k))):SW P base w0 N (.loop c) s (aft P base w0 N Z k):=by
 intro a w R
 refine wp_loop_ghost (λm a w=>∃s,I m s/\Rel P base w0 N s a w) n ⟨s,h0,R⟩ ?_
 rintro m a w ⟨s,h1,R⟩
 refine wp_mono (h m s h1 a w R) ?_
 rintro e a' w' ⟨s',h2,h3⟩
 cases e with
 |normal=>obtain⟨j,U,C,h4,J⟩:=h2;exact⟨C,h4,j,J,U _ _ h3⟩
 |_=>exact⟨s',h2,h3⟩
theorem L6{g:Gh}{a:Act}{w:World}{j K vj:Nat}{e:TypeId}{sz:Nat}{xs:List (List D)}{dp:Bool}(R:jS P base w0 N g s a w [])(h2:s.h j=(vj,.row e sz xs dp)):
  ∃g',jS P base w0 N g' ((s.eV j (vj,.none)).eV K ((s.h K).1+1,.row e sz xs dp)) a w []/\iC g g' s.h ((s.eV j (vj,.none)).eV K ((s.h K).1+1,.row e sz xs dp)).h w w/\
   ∀v,wG g s.h w (.row j vj) v->wG g' ((s.eV j (vj,.none)).eV K ((s.h K).1+1,.row e sz xs dp)).h w (.row K ((s.h K).1+1)) v:=by
 have C:(s.h j).1=vj:=by rw[h2]
 have I:(s.h j).2=.row e sz xs dp:=by rw[h2]
 have U:=R.inv.obj j
 rw[I]at U
 obtain⟨cells,p1,p2,p3,p4,p5⟩:=U
 obtain⟨I1,J⟩:=R.inv.zZ I
 rw[C]at I1 J
 have T1:iC g g s.h (nP s.h j (vj,.none)) w w:=by have:=iC.drop (g:=g) (h:=s.h) (w:=w) j g.S λ_ x=>x;rw[C]at this;exact this
 have hver:(nP s.h j (vj,.none) K).1=(s.h K).1:=by by_cases hk:K=j;(subst hk;rw[bE,C]);·rw[eW _ _ _ _ hk]
 have I2:=I1.Af (i:=K) (v:=g.val j) (e:=e) (sz:=sz) (xs:=xs) (dp:=dp) (cells:=cells) (F:=g.fp j) (pool':=[]) p1 p2 p3 p4 J qe List.nodup_nil (λhd=>by subst hd;simp only[if_true,List.nil_append];exact⟨(p5 rfl).1,λb hb=>⟨hb,qe⟩⟩)
 have T2:=iC.create (g:=g) (h:=nP s.h j (vj,.none)) (w:=w) K (g.val j) (g.fp j) (.row e sz xs dp)
 rw[hver]at I2 T2
 refine⟨_,R.nV (T1.trans T2) rfl R.below I2,T1.trans T2,?_⟩
 rintro v ⟨h0,_,hv⟩
 refine⟨h0,?_,?_⟩
 ·show _<=(nP _ K _ K).1;rw[bE];exact Nat.le_refl _
 ·intro _ e' sz' xs' dp' _;show v=BT g.val K (g.val j) K;rw[cZ];exact hv C e sz xs dp I
theorem Pr{g:Gh}{a:Act}{w:World}{K:Nat}(e:TypeId)(sz:Nat)(R:jS P base w0 N g s a w []):
  ∃j,jS P base w0 N j (s.eV K ((s.h K).1+1,.row e sz [] true)) a w []/\iC g j s.h (s.eV K ((s.h K).1+1,.row e sz [] true)).h w w/\
   ∀v,wG g s.h w .nil v->wG j (s.eV K ((s.h K).1+1,.row e sz [] true)).h w (.row K ((s.h K).1+1)) v:=by
 have I2:=R.inv.Af (i:=K) (v:=.slice none 0 0) (e:=e) (sz:=sz) (xs:=[]) (dp:=true) (cells:=[]) (F:=[]) (pool':=[]) (World.ownsRow_nil w base e sz) qe cF.nil qe (by intro b J;cases J) qe List.nodup_nil (λ_=>⟨List.nodup_nil,qe⟩)
 have I:=iC.create (g:=g) (h:=s.h) (w:=w) K (.slice none 0 0) [] (.row e sz [] true)
 refine⟨_,R.nV I rfl R.below I2,I,?_⟩
 intro v C
 have C:v=.slice none 0 0:=C
 subst C
 refine⟨rfl,?_,?_⟩
 ·show _<=(nP _ K _ K).1;rw[bE];exact Nat.le_refl _
 ·intro _ e' sz' U dp' _;show _=BT g.val K _ K;rw[cZ]
theorem Jp{g:Gh}{a:Act}{w:World}{i:Nat}{sv:SV}(R:jS P base w0 N g s a w [])(j:sU g s.h w sv (a.tmps.getD i undef)):jS P base w0 N g (s.C8 i sv) a w []:=by refine⟨R.defers,R.size,R.below,R.q,R.vY,R.inv,λt=> ?_,R.lab,R.frm⟩;rw[St.FC];by_cases ht:t=i;(subst ht;simp only[if_true];exact j);·simp only[ht,if_false];exact R.tmp t
theorem Gho.Ul{i j K vj:Nat}{e:TypeId}{sz:Nat}{xs:List (List D)}{dp:Bool}(U:s.t i=.v false [.row j vj])(I:s.h j=(vj,.row e sz xs dp)):
  Gho P base w0 N s (((s.eV j (vj,.none)).eV K ((s.h K).1+1,.row e sz xs dp)).C8 i (.v false [.row K ((s.h K).1+1)])):=by
 rintro a w ⟨g,R⟩
 have C:=R.tmp i
 rw[U]at C
 obtain⟨g',R',T,J⟩:=L6 (K:=K) R I
 exact⟨g',Jp R' ⟨_,[],rfl,J _ (dH C),rfl⟩⟩
theorem Gho.UC{i K:Nat}(e:TypeId)(sz:Nat)(I:s.t i=.v false [.nil]):
  Gho P base w0 N s ((s.eV K ((s.h K).1+1,.row e sz [] true)).C8 i (.v false [.row K ((s.h K).1+1)])):=by
 rintro a w ⟨g,R⟩
 have j:=R.tmp i
 rw[I]at j
 obtain⟨U,J,T,C⟩:=Pr (K:=K) e sz R
 exact⟨U,Jp J ⟨_,[],rfl,C _ (dH j),rfl⟩⟩
theorem aR.set{g:Gh}{h:Heap}{w:World}:∀{U:List SC} {J:List Value} (c:Nat) (x y:SC),aR g h w U J->U[c]? =some x->(∀v,wG g h w x v->wG g h w y v)->aR g h w (U.set c y) J
 |[],J,c,x,y,hc,I,_=>by simp at I
 |z::U,J,0,x,y,hc,I,j=>by obtain⟨v,C,rfl,h1,h2⟩:=hc;simp at I;subst I;exact⟨v,C,rfl,j v h1,h2⟩
 |z::U,J,c+1,x,y,hc,I,j=>by obtain⟨v,C,rfl,h1,h2⟩:=hc;exact⟨v,C,rfl,h1,aR.set c x y h2 (by simpa using I) j⟩
theorem Tn{g:Gh}{a:Act}{w:World}{b vb C:Nat}{t:TypeId}{cells cells':List SC}{vals:Array Value}(R:jS P base w0 N g s a w [])(hb:s.h b=(vb,.box t cells))(h3:g.val b=.pointer (some ⟨C,0,none⟩))(h5:w.heap[C]? =some (.cells vals t (0,0)))(hc:aR g s.h w cells' vals.toList):
  ∃g',jS P base w0 N g' (s.eV b (vb,.box t cells')) a w []:=by
 have U:(s.h b).1=vb:=by rw[hb]
 have I:(s.h b).2=.box t cells:=by rw[hb]
 have hlive:live s.h b:=by unfold live;rw[I];simp
 have hown:wV (g.val b)=some C:=by rw[h3];rfl
 have J:=R.inv.mtb b C hlive hown
 have T:iC g { g with fp:=BT g.fp b (g.fp b) } s.h (nP s.h b ((s.h b).1,.box t cells')) w w:=
  iC.A4 J (λ_ _=>rfl) (by intro e sz xs dp j;cases j) (by intro t0 cs0 j;cases j;exact⟨_,I⟩)
 have I':=R.inv.A4 (i:=b) (b:=C) (F:=g.fp b) (pool':=[]) (w':=w) hlive hown rfl (λ_ _=>rfl) T
  ⟨C,vals,h3,(R.inv.BI hlive hown).1,h5,hc.nV T⟩ qe List.nodup_nil (by rintro⟨_,_,_,j⟩;cases j)
 rw[U]at T I'
 exact⟨_,R.nV T rfl R.below I'⟩
theorem GA{g g':Gh}{a:Act}{w:World}{b vb c:Nat}{t:TypeId}{cells:List SC}{x y:SC}(R:jS P base w0 N g s a w [])(R':jS P base w0 N g' s' a w [])(T:iC g g' s.h s'.h w w)(h0:s.h b=(vb,.box t cells))(j:s'.h b=(vb,.box t cells))(h1:cells[c]? =some x)
  (hc:∀v,wG g s.h w x v->wG g' s'.h w y v):Rel P base w0 N (s'.eV b (vb,.box t (cells.set c y))) a w:=by
 have U:=R.inv.obj b
 rw[show(s.h b).2=.box t cells from by rw[h0]]at U
 obtain⟨b',vals,h3,h4,h5,h6⟩:=U
 have hv:g'.val b=g.val b:=(T.box b t cells (by rw[j,h0]) (by rw[j])).1
 have hnew:∀{C:List SC} {vs:List Value} (c:Nat),aR g s.h w C vs->C[c]? =some x->aR g' s'.h w (C.set c y) vs:=by
  intro C
  induction C with
  |nil=>intro vs c _ J;simp at J
  |cons z C ih=>
   intro vs c hA J
   obtain⟨v,I,rfl,k1,k2⟩:=hA
   cases c with
   |zero=>simp at J;subst J;exact⟨v,I,rfl,hc v k1,k2.nV T⟩
   |succ c=>exact⟨v,I,rfl,k1.nV T,ih c k2 (by simpa using J)⟩
 exact Tn R' j (hv.trans h3) h5 (hnew c h6 h1)
theorem Gho.Q4{b U c j K vj:Nat}{t:TypeId}{cells:List SC}{e:TypeId}{sz:Nat}{xs:List (List D)}{dp:Bool}(C:s.h b=(U,.box t cells))(h1:cells[c]? =some (.row j vj))(J:s.h j=(vj,.row e sz xs dp))(hk:b≠K):
  Gho P base w0 N s (((s.eV j (vj,.none)).eV K ((s.h K).1+1,.row e sz xs dp)).eV b (U,.box t (cells.set c (.row K ((s.h K).1+1))))):=by
 rintro a w ⟨g,R⟩
 have I:b≠j:=λe=>by rw[e,J]at C;cases C
 obtain⟨g',R',T,hc⟩:=L6 (K:=K) R J
 refine GA R R' T C ?_ h1 hc
 show nP (nP s.h j _) K _ b=_
 rw[eW _ _ _ _ hk,eW _ _ _ _ I,C]
theorem Gho.Us{b C c K:Nat}{t:TypeId}{cells:List SC}(e:TypeId)(sz:Nat)(j:s.h b=(C,.box t cells))(U:cells[c]? =some .nil)(J:b≠K):
  Gho P base w0 N s ((s.eV K ((s.h K).1+1,.row e sz [] true)).eV b (C,.box t (cells.set c (.row K ((s.h K).1+1))))):=by
 rintro a w ⟨g,R⟩
 obtain⟨g',R',T,I⟩:=Pr (K:=K) e sz R
 refine GA R R' T j ?_ U I
 show nP s.h K _ b=_
 rw[eW _ _ _ _ J,j]
theorem sq{x y:Code}(h:SW P base w0 N x s (aft P base w0 N Z (.code y::k))):SW P base w0 N (.seq x y) s (aft P base w0 N Z k):=Tg h
theorem bk{id:Nat}{c:Code}(h:SW P base w0 N c s (aft P base w0 N Z (.block id::k))):SW P base w0 N (.block id c) s (aft P base w0 N Z k):=Q8 h
theorem sk(h:aft P base w0 N Z k .normal s):SW P base w0 N .skip s (aft P base w0 N Z k):=RT h
theorem xt{id:Nat}(h:aft P base w0 N Z k (.exit id) s):SW P base w0 N (.exit id) s (aft P base w0 N Z k):=Se h
theorem rt(h:Z s):SW P base w0 N .ret s (aft P base w0 N Z k):=Ti h
theorem an{c:Code}(h:SW P base w0 N c s (aft P base w0 N Z k)):aft P base w0 N Z (.code c::k) .normal s:=h
theorem ab{id:Nat}(h:aft P base w0 N Z k .normal s):aft P base w0 N Z (.block id::k) .normal s:=h
end
end Go.Sh
namespace Go.Sh
open Go.RowKit
section
variable {P:Program}{base N:Nat}{w0:W0}{Z:St->Prop}{k:List Fr}{s s':St}
theorem aR.swap{g g':Gh}{h h':Heap}{w:World}{x y:SC}(T:iC g g' h h' w w)(hc:∀v,wG g h w x v->wG g' h' w y v):∀{I:List SC} {J:List Value} (c:Nat),aR g h w I J->I[c]? =some x->aR g' h' w (I.set c y) J
 |[],_,c,_,C=>by simp at C
 |z::I,J,0,U,C=>by obtain⟨v,j,rfl,k1,k2⟩:=U;simp at C;subst C;exact⟨v,j,rfl,hc v k1,k2.nV T⟩
 |z::I,J,c+1,U,C=>by obtain⟨v,j,rfl,k1,k2⟩:=U;exact⟨v,j,rfl,k1.nV T,aR.swap T hc c k2 (by simpa using C)⟩
end
end Go.Sh
namespace Go.Sh
open Go.RowKit
theorem Ka{α:Type}{f:α->List D}{sz b:Nat}{xs z w1 J:List α}{k:Int}(hf:∀x,(f x).length=sz)(U:0<b)(I:yK xs k=some w1)(C:zN xs (IntKind.i64.wrap (k+1))=some J)(h:app b (List.take k.toNat xs) (List.drop (IntKind.i64.wrap (k+1)).toNat xs)=some z):
  List.take k.toNat (F8 sz (IntKind.i64.wrap (k+1)).toNat (xs.length-(IntKind.i64.wrap (k+1)).toNat) (xs.map f))=List.take k.toNat (xs.map f)/\(∀y∈List.drop (IntKind.i64.wrap (k+1)).toNat (xs.map f),y.length=sz)/\
   (k.toNat+(xs.length-(IntKind.i64.wrap (k+1)).toNat))*b<=140737488355328:=by
 obtain⟨a1,a2⟩:0<=k/\k.toNat<=xs.length:=by unfold yK at I;split at I;(assumption);·cases I
 obtain⟨b1,b2⟩:0<=IntKind.i64.wrap (k+1)/\(IntKind.i64.wrap (k+1)).toNat<=xs.length:=by unfold zN at C;split at C;(assumption);·cases C
 have j:=kN h
 have hl:(List.take k.toNat xs).length=k.toNat:=by rw[qU];omega
 rw[hl,qV]at j
 have h4:k.toNat<=140737488355328:=Nat.le_trans (Nat.le_trans (Nat.le_mul_of_pos_right _ U) (Nat.mul_le_mul_right b (Nat.le_add_right _ _))) j
 have e:IntKind.i64.wrap (k+1)=k+1:=bT qc qc
 rw[e]at b1 b2 j⊢
 refine⟨?_,λy hy=> ?_,?_⟩
 ·unfold F8;rw[List.take_append_of_le_length (by simp only[qU,qT];omega),List.take_take,Nat.min_eq_left qc]
 ·obtain⟨x,_,rfl⟩:=List.mem_map.1 (List.mem_of_mem_drop hy);exact hf x
 ·exact j
end Go.Sh
namespace Go.Sh
open Go.RowKit
end Go.Sh
namespace Go.Sh
open Go.RowKit
def Pq(t:TypeId)(B:Nat)(C:Value)(d0:D)(ds:List D)(rest:List (Bool×List D)):St:=
 { t:=λi=>match i with|0=>.v false [.bp 7059000 1 0]|i+1=>match rest[i]? with|some (j,ds)=>.v j (ds.map .dat)|none=>.undef,h:=λi=>if i=7059000 then(1,.box t (.old B d0 (some C)::ds.map .dat))else(0,.none) }
theorem Nu(t:TypeId)(B:Nat)(C:Value)(d0:D)(ds:List D)(rest:List (Bool×List D))(i:Nat):(Pq t B C d0 ds rest).t i=match i with|0=>.v false [.bp 7059000 1 0]|i+1=>(match rest[i]? with|some (j,ds)=>.v j (ds.map .dat)|none=>.undef):=rfl
theorem E3(t:TypeId)(B:Nat)(j:Value)(d0:D)(ds:List D)(rest:List (Bool×List D))(i:Nat):(Pq t B j d0 ds rest).h i=if i=7059000 then(1,.box t (.old B d0 (some j)::ds.map .dat))else(0,.none):=rfl
def HO(T:KK)(vars:List ResultVar)(t:TypeId)(B:Nat)(C:Value)(d0:D)(es:List D)(j:List (Bool×List RC))(s:St):Prop:=
 Ret T vars j s/\s.h 7059000=(1,.box t (.old B d0 (some C)::es.map .dat))
theorem Mm{g:Gh}{h:Heap}{w:World}:∀{es:List D} {j:List Value},aR g h w (es.map .dat) j->es.all D.flat=true->aG w es j []
 |[],j,C,_=>by simp only[aG];exact⟨C,trivial⟩
 |d::es,j,C,I=>by obtain⟨v,J,rfl,⟨F,U,_⟩,h3⟩:=C;simp only[List.all_cons,qM]at I;have e:F=[]:=Es U I.1;subst e;simp only[aG];exact⟨v,J,[],[],rfl,rfl,U,Mm h3 I.2⟩
theorem SA {P : Program} {f : FuncId} {fn : Func} {c : Code} {t : TypeId} {d0 : D} {ds es : List D} {rest : List (Bool × List D)} {rs : List (Bool × List RC)} {N : Nat} {vars : List ResultVar} (hf : P.funcs[f]? = some fn) (hb : fn.body = some c) (hN : fn.ntmps = N) (hv : fn.results.toList = vars) (hnm : (fn.name == "runtime.NumGoroutine") = false) (hn : rest.length + 1 <= N)
  (hrs:vQ rs=false) (hds:ds.all D.flat=true) (hes:es.all D.flat=true) (hl:es.length=ds.length)
  (h : ∀(base:Nat) (w0:W0) (B:Nat) (v0:Value),(B<=base/\w0.Q.L=slP P /\ ∀b,w0.K b->b<base)->SW P base w0 N c (Pq t B v0 d0 ds rest) (aft P base w0 N (HO (jP P) vars t B v0 d0 es rs) [])):kM P f ((false,[.ptr (d0::ds)])::rest) ((false,[.edit (.lend t es)])::rs):=by
 subst hN hv
 refine .inr (.inr ⟨t,es,rs,rfl,⟨fn,c,hf,hb,hnm⟩,hrs,hes,d0,ds,rest,rfl,hds,hl,λw b vals v0 vs0 vs Fb F hw hvals r0 r1 hbF ha hbF2 => ?_⟩)
 refine calls_of_wp hf hb ?_
 have hbl:b<w.heap.size:=(Array.getElem?_eq_some_iff.1 hw).1
 obtain ⟨hlen,hat⟩:=args_at ha
 have hFlt:=E8 ha
 have hFb:=Rep.lt _ _ _ r0
 let K:Nat->Prop:=λx=>x<w.heap.size/\x≠b
 let q:QF:=⟨λx=>x<w.heap.size,b,some b,slP P⟩
 let g:Gh:={ val:=λ_=>.pointer (some ⟨b,0,none⟩),fp:=λ_=>[],S:=K,Q:=q }
 let s0:=Pq t w.heap.size v0 d0 ds rest
 have hlv : ∀i,live s0.h i->i=7059000:=λi hl=>by unfold live at hl;rw [E3] at hl;by_cases hi:i=7059000;(exact hi);·rw [if_neg hi] at hl;exact absurd rfl hl
 have R:Rel P w.heap.size ⟨w,q,K,MV⟩ fn.ntmps s0 { tmps:=(.pointer (some ⟨b,0,none⟩)::vs).toArray++Array.replicate (fn.ntmps-(.pointer (some ⟨b,0,none⟩)::vs).toArray.size) undef,defers:=[] } w:=by
  have hsz:(Value.pointer (some ⟨b,0,none⟩)::vs).toArray.size=rest.length+1:=by simp [hlen]
  have hnd : ∀i,¬gD s0.h i:=by rintro i ⟨_,_,_,hd⟩;rw [E3] at hd;split at hd<;>cases hd
  have hmt : ∀i x,live s0.h i->wV (g.val i)=some x -> ¬g.S x:=by intro i x hl hx hS;have:some b=some x:=hx;exact hS.2 (Option.some.inj this).symm
  have hlt:HZ (some b) s0.h g:=by intro b' hb';cases hb';exact ⟨by rw [E3,if_pos rfl];exact Nat.le_refl _,λ_ _ _=>rfl⟩
  refine ⟨g,rfl,by simp only [Array.size_append,Array.size_replicate];omega,Below.refl _ _,⟨λ_ x=>x,rfl,hlt⟩,λx hx=>⟨hx,rfl⟩,⟨Nat.le_refl _,λx hx _=>hx.1,λx hx=>hx.1,λi => ?_,hmt,λi j x hne hi hj=>absurd ((hlv i hi).trans (hlv j hj).symm) hne,λi j _ hi _=>absurd hi (hnd i),vF.nil _ _,λ_ hx=>absurd hx qO,λi hi=>absurd hi (hnd i),Nat.le_of_lt hbl⟩,λi => ?_,⟨rfl,.inl rfl⟩,λ_=>trivial⟩
  ·rw [E3];by_cases hi:i=7059000;(rw [if_pos hi];refine ⟨b,vals,rfl,Nat.le_refl _,hw,?_⟩;rw [hvals];refine ⟨v0,vs0,rfl,⟨Fb,r0,λx hx=>⟨⟨hFb x hx,λe=>hbF (e ▸ hx)⟩,hFb x hx⟩,λx hx=>by cases hx;rfl⟩,aR.DQ r1 qe⟩);·rw [if_neg hi];trivial
  ·rw [Nu]
   cases i with
   | zero =>
    have:({ tmps:=(Value.pointer (some ⟨b,0,none⟩)::vs).toArray++Array.replicate (fn.ntmps-(Value.pointer (some ⟨b,0,none⟩)::vs).toArray.size) undef,defers:=[] }:Act).tmps.getD 0 undef = .pointer (some ⟨b,0,none⟩):=by rw [Array.getD_eq_getD_getElem?,Array.getElem?_append_left qe];simp
    rw [this]
    refine ⟨_,[],rfl,⟨rfl,?_,λ_ t' cs _=>⟨b,rfl,rfl⟩⟩,rfl⟩
    show 1<=(s0.h 7059000).1
    rw [E3,if_pos rfl]
    exact Nat.le_refl _
   | succ i =>
    show sU g _ w (match rest[i]? with | some (ag,ds)=>.v ag (ds.map .dat) | none=>.undef) _
    cases ht:rest[i]? with
    | none =>
     have hge:rest.length<=i:=List.getElem?_eq_none_iff.1 ht
     show _=undef
     simp only [Array.getD_eq_getD_getElem?,Array.getElem?_append]
     rw [if_neg qc]
     by_cases h2:i+1-(Value.pointer (some ⟨b,0,none⟩)::vs).toArray.size<fn.ntmps-(Value.pointer (some ⟨b,0,none⟩)::vs).toArray.size
     ·rw [Array.getElem?_replicate,if_pos h2];rfl
     ·rw [Array.getElem?_replicate,if_neg h2];rfl
    | some x =>
     obtain ⟨v,Fi,h1,h2,hFi⟩:=hat i x ht
     have hlt:i<vs.length:=by have:=(List.getElem?_eq_some_iff.1 ht).1;omega
     have hv:({ tmps:=(Value.pointer (some ⟨b,0,none⟩)::vs).toArray++Array.replicate (fn.ntmps-(Value.pointer (some ⟨b,0,none⟩)::vs).toArray.size) undef,defers:=[] }:Act).tmps.getD (i+1) undef=v:=by simp only [Array.getD_eq_getD_getElem?,Array.getElem?_append];rw [if_pos qc];simp [h1]
     rw [hv]
     have hK : ∀x∈Fi,K x:=λx hx=>⟨hFlt x (hFi x hx),λe=>hbF2 (e ▸ hFi x hx)⟩
     obtain ⟨ag,ds'⟩:=x
     cases ag with
     | false =>
      obtain ⟨d,rfl,hr⟩:=h2
      exact ⟨v,[],rfl,⟨Fi,hr,hK⟩,rfl⟩
     | true =>
      obtain ⟨cs,rfl,hr⟩:=h2
      exact ⟨cs,rfl,aR.DQ hr hK⟩
 refine wp_mono (h w.heap.size ⟨w,q,K,MV⟩ w.heap.size v0 ⟨Nat.le_refl _,rfl,λb hb=>hb.1⟩ _ w R) ?_
 rintro e a' w' ⟨s',h1,R'⟩
 have fin:HO (jP P) fn.results.toList t w.heap.size v0 d0 es rs s'->a'.defers=[] /\ ∃v,(results fn a'.tmps).run P w' = .ok v w' /\ ∃v' us,Ending.returned v = .returned v'/\Fw (slP P) w.heap.size w' v' rs (λx=>x<w.heap.size)/\w.grownBy w' (some b) /\
    w'.heap[b]? = some (.cells (v0::us).toArray t (0,0))/\aG w' es us []:=by
  rintro ⟨hr,hh⟩
  obtain ⟨v,k1,k2⟩:=Le R' hr
  obtain ⟨g',R''⟩:=R'
  have hobj:=R''.inv.obj 7059000
  rw [show (s'.h 7059000).2 = .box t (.old w.heap.size d0 (some v0)::es.map .dat) from by rw [hh]] at hobj
  obtain ⟨b',vals',p1,p2,p3,p4⟩:=hobj
  obtain ⟨u0,us,e1,⟨F0,_,_,hu0⟩,p5⟩:=p4
  have hu0':u0=v0:=hu0 v0 rfl
  subst hu0'
  have hlive:live s'.h 7059000:=by unfold live;rw [hh];simp
  have hbb:b'=b:=by have:=(R''.q.2.2 b rfl).2 _ _ hh;rw [p1] at this;simpa using this
  subst hbb
  refine ⟨R''.defers,v,k1,v,us,rfl,k2,⟨R''.below.os,R''.below.tape,R''.below.output,R''.below.size,λk hk hne=>(R''.vY k ⟨hk,λe=>hne (by rw [e])⟩).2⟩,?_,Mm p5 hes⟩
  rw [p3,<-e1]
 cases e with
 | normal=>exact fin h1
 | ret=>exact fin h1
 | exit id=>exact h1.elim
 | goto l=>exact h1.elim
 | panic c=>exact h1.elim
 | outgrown=>exact h1.elim
def UT(T:KK)(vars:List ResultVar)(t:TypeId)(es:List D)(s:St):Prop:=
 ∃i ver,A7 T s vars=some [(false,[.bp i ver 0])]/\s.h i=(ver,.box t (es.map .dat))
theorem KA{g:Gh}{h:Heap}{w:World}:∀{es:List D} {C:List Value},aR g h w (es.map .dat) C->∃G,aG w es C G/\∀b∈G,g.S b
 |[],C,I=>⟨[],by simp only[aG];exact⟨I,trivial⟩,qe⟩
 |d::es,C,I=>by obtain⟨v,J,rfl,⟨F,h1,U⟩,h3⟩:=I;obtain⟨G,h4,h5⟩:=KA h3;refine⟨F++G,by simp only[aG];exact⟨v,J,F,G,rfl,rfl,h1,h4⟩,λb j=> ?_⟩;rcases List.mem_append.1 j with j|j;(exact U b j);·exact h5 b j
theorem RN {P : Program} {f : FuncId} {fn : Func} {c : Code} {t : TypeId} {es : List D} {args : List (Bool × List D)} {N : Nat} {vars : List ResultVar} (hf : P.funcs[f]? = some fn) (hb : fn.body = some c) (hN : fn.ntmps = N) (hv : fn.results.toList = vars) (hnm : (fn.name == "runtime.NumGoroutine") = false) (hn : args.length <= N)
  (h : ∀(base:Nat) (w0:W0),SW P base w0 N c (init args) (aft P base w0 N (UT (jP P) vars t es) [])):kM P f args [(false,[.edit (.newb t es)])]:=by
 subst hN hv
 refine .inr (.inl ⟨.newb t es,rfl,⟨fn,c,hf,hb,hnm⟩,λw vs Fa ha => ?_⟩)
 obtain ⟨hlen,hat⟩:=args_at ha
 have hlen':vs.size=args.length:=by simpa using hlen
 refine calls_of_wp hf hb ?_
 have hFlt:=E8 ha
 have R:=LJ (P:=P) (fn:=fn) ha hn
 refine wp_mono (h w.heap.size ⟨w,⟨λb=>b∈Fa,w.heap.size,none,slP P⟩,noK,MV⟩ _ w R) ?_
 rintro e a' w' ⟨s',h1,g',R'⟩
 have fin:UT (jP P) fn.results.toList t es s'->a'.defers=[] /\ ∃v,(results fn a'.tmps).run P w' = .ok v w'/\Below w.heap.size w w' /\ ∃b vals G,Ending.returned v = .returned (.pointer (some ⟨b,0,none⟩))/\w.heap.size<=b /\
   w'.heap[b]? = some (.cells vals t (0,0))/\aG w' es vals.toList G/\b∉G /\ ∀x∈G,(x∈Fa\/w.heap.size<=x)/\x<w'.heap.size:=by
  rintro ⟨i,ver,hg,hh⟩
  have hobj:=R'.inv.obj i
  rw [show (s'.h i).2 = .box t (es.map .dat) from by rw [hh]] at hobj
  obtain ⟨b,vals,p1,p2,p3,p4⟩:=hobj
  obtain ⟨G,p5,p6⟩:=KA p4
  have hlive:live s'.h i:=by unfold live;rw [hh];simp
  have hfb:w.heap.size<=b:=by have h1:=R'.q.2.1;have h2:(⟨w,⟨λb=>b∈Fa,w.heap.size,none,slP P⟩,noK,MV⟩:W0).Q.fb=w.heap.size:=rfl;omega
  obtain ⟨vs,k1,k2,k3⟩:=CF R' hg
  have hrun:=Jk (P:=P) (w:=w') (λx=>match x with | .tmp t=>(pure (a'.tmps.getD t undef):Sem Value) | .cell p t=>(do loadVar t (<-asAddr (a'.tmps.getD p undef)):Sem Value)) fn.results.toList vs (by rw [k1]) k3
  have hrun':(results fn a'.tmps).run P w' = .ok (if h:vs.toArray.size=1 then vs.toArray[0] else .tuple vs.toArray) w':=by unfold results;rw [<-Array.toArray_toList (xs:=fn.results)];rw [List.mapM_toArray];simp only [Sem.run_bind,Sem.run_map,Sem.run_pure];exact (congrArg (λr:Result (List Value)=>(r.andThen λa w'=>Result.ok a.toArray w').andThen λa w'=>Result.ok (if h:a.size=1 then a[0] else Value.tuple a) w') hrun).trans rfl
  obtain ⟨u,vs',rfl,⟨u',us,e1,m1,m2⟩,m3⟩:=k2
  have m3':vs'=[]:=m3
  subst m3'
  simp only [List.cons.injEq] at e1
  obtain ⟨rfl,_⟩:=e1
  obtain ⟨b2,q1,q2⟩:=m1.2.2 (by rw [hh]) t (es.map .dat) (by rw [hh])
  have hbb:b2=b:=by rw [p1] at q1;simp at q1;exact q1.symm
  subst hbb
  refine ⟨R'.defers,u,hrun',R'.below,b2,vals,G,by rw [q2],hfb,p3,p5,λhx=>R'.inv.mtb i b2 hlive (by rw [p1];rfl) (p6 _ hx),λx hx=>⟨?_,R'.inv.S_lt x (p6 x hx)⟩⟩
  rcases Nat.lt_or_ge x w.heap.size with hlt | hge
  ·exact .inl (R'.q.1 x (R'.inv.S_old x (p6 x hx) hlt))
  ·exact .inr hge
 cases e with
 | normal=>exact fin h1
 | ret=>exact fin h1
 | exit id=>exact h1.elim
 | goto l=>exact h1.elim
 | panic c=>exact h1.elim
 | outgrown=>exact h1.elim
end Go.Sh
namespace Go.Sh
open Go.RowKit
def SC.clean(base:Nat):SC->Prop
 | .dat d=>d.flat=true
 | .old B _ _=>B<=base
 | .exa _ _ _=>False
 |_=>True
def SV.clean(base:Nat):SV->Prop
 | .v _ j=>∀c∈j,SC.clean base c
 | .tup C=>∀x∈C,∀c∈x.2,SC.clean base c
 |_=>True
def At.clean(base:Nat):At->Prop
 | .none=>True
 | .box _ j=>∀c∈j,SC.clean base c
 | .row _ _ _ C=>C=true
 | .pin _ _ _=>False
section
variable {P:Program}{base N:Nat}{w0:W0}{w:World}{g:Gh}{s:St}{a:Act}
def Xz(s:St)(d:Nat)(sv:SV):St:=
 { t:=λi=>if i=d then sv else if i<10000 then s.fr i else .unk,h:=s.h,fr:=λi=>s.fr (i+10000) }
def Tj:List (Bool×List SC)->SV
 |[(j,C)]=>.v j C
 |l=>.tup l
def Xd(P:Program)(T:KK)(vars:List ResultVar)(N:Nat)(ops:Array Oper)(n d:Nat)(K:St->Prop)(s:St):Prop:=
 ∃l,A7 T s vars=some l/\A6 P T N ops (ops.toList.drop (n+1)) (Xz s d (Tj l)) K
set_option maxRecDepth 20000 in
end
end Go.Sh
namespace Go.Sh
open Go.RowKit
def Tv(h:Heap)(C:List Nat)(i ver:Nat)(e:TypeId)(sz:Nat)(xs:List (List D))(j:Nat)(x:List D)(off K:Nat)(e':TypeId)(sz':Nat)(ys:List (List D))(u:Value):Heap:=λl=>
 if l=i then(ver,.row e sz (xs.set j (x.set off (.val u))) true)else if l=K then((h K).1+1,.row e' sz' ys true)else if l=7058000 then((h 7058000).1+1,.pin K ((h K).1+1) u)else if l∈C then h l else((h l).1,.none)
def LR(s:St)(C I:List Nat)(i ver:Nat)(e:TypeId)(sz:Nat)(xs:List (List D))(j:Nat)(x:List D)(off K:Nat)(e':TypeId)(sz':Nat)(ys:List (List D))(u:Value):St:=
 { t:=λt=>if t∈C then s.t t else .unk,h:=Tv s.h I i ver e sz xs j x off K e' sz' ys u }
theorem Mw(s:St)(C I:List Nat)(i ver:Nat)(e:TypeId)(sz:Nat)(xs:List (List D))(j:Nat)(x:List D)(off K:Nat)(e':TypeId)(sz':Nat)(ys:List (List D))(u:Value)(t:Nat):(LR s C I i ver e sz xs j x off K e' sz' ys u).t t=if t∈C then s.t t else .unk:=rfl
theorem Qq(s:St)(I C:List Nat)(i ver:Nat)(e:TypeId)(sz:Nat)(xs:List (List D))(j:Nat)(x:List D)(off K:Nat)(e':TypeId)(sz':Nat)(ys:List (List D))(u:Value)(l:Nat):(LR s I C i ver e sz xs j x off K e' sz' ys u).h l=
  if l=i then(ver,.row e sz (xs.set j (x.set off (.val u))) true)else if l=K then((s.h K).1+1,.row e' sz' ys true)else if l=7058000 then((s.h 7058000).1+1,.pin K ((s.h K).1+1) u)else if l∈C then s.h l else((s.h l).1,.none):=rfl
section
variable {P:Program}{base N:Nat}{w0:W0}{w:World}{g:Gh}{s:St}{a:Act}
theorem bJ.at_{L:TL}{ds:List D}{ts:Lb}{vs:List Value}{F:List Nat}(h:bJ L w ds ts vs F){off:Nat}{d:D}(hd:ds[off]? =some d):
  ∃J v U I F2 F3,vs=J++v::U/\J.length=off/\F=I++(F2++F3)/\zK L w d (Sh.lab (ts.drop off)) v F2/\∀(d':D) (j:Value) (C:List Nat),zK L w d' (Sh.lab (ts.drop off)) j C->bJ L w (ds.set off d') ts (J++j::U) (I++(C++F3)):=by
 induction ds generalizing ts vs F off with
 |nil=>simp at hd
 |cons d0 ds ih=>
  simp only[bJ]at h
  obtain⟨v,vs',I,F2,rfl,rfl,h3,h4⟩:=h
  cases off with
  |zero=>
   simp at hd
   subst hd
   refine⟨[],v,vs',[],I,F2,rfl,rfl,rfl,by simpa using h3,λd' j C h'=> ?_⟩
   simp only[List.set_cons_zero,bJ,List.nil_append]
   exact⟨j,vs',C,F2,rfl,rfl,by simpa using h',h4⟩
  |succ off=>
   obtain⟨J,v2,U,G1,G2,G3,rfl,hl,rfl,k1,k2⟩:=ih h4 (by simpa using hd)
   rw[List.drop_tail]at k1 k2
   refine⟨v::J,v2,U,I++G1,G2,G3,rfl,by simp[hl],qe,k1,λd' j C h'=> ?_⟩
   simp only[List.set_cons_succ,bJ]
   exact⟨v,J++j::U,I,G1++(C++G3),qe,qe,h3,k2 d' j C h'⟩
theorem Nm{g':Gh}{h J:Heap}{B:Option Nat}(hB:∀b,B=some b->base<=b)(hlt:∀b,g.S b->some b≠B->g'.S b)(hval:∀i,(J i).1=(h i).1->(J i).2≠ .none->g'.val i=g.val i)(hver:∀i,(h i).1<=(J i).1)
  (hrow:∀i e sz xs dp,(J i).1=(h i).1->(J i).2=.row e sz xs dp->∃U dp0,(h i).2=.row e sz U dp0)(hbox:∀i t cs,(J i).1=(h i).1->(J i).2=.box t cs->∃cs0,(h i).2=.box t cs0)
  {c:SC}{v:Value}(hc:wG g h w c v)(hcl:SC.clean base c):wG g' J w c v:=by
 have cap:∀{c:Nat×Nat×Nat} {v:Value},Ei g h c v->Ei g' J c v:=by
  rintro c v ⟨C,I⟩
  refine⟨Nat.le_trans C (hver _),λhv t cs hx=> ?_⟩
  have e1:(J c.1).1=(h c.1).1:=by have:=hver c.1;omega
  obtain⟨cs0,hx0⟩:=hbox _ _ _ e1 hx
  rw[hval _ e1 (by rw[hx];simp)]
  exact I qc t cs0 hx0
 have caps:∀{cs:List (Nat×Nat×Nat)} {vs:List Value},Ag g h cs vs->Ag g' J cs vs:=by
  intro cs
  induction cs with
  |nil=>intro vs h;exact h
  |cons c cs ih=>rintro vs ⟨v,vs',rfl,C,I⟩;exact⟨v,vs',rfl,cap C,ih I⟩
 have row:∀{i ver:Nat},ver<=(h i).1->(J i).1=ver->∀{e sz xs dp},(J i).2=.row e sz xs dp->(h i).1=ver/\g'.val i=g.val i/\∃U dp0,(h i).2=.row e sz U dp0:=by
  intro i ver C hv e sz xs dp hr
  have e1:(J i).1=(h i).1:=by have:=hver i;omega
  exact⟨qc,hval _ e1 (by rw[hr];simp),hrow _ _ _ _ _ e1 hr⟩
 cases c with
 |dat d=>
  obtain⟨F',C,I⟩:=hc
  have:=Es C hcl
  subst this
  exact⟨[],C,qe⟩
 |nil=>exact hc
 |row i ver=>
  obtain⟨h0,C,I⟩:=hc
  refine⟨h0,Nat.le_trans C (hver _),λhv e sz xs dp hr=> ?_⟩
  obtain⟨e1,e2,U,dp0,hr0⟩:=row C hv hr
  rw[e2];exact I e1 _ _ _ _ hr0
 |bp i ver off=>exact⟨hc.1,cap hc.2⟩
 |rp i ver j off=>
  obtain⟨h0,C,I⟩:=hc
  refine⟨h0,Nat.le_trans C (hver _),λhv e sz xs dp hr=> ?_⟩
  obtain⟨e1,e2,U,dp0,hr0⟩:=row C hv hr
  rw[e2];exact I e1 _ _ _ _ hr0
 |clo f cs=>obtain⟨vs,C,I⟩:=hc;exact⟨vs,C,caps I⟩
 |old B0 d u=>
  obtain⟨F',C,I,h3⟩:=hc
  have hB0:B0<=base:=hcl
  exact⟨F',C,λb hm=>⟨hlt b (I b hm).1 λe=>by have:=hB b e.symm;have:=(I b hm).2;omega,(I b hm).2⟩,h3⟩
 |part i ver lo n=>
  obtain⟨h0,C,I⟩:=hc
  refine⟨h0,Nat.le_trans C (hver _),λhv e sz xs dp hr=> ?_⟩
  obtain⟨e1,e2,U,dp0,hr0⟩:=row C hv hr
  rw[e2];exact I e1 _ _ _ _ hr0
 |exa W d x=>exact hcl.elim
theorem QR{kt kh:List Nat}{i ver:Nat}{e:TypeId}{sz:Nat}{xs:List (List D)}{j:Nat}{x:List D}{off K:Nat}{e':TypeId}{sz':Nat}{ys:List (List D)}(R:jS P base w0 N g s a w [])
  (hi:s.h i=(ver,.row e sz xs true))(hj:xs[j]? =some x)(ho:x[off]? =some (.sl ys))(hl:lab ((slP P e).drop off)=some (e',sz'))(hL:w0.Q.L=slP P)(hlent:w0.Q.lent=none\/(7059000∈kh/\i≠7059000/\K≠7059000))(hK0:∀b,w0.K b->b<base)
  (hiK:i≠K)(hi0:i≠7058000)(hK1:K≠7058000)(hkt:∀t∈kt,SV.clean base (s.t t))(hkh:∀l∈kh,At.clean base (s.h l).2):
  ∃u,Rel P base w0 N (LR s kt kh i ver e sz xs j x off K e' sz' ys u) a w:=by
 have hi2:(s.h i).2=.row e sz xs true:=by rw[hi]
 have hob:=R.inv.obj i
 rw[hi2]at hob
 obtain⟨cells,p1,p2,p3,p4,p5⟩:=hob
 have hof:=p5 rfl
 have hlive:live s.h i:=by unfold live;rw[hi2];simp
 have hdeep:gD s.h i:=⟨e,sz,xs,hi2⟩
 obtain⟨v1,v2,v3,F1,F2,F3,rfl,hF,hl1,hr1,hr2,hr3⟩:=p3.at_ p2 hj
 have hgL:g.Q.L=slP P:=R.lab.1.trans hL
 obtain⟨c1,u,c3,Fa,Fb,Fc,rfl,hc1,rfl,hu,nP⟩:=bJ.at_ (show bJ g.Q.L w x (g.Q.L e) v2 F2 from hr2) ho
 rw[hgL,hl]at hu
 simp only[zK]at hu
 obtain⟨cells',G,q1,q2,rfl,q3⟩:=hu
 have hone:u.oneCell'=true:=by rcases q1.2 with⟨rfl,_⟩|⟨_,_,_,rfl,_⟩<;>rfl
 have hset':=nP (.val u) u [] (by unfold zK;exact⟨⟨rfl,hone⟩,rfl⟩)
 have hnd:=hof.1
 rw[hF]at hnd
 have hBin:∀b,u.ownBlock=some b->b∈g.fp i:=λb C=>by rw[hF,C];simp
 have hGin:∀b∈G,b∈g.fp i:=λb C=>by rw[hF];simp[C]
 have hBbase:∀b,u.ownBlock=some b->base<=b:=λb C=>(hof.2 b (hBin b C)).1
 let FI:=F1++((Fa++([]++Fc))++F3)
 have hFI:∀b∈FI,b∈g.fp i:=λb C=>by rw[hF];simp only[FI,qP,qO,false_or]at C⊢;rcases C with C|((C|C)|C);(exact .inl C);(exact .inr (.inl (.inl C)));(exact .inr (.inl (.inr (.inr C))));·exact .inr (.inr C)
 have hsub:List.Sublist FI (F1++((Fa++((u.ownBlock.toList++G)++Fc))++F3)):=
  (List.Sublist.refl _).append (((List.Sublist.refl _).append ((List.nil_sublist _).append (List.Sublist.refl _))).append (List.Sublist.refl _))
 have hBG:(u.ownBlock.toList++G).Nodup:=by have:=(List.nodup_append.1 (List.nodup_append.1 (List.nodup_append.1 (List.nodup_append.1 hnd).2.1).1).2.1).1;exact this
 have hFIB:∀b∈FI,b∉u.ownBlock.toList++G:=by intro b C J;simp only[List.nodup_append,qP]at hnd;simp only[FI,qP,qO,false_or]at C;simp only[qP]at J;grind
 have hFIB1:∀b∈FI,u.ownBlock≠some b:=λb C e0=>hFIB b C (by rw[e0];simp)
 have hGB:∀b∈G,u.ownBlock≠some b:=λb C e0=>by rw[e0]at hBG;simp at hBG;exact hBG.1 C
 have hFIG:∀b∈FI,b∉G:=λb C J=>hFIB b C (by simp[J])
 have huB:wV u=u.ownBlock:=mF q1
 let S':Nat->Prop:=λb=>g.S b/\u.ownBlock≠some b
 let g':Gh:={ val:=λl=>if l=K then u else if l=7058000 then undef else g.val l,fp:=λl=>if l=i then FI else if l=K then G else g.fp l,S:=S',Q:=g.Q }
 let h':=Tv s.h kh i ver e sz xs j x off K e' sz' ys u
 have h'i:h' i=(ver,.row e sz (xs.set j (x.set off (.val u))) true):=if_pos rfl
 have h'K:h' K=((s.h K).1+1,.row e' sz' ys true):=by show(if K=i then _ else _)=_;rw[if_neg (Ne.symm hiK),if_pos rfl]
 have h'0:h' 7058000=((s.h 7058000).1+1,.pin K ((s.h K).1+1) u):=by show(if 7058000=i then _ else _)=_;rw[if_neg (Ne.symm hi0),if_neg (Ne.symm hK1),if_pos rfl]
 have h'n:∀l,l≠i->l≠K->l≠7058000->h' l=if l∈kh then s.h l else((s.h l).1,.none):=λl a1 I a3=>by show(if l=i then _ else _)=_;rw[if_neg a1,if_neg I,if_neg a3]
 have vi:g'.val i=g.val i:=by show(if i=K then _ else _)=_;rw[if_neg hiK,if_neg hi0]
 have vK:g'.val K=u:=if_pos rfl
 have v0:g'.val 7058000=undef:=by show(if 7058000=K then _ else _)=_;rw[if_neg (Ne.symm hK1),if_pos rfl]
 have vn:∀l,l≠K->l≠7058000->g'.val l=g.val l:=λl a1 I=>by show(if l=K then _ else _)=_;rw[if_neg a1,if_neg I]
 have fi:g'.fp i=FI:=if_pos rfl
 have fK:g'.fp K=G:=by show(if K=i then _ else _)=_;rw[if_neg (Ne.symm hiK),if_pos rfl]
 have fn:∀l,l≠i->l≠K->g'.fp l=g.fp l:=λl a1 I=>by show(if l=i then _ else _)=_;rw[if_neg a1,if_neg I]
 have hverle:∀l,(s.h l).1<=(h' l).1:=λl=>by by_cases a1:l=i;(subst a1;rw[h'i,hi];exact Nat.le_refl _);by_cases I:l=K;(subst I;rw[h'K];exact Nat.le_succ _);by_cases a3:l=7058000;(subst a3;rw[h'0];exact Nat.le_succ _);rw[h'n l a1 I a3];split<;>exact Nat.le_refl _
 have hnK:∀l,(h' l).1=(s.h l).1->l≠K/\l≠7058000:=λl hv=>by refine⟨λe0=> ?_,λe0=> ?_⟩;(subst e0;rw[h'K]at hv;simp at hv);·subst e0;rw[h'0]at hv;simp at hv
 have hcl:∀{c:SC} {v:Value},wG g s.h w c v->SC.clean base c->wG g' h' w c v:=λh1 h2=>by refine Nm (g':=g') (B:=u.ownBlock) hBbase (λb C hne=>⟨C,λe0=>hne e0.symm⟩) (λl hv _=>vn l (hnK l hv).1 (hnK l hv).2) hverle (λl e1 sz1 xs1 dp1 hv hr=> ?_) (λl t cs hv hx=> ?_) h1 h2;(obtain⟨I,a3⟩:=hnK l hv;by_cases a1:l=i;(subst a1;rw[h'i]at hr;cases hr;exact⟨xs,true,hi2⟩);·rw[h'n l a1 I a3]at hr;split at hr;(exact⟨xs1,dp1,hr⟩);·cases hr);·obtain⟨I,a3⟩:=hnK l hv;by_cases a1:l=i;(subst a1;rw[h'i]at hx;cases hx);·rw[h'n l a1 I a3]at hx;split at hx;(exact⟨cs,hx⟩);·cases hx
 have hcls:∀{cs0:List SC} {us:List Value},aR g s.h w cs0 us->(∀c∈cs0,SC.clean base c)->aR g' h' w cs0 us:=by
  intro cs0
  induction cs0 with
  |nil=>intro us h _;exact h
  |cons c cs0 ih=>
   rintro us ⟨v,vs',rfl,h1,h2⟩ U
   exact⟨v,vs',rfl,hcl h1 (U c qe),ih h2 λc' hc'=>U c' (by simp[hc'])⟩
 have hlv:∀l,live h' l->l≠K->l≠7058000->live s.h l:=λl hl I a3=>by by_cases a1:l=i;(subst a1;exact hlive);·unfold live at hl⊢;rw[h'n l a1 I a3]at hl;split at hl;(exact hl);·exact absurd rfl hl
 have hdp:∀l,gD h' l->l≠K->gD s.h l:=λl hd I=>by obtain⟨e1,sz1,xs1,hh⟩:=hd;by_cases a1:l=i;(subst a1;exact hdeep);by_cases a3:l=7058000;(subst a3;rw[h'0]at hh;cases hh);rw[h'n l a1 I a3]at hh;split at hh;(exact⟨e1,sz1,xs1,hh⟩);·cases hh
 have fsub:∀l,l≠K->∀b∈g'.fp l,b∈g.fp l:=λl I b C=>by by_cases a1:l=i;(subst a1;rw[fi]at C;exact hFI b C);·rw[fn l a1 I]at C;exact C
 have hOK:vF base w G:=⟨(List.nodup_append.1 hBG).2.1,λb C=>hof.2 b (hGin b C)⟩
 have hO1:vF base w FI:=⟨hnd.sublist hsub,λb C=>hof.2 b (hFI b C)⟩
 have hlent':HZ w0.Q.lent h' g':=by
  intro b C
  rcases hlent with hn|⟨m1,m2,m3⟩
  ·rw[hn]at C;cases C
  ·have e1:h' 7059000=s.h 7059000:=by rw[h'n _ (Ne.symm m2) (Ne.symm m3) qf,if_pos m1]
   rw[e1,vn _ (Ne.symm m3) qf]
   exact R.q.2.2 b C
 refine⟨u,g',R.defers,R.size,R.below,⟨R.q.1,R.q.2.1,hlent'⟩,λb C=>⟨⟨(R.vY b C).1,λe0=> ?_⟩,(R.vY b C).2⟩,
  ⟨R.inv.base_le,λb C hlt=>R.inv.S_old b C.1 hlt,λb C=>R.inv.S_lt b C.1,λl=> ?_,λl b hl C=> ?_,λl k b hne hl hk C J=> ?_,λl k hne hl hk b C J=> ?_,vF.nil _ _,λ_ hx=>absurd hx qO,λ_ _ _ _=>qO,R.inv.fb⟩,λt=> ?_,R.lab,λ_=>trivial⟩
 ·have:=hK0 b C;have:=hBbase b e0;omega
 ·show zD base g' h' w l (h' l).2
  by_cases a1:l=i
  ·subst a1;rw[h'i];refine⟨v1++((c1++u::c3)++v3),?_,?_,?_,?_,λ_=>by rw[fi];exact hO1⟩;(rw[vi,qN];exact p1);(intro y hy;rcases List.mem_or_eq_of_mem_set hy with hy|rfl;(exact p2 y hy);·rw[qN];exact p2 x (List.mem_of_getElem? hj));(rw[fi];have hjlt:j<xs.length:=(List.getElem?_eq_some_iff.1 hj).1;rw[show xs.set j (x.set off (.val u))=xs.take j++([x.set off (.val u)]++xs.drop (j+1))from by rw[List.set_eq_take_append_cons_drop,if_pos hjlt];rfl];exact hr1.append (cF.append (cF.one hset') hr3));·rw[fi];exact λb C=>⟨p4 b (hFI b C),hFIB1 b C⟩
  by_cases I:l=K
  ·subst I;rw[h'K];refine⟨cells',?_,q2,?_,?_,λ_=>by rw[fK];exact hOK⟩;(rw[vK];refine⟨q1.1,?_⟩;rcases q1.2 with k|⟨gg,cap,cur,k1,k2,k3⟩;(exact .inl k);·exact .inr ⟨gg,cap,cur,k1,hBbase gg (by rw[k1];rfl),k3⟩);(rw[fK];show gX g.Q.L w ys e' cells' G;rw[hgL];exact q3);·rw[fK];exact λb C=>⟨p4 b (hGin b C),hGB b C⟩
  by_cases a3:l=7058000
  ·subst a3;rw[h'0];exact⟨v0,by rw[h'K];exact Nat.le_refl _,λ_ _ _ _ _ _=>vK⟩
  rw[h'n l a1 I a3]
  by_cases a4:l∈kh
  ·rw[if_pos a4]
   have U:=hkh l a4
   have hob:=R.inv.obj l
   cases hh:(s.h l).2 with
   |none=>trivial
   |pin j v u=>rw[hh]at U;exact U.elim
   |box t cells0=>
    rw[hh]at hob U
    obtain⟨b,vals,k1,k2,k3,k4⟩:=hob
    exact⟨b,vals,(vn l I a3).trans k1,k2,k3,hcls k4 U⟩
   |row e1 sz1 xs1 dp1=>
    rw[hh]at hob U
    have hd1:dp1=true:=U
    subst hd1
    obtain⟨cells1,k1,k2,k3,k4,k5⟩:=hob
    refine⟨cells1,by rw[vn l I a3];exact k1,k2,by rw[fn l a1 I];exact k3,by rw[fn l a1 I];exact λb C=>⟨k4 b C,λe0=>R.inv.dis l i a1 ⟨e1,sz1,xs1,hh⟩ hdeep b C (hBin b e0)⟩,by rw[fn l a1 I];exact k5⟩
  ·rw[if_neg a4];trivial
 ·by_cases I:l=K;(subst I;rw[vK,huB]at C;exact λhS=>hS.2 C);by_cases a3:l=7058000;(subst a3;rw[v0]at C;simp[undef,wV]at C);rw[vn l I a3]at C;exact λhS=>R.inv.mtb l b (hlv l hl I a3) C hS.1
 ·have key:∀m,m≠K->live h' m->wV (g'.val m)=some b->u.ownBlock=some b->False:=λm I hm hmb hu=>by
   by_cases a3:m=7058000
   ·subst a3;rw[v0]at hmb;simp[undef,wV]at hmb
   rw[vn m I a3]at hmb
   exact R.inv.mtb m b (hlv m hm I a3) hmb (p4 b (hBin b hu))
  by_cases I:l=K
  ·subst I;rw[vK,huB]at C;exact key k (Ne.symm hne) hk J C
  by_cases b2:k=K
  ·subst b2;rw[vK,huB]at J;exact key l I hl C J
  by_cases a3:l=7058000
  ·subst a3;rw[v0]at C;simp[undef,wV]at C
  by_cases b3:k=7058000
  ·subst b3;rw[v0]at J;simp[undef,wV]at J
  rw[vn l I a3]at C
  rw[vn k b2 b3]at J
  exact R.inv.inj l k b hne (hlv l hl I a3) (hlv k hk b2 b3) C J
 ·by_cases I:l=K;(subst I;rw[fK]at C;by_cases b1:k=i;(subst b1;rw[fi]at J;exact hFIG b J C);·rw[fn k b1 (Ne.symm hne)]at J;exact R.inv.dis k i b1 (hdp k hk (Ne.symm hne)) hdeep b J (hGin b C));by_cases b2:k=K;(subst b2;rw[fK]at J;by_cases b1:l=i;(subst b1;rw[fi]at C;exact hFIG b C J);·rw[fn l b1 I]at C;exact R.inv.dis l i b1 (hdp l hl I) hdeep b C (hGin b J));exact R.inv.dis l k hne (hdp l hl I) (hdp k hk b2) b (fsub l I b C) (fsub k b2 b J)
 ·rw[Mw]
  by_cases ht:t∈kt
  ·rw[if_pos ht]
   have hsv:=R.tmp t
   have U:=hkt t ht
   cases hx:s.t t with
   |unk=>trivial
   |undef=>rw[hx]at hsv;exact hsv
   |v ag cs0=>
    rw[hx]at hsv U
    cases ag with
    |false=>exact hcls hsv U
    |true=>obtain⟨us,h1,h2⟩:=hsv;exact⟨us,h1,hcls h2 U⟩
   |tup xs=>
    rw[hx]at hsv U
    obtain⟨us,h1,h2⟩:=hsv
    refine⟨us,h1,?_⟩
    revert h2 U
    generalize us.toList=vl
    intro U h2
    clear hx h1
    induction xs generalizing vl with
    |nil=>exact h2
    |cons x xs ih=>
     obtain⟨v,vs',rfl,q1,q2⟩:=h2
     refine⟨v,vs',rfl,?_,ih vs' (λy hy=>U y (by simp[hy])) q2⟩
     obtain⟨ag,cs1⟩:=x
     have hcx:=U (ag,cs1) qe
     cases ag with
     |false=>exact hcls q1 hcx
     |true=>obtain⟨us',r1,r2⟩:=q1;exact⟨us',r1,hcls r2 hcx⟩
  ·rw[if_neg ht];trivial
theorem Lo{c:Code}{Q:Exit->St->Prop}(kt U:List Nat){i ver:Nat}{e:TypeId}{sz:Nat}{xs:List (List D)}{j:Nat}{x:List D}{off K:Nat}{e':TypeId}{sz':Nat}{ys:List (List D)}
  (hi:s.h i=(ver,.row e sz xs true))(hj:xs[j]? =some x)(ho:x[off]? =some (.sl ys))(hl:lab ((slP P e).drop off)=some (e',sz'))(hL:w0.Q.L=slP P)(hlent:w0.Q.lent=none\/(7059000∈U/\i≠7059000/\K≠7059000))(J:∀b,w0.K b->b<base)
  (C:i≠K)(hi0:i≠7058000)(hK1:K≠7058000)(hkt:∀t∈kt,SV.clean base (s.t t))(I:∀l∈U,At.clean base (s.h l).2)
  (h:∀u,SW P base w0 N c (LR s kt U i ver e sz xs j x off K e' sz' ys u) Q):SW P base w0 N c s Q:=λa w ⟨g,R⟩=>by
 obtain⟨u,R'⟩:=QR R hi hj ho hl hL hlent J C hi0 hK1 hkt I
 exact h u a w R'
theorem Gho.close{i ver:Nat}{e:TypeId}{sz:Nat}{xs:List (List D)}{j:Nat}{x:List D}{off K vK pv:Nat}{e':TypeId}{sz':Nat}{ys:List (List D)}{u:Value}
  (hi:s.h i=(ver,.row e sz xs true))(hj:xs[j]? =some x)(ho:x[off]? =some (.val u))(hp:s.h 7058000=(pv,.pin K vK u))(hk:s.h K=(vK,.row e' sz' ys true))(hl:lab ((slP P e).drop off)=some (e',sz'))(hL:w0.Q.L=slP P)(hiK:i≠K):
  Gho P base w0 N s ((s.eV K (vK,.none)).eV i (ver,.row e sz (xs.set j (x.set off (.sl ys))) true)):=by
 rintro a w ⟨g,R⟩
 have hgL:g.Q.L=slP P:=R.lab.1.trans hL
 have hk2:(s.h K).2=.row e' sz' ys true:=by rw[hk]
 have hob0:=R.inv.obj 7058000
 rw[show(s.h 7058000).2=.pin K vK u from by rw[hp]]at hob0
 have hval:g.val K=u:=hob0.2.2 (by rw[hk]) _ _ _ _ hk2
 obtain⟨J,F,t1,t1b,t2,tS,tF,t3,t4,t5⟩:=R.inv.take hk2
 have T1:iC g { g with S:=J } s.h (nP s.h K ((s.h K).1,.none)) w w:=iC.drop K J t1
 rw[show(s.h K).1=vK from by rw[hk]]at T1 t5
 have R1:jS P base w0 N { g with S:=J } (s.eV K (vK,.none)) a w ([]++F):=R.nV T1 rfl R.below t5
 have hi':(s.eV K (vK,.none)).h i=(ver,.row e sz xs true):=by rw[St.G0,if_neg hiK];exact hi
 have I:((s.eV K (vK,.none)).h i).2=.row e sz xs true:=by rw[hi']
 have hob:=R1.inv.obj i
 rw[I]at hob
 obtain⟨cells,p1,p2,p3,p4,p5⟩:=hob
 have hof:=p5 rfl
 have hjlt:j<xs.length:=(List.getElem?_eq_some_iff.1 hj).1
 rcases p1.2 with⟨_,h0⟩|⟨gg,cap,cur,c1,c2,c3,c4⟩
 ·omega
 have hlive:live (s.eV K (vK,.none)).h i:=by unfold live;rw[I];simp
 have hown:wV (({ g with S:=J }:Gh).val i)=some gg:=by rw[c1];rfl
 have hdi:gD (s.eV K (vK,.none)).h i:=⟨e,sz,xs,I⟩
 obtain⟨v1,v2,v3,F1,F2,F3,rfl,hF,hl1,hr1,hr2,hr3⟩:=p3.at_ p2 hj
 obtain⟨d1,v,d3,Fa,Fb,Fc,rfl,hd1,rfl,hu,hsetc⟩:=bJ.at_ (show bJ g.Q.L w x (g.Q.L e) v2 F2 from hr2) ho
 have hu':(v=u/\v.oneCell'=true)/\Fb=[]:=by unfold zK at hu;exact hu
 obtain⟨⟨rfl,_⟩,rfl⟩:=hu'
 have hset':=hsetc (.sl ys) v F (by rw[hgL,hl,<-hval,<-hgL];exact tS rfl)
 have hpd:=R1.inv.pool_dis i hdi
 have U:=R1.inv.pool_own
 rw[List.nil_append]at hpd U
 have hnd:=hof.1
 rw[hF]at hnd
 have hnd2:(F1++((Fa++(F++Fc))++F3)).Nodup:=JI hnd U.1 λy C hy'=>hpd y (by rw[hF];exact hy') C
 have hin:∀y∈F1++((Fa++(F++Fc))++F3),y∈F\/y∈({ g with S:=J }:Gh).fp i:=λy C=>by rw[hF];simp only[qP,qO,false_or]at C⊢;rcases C with C|((C|C|C)|C)<;>simp[C]
 have hnS:=R1.inv.mtb i gg hlive hown
 have T2:iC { g with S:=J } { ({ g with S:=J }:Gh)with fp:=BT g.fp i (F1++((Fa++(F++Fc))++F3)) } (s.eV K (vK,.none)).h (nP (s.eV K (vK,.none)).h i (((s.eV K (vK,.none)).h i).1,.row e sz (xs.set j (x.set off (.sl ys))) true)) w w:=
  iC.A4 hnS (λ_ _=>rfl) (by intro e0 sz0 xs0 dp0 hh';cases hh';exact⟨_,_,I⟩) (by intro t0 cs0 hh';cases hh')
 have hrow:cF g.Q.L true w e (xs.set j (x.set off (.sl ys))) (v1++((d1++v::d3)++v3)) (F1++((Fa++(F++Fc))++F3)):=by rw[show xs.set j (x.set off (.sl ys))=xs.take j++([x.set off (.sl ys)]++xs.drop (j+1))from by rw[List.set_eq_take_append_cons_drop,if_pos hjlt];rfl];exact hr1.append (cF.append (cF.one hset') hr3)
 have I':=R1.inv.A4 (i:=i) (b:=gg) (F:=F1++((Fa++(F++Fc))++F3)) (pool':=[]) (w':=w) hlive hown rfl (λ_ _=>rfl) T2
  ⟨_,by rw[qN];exact p1,(λy C=>by
   rcases List.mem_or_eq_of_mem_set C with C|rfl
   ·exact p2 y C
   ·rw[qN];exact p2 x (List.mem_of_getElem? hj)),(by
   show cF _ _ _ _ _ _ (BT g.fp i _ i)
   rw[cZ]
   exact hrow),(by
   show ∀y∈BT g.fp i _ i,J y
   rw[cZ]
   intro y C
   rcases hin y C with h|h
   ·exact t3 y h
   ·exact p4 y h),(by
   intro _
   show vF base w (BT g.fp i _ i)
   rw[cZ]
   refine⟨hnd2,λy C=> ?_⟩
   rcases hin y C with h|h
   ·exact U.2 y h
   ·exact hof.2 y h)⟩ qe List.nodup_nil (by
   rintro _ y C
   refine⟨?_,qO⟩
   rcases hin y C with h|h
   ·exact .inl (by simpa using h)
   ·exact .inr ⟨hdi,h⟩)
 rw[show((s.eV K (vK,.none)).h i).1=ver from by rw[hi']]at T2 I'
 exact⟨_,R1.nV T2 rfl R1.below I'⟩
end
end Go.Sh
namespace Go.Sh
open Go.RowKit
def QT(B:Nat)(d:D):SC:=if d.flat=true then .dat d else .old B d none
def MY(B:Nat)(args:List (Bool×List D)):St:=
 { t:=λi=>match args[i]? with|some (j,ds)=>.v j (ds.map (QT B))|none=>.undef,h:=λ_=>(0,.none) }
theorem SY(B:Nat)(args:List (Bool×List D))(i:Nat):(MY B args).t i=match args[i]? with|some (j,ds)=>.v j (ds.map (QT B))|none=>.undef:=rfl
theorem Sb(B:Nat)(args:List (Bool×List D))(i:Nat):(MY B args).h i=(0,.none):=rfl
theorem Qw(B:Nat)(k:IntKind)(n:Int):QT B (.int k n)=.dat (.int k n):=rfl
theorem O2(B:Nat)(b:Bool):QT B (.bool b)=.dat (.bool b):=rfl
theorem Rg(B:Nat)(b:ByteArray):QT B (.str b)=.dat (.str b):=rfl
theorem Sa(B:Nat)(xs:List (List D)):QT B (.sl xs)=.old B (.sl xs) none:=rfl
theorem aR.Nv{g:Gh}{h:Heap}{w:World}{B:Nat}:∀{ds:List D} {I:List Value} {F:List Nat},aG w ds I F->(∀b∈F,g.S b/\b<B)->aR g h w (ds.map (QT B)) I
 |[],I,F,C,_=>by simp only[aG]at C;exact C.1
 |d::ds,I,F,C,U=>by simp only[aG]at C;obtain⟨v,J,F1,F2,rfl,rfl,h3,h4⟩:=C;refine⟨v,J,rfl,?_,aR.Nv h4 λb j=>U b (by simp[j])⟩;unfold QT;split;(exact⟨F1,h3,λb j=>(U b (by simp[j])).1⟩);·exact⟨F1,h3,λb j=>U b (by simp[j]),λ_ e=>by cases e⟩
def NU(j:List (Bool×List RC)):Bool:=j.all λr=>r.2.all λc=>match c with| .own _ _ _=>false|_=>true
theorem CI{L J:TL}{base:Nat}{w:World}{X:Nat->Prop}:∀{I:List Value} {j:List RC} {F:List Nat},(j.all λc=>match c with| .own _ _ _=>false|_=>true)=true->mM L base w X I j F->mM J base w X I j F
 |[],[],F,_,h=>h
 |v::I,.any d::j,F,C,h=>by simp only[List.all_cons,Bool.true_and]at C;exact⟨h.1,CI C h.2⟩
 |v::I,.ro d::j,F,C,h=>by simp only[List.all_cons,Bool.true_and]at C;exact⟨h.1,CI C h.2⟩
 |v::I,.own e sz U::j,F,C,h=>by simp at C
 |v::I,.edit q::j,F,_,h=>h.elim
 |[],_::_,F,_,h=>h.elim
 |_::_,[],F,_,h=>h.elim
theorem Mc{L I:TL}{base:Nat}{w:World}{X:Nat->Prop}{v:Value}{r:Bool×List RC}{F:List Nat}(j:(r.2.all λc=>match c with| .own _ _ _=>false|_=>true)=true)(h:Ha L base w X v r F):Ha I base w X v r F:=by
 obtain⟨C,U⟩:=r
 cases C with
 |true=>obtain⟨J,rfl,h⟩:=h;exact⟨J,rfl,CI j h⟩
 |false=>exact CI j h
theorem G8{L L':TL}{base:Nat}{w:World}{X:Nat->Prop}:∀{I:List Value} {j:List (Bool×List RC)} {F:List Nat},NU j=true->zO L base w X I j F->zO L' base w X I j F
 |[],[],F,_,h=>h
 |v::I,r::j,F,C,⟨F1,J,h0,h1,U⟩=>by simp only[NU,List.all_cons,qM]at C;exact⟨F1,J,h0,Mc C.1 h1,G8 C.2 U⟩
 |[],_::_,F,_,h=>h.elim
 |_::_,[],F,_,h=>h.elim
theorem P3{L L':TL}{base:Nat}{w:World}{v:Value}{I:List (Bool×List RC)}{Q:Nat->Prop}(j:NU I=true)(h:Fw L base w v I Q):Fw L' base w v I Q:=by
 obtain⟨F,X,h1,U,h3,C⟩:=h
 refine⟨F,X,h1,U,h3,?_⟩
 match I,j,C with
 |[r],j,C=>
  simp only[NU,List.all_cons,List.all_nil,Bool.and_true]at j
  exact Mc j C
 |[],j,C=>obtain⟨J,e,h⟩:=C;exact⟨J,e,G8 j h⟩
 |a::b::I,j,C=>obtain⟨J,e,h⟩:=C;exact⟨J,e,G8 j h⟩
theorem Sy {P : Program} (L : TL) {f : FuncId} {fn : Func} {c : Code} {args : List (Bool × List D)} {rs : List (Bool × List RC)} {N : Nat} {vars : List ResultVar} (hf : P.funcs[f]? = some fn) (hb : fn.body = some c) (hN : fn.ntmps = N) (hv : fn.results.toList = vars) (hnm : (fn.name == "runtime.NumGoroutine") = false) (hn : args.length <= N) (hL : L = slP P \/ (L = Nf /\ NU rs = true))
  (h : ∀(base:Nat) (wd:World×(Nat->Prop)),SW P base ⟨wd.1,⟨wd.2,base,none,L⟩,noK,MV⟩ N c (MY base args) (aft P base ⟨wd.1,⟨wd.2,base,none,L⟩,noK,MV⟩ N (Ret (jP P) vars rs) [])):kM P f args rs:=by
 subst hN hv
 refine .inl ⟨⟨fn,c,hf,hb,hnm⟩,λw vs Fa ha => ?_⟩
 obtain ⟨hlen,hat⟩:=args_at ha
 have hlen':vs.size=args.length:=by simpa using hlen
 refine calls_of_wp hf hb ?_
 have hFlt:=E8 ha
 let g:Gh:={ val:=λ_=>undef,fp:=λ_=>[],S:=λb=>b∈Fa,Q:=⟨λb=>b∈Fa,w.heap.size,none,L⟩ }
 have R:Rel P w.heap.size ⟨w,⟨λb=>b∈Fa,w.heap.size,none,L⟩,noK,MV⟩ fn.ntmps (MY w.heap.size args) { tmps:=vs++Array.replicate (fn.ntmps-vs.size) undef,defers:=[] } w:=by
  refine ⟨g,rfl,qd,Below.refl _ _,⟨λ_ x=>x,rfl,λ_ hx=>(by cases hx)⟩,λ_ x=>x.elim,⟨Nat.le_refl _,λ_ x _=>x,hFlt,λi=>trivial,λi b hl=>absurd rfl hl,λi j b _ hl=>absurd rfl hl,?_,vF.nil _ _,qe,λi hd=>(by obtain ⟨_,_,_,hd⟩:=hd;cases hd),Nat.le_refl _⟩,λt => ?_,⟨rfl,hL.imp id And.left⟩,λ_=>trivial⟩
  ·rintro i j _ ⟨_,_,_,hd⟩;cases hd
  ·show sU g _ w (match args[t]? with | some (ag,ds)=>.v ag (ds.map (QT w.heap.size)) | none=>.undef) _
   cases ht:args[t]? with
   | none =>
    have hge:args.length<=t:=List.getElem?_eq_none_iff.1 ht
    show _=undef
    simp only [Array.getD_eq_getD_getElem?,Array.getElem?_append]
    rw [if_neg qc]
    by_cases h2:t-vs.size<fn.ntmps-vs.size
    ·simp [h2]
    ·rw [Array.getElem?_eq_none qd];rfl
   | some x =>
    obtain ⟨v,Fi,h1,h2,hFi⟩:=hat t x ht
    have hlt:t<vs.size:=by have:=(List.getElem?_eq_some_iff.1 ht).1;omega
    have hv:(vs++Array.replicate (fn.ntmps-vs.size) undef).getD t undef=v:=by
     simp only [Array.getD_eq_getD_getElem?,Array.getElem?_append]
     rw [if_pos hlt]
     have:vs[t]? = some v:=by simpa using h1
     rw [this];rfl
    rw [hv]
    obtain ⟨ag,ds⟩:=x
    cases ag with
    | false =>
     obtain ⟨d,rfl,hr⟩:=h2
     have hcs:aG w [d] [v] Fi:=by simp only [aG];exact ⟨v,[],Fi,[],rfl,qe,hr,qe⟩
     exact aR.Nv hcs λb hb=>⟨hFi b hb,hFlt b (hFi b hb)⟩
    | true =>
     obtain ⟨cs,rfl,hr⟩:=h2
     exact ⟨cs,rfl,aR.Nv hr λb hb=>⟨hFi b hb,hFlt b (hFi b hb)⟩⟩
 refine wp_mono (h w.heap.size (w,λb=>b∈Fa) _ w R) ?_
 rintro e a' w' ⟨s',h1,R'⟩
 have fin:Ret (jP P) fn.results.toList rs s'->a'.defers=[] /\ ∃v,(results fn a'.tmps).run P w' = .ok v w' /\ ∃v',Ending.returned v = .returned v'/\Fw (slP P) w.heap.size w' v' rs (λb=>b∈Fa)/\Below w.heap.size w w':=by intro hr;obtain ⟨v,k1,k2⟩:=Le R' hr;obtain ⟨g',R''⟩:=R';refine ⟨R''.defers,v,k1,v,rfl,?_,R''.below⟩;rcases hL with rfl | ⟨_,hno⟩;(exact k2);·exact P3 hno k2
 cases e with
 | normal=>exact fin h1
 | ret=>exact fin h1
 | exit id=>exact h1.elim
 | goto l=>exact h1.elim
 | panic c=>exact h1.elim
 | outgrown=>exact h1.elim
theorem Sk {P : Program} {f : FuncId} {fn : Func} {c : Code} {args : List (Bool × List D)} {rs : List (Bool × List RC)} {N : Nat} {vars : List ResultVar} (hf : P.funcs[f]? = some fn) (hb : fn.body = some c) (hN : fn.ntmps = N) (hv : fn.results.toList = vars) (hnm : (fn.name == "runtime.NumGoroutine") = false) (hn : args.length <= N)
  (h : ∀(base:Nat) (wd:World×(Nat->Prop)),SW P base ⟨wd.1,⟨wd.2,base,none,slP P⟩,noK,MV⟩ N c (MY base args) (aft P base ⟨wd.1,⟨wd.2,base,none,slP P⟩,noK,MV⟩ N (Ret (jP P) vars rs) [])):kM P f args rs:=Sy (slP P) hf hb hN hv hnm hn (.inl rfl) h
theorem OR(B:Nat)(d:D)(u:Option Value)(cs:List SC)(k:List D->Prog):xZ (.old B d u::cs) k=xZ cs λds=>k (d::ds):=rfl
theorem PJ(b:Nat)(d:D):SC.clean b (.dat d)=(d.flat=true):=rfl
theorem PI(b B:Nat)(d:D)(u:Option Value):SC.clean b (.old B d u)=(B<=b):=rfl
theorem O1(b:Nat):SC.clean b .nil=True:=rfl
theorem NS(b i v:Nat):SC.clean b (.row i v)=True:=rfl
theorem Q1(b i v o:Nat):SC.clean b (.bp i v o)=True:=rfl
theorem R7(b:Nat)(j:Bool)(cs:List SC):SV.clean b (.v j cs)=∀c∈cs,SC.clean b c:=rfl
theorem Ox(b:Nat)(xs:List (Bool×List SC)):SV.clean b (.tup xs)=∀x∈xs,∀c∈x.2,SC.clean b c:=rfl
theorem NI(b:Nat):SV.clean b .unk=True:=rfl
theorem KV(b:Nat):SV.clean b .undef=True:=rfl
theorem MO(b:Nat):At.clean b .none=True:=rfl
theorem Pk(b:Nat)(t:TypeId)(cs:List SC):At.clean b (.box t cs)=∀c∈cs,SC.clean b c:=rfl
theorem MI(b:Nat)(e:TypeId)(sz:Nat)(xs:List (List D))(dp:Bool):At.clean b (.row e sz xs dp)=(dp=true):=rfl
theorem YQ{α:Type}{p:α->Prop}{a:α}{l:List α}:(∀x∈a::l,p x)=(p a/\∀x∈l,p x):=by simp
theorem YS{α:Type}{p:α->Prop}:(∀x∈([]:List α),p x)=True:=by simp
theorem Qy(k:IntKind)(n:Int):D.flat (.int k n)=true:=rfl
theorem Ov(b:Bool):D.flat (.bool b)=true:=rfl
theorem QH(b:ByteArray):D.flat (.str b)=true:=rfl
theorem RU(b:Nat):(b<=b)=True:=by simp
theorem exI{P:Program}{T:KK}{N:Nat}{ops:Array Oper}{l:List Oper}{s j:St}{K:St->Prop}(h:A6 P T N ops l s (Is j))(C:K j):A6 P T N ops l s K:=
 En l (λτ I=>by rw[show τ=j from I];exact C) h
theorem Qh(b i v j o:Nat):SC.clean b (.rp i v j o)=True:=rfl
theorem Px{α:Type}{l:List α}{i:Nat}{a b:α}(h:l[i]? =some b):(l.set i a)[i]? =some a:=by rw[List.getElem?_set_self (List.getElem?_eq_some_iff.1 h).1]
def U0:=PLift.up (qI @PJ (qI @PI (qI @O1 (qI @NS (qI @Q1 (qI @Qh (qI @R7 (qI @Ox (qI @NI (qI @KV (qI @MO (qI @Pk (qI @MI (qI @YQ (qI @YS (qI @Qy (qI @Ov (qI @QH (qI @RU (qI and_true (qI true_and and_self)))))))))))))))))))))
theorem LC:type_of% U0.down:=U0.down
def Vb:=PLift.up (qI @Nu (qI @E3 (qI @SY (qI @Sb (qI @Qw (qI @O2 (qI @Rg (qI @Sa (qI @OR (qI @Mw (qI @Qq (qI @List.set_set.{0} @List.length_set.{0}))))))))))))
theorem LN:type_of% Vb.down:=Vb.down
end Go.Sh
namespace Go.Sh
open Go.RowKit
section
variable {P:Program}{base N:Nat}{w0:W0}{s:St}
theorem Nz{g:Gh}{a:Act}{w:World}{j K vj n:Nat}{e:TypeId}{sz:Nat}{xs ys:List (List D)}{dp:Bool}{v:Value}(R:jS P base w0 N g s a w [])(h2:s.h j=(vj,.row e sz xs dp))(hn:n<=xs.length)(J:xs.take n=ys)(hv:wG g s.h w (.part j vj 0 n) v):
  ∃g',jS P base w0 N g' ((s.eV j (vj,.none)).eV K ((s.h K).1+1,.row e sz ys dp)) a w []/\iC g g' s.h ((s.eV j (vj,.none)).eV K ((s.h K).1+1,.row e sz ys dp)).h w w/\
   wG g' ((s.eV j (vj,.none)).eV K ((s.h K).1+1,.row e sz ys dp)).h w (.row K ((s.h K).1+1)) v:=by
 have C:(s.h j).1=vj:=by rw[h2]
 have hj2:(s.h j).2=.row e sz xs dp:=by rw[h2]
 have hob:=R.inv.obj j
 rw[hj2]at hob
 obtain⟨cells,p1,p2,p3,p4,p5⟩:=hob
 obtain⟨I1,hfr⟩:=R.inv.zZ hj2
 rw[C]at I1 hfr
 have T1:iC g g s.h (nP s.h j (vj,.none)) w w:=by have:=iC.drop (g:=g) (h:=s.h) (w:=w) j g.S λ_ x=>x;rw[C]at this;exact this
 have hver:(nP s.h j (vj,.none) K).1=(s.h K).1:=by by_cases hk:K=j;(subst hk;rw[bE,C]);·rw[eW _ _ _ _ hk]
 obtain⟨hv0,_,hv⟩:=hv
 obtain⟨ad,c,rfl,k2,_,k4⟩:=hv C e sz xs dp hj2
 obtain⟨m,k5,k6⟩:=k4 rfl
 have hyl:ys.length=n:=by rw[<-J,qU,Nat.min_eq_left hn]
 have hsp:cF g.Q.L dp w e (xs.take n++xs.drop n) cells (g.fp j):=by rw[List.take_append_drop];exact p3
 obtain⟨v1,v2,F1,F2,hce,hF,q1,q2⟩:=cF.split hsp
 rw[J]at q1
 have hxl:∀y∈ys,y.length=sz:=λy hy=>p2 y (List.mem_of_mem_take (J ▸ hy))
 have hl1:v1.length=n*sz:=by rw[<-hyl];exact aQ.length q1.rep hxl
 have ho:w.ownsRow base e sz (.slice ad n c) ys.length v1:=by
  rw[hyl]
  refine⟨hl1,?_⟩
  rcases p1.2 with⟨U,h7⟩|⟨gg,cap,cur,U,h7,h8,h9,aa,ae,af⟩
  ·rw[k5]at U
   simp at U
   obtain⟨rfl,rfl,rfl⟩:=U
   have:n=0:=by omega
   subst this
   exact .inl ⟨rfl,rfl⟩
  ·rw[k5]at U
   simp at U
   obtain⟨rfl,rfl,rfl⟩:=U
   refine .inr ⟨gg,c,cur,rfl,h7,h8,k2,aa,ae,?_⟩
   have:(cur.toList.take (xs.length*sz)).take (n*sz)=v1:=by rw[af,hce];exact List.take_left' hl1
   rw[List.take_take,Nat.min_eq_left (Nat.mul_le_mul_right sz hn)]at this
   exact this
 have hob2:∀b,wV (.slice ad n c)=some b->wV (g.val j)=some b:=by intro b I;rw[k5];cases ad<;>first|(simp[wV]at I;done)|simpa[wV]using I
 have I2:=I1.Af (i:=K) (v:=.slice ad n c) (e:=e) (sz:=sz) (xs:=ys) (dp:=dp) (cells:=v1) (F:=F1) (pool':=[]) ho hxl q1 (λb I=>p4 b (by rw[hF];simp[I])) (λb I=>hfr b (hob2 b I)) qe List.nodup_nil (λhd=>by subst hd;simp only[if_true,List.nil_append];have hnd:=(p5 rfl).1;rw[hF]at hnd⊢;exact⟨(List.nodup_append.1 hnd).1,λb I=>⟨by simp[I],qe⟩⟩)
 have T2:=iC.create (g:=g) (h:=nP s.h j (vj,.none)) (w:=w) K (.slice ad n c) F1 (.row e sz ys dp)
 rw[hver]at I2 T2
 refine⟨_,R.nV (T1.trans T2) rfl R.below I2,T1.trans T2,hv0,?_,?_⟩
 ·show _<=(nP _ K _ K).1;rw[bE];exact Nat.le_refl _
 ·intro _ e' sz' xs' dp' _;show _=BT g.val K (.slice ad n c) K;rw[cZ]
theorem Gho.S1{i j K vj n:Nat}{e:TypeId}{sz:Nat}{xs:List (List D)}{dp:Bool}(ys:List (List D))(h1:s.t i=.v false [.part j vj 0 n])(J:s.h j=(vj,.row e sz xs dp))(hn:n<=xs.length)(C:xs.take n=ys):
  Gho P base w0 N s (((s.eV j (vj,.none)).eV K ((s.h K).1+1,.row e sz ys dp)).C8 i (.v false [.row K ((s.h K).1+1)])):=by
 rintro a w ⟨g,R⟩
 have I:=R.tmp i
 rw[h1]at I
 obtain⟨g',R',T,U⟩:=Nz (K:=K) R J hn C (dH I)
 exact⟨g',Jp R' ⟨_,[],rfl,U,rfl⟩⟩
theorem Xd.mk{P:Program}{T:KK}{vars:List ResultVar}{ops:Array Oper}{n d:Nat}{K:St->Prop}{l:List (Bool×List SC)}{s s1:St}(I:A7 T s vars=some l)(j:A6 P T N ops (ops.toList.drop (n+1)) (Xz s d (Tj l)) (Is s1))(C:K s1):Xd P T vars N ops n d K s:=⟨l,I,exI j C⟩
end
end Go.Sh
namespace Go.Sh
open Go.RowKit
section
variable {P:Program}{base N:Nat}{w0:W0}{Z:St->Prop}{k:List Fr}{s:St}
theorem nT{x y:Code}(J:St->Prop)(C:SW P base w0 N x s (aft P base w0 N Z (.inv J::k)))(j:∀s',J s'->SW P base w0 N y s' (aft P base w0 N Z k)):SW P base w0 N (.seq x y) s (aft P base w0 N Z k):=by
 refine sq λa w R=>wp_mono (C a w R) ?_
 rintro e a' w' ⟨s',k1,k2⟩
 refine⟨s',?_,k2⟩
 cases e with
 |normal=>exact j s' k1
 |_=>exact k1
end
end Go.Sh
