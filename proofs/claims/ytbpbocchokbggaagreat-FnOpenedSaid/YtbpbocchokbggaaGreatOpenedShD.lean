/-
  Helper text. No conditions.
-/
import Derived.Test.YtbpbocchokbggaaGreatOpenedShC
import Derived.ProofKit
import Derived.OpenShut
import Derived.ShutString
import Derived.Deep.Slices
import Derived.Carry
set_option linter.all false
namespace Go.Sh
open Go.RowKit
theorem UZ(args:List (Bool×List D))(i:Nat):(init args).t i=match args[i]? with|some (j,ds)=>.v j (ds.map .dat)|none=>.undef:=rfl
theorem Vw(args:List (Bool×List D))(i:Nat):(init args).h i=(0,.none):=rfl
def ZM(v:SV)(A B:Prop):Prop:=match v with
 | .v false [.dat (.bool b)]=>(b=true->A)/\(b=false->B)
 |_=>False
theorem QZ(b:Bool)(A B:Prop):ZM (.v false [.dat (.bool b)]) A B=((b=true->A)/\(b=false->B)):=rfl
theorem bO{n:Int}(h1: -9223372036854775808<=n)(h2:n<=9223372036854775807):IntKind.i64.wrap n=n:=by rw[IntKind.wrap_i64];omega
attribute [simp] Bi Pe RT P6 K6 Jg LP uD DR evG Bj vOp ZB put ex exF cst one aft St.Kd St.T8 St.U5 St.LY B4 EK Gu Eb Cx E4 yD Dz CO Dc rows xA G5 lenOf LM Lu Jz BQ CZ EX NA D.flat rid TI.agg UZ Vw Bh DB N3 Im Gg QZ
end Go.Sh
namespace Go.Sh
open Go.RowKit Go.ChangeShapes Go.WideShapes Go.Deep
inductive Shp where
 |int (k:IntKind)
 |bool
 |str
 |sl (es:List Shp)
def HW(P:Program)(f:TypeId->Option (List Shp)):Nat->List Field->Option (List Shp)
 |_,[]=>some []
 |j,x::C=>if x.offset=j then(match f x.type,HW P f (j+P.cellsOf x.type) C with
   |some a,some b=>if a.length=P.cellsOf x.type then some (a++b)else none
   |_,_=>none)else none
def Vj(P:Program):Nat->TypeId->Option (List Shp)
 |0,_=>none
 |n+1,t=>match P.underlying t with
  |some (.int k)=>some [.int k]
  |some .bool=>some [.bool]
  |some .string=>some [.str]
  |some (.slice e)=>match Vj P n e with
   |some es=>if es.length=P.cellsOf e/\0<es.length then some [.sl es]else none
   |none=>none
  |some (.struct j)=>match HW P (Vj P n) 0 j.toList with
   |some es=>if es.length=P.cellsOf t then some es else none
   |none=>none
  |_=>none
mutual
def Has:Shp->D->Prop
 | .int k,d=>∃n,d=.int k n/\(Lit.int k n).wf=true
 | .bool,d=>∃b,d=.bool b
 | .str,d=>∃s,d=.str s/\s.size<=maxLen
 | .sl es,d=>∃j,d=.sl j/\j.length<=maxLen/\∀x∈j,HS es x
def HS:List Shp->List D->Prop
 |[],ds=>ds=[]
 |e::es,ds=>∃d j,ds=d::j/\Has e d/\HS es j
end
theorem HS.append:∀{a b:List Shp} {x y:List D},HS a x->HS b y->HS (a++b) (x++y)
 |[],b,x,y,h,k=>by simp only[HS]at h;subst h;exact k
 |e::a,b,x,y,h,k=>by simp only[HS]at h;obtain⟨d,j,rfl,h1,h2⟩:=h;simp only[List.cons_append,HS];exact⟨d,j++y,rfl,h1,HS.append h2 k⟩
theorem HS.length:∀{a:List Shp} {x:List D},HS a x->x.length=a.length
 |[],x,h=>by simp only[HS]at h;subst h;rfl
 |e::a,x,h=>by simp only[HS]at h;obtain⟨d,j,rfl,h1,h2⟩:=h;simp[HS.length h2]
section
variable {H:Type}{enc:TypeId×Value->H}{P:Program}{w:World}{base:Nat}{spare:Nat->Bool}{held:Bool}
theorem BX{w:World}{d:D}{v:Value}{F:List Nat}(h:Rep w d v F):aH w [d] [v] F:=by simp only[aH];exact⟨v,[],F,[],rfl,jH,h,rfl,rfl⟩
theorem GG{e:Shp}{d:D}(h:Has e d):HS [e] [d]:=by simp only[HS];exact⟨d,[],rfl,h,rfl⟩
theorem Ns{n m:Nat}(U:∀(t:TypeId) (j:List Shp) (cs:List Value) (x:DataW H×List MemPlace),Vj P n t=some j->DataW.trod enc P w base spare held m t cs=some x->∃ds F,aH w ds cs F/\HS j ds):
  ∀(C:List Field) (off:Nat) (j:List Shp) (cs:List Value),HW P (Vj P n) off C=some j->off+j.length=cs.length->
   (∀f∈C,∃x,DataW.trod enc P w base spare held m f.type ((cs.drop f.offset).take (P.cellsOf f.type))=some x)->∃ds F,aH w ds (cs.drop off) F/\HS j ds
 |[],off,j,cs,h,I,_=>by simp[HW]at h;subst h;refine⟨[],[],?_,by simp[HS]⟩;rw[List.drop_of_length_le (by simpa using Nat.le_of_eq I.symm)];simp[aH]
 |f::C,off,j,cs,h,I,J=>by
  simp only[HW]at h
  split at h
  ·rename_i ho
   split at h
   ·rename_i a b ha hb
    split at h
    ·rename_i hlen
     cases h
     obtain⟨x,hx⟩:=J f jH
     obtain⟨d1,F1,k1,k2⟩:=U _ _ _ _ ha hx
     obtain⟨d2,F2,k3,k4⟩:=Ns U C _ b cs hb (by rw[qE,hlen]at I;omega) λy hy=>J y (by simp[hy])
     refine⟨d1++d2,F1++F2,?_,k2.append k4⟩
     have:cs.drop off=(cs.drop f.offset).take (P.cellsOf f.type)++cs.drop (off+P.cellsOf f.type):=by rw[ho,<-List.drop_drop,qo]
     rw[this]
     exact k1.append k3
    ·cases h
   ·cases h
  ·cases h
theorem TX{a:Addr}{v:Value}(h:w.cell? a=some v):a=⟨a.block,a.off,none⟩:=by
 obtain⟨b,o,s⟩:=a
 unfold World.cell? at h
 cases s with
 |none=>rfl
 |some s=>
  split at h
  ·simp at h
  ·cases h
theorem OV{es:List Shp}{C:Nat}(hC:es.length=C){a:Addr}:∀(len:Nat),(∀i,i<len->∃I ds F,I.length=C/\(∀j,j<C->w.cell? (a.add (i*C+j))=I[j]?)/\aH w ds I F/\HS es ds)->
  ∃U cells G,U.length=len/\(∀x∈U,HS es x)/\aU w U cells G/\cells.length=len*C/\∀j,j<len*C->w.cell? (a.add j)=cells[j]?
 |0,_=>⟨[],[],[],rfl,jH,by simp[aU],jH,jH⟩
 |len+1,h=>by
  obtain⟨U,cells,G,h1,h2,h3,h4,h5⟩:=OV hC len λi hi=>h i jF
  obtain⟨I,ds,F,k1,k2,k3,k4⟩:=h len jF
  refine⟨U++[ds],cells++I,G++F,by simp[h1],?_,?_,by rw[qE,h4,k1,Nat.add_mul];omega,?_⟩
  ·intro x J;rcases qP.1 J with J|J;(exact h2 x J);·simp at J;subst J;exact k4
  ·refine h3.append ?_;simp only[aU];exact⟨I,[],F,[],jH,jH,k3,rfl,rfl⟩
  ·intro j hj;rw[Nat.add_mul,Nat.one_mul]at hj;by_cases hjl:j<len*C;(rw[h5 j hjl,qy jF]);·have:=k2 (j-len*C) jF;rw[show len*C+(j-len*C)=j from by omega]at this;rw[this,qz jF,h4]
theorem OB:∀(n:Nat) (m:Nat) (t:TypeId) (C:List Shp) (cs:List Value) (x:DataW H×List MemPlace),Vj P n t=some C->DataW.trod enc P w base spare held m t cs=some x->∃ds F,aH w ds cs F/\HS C ds
 |0,_,_,_,_,_,h,_=>by simp[Vj]at h
 |n+1,m,t,C,cs,x,h,hx=>by
  simp only[Vj]at h
  split at h
  ·rename_i k I;cases h;obtain⟨v,rfl,_,hw⟩:=DataW.trod_int I hx;exact⟨[.int k v],[],BX (by simp[Rep]),GG (by simp[Has,hw])⟩
  ·rename_i I;cases h;obtain⟨v,rfl,_⟩:=DataW.trod_bool I hx;exact⟨[.bool v],[],BX (by simp[Rep]),GG (by simp[Has])⟩
  ·rename_i I;cases h;obtain⟨v,rfl,_,hw⟩:=DataW.trod_string I hx;exact⟨[.str v],[],BX (by simp[Rep]),GG (by simp[Has,hw])⟩
  ·rename_i e I
   split at h
   ·rename_i es U
    split at h
    ·rename_i hc
     cases h
     rcases open_slice I hx with⟨rfl,_⟩|⟨a,len,cap,mm,fu,Dd,Pl,rfl,h1,h2,h3,h4,_,h6⟩
     ·refine⟨[.sl []],[],?_,?_⟩;(refine BX ?_;simp only[Rep];exact⟨none,0,0,rfl,rfl,qg _,.inl jH⟩);·refine GG ?_;simp only[Has];exact⟨[],rfl,jH,jH⟩
     ·have hle:len<=mm:=by rw[h4];split<;>omega
      obtain⟨xs,cells,G,k1,k2,k3,k4,k5⟩:=OV (w:=w) hc.1 (a:=a) len λi hi=>by obtain⟨cs',q1,q2⟩:=h6 i jF;obtain⟨_,q3,q4⟩:=World.cells?_some q1;obtain⟨ds,F,q5,q6⟩:=OB n fu e es cs' _ U q2;exact⟨cs',ds,F,q3,λj hj=>by rw[<-Go.Deep.add_add];exact q4 j hj,q5,q6⟩
      rcases Nat.eq_zero_or_pos len with h0|h0
      ·have hxs:xs=[]:=ql jF;subst hxs;refine⟨[.sl []],[],?_,?_⟩;(refine BX ?_;simp only[Rep];exact⟨some a,len,cap,rfl,by simpa using h0,h2,.inl ⟨h0,trivial⟩⟩);·refine GG ?_;simp only[Has];exact⟨[],rfl,jH,jH⟩
      ·have hpos:0<len*P.cellsOf e:=Nat.mul_pos h0 jF
       have J:=k5 0 hpos
       have hc0':cells[0]? =some (cells[0]'jF):=qF jF
       have hadd0:a.add 0=a:=by simp[Addr.add]
       rw[hadd0,hc0']at J
       have ha:=TX J
       refine⟨[.sl xs],a.block::G,?_,?_⟩
       ·refine BX ?_
        simp only[Rep]
        refine⟨some a,len,cap,rfl,k1.symm,h2,.inr ⟨a.block,a.off,cells,P.cellsOf e,G,by rw[<-ha],World.block_lt_of_cell? w a J,rfl,?_,k4,?_,k3⟩⟩
        ·intro j u hu'
         have hj:j<len*P.cellsOf e:=by rw[<-k4];exact(qe.1 hu').1
         have:=k5 j hj
         rw[ha,Addr.add_lit]at this
         rw[this];exact hu'
        ·intro x hx';rw[(k2 x hx').length,hc.1]
       ·refine GG ?_;simp only[Has];exact⟨xs,rfl,jF,k2⟩
    ·cases h
   ·cases h
  ·rename_i fs I
   split at h
   ·rename_i es U
    split at h
    ·rename_i hc
     cases h
     obtain⟨xs,mm,rfl,_,q1,q2,q3⟩:=DataW.trod_struct I hx
     have:=Ns (m:=mm) (λt C cs x=>OB n mm t C cs x) fs.toList 0 C cs U jF (λf hf=>by
      obtain⟨i,hi⟩:=List.getElem?_of_mem hf
      have hi':fs[i]? =some f:=by simpa using hi
      have hlt:i<xs.length:=by rw[q2];exact(qm.1 hi').1
      exact⟨xs[i],by rw[q3 i f hi',qF hlt]⟩)
     simpa using this
    ·cases h
   ·cases h
  ·cases h
theorem Ze{n:Nat}{t:TypeId}{C:List Shp}{v:Value}{d:DataW H}{p:List MemPlace}{b:Nat}(h:Vj P n t=some C)(I:Value.okWide P w .any b t v)(J:DataW.Trod enc P w base spare held t v d p):
  ∃ds F,HS C ds/\RA w v (J3 P t,ds) F:=by
 obtain⟨fuel,hf⟩:=id J
 obtain⟨ds,F,h1,h2⟩:=OB n fuel t C _ _ h hf
 refine⟨ds,F,h2,?_⟩
 have one:v.cells.toList=[v]->∃d,ds=[d]/\Rep w d v F:=by
  intro hc
  rw[hc]at h1
  have hl:=h1.length
  match ds,h1,hl with
  |[d],h1,_=>
   simp only[aH]at h1
   obtain⟨u,us,F1,F2,e1,e2,e3,_,e5⟩:=h1
   simp at e1
   rw[e5,qY]at e2
   exact⟨d,rfl,e2 ▸ e1.1 ▸ e3⟩
 cases n with
 |zero=>simp[Vj]at h
 |succ n=>
  simp only[Vj]at h
  unfold J3
  split at h
  ·rename_i k j;obtain⟨x,rfl,_⟩:=open_int j I J;rw[j];exact one rfl
  ·rename_i j;obtain⟨x,rfl,_⟩:=open_bool j I J;rw[j];exact one rfl
  ·rename_i j;obtain⟨x,rfl,_⟩:=Go.ChangeMaps.open_string j I J;rw[j];exact one rfl
  ·rename_i e j;obtain⟨x,y,z,rfl⟩:=okWide_slice j I;rw[j];exact one rfl
  ·rename_i fs j;obtain⟨U,rfl,_⟩:=okWide_struct j I;rw[j];exact⟨U,rfl,h1⟩
  ·cases h
theorem S4{f:Func}{s:ChangeSpec}{apart fresh handsOn again:Bool}{W J:World}{args:Array Value}{v:Value}{ds gs:List (DataW H)}{before pa pv:List MemPlace}
  (hW:DataW.Whole enc P f.params.toList s.vars apart W args.toList ds gs before)
  (hres:∀(b:Nat) (sp:Nat->Bool) (hd:Bool),DataW.TrodAll enc P J b sp hd f.resultTypes.toList (v.resultList f.resultTypes.size) (s.fn H (ds++gs)).results [])
  (hargs:∀sp:Nat->Bool,(∀p∈before,sp p.block=true)->DataW.TrodAll enc P J 0 sp true f.params.toList args.toList (s.fn H (ds++gs)).args pa)
  (hvars:∀sp:Nat->Bool,(∀p∈before,sp p.block=true)->DataW.TrodVars enc P J sp s.vars (s.fn H (ds++gs)).vars pv)
  (I:before=pa++pv)(hb:Below W.heap.size W J)
  (hok:∀(j:Nat) (t:TypeId) (r:Value),f.resultTypes[j]? =some t->(v.resultList f.resultTypes.size)[j]? =some r->Value.okWide P J .any 0 t r):
  s.post enc P f apart fresh handsOn again W args v J:=by
 have hlt:∀p∈before,p.block<W.heap.size:=λp C=>hW.lt p C
 have hold:∀p∈before,(λb=>decide (b<W.heap.size)) p.block=true:=λp C=>by simpa using hlt p C
 refine⟨ds,gs,before,[],pa,pv,hW,hres _ _ _,hargs _ hold,hvars _ hold,World.keptBut_mono (λp C=>⟨C,?_⟩) (hb.frame (· ∈before)),λ_=> ?_⟩
 ·rw[I,qP]at C;exact Or.inr C
 ·obtain⟨_,_,_,_,_,hz,hn⟩:=hW
  refine⟨hok,_,_,([]++pa)++pv,⟨[]++pa,pv,trodAll_append (hargs _ (λ_ _=>rfl)) (hres _ _ _),hvars _ (λ_ _=>rfl),rfl,?_,?_⟩,?_⟩
  ·intro b off C
   have U:MemPlace.cell b off∈before:=by rw[I];simpa using C
   rw[hb.frozen (hlt _ U)]
   exact hz b off U
  ·intro ha;have:=hn ha;rw[I]at this;simpa using this
  ·intro p C _;rw[I];simpa using C
theorem II(hl:laidOutB P=true){W W':World}(hb:Below W.heap.size W W'){sp:Nat->Bool}:∀{ts:List TypeId} {vs:List Value} {ds:List (DataW H)} {C:List MemPlace},DataW.TrodAll enc P W 0 (λ_=>true) true ts vs ds C->
  (∀t∈ts,P.readableRec t=true/\t<P.types.size)->(∀x∈C,x.block<W.heap.size)->(∀x∈C,sp x.block=true)->DataW.TrodAll enc P W' 0 sp true ts vs ds C
 |[],vs,ds,C,h,_,_,_=>by obtain⟨rfl,rfl,rfl⟩:=trodAll_nil h;rfl
 |t::ts,vs,ds,C,h,U,I,J=>by obtain⟨v,vs',d,ds',p,q,rfl,rfl,rfl,h1,h2⟩:=trodAll_cons h;refine⟨p,q,?_,?_,rfl⟩;(exact WideElems.Trod_stays hl (U t jH).1 (U t jH).2 h1 (λx j=>hb.same (I x (by simp[j]))) (λx j=>J x (by simp[j])));·exact II hl hb h2 (λu hu=>U u (by simp[hu])) (λx j=>I x (by simp[j])) (λx j=>J x (by simp[j]))
def Zb(P:Program)(n:Nat):List TypeId->List (List Shp)->Prop
 |[],j=>j=[]
 |t::ts,j=>∃s C,j=s::C/\Vj P n t=some s/\Zb P n ts C
def UI:List (List Shp)->List (List D)->Prop
 |[],ds=>ds=[]
 |s::C,ds=>∃d j,ds=d::j/\HS s d/\UI C j
def Ux(P:Program):List TypeId->List (List D)->List (Bool×List D)
 |t::ts,d::ds=>(J3 P t,d)::Ux P ts ds
 |_,_=>[]
theorem RW{n:Nat}{W:World}{b:Nat}:∀{ts:List TypeId} {vs:List Value} {ds:List (DataW H)} {ps:List MemPlace} {I:List (List Shp)},Zb P n ts I->DataW.TrodAll enc P W 0 (λ_=>true) true ts vs ds ps->
  (∀(j:Nat) t v,ts[j]? =some t->vs[j]? =some v->Value.okWide P W .any b t v)->∃C F,UI I C/\yN W vs (Ux P ts C) F
 |[],vs,ds,ps,I,J,h,hv=>by obtain⟨rfl,rfl,rfl⟩:=trodAll_nil h;have:I=[]:=J;subst this;exact⟨[],[],rfl,rfl⟩
 |t::ts,vs,ds,ps,I,J,h,hv=>by
  obtain⟨s,ss,rfl,U,hs2⟩:=J
  obtain⟨v,vs',d,ds',p,q,rfl,rfl,rfl,h1,h2⟩:=trodAll_cons h
  obtain⟨d1,F1,k1,k2⟩:=Ze U (hv 0 t v rfl rfl) h1
  obtain⟨C,F2,k3,k4⟩:=RW hs2 h2 λj t' v' ht hv'=>hv (j+1) t' v' (by simpa using ht) (by simpa using hv')
  exact⟨d1::C,F1++F2,⟨d1,C,rfl,k1,k3⟩,F1,F2,rfl,k2,k4⟩
theorem VO{f:FuncId}{fn:Func}{s:ChangeSpec}{n tb:Nat}{shs:List (List Shp)}(hl:laidOutB P=true)(hvars:s.vars=[])(hres:fn.resultTypes= #[tb])(htb:P.underlying tb=some .bool)(hsh:Zb P n fn.params.toList shs)
  (hread:∀t∈fn.params.toList,P.readableRec t=true/\t<P.types.size)
  (hfn:∀(ds:List (DataW H)),ds.length=fn.params.toList.length->s.fn H (ds++[])={ results:=[.lit (.bool true)],args:=ds })
  (hc:∀dss,UI shs dss->gL P f (Ux P fn.params.toList dss) [(false,[.ro (.bool true)])])
  {W:World}{b:Nat}{args:Array Value}{ds gs:List (DataW H)}{before:List MemPlace}(hval:∀(j:Nat) t v,fn.params[j]? =some t->args[j]? =some v->Value.okWide P W .any b t v)
  (hW:DataW.Whole enc P fn.params.toList s.vars false W args.toList ds gs before):
  Calls P f args W λe W'=>∃v,e=.returned v/\s.post enc P fn false true false false W args v W':=by
 have hW':=hW
 obtain⟨p,q,hA,hV,rfl,hfz,hnd⟩:=hW
 rw[hvars]at hV
 obtain⟨rfl,rfl⟩:=trodVars_none hV
 obtain⟨dss,Fa,k1,k2⟩:=RW hsh hA λj t v ht hv=>hval j t v (by simpa using ht) (by simpa using hv)
 refine(((hc dss k1).old rfl).2 W args Fa k2).mono λe W' hh=> ?_
 obtain⟨v,rfl,⟨F,X,_,_,_,hr⟩,hb⟩:=hh
 have hv:v=.bool true:=by have h1:Rep W' (.bool true) v []:=hr.1;simp only[Rep]at h1;exact h1.1
 subst hv
 have hdl:ds.length=fn.params.toList.length:=by
  have:∀{ts:List TypeId} {vs:List Value} {ds:List (DataW H)} {ps:List MemPlace},DataW.TrodAll enc P W 0 (λ_=>true) true ts vs ds ps->ds.length=ts.length:=by
   intro ts
   induction ts with
   |nil=>intro vs ds ps h;obtain⟨_,rfl,_⟩:=trodAll_nil h;rfl
   |cons t ts ih=>intro vs ds ps h;obtain⟨v,vs',d,ds',p,q,rfl,rfl,rfl,h1,h2⟩:=trodAll_cons h;simp[ih h2]
  exact this hA
 have hfn':=hfn ds hdl
 refine⟨_,rfl,S4 (pa:=p) (pv:=[]) hW' ?_ ?_ ?_ jH hb (ok_one hres rfl (okWide_bool_mk htb _))⟩
 ·intro b sp hd;rw[hfn',hres];exact trodAll_cons_mk (shut_bool htb _) trodAll_mk0
 ·intro sp hsp;rw[hfn'];exact II hl hb hA hread (λx hx=>hW'.lt x (by simpa using hx)) (λx hx=>hsp x (by simpa using hx))
 ·intro sp hsp;rw[hfn',hvars];rfl
end
end Go.Sh
namespace Go.Sh
open Go.RowKit
def Is(s t:St):Prop:=t=s
theorem Is.mk(t:St):Is t t:=rfl
theorem Er{P:Program}{T:OE}{N:Nat}{ops:Array Oper}:∀(l:List Oper) {s:St} {K K':St->Prop},(∀s,K s->K' s)->uD P T N ops l s K->uD P T N ops l s K'
 |[],_,_,_,h,j=>h _ j
 |o::l,s,_,_,h,j=>Gx (evG T N ops o) (λI C=>Er l h C) j
theorem E9{P:Program}:∀(p:Prog) {s:St} {R W:List Loc} {K K':St->List Loc->List Loc->Prop},(∀s R W,K s R W->K' s R W)->exF P p s R W K->exF P p s R W K'
 | .done,_,_,_,_,_,h,j=>h _ _ _ j
 | .fail,_,_,_,_,_,_,j=>j
 | .getT t k,s,_,_,_,_,h,j=>E9 (k (s.t t)) h j
 | .GW t v k,s,_,_,_,_,h,j=>E9 k h j
 | .getH i k,s,_,_,_,_,h,j=>E9 (k (s.h i)) h j
 | .fP i x k,s,_,_,_,_,h,j=>E9 k h j
 | .call f args k,s,_,_,_,_,h,⟨C,hc,j⟩=>⟨C,hc,E9 (k C) h j⟩
 | .must p k,s,_,_,_,_,h,⟨I,j⟩=>⟨I,E9 k h j⟩
theorem Mq{P:Program}{T:OE}{N:Nat}{ops:Array Oper}:∀(l:List Oper) {s:St} {j:List Fp} {K K':St->List Fp->Prop},(∀s a,K s a->K' s a)->DR P T N ops l s j K->DR P T N ops l s j K'
 |[],_,_,_,_,h,C=>h _ _ C
 |o::l,s,_,_,_,h,C=>E9 (evG T N ops o) (λJ R W I=>Mq l h I) C
section
variable {P:Program}{base N:Nat}{w0:W0}{Z:St->Prop}{k:List Fr}{s s':St}
theorem bE{id:Nat}{ops:Array Oper}(h:uD P (fN P) N ops ops.toList s (Is s'))(hk:aft P base w0 N Z k .normal s'):SW P base w0 N (.region id ops false) s (aft P base w0 N Z k):=
 L1 (Er ops.toList (λt j=>by rw[show t=s' from j];exact hk) h)
def O5(ops:Array Oper)(j:List Fp):Prop:=HF ops j=true
theorem O5.mk{ops:Array Oper}{j:List Fp}(h:HF ops j=true):O5 ops j:=h
theorem BO(I:P.follows .mixedOrders=true){id:Nat}{ops:Array Oper}(h:DR P (fN P) N ops ops.toList s [] λt j=>O5 ops j/\Is s' t)(hk:aft P base w0 N Z k .normal s'):SW P base w0 N (.region id ops true) s (aft P base w0 N Z k):=
 Ut I (Mq ops.toList (λt j C=>⟨C.1,by rw[show t=s' from C.2];exact hk⟩) h)
theorem Js{id:Nat}(h:aft P base w0 N Z k .normal s):aft P base w0 N Z (.block id::k) (.exit id) s:=by simp only[aft,if_true];exact h
theorem aBb{id j:Nat}(C:j≠id)(h:aft P base w0 N Z k (.exit j) s):aft P base w0 N Z (.block id::k) (.exit j) s:=by simp only[aft,C,if_false];exact h
theorem EP{c:Code}{id:Nat}(h:aft P base w0 N Z k (.exit id) s):aft P base w0 N Z (.code c::k) (.exit id) s:=h
theorem dV{J:St->Prop}(h:J s):aft P base w0 N Z (.inv J::k) .normal s:=h
theorem EF{J:St->Prop}{id:Nat}(h:aft P base w0 N Z k (.exit id) s):aft P base w0 N Z (.inv J::k) (.exit id) s:=h
theorem CE{t:Nat}{x y:Code}(hb:s.t t=.v false [.dat (.bool true)])(h:SW P base w0 N x s (aft P base w0 N Z k)):SW P base w0 N (.cond (.tmp t) x y) s (aft P base w0 N Z k):=
 QE hb (λ_=>h) (λe=>by cases e)
theorem Dk{t:Nat}{x y:Code}(hb:s.t t=.v false [.dat (.bool false)])(h:SW P base w0 N y s (aft P base w0 N Z k)):SW P base w0 N (.cond (.tmp t) x y) s (aft P base w0 N Z k):=
 QE hb (λe=>by cases e) (λ_=>h)
theorem eE{c:Code}{Q:Exit->St->Prop}{J:St->Prop}(j:J s)(h:∀s,J s->SW P base w0 N c s Q):SW P base w0 N c s Q:=h s j
end
def fuel:Nat:=18446744073709551616
theorem dP(b:Bool):b=true\/b=false:=by cases b<;>simp
theorem Cw(b:Bool):b=false\/b=true:=by cases b<;>simp
theorem bG{α:Type}{b:Bool}{x y z:α}(hb:b=true)(h:(if b=true then x else y)=z):x=z:=by rw[if_pos hb]at h;exact h
theorem bF{α:Type}{b:Bool}{x y z:α}(hb:b=false)(h:(if b=true then x else y)=z):y=z:=by rw[hb]at h;simpa using h
theorem bind_some{α β:Type}{o:Option α}{f:α->Option β}{r:β}(h:o.bind f=some r):∃x,o=some x/\f x=some r:=by
 cases o with
 |none=>cases h
 |some x=>exact⟨x,rfl,h⟩
def idx{α:Type}(xs:List α)(i:Int):Option α:=if 0<=i then xs[i.toNat]? else none
theorem rR{α:Type}{xs:List α}{i:Int}{x:α}(h:idx xs i=some x):0<=i/\xs[i.toNat]? =some x/\i.toNat<xs.length:=by unfold idx at h;split at h;(rename_i j;exact⟨j,h,(qe.1 h).1⟩);·cases h
def Xj(s:ByteArray)(i:Int):Option UInt8:=if 0<=i then s[i.toNat]? else none
theorem TQ{s:ByteArray}{i:Int}{x:UInt8}(h:Xj s i=some x):0<=i/\s[i.toNat]? =some x:=by unfold Xj at h;split at h;(rename_i j;exact⟨j,h⟩);·cases h
def app{α:Type}(b:Nat)(xs ys:List α):Option (List α):=if(xs.length+ys.length)*b<=140737488355328 then some (xs++ys)else none
theorem gO{α:Type}{b:Nat}{xs ys zs:List α}(h:app b xs ys=some zs):(xs.length+ys.length)*b<=140737488355328:=by unfold app at h;split at h;(assumption);·cases h
def aAO{α:Type}(b:Nat)(ys:List α):Option (List α):=if ys.length*b<=140737488355328 then some ys else none
theorem iH{α:Type}{b:Nat}{ys zs:List α}(h:aAO b ys=some zs):ys.length*b<=140737488355328:=by unfold aAO at h;split at h;(assumption);·cases h
def mkL{α:Type}(b:Nat)(n:Int)(z:α):Option (List α):=if 0<=n/\n.toNat*b<=140737488355328/\n<=9223372036854775807 then some (List.replicate n.toNat z)else none
theorem Xf{α:Type}{b:Nat}{n:Int}{z:α}{x:List α}(h:mkL b n z=some x):0<=n/\n.toNat*b<=140737488355328/\n<=9223372036854775807:=by unfold mkL at h;split at h;(assumption);·cases h
def cat(x y:ByteArray):Option ByteArray:=if x.size+y.size<=9223372036854775807 then some (x++y)else none
theorem Wf{x y z:ByteArray}(h:cat x y=some z):x.size+y.size<=9223372036854775807:=by unfold cat at h;split at h;(assumption);·cases h
def enI(n:Int):List D:=[.int .i64 n]
def enB(n:Int):List D:=[.int .u8 n]
def enS(s:ByteArray):List D:=[.str s]
def enT(b:Bool):List D:=[.bool b]
def enL{α:Type}(f:α->List D)(xs:List α):List D:=[.sl (xs.map f)]
def bR(s:ByteArray):List Int:=s.data.toList.map λb=>(b.toNat:Int)
theorem VK(s:ByteArray):Da s.data.toList=(bR s).map enB:=by unfold Da bR enB;rw[List.map_map];rfl
def dE(l:List Int):ByteArray:=⟨(l.map λn=>UInt8.ofNat n.toNat).toArray⟩
def toStr(l:List Int):Option ByteArray:=if l.all (λn=>decide (0<=n/\n<256))=true then some (dE l)else none
theorem V8(l:List Int):strOf (l.map enB)=dE l:=by unfold strOf dE enB;rw[List.map_map];rfl
theorem SJ{l:List Int}{z:ByteArray}(h:toStr l=some z):∀x∈l.map enB,∃b:UInt8,x=[.int .u8 (b.toNat:Int)]:=by
 unfold toStr at h
 split at h
 ·rename_i j
  intro x I
  obtain⟨n,C,rfl⟩:=qx.1 I
  have:=qR.1 j n C
  simp only[qL]at this
  refine⟨UInt8.ofNat n.toNat,?_⟩
  unfold enB
  have h1:(UInt8.ofNat n.toNat).toNat=n.toNat:=by simp;omega
  rw[h1,Int.toNat_of_nonneg this.1]
 ·cases h
def Bd{α:Type}(xs:List α)(i:Int):Option (List α):=if 0<=i/\i.toNat<=xs.length then some (xs.drop i.toNat)else none
def AX{α:Type}(xs:List α)(j:Int):Option (List α):=if 0<=j/\j.toNat<=xs.length then some (xs.take j.toNat)else none
def UK{α:Type}(xs:List α)(i j:Int):Option (List α):=if 0<=i/\i<=j/\j.toNat<=xs.length then some ((xs.take j.toNat).drop i.toNat)else none
theorem Nk{α:Type}{xs z:List α}{i:Int}{f:α->List D}{n:Nat}(C:∀x,(f x).length=n)(h:Bd xs i=some z):0<=i/\i.toNat<=xs.length/\∀x∈xs.map f,x.length=n:=by unfold Bd at h;split at h;(rename_i j;refine⟨j.1,j.2,λx I=> ?_⟩;obtain⟨y,_,rfl⟩:=qx.1 I;exact C y);·cases h
theorem Nb{α:Type}{xs z:List α}{i:Int}{f:α->List D}{n:Nat}(C:∀x,(f x).length=n)(h:AX xs i=some z):0<=i/\i.toNat<=xs.length/\∀x∈xs.map f,x.length=n:=by unfold AX at h;split at h;(rename_i j;refine⟨j.1,j.2,λx I=> ?_⟩;obtain⟨y,_,rfl⟩:=qx.1 I;exact C y);·cases h
theorem Je{α:Type}{xs z:List α}{i j:Int}{f:α->List D}{n:Nat}(I:∀x,(f x).length=n)(h:UK xs i j=some z):0<=i/\i<=j/\j.toNat<=xs.length/\∀x∈xs.map f,x.length=n:=by unfold UK at h;split at h;(rename_i C;refine⟨C.1,C.2.1,C.2.2,λx J=> ?_⟩;obtain⟨y,_,rfl⟩:=qx.1 J;exact I y);·cases h
theorem GP{α:Type}{f:α->List D}(j:∀x,(f x).all D.flat=true)(xs:List α):(xs.map f).all (λy=>y.all D.flat)=true:=by rw[qR];intro y C;obtain⟨x,_,rfl⟩:=qx.1 C;exact j x
theorem enI.fl(l:List Int):(List.map enI l).all (λy=>y.all D.flat)=true:=GP (λ_=>rfl) l
theorem enB.fl(l:List Int):(List.map enB l).all (λy=>y.all D.flat)=true:=GP (λ_=>rfl) l
theorem enS.fl(l:List ByteArray):(List.map enS l).all (λy=>y.all D.flat)=true:=GP (λ_=>rfl) l
theorem enT.fl(l:List Bool):(List.map enT l).all (λy=>y.all D.flat)=true:=GP (λ_=>rfl) l
theorem NZ {P : Program} {f : FuncId} {fn : Func} {c : Code} {args : List (Bool × List D)} {rs : List (Bool × List RC)} {N : Nat} {vars : List ResultVar} (hf : P.funcs[f]? = some fn) (hb : fn.body = some c) (hN : fn.ntmps = N) (hv : fn.results.toList = vars) (hnm : (fn.name == "runtime.NumGoroutine") = false) (hn : args.length <= N)
  (h : ∀(base:Nat) (w0:W0),SW P base w0 N c (init args) (aft P base w0 N (Ret (fN P) vars rs) [])):gL P f args rs:=by
 subst hN hv
 exact Vx hf hb hnm hn h
end Go.Sh
namespace Go.Sh
theorem Q8(N d:Nat)(a b:Bool×List RC)(j:List (Bool×List RC)):CO N (some d) (a::b::j)=Dz d 0 (a::b::j) λC=>put N (some d) (.tup C):=rfl
theorem QM(N d:Nat):CO N (some d) []=Dz d 0 [] λj=>put N (some d) (.tup j):=rfl
theorem Ru(sz k:Nat)(xs:List (List D)):(KO sz 0 k xs).drop k=xs.drop k:=by unfold KO;rw[List.take_zero,List.nil_append,qp];exact List.drop_left' jH
theorem VS(sz k:Nat)(xs:List (List D)):(KO sz 0 k xs).length-k=xs.length-k:=by unfold KO;simp
theorem Wt{α:Type}(xs:List α)(k:Nat):(xs.drop k).take (xs.length-k)=xs.drop k:=List.take_of_length_le jH
theorem Pp{sz:Nat}{i:Int}{xs:List (List D)}(h:0<=i):0<=i/\i.toNat<=(KO sz 0 i.toNat xs).length:=⟨h,by unfold KO;simp⟩
theorem VQ{α:Type}(a:α)(as j:List α):List.append (a::as) j=a::List.append as j:=rfl
theorem Xx{α:Type}(j:List α):List.append [] j=j:=rfl
theorem Yy(xs:List (List D)):D.flat (.sl xs)=false:=rfl
theorem WJ(xs:List D):D.flat (.ptr xs)=false:=rfl
theorem VX(u:Value):D.flat (.val u)=false:=rfl
def Ez9:=PLift.up (qI @uD.eq_1 (qI @uD.eq_2 (qI @DR.eq_1 (qI @DR.eq_2 (qI @evG.eq_1 (qI @Bj.eq_1 (qI @vOp.eq_1 (qI @vOp.eq_2 (qI @vOp.eq_3 (qI @vOp.eq_4 (qI @ZB.eq_1 (qI @ZB.eq_2 (qI @put.eq_1 (qI @put.eq_2 (qI @ex.eq_1 (qI @ex.eq_2 (qI @ex.eq_3 (qI @ex.eq_4 (qI @ex.eq_5 (qI @ex.eq_6 (qI @ex.eq_7 (qI @ex.eq_8 (qI @exF.eq_1 (qI @exF.eq_2 (qI @exF.eq_3 (qI @exF.eq_4 (qI @exF.eq_5 (qI @exF.eq_6 (qI @exF.eq_7 (qI @exF.eq_8 (qI @cst.eq_1 (qI @cst.eq_2 (qI @cst.eq_3 (qI @cst.eq_4 (qI @one.eq_1 (qI @B4.eq_1 (qI @B4.eq_2 (qI @B4.eq_3 (qI @B4.eq_4 (qI @lab.eq_1 (qI @lab.eq_2 (qI @Kq.eq_1 (qI @Kq.eq_2 (qI @Kq.eq_3 (qI @Kq.eq_4 (qI @Kq.eq_5 (qI @Kq.eq_6 (qI @Kq.eq_7 (qI @Kq.eq_8 (qI @Kq.eq_9 (qI @EK.eq_1 (qI @EK.eq_2 (qI @EK.eq_3 (qI @EK.eq_4 (qI @EK.eq_5 (qI @Gu.eq_1 (qI @Eb.eq_1 (qI @Eb.eq_2 (qI @Cx.eq_1 (qI @Cx.eq_2 (qI @Cx.eq_3 (qI @Cx.eq_4 (qI @Cx.eq_5 (qI @Cx.eq_6 (qI @Cx.eq_7 (qI @Cx.eq_8 (qI @Cx.eq_9 (qI @E4.eq_1 (qI @E4.eq_2 (qI @yD.eq_1 (qI @yD.eq_2 (qI @yD.eq_3 (qI @yD.eq_4 (qI @yD.eq_5 (qI @Dz.eq_1 (qI @Dz.eq_2 (qI @CO.eq_1 (qI @CO.eq_2 (qI @K6.eq_1 (qI @AL.eq_1 (qI @AL.eq_2 (qI @AL.eq_3 (qI @AL.eq_4 (qI @AL.eq_5 (qI @AL.eq_6 (qI @AL.eq_7 (qI @PZ.eq_1 (qI @PZ.eq_2 (qI @OR.eq_1 (qI @OR.eq_2 (qI @Fg.eq_1 (qI @Fg.eq_2 (qI @Fg.eq_3 (qI @Fg.eq_4 (qI @Fg.eq_5 (qI @Fg.eq_6 (qI @Fg.eq_7 (qI @Fg.eq_8 (qI @RC.ed.eq_1 (qI @RC.ed.eq_2 (qI @RC.ed.eq_3 (qI @RC.ed.eq_4 (qI @Qh.eq_1 (qI @Qh.eq_2 (qI @Qh.eq_3 (qI @Nh.eq_1 (qI @Jg.eq_1 (qI @Jg.eq_2 (qI @Jg.eq_3 (qI @Jg.eq_4 (qI @Jg.eq_5 (qI @LP.eq_1 (qI @LP.eq_2 (qI @Dc.eq_1 (qI @Dc.eq_2 (qI @rows.eq_1 (qI @rows.eq_2 (qI @xA.eq_1 (qI @xA.eq_2 (qI @xA.eq_3 (qI @xA.eq_4 (qI @xA.eq_5 (qI @xA.eq_6 (qI @xA.eq_7 (qI @xA.eq_8 (qI @xA.eq_9 (qI @xA.eq_10 (qI @xA.eq_11 (qI @xA.eq_12 (qI @xA.eq_13 (qI @xA.eq_14 (qI @xA.eq_15 (qI @xA.eq_16 (qI @xA.eq_17 (qI @G5.eq_1 (qI @G5.eq_2 (qI @G5.eq_3 (qI @G5.eq_4 (qI @G5.eq_5 (qI @G5.eq_6 (qI @lenOf.eq_1 (qI @lenOf.eq_2 (qI @lenOf.eq_3 (qI @lenOf.eq_4 (qI @lenOf.eq_5 (qI @LM.eq_1 (qI @LM.eq_2 (qI @LM.eq_3 (qI @LM.eq_4 (qI @Lu.eq_1 (qI @Lu.eq_2 (qI @Jz.eq_1 (qI @Jz.eq_2 (qI @Jz.eq_3 (qI @BQ.eq_1 (qI @BQ.eq_2 (qI @BQ.eq_3 (qI @BQ.eq_4 (qI @CZ.eq_1 (qI @CZ.eq_2 (qI @CZ.eq_3 (qI @CZ.eq_4 (qI @EX.eq_1 (qI @EX.eq_2 (qI @EX.eq_3 (qI @EX.eq_4 (qI @Rc.eq_1 (qI @NA.eq_1 (qI @NA.eq_2 (qI @BR.eq_1 (qI @BR.eq_2 (qI @BR.eq_3 (qI @BR.eq_4 (qI @Oy.eq_1 (qI @D.flat.eq_1 (qI @D.flat.eq_2 (qI @D.flat.eq_3 (qI @D.flat.eq_4 (qI @rid.eq_1 (qI @TI.agg.eq_1 (qI @Pe (qI @RT (qI @P6 (qI @SP (qI @S2 (qI @Ru (qI @VS (qI @Wt (qI @Bi.eq_1 (qI @Q8 (qI @QM (qI @Yy (qI @WJ (qI @VX (qI @St.Kd (qI @St.T8 (qI @St.U5 (qI @St.LY (qI @UZ @Vw)))))))))))))))))))))))))))))))))))))))))))))))))))))))))))))))))))))))))))))))))))))))))))))))))))))))))))))))))))))))))))))))))))))))))))))))))))))))))))))))))))))))))))))))))))))))))))))))))))))))
theorem E:type_of% Ez9.down:=Ez9.down
def Lz9:=PLift.up (qI @List.take_succ_cons.{0} (qI @List.take_zero.{0} (qI @List.drop_succ_cons.{0} (qI @List.drop_zero.{0} (qI @List.map_cons.{0,0} (qI @List.map_nil.{0,0} (qI @List.cons_append.{0} (qI @List.nil_append.{0} (qI @List.append_nil.{0} (qI @List.length_cons.{0} (qI @List.length_nil.{0} (qI (@List.getElem?_cons_zero.{0}) (qI (@List.getElem?_cons_succ.{0}) (qI @List.tail_cons.{0} (qI @List.tail_nil.{0} (qI @Option.isSome_some.{0} (qI @Option.isSome_none.{0} (qI @List.take_nil.{0} (qI @List.drop_nil.{0} (qI (@List.getElem?_map.{0,0}) (qI @Option.map_some.{0,0} (qI @Option.bind_some.{0,0} (qI @List.length_map.{0,0} (qI @List.replicate_succ.{0} (qI @List.replicate_zero.{0} (qI @List.flatten_cons.{0} (qI @List.flatten_nil.{0} (qI (@List.getElem?_toArray.{0}) (qI @List.toList_toArray.{0} (qI @VQ (qI @Xx (qI @List.any_cons.{0} (qI @List.any_nil.{0} (qI Bool.or_true (qI Bool.true_or (qI Bool.or_false (qI Bool.false_or (qI Bool.and_true (qI Bool.true_and (qI Bool.and_false (qI Bool.false_and (qI true_and (qI and_true and_self)))))))))))))))))))))))))))))))))))))))))))
theorem L:type_of% Lz9.down:=Lz9.down
def Fz9:=PLift.up (qI @List.set_cons_zero.{0} (qI @List.set_cons_succ.{0} (qI @St.Kd (qI @St.T8 (qI @St.U5 (qI @St.LY (qI @UZ (qI @Vw (qI @List.map_append.{0,0} (qI @List.map_cons.{0,0} (qI @List.map_nil.{0,0} (qI @List.map_set.{0,0} (qI @List.map_replicate.{0,0} (qI @List.append_nil.{0} (qI @List.nil_append.{0} (qI @List.cons_append.{0} (qI (@List.getElem?_cons_zero.{0}) (qI (@List.getElem?_cons_succ.{0}) (qI Bool.and_true Bool.true_and)))))))))))))))))))
theorem F:type_of% Fz9.down:=Fz9.down
end Go.Sh
namespace Go.Sh
open Go.RowKit
def Gho(P:Program)(base:Nat)(j:W0)(N:Nat)(s s':St):Prop:=∀a w,Rel P base j N s a w->Rel P base j N s' a w
section
variable {P:Program}{base N:Nat}{w0:W0}{Z:St->Prop}{k:List Fr}{s s' s'':St}
theorem Gho.refl(s:St):Gho P base w0 N s s:=λ_ _ h=>h
theorem Gho.trans(h:Gho P base w0 N s s')(j:Gho P base w0 N s' s''):Gho P base w0 N s s'':=λa w R=>j a w (h a w R)
theorem G7{c:Code}{Q:Exit->St->Prop}(j:Gho P base w0 N s s')(h:SW P base w0 N c s' Q):SW P base w0 N c s Q:=λa w R=>h a w (j a w R)
theorem GI{c:Code}(I:Nat->St->Prop)(n:Nat)(J:I n s)(h:∀m s,I m s->SW P base w0 N c s (aft P base w0 N Z (.inv (λs'=>∃j,Gho P base w0 N s' j/\∃C,C<m/\I C j)::k))):SW P base w0 N (.loop c) s (aft P base w0 N Z k):=by
 intro a w R
 refine wp_loop_ghost (λm a w=>∃s,I m s/\Rel P base w0 N s a w) n ⟨s,J,R⟩ ?_
 rintro m a w ⟨s,h1,R⟩
 refine wp_mono (h m s h1 a w R) ?_
 rintro e a' w' ⟨s',h2,h3⟩
 cases e with
 |normal=>obtain⟨j,U,C,h4,h5⟩:=h2;exact⟨C,h4,j,h5,U _ _ h3⟩
 |_=>exact⟨s',h2,h3⟩
theorem RH{g:Gh}{a:Act}{w:World}{j K vj:Nat}{e:TypeId}{sz:Nat}{xs:List (List D)}{dp:Bool}(R:nI P base w0 N g s a w [])(h2:s.h j=(vj,.row e sz xs dp)):
  ∃g',nI P base w0 N g' ((s.fP j (vj,.none)).fP K ((s.h K).1+1,.row e sz xs dp)) a w []/\lH g g' s.h ((s.fP j (vj,.none)).fP K ((s.h K).1+1,.row e sz xs dp)).h w w/\
   ∀v,Aw g s.h w (.row j vj) v->Aw g' ((s.fP j (vj,.none)).fP K ((s.h K).1+1,.row e sz xs dp)).h w (.row K ((s.h K).1+1)) v:=by
 have C:(s.h j).1=vj:=by rw[h2]
 have I:(s.h j).2=.row e sz xs dp:=by rw[h2]
 have U:=R.inv.obj j
 rw[I]at U
 obtain⟨cells,p1,p2,p3,p4,p5⟩:=U
 obtain⟨I1,J⟩:=R.inv.DD I
 rw[C]at I1 J
 have T1:lH g g s.h (tR s.h j (vj,.none)) w w:=by have:=lH.drop (g:=g) (h:=s.h) (w:=w) j g.S λ_ x=>x;rw[C]at this;exact this
 have hver:(tR s.h j (vj,.none) K).1=(s.h K).1:=by by_cases hk:K=j;(subst hk;rw[bM,C]);·rw[fU _ _ _ _ hk]
 have I2:=I1.DK (i:=K) (v:=g.val j) (e:=e) (sz:=sz) (xs:=xs) (dp:=dp) (cells:=cells) (F:=g.fp j) (pool':=[]) p1 p2 p3 p4 J jH List.nodup_nil (λhd=>by subst hd;simp only[if_true,List.nil_append];exact⟨(p5 rfl).1,λb hb=>⟨hb,jH⟩⟩)
 have T2:=lH.create (g:=g) (h:=tR s.h j (vj,.none)) (w:=w) K (g.val j) (g.fp j) (.row e sz xs dp)
 rw[hver]at I2 T2
 refine⟨_,R.turn (T1.trans T2) rfl R.below I2,T1.trans T2,?_⟩
 rintro v ⟨h0,_,hv⟩
 refine⟨h0,?_,?_⟩
 ·show _<=(tR _ K _ K).1;rw[bM];exact qg _
 ·intro _ e' sz' xs' dp' _;show v=FH g.val K (g.val j) K;rw[dQ];exact hv C e sz xs dp I
theorem Vu{g:Gh}{a:Act}{w:World}{K:Nat}(e:TypeId)(sz:Nat)(R:nI P base w0 N g s a w []):
  ∃j,nI P base w0 N j (s.fP K ((s.h K).1+1,.row e sz [] true)) a w []/\lH g j s.h (s.fP K ((s.h K).1+1,.row e sz [] true)).h w w/\
   ∀v,Aw g s.h w .nil v->Aw j (s.fP K ((s.h K).1+1,.row e sz [] true)).h w (.row K ((s.h K).1+1)) v:=by
 have J:=R.inv.DK (i:=K) (v:=.slice none 0 0) (e:=e) (sz:=sz) (xs:=[]) (dp:=true) (cells:=[]) (F:=[]) (pool':=[]) (World.ownsRow_nil w base e sz) jH cT.nil jH (by intro b hb;cases hb) jH List.nodup_nil (λ_=>⟨List.nodup_nil,jH⟩)
 have I:=lH.create (g:=g) (h:=s.h) (w:=w) K (.slice none 0 0) [] (.row e sz [] true)
 refine⟨_,R.turn I rfl R.below J,I,?_⟩
 intro v C
 have C:v=.slice none 0 0:=C
 subst C
 refine⟨rfl,?_,?_⟩
 ·show _<=(tR _ K _ K).1;rw[bM];exact qg _
 ·intro _ e' sz' xs' U _;show _=FH g.val K _ K;rw[dQ]
theorem OA{g:Gh}{a:Act}{w:World}{i:Nat}{sv:SV}(R:nI P base w0 N g s a w [])(j:vW g s.h w sv (a.tmps.getD i undef)):nI P base w0 N g (s.GW i sv) a w []:=by refine⟨R.defers,R.size,R.below,R.q,R.A3,R.inv,λt=> ?_,R.lab,R.frm⟩;rw[St.Kd];by_cases ht:t=i;(subst ht;simp only[if_true];exact j);·simp only[ht,if_false];exact R.tmp t
theorem Gho.aAz{i j K vj:Nat}{e:TypeId}{sz:Nat}{xs:List (List D)}{dp:Bool}(h1:s.t i=.v false [.row j vj])(h2:s.h j=(vj,.row e sz xs dp)):
  Gho P base w0 N s (((s.fP j (vj,.none)).fP K ((s.h K).1+1,.row e sz xs dp)).GW i (.v false [.row K ((s.h K).1+1)])):=by
 rintro a w ⟨g,R⟩
 have C:=R.tmp i
 rw[h1]at C
 obtain⟨J,I,T,hc⟩:=RH (K:=K) R h2
 exact⟨J,OA I ⟨_,[],rfl,hc _ (eD C),rfl⟩⟩
theorem Gho.aBR{i K:Nat}(e:TypeId)(sz:Nat)(h1:s.t i=.v false [.nil]):
  Gho P base w0 N s ((s.fP K ((s.h K).1+1,.row e sz [] true)).GW i (.v false [.row K ((s.h K).1+1)])):=by
 rintro a w ⟨g,R⟩
 have j:=R.tmp i
 rw[h1]at j
 obtain⟨I,C,T,hc⟩:=Vu (K:=K) e sz R
 exact⟨I,OA C ⟨_,[],rfl,hc _ (eD j),rfl⟩⟩
theorem aR.set{g:Gh}{h:Heap}{w:World}:∀{cs:List SC} {vs:List Value} (c:Nat) (x y:SC),aR g h w cs vs->cs[c]? =some x->(∀v,Aw g h w x v->Aw g h w y v)->aR g h w (cs.set c y) vs
 |[],vs,c,x,y,hc,I,_=>by simp at I
 |z::cs,vs,0,x,y,hc,I,j=>by obtain⟨v,C,rfl,h1,h2⟩:=hc;simp at I;subst I;exact⟨v,C,rfl,j v h1,h2⟩
 |z::cs,vs,c+1,x,y,hc,I,j=>by obtain⟨v,C,rfl,h1,h2⟩:=hc;exact⟨v,C,rfl,h1,aR.set c x y h2 (by simpa using I) j⟩
theorem XM{g:Gh}{a:Act}{w:World}{b vb C:Nat}{t:TypeId}{cells cells':List SC}{vals:Array Value}(R:nI P base w0 N g s a w [])(hb:s.h b=(vb,.box t cells))(h3:g.val b=.pointer (some ⟨C,0,none⟩))(h5:w.heap[C]? =some (.cells vals t (0,0)))(hc:aR g s.h w cells' vals.toList):
  ∃g',nI P base w0 N g' (s.fP b (vb,.box t cells')) a w []:=by
 have I:(s.h b).1=vb:=by rw[hb]
 have hb2:(s.h b).2=.box t cells:=by rw[hb]
 have hlive:live s.h b:=by unfold live;rw[hb2];simp
 have hown:Bo (g.val b)=some C:=by rw[h3];rfl
 have J:=R.inv.mtb b C hlive hown
 have T:lH g { g with fp:=FH g.fp b (g.fp b) } s.h (tR s.h b ((s.h b).1,.box t cells')) w w:=
  lH.Ey J (λ_ _=>rfl) (by intro e sz xs dp j;cases j) (by intro t0 cs0 j;cases j;exact⟨_,hb2⟩)
 have U:=R.inv.Ey (i:=b) (b:=C) (F:=g.fp b) (pool':=[]) (w':=w) hlive hown rfl (λ_ _=>rfl) T
  ⟨C,vals,h3,(R.inv.Fl hlive hown).1,h5,hc.turn T⟩ jH List.nodup_nil (by rintro⟨_,_,_,j⟩;cases j)
 rw[I]at T U
 exact⟨_,R.turn T rfl R.below U⟩
theorem Ll{g g':Gh}{a:Act}{w:World}{b vb c:Nat}{t:TypeId}{cells:List SC}{x y:SC}(R:nI P base w0 N g s a w [])(R':nI P base w0 N g' s' a w [])(T:lH g g' s.h s'.h w w)(U:s.h b=(vb,.box t cells))(j:s'.h b=(vb,.box t cells))(h1:cells[c]? =some x)
  (hc:∀v,Aw g s.h w x v->Aw g' s'.h w y v):Rel P base w0 N (s'.fP b (vb,.box t (cells.set c y))) a w:=by
 have C:=R.inv.obj b
 rw[show(s.h b).2=.box t cells from by rw[U]]at C
 obtain⟨b',vals,h3,h4,h5,h6⟩:=C
 have hv:g'.val b=g.val b:=(T.box b t cells (by rw[j,U]) (by rw[j])).1
 have hnew:∀{cs:List SC} {vs:List Value} (c:Nat),aR g s.h w cs vs->cs[c]? =some x->aR g' s'.h w (cs.set c y) vs:=by
  intro cs
  induction cs with
  |nil=>intro vs c _ I;simp at I
  |cons z cs ih=>
   intro vs c hA I
   obtain⟨v,J,rfl,k1,k2⟩:=hA
   cases c with
   |zero=>simp at I;subst I;exact⟨v,J,rfl,hc v k1,k2.turn T⟩
   |succ c=>exact⟨v,J,rfl,k1.turn T,ih c k2 (by simpa using I)⟩
 exact XM R' j (hv.trans h3) h5 (hnew c h6 h1)
theorem Gho.Xo{b vb c j K vj:Nat}{t:TypeId}{cells:List SC}{e:TypeId}{sz:Nat}{xs:List (List D)}{dp:Bool}(C:s.h b=(vb,.box t cells))(h1:cells[c]? =some (.row j vj))(h2:s.h j=(vj,.row e sz xs dp))(hk:b≠K):
  Gho P base w0 N s (((s.fP j (vj,.none)).fP K ((s.h K).1+1,.row e sz xs dp)).fP b (vb,.box t (cells.set c (.row K ((s.h K).1+1))))):=by
 rintro a w ⟨g,R⟩
 have I:b≠j:=λe=>by rw[e,h2]at C;cases C
 obtain⟨U,J,T,hc⟩:=RH (K:=K) R h2
 refine Ll R J T C ?_ h1 hc
 show tR (tR s.h j _) K _ b=_
 rw[fU _ _ _ _ hk,fU _ _ _ _ I,C]
theorem Gho.aA6{b vb c K:Nat}{t:TypeId}{cells:List SC}(e:TypeId)(sz:Nat)(j:s.h b=(vb,.box t cells))(h1:cells[c]? =some .nil)(hk:b≠K):
  Gho P base w0 N s ((s.fP K ((s.h K).1+1,.row e sz [] true)).fP b (vb,.box t (cells.set c (.row K ((s.h K).1+1))))):=by
 rintro a w ⟨g,R⟩
 obtain⟨I,C,T,hc⟩:=Vu (K:=K) e sz R
 refine Ll R C T j ?_ h1 hc
 show tR s.h K _ b=_
 rw[fU _ _ _ _ hk,j]
theorem sq{x y:Code}(h:SW P base w0 N x s (aft P base w0 N Z (.code y::k))):SW P base w0 N (.seq x y) s (aft P base w0 N Z k):=ZO h
theorem bk{id:Nat}{c:Code}(h:SW P base w0 N c s (aft P base w0 N Z (.block id::k))):SW P base w0 N (.block id c) s (aft P base w0 N Z k):=Xt h
theorem sk(h:aft P base w0 N Z k .normal s):SW P base w0 N .skip s (aft P base w0 N Z k):=Yq h
theorem xt{id:Nat}(h:aft P base w0 N Z k (.exit id) s):SW P base w0 N (.exit id) s (aft P base w0 N Z k):=YH h
theorem rt(h:Z s):SW P base w0 N .ret s (aft P base w0 N Z k):=ZR h
theorem an{c:Code}(h:SW P base w0 N c s (aft P base w0 N Z k)):aft P base w0 N Z (.code c::k) .normal s:=h
theorem ab{id:Nat}(h:aft P base w0 N Z k .normal s):aft P base w0 N Z (.block id::k) .normal s:=h
end
end Go.Sh
namespace Go.Sh
open Go.RowKit
section
variable {P:Program}{base N:Nat}{w0:W0}{Z:St->Prop}{k:List Fr}{s s':St}
theorem aR.swap{g g':Gh}{h I:Heap}{w:World}{x y:SC}(T:lH g g' h I w w)(hc:∀v,Aw g h w x v->Aw g' I w y v):∀{cs:List SC} {vs:List Value} (c:Nat),aR g h w cs vs->cs[c]? =some x->aR g' I w (cs.set c y) vs
 |[],_,c,_,C=>by simp at C
 |z::cs,vs,0,J,C=>by obtain⟨v,j,rfl,U,k2⟩:=J;simp at C;subst C;exact⟨v,j,rfl,hc v U,k2.turn T⟩
 |z::cs,vs,c+1,J,C=>by obtain⟨v,j,rfl,U,k2⟩:=J;exact⟨v,j,rfl,U.turn T,aR.swap T hc c k2 (by simpa using C)⟩
end
end Go.Sh
namespace Go.Sh
open Go.RowKit
theorem EJ{α:Type}{f:α->List D}{sz b:Nat}{xs z J U:List α}{k:Int}(j:∀x,(f x).length=sz)(hb:0<b)(h1:AX xs k=some J)(h2:Bd xs (IntKind.i64.wrap (k+1))=some U)(h:app b (List.take k.toNat xs) (List.drop (IntKind.i64.wrap (k+1)).toNat xs)=some z):
  List.take k.toNat (KO sz (IntKind.i64.wrap (k+1)).toNat (xs.length-(IntKind.i64.wrap (k+1)).toNat) (xs.map f))=List.take k.toNat (xs.map f)/\(∀y∈List.drop (IntKind.i64.wrap (k+1)).toNat (xs.map f),y.length=sz)/\
   (k.toNat+(xs.length-(IntKind.i64.wrap (k+1)).toNat))*b<=140737488355328:=by
 obtain⟨a1,a2⟩:0<=k/\k.toNat<=xs.length:=by unfold AX at h1;split at h1;(assumption);·cases h1
 obtain⟨b1,b2⟩:0<=IntKind.i64.wrap (k+1)/\(IntKind.i64.wrap (k+1)).toNat<=xs.length:=by unfold Bd at h2;split at h2;(assumption);·cases h2
 have h3:=gO h
 have C:(List.take k.toNat xs).length=k.toNat:=by rw[qV];omega
 rw[C,qW]at h3
 have h4:k.toNat<=140737488355328:=qh (qh (Nat.le_mul_of_pos_right _ hb) (qj b (Nat.le_add_right _ _))) h3
 have e:IntKind.i64.wrap (k+1)=k+1:=bO jF jF
 rw[e]at b1 b2 h3⊢
 refine⟨?_,λy I=> ?_,?_⟩
 ·unfold KO;rw[List.take_append_of_le_length (by simp only[qV,qU];omega),List.take_take,Nat.min_eq_left jF]
 ·obtain⟨x,_,rfl⟩:=qx.1 (qv I);exact j x
 ·exact h3
def TP(e:TypeId)(sz:Nat)(xs:List (List D))(g:FuncId)(caps:List D):St:=
 { t:=λi=>if i=0 then .v false [.row 7059000 1]else if i=1 then .v false [.dat (.fn g caps)]else .undef,h:=λi=>if i=7059000 then(1,.row e sz xs true)else(0,.none) }
theorem Vv(e:TypeId)(sz:Nat)(xs:List (List D))(g:FuncId)(caps:List D)(i:Nat):(TP e sz xs g caps).t i=if i=0 then .v false [.row 7059000 1]else if i=1 then .v false [.dat (.fn g caps)]else .undef:=rfl
theorem Ok(e:TypeId)(sz:Nat)(xs:List (List D))(g:FuncId)(caps:List D)(i:Nat):(TP e sz xs g caps).h i=if i=7059000 then(1,.row e sz xs true)else(0,.none):=rfl
def aB9(T:OE)(vars:List ResultVar)(e:TypeId)(sz:Nat)(ys:List (List D))(s:St):Prop:=
 ∃ver j C,s.h 7059000=(ver,.row e sz j C)/\((Bh T s vars=some [(false,[.row 7059000 ver])]/\j=ys) \/∃n,Bh T s vars=some [(false,[.part 7059000 ver 0 n])]/\n<=j.length/\j.take n=ys)
theorem VH {P : Program} {f : FuncId} {fn : Func} {c : Code} {e : TypeId} {sz : Nat} {xs ys : List (List D)} {gf : FuncId} {caps : List D} {N : Nat} {vars : List ResultVar} (hf : P.funcs[f]? = some fn) (hb : fn.body = some c) (hN : fn.ntmps = N) (hv : fn.results.toList = vars) (hnm : (fn.name == "runtime.NumGoroutine") = false) (hn : 2 <= N)
  (hxf:(xs.all λy=>y.all D.flat)=true) (hyf:(ys.all λy=>y.all D.flat)=true) (hyl : ∀y∈ys,y.length=sz)
  (h : ∀(base:Nat) (w0:W0),SW P base w0 N c (TP e sz xs gf caps) (aft P base w0 N (aB9 (fN P) vars e sz ys) [])):gL P f [(false,[.sl xs]),(false,[.fn gf caps])] [(false,[.edit (.turn e sz ys)])]:=by
 subst hN hv
 refine .inr (.inl ⟨.turn e sz ys,rfl,⟨fn,c,hf,hb,hnm⟩,xs,gf,caps,rfl,qR.1 hxf,⟨hyl,qR.1 hyf⟩,λbase w v fv cells F2 hbase hown hxl hrows hfn hF2 => ?_⟩)
 refine calls_of_wp hf hb ?_
 have hob:Bo v=v.ownBlock:=mU hown
 have hone:v.oneCell'=true:=by rcases hown.2 with ⟨rfl,_⟩ | ⟨_,_,_,rfl,_⟩<;>rfl
 let S:Nat->Prop:=λb=>b<w.heap.size/\some b≠v.ownBlock
 let g:Gh:={ val:=λ_=>v,fp:=λ_=>[],S:=S,Q:=⟨λb=>b<w.heap.size,base,none,slP P⟩ }
 have hlv : ∀i,live (TP e sz xs gf caps).h i->i=7059000:=λi hl=>by unfold live at hl;rw [Ok] at hl;by_cases hi:i=7059000;(exact hi);·rw [if_neg hi] at hl;exact absurd rfl hl
 have R:Rel P base ⟨w,⟨λb=>b<w.heap.size,base,none,slP P⟩,S,O8⟩ fn.ntmps (TP e sz xs gf caps) { tmps := #[v,fv]++Array.replicate (fn.ntmps-2) undef,defers:=[] } w:=by
  refine ⟨g,rfl,jG,Below.refl _ _,⟨λ_ x=>x,rfl,λ_ hx=>by cases hx⟩,λb hb=>⟨hb,rfl⟩,⟨hbase,λb hb _=>hb.1,λb hb=>hb.1,λi => ?_,λi b hl hb hS=>hS.2 (by rw [<-hob];exact hb.symm),λi j b hne hi hj=>absurd ((hlv i hi).trans (hlv j hj).symm) hne,λi j _ _ _ b hb=>by simp [g] at hb,Av.nil _ _,jH,λi _ b hb=>by simp [g] at hb,qg _⟩,λt => ?_,⟨rfl,.inl rfl⟩,λ_=>trivial⟩
  ·rw [Ok];by_cases hi:i=7059000;(rw [if_pos hi];exact ⟨cells,hown,hxl,cT.flat hrows (qR.1 hxf),by simp [g],λ_=>Av.nil _ _⟩);·rw [if_neg hi];trivial
  ·rw [Vv]
   by_cases h0:t=0
   ·subst h0
    rw [if_pos rfl]
    have:({ tmps := #[v,fv]++Array.replicate (fn.ntmps-2) undef,defers:=[] }:Act).tmps.getD 0 undef=v:=by rw [Array.getD_eq_getD_getElem?,Array.getElem?_append_left jH];rfl
    rw [this]
    exact ⟨v,[],rfl,⟨hone,by rw [Ok,if_pos rfl];exact qg _,λ_ _ _ _ _ _=>rfl⟩,rfl⟩
   ·rw [if_neg h0]
    by_cases h1:t=1
    ·subst h1
     rw [if_pos rfl]
     have:({ tmps := #[v,fv]++Array.replicate (fn.ntmps-2) undef,defers:=[] }:Act).tmps.getD 1 undef=fv:=by rw [Array.getD_eq_getD_getElem?,Array.getElem?_append_left jH];rfl
     rw [this]
     exact ⟨fv,[],rfl,⟨F2,hfn,λb hb=>⟨Rep.lt _ _ _ hfn b hb,λhh=>hF2 b hh.symm hb⟩⟩,rfl⟩
    ·rw [if_neg h1];show _=undef;simp only [Array.getD_eq_getD_getElem?,Array.getElem?_append];rw [if_neg jG];by_cases h2:t-2<fn.ntmps-2;(simp [h2]);·rw [Array.getElem?_eq_none jG];rfl
 refine wp_mono (h base ⟨w,⟨λb=>b<w.heap.size,base,none,slP P⟩,S,O8⟩ _ w R) ?_
 rintro en a' w' ⟨s',h1,g',R'⟩
 have fin:aB9 (fN P) fn.results.toList e sz ys s'->a'.defers=[] /\ ∃u,(results fn a'.tmps).run P w' = .ok u w' /\ ∃v' cells',Ending.returned u = .returned v'/\w'.ownsRow base e sz v' ys.length cells'/\aU w' ys cells' []/\w.grownBy w' v.ownBlock/\(v'.ownBlock=v.ownBlock\/v'.ownBlock=none \/ ∃b,w.heap.size<=b/\v'.ownBlock=some b):=by
  rintro ⟨ver,zs,dp,hh,hr⟩
  have hlive:live s'.h 7059000:=by unfold live;rw [hh];simp
  have hobj:=R'.inv.obj 7059000
  rw [show (s'.h 7059000).2 = .row e sz zs dp from by rw [hh]] at hobj
  obtain ⟨cells1,p1,p2,p3,p4,p5⟩:=hobj
  have hyfl:=qR.1 hyf
  have hgrow:w.grownBy w' v.ownBlock:=⟨R'.below.os,R'.below.tape,R'.below.output,R'.below.size,λk hk hne=>(R'.A3 k ⟨hk,hne⟩).2⟩
  have hblk : ∀b,Bo (g'.val 7059000)=some b->some b=v.ownBlock\/w.heap.size<=b:=λb hb=>by rcases Nat.lt_or_ge b w.heap.size with hlt | hge;(by_cases he:some b=v.ownBlock;(exact .inl he);·exact absurd (R'.A3 b ⟨hlt,he⟩).1 (R'.inv.mtb _ b hlive hb));·exact .inr hge
  have hblk' : ∀u:Value,u.ownBlock=(g'.val 7059000).ownBlock->(u.ownBlock=v.ownBlock\/u.ownBlock=none \/ ∃b,w.heap.size<=b/\u.ownBlock=some b):=λu hu=>by
   have e1:Bo (g'.val 7059000)=(g'.val 7059000).ownBlock:=mU p1
   cases hc:(g'.val 7059000).ownBlock with
   | none=>exact .inr (.inl (hu.trans hc))
   | some b =>
    rcases hblk b (e1.trans hc) with h2 | h2
    ·exact .inl ((hu.trans hc).trans h2)
    ·exact .inr (.inr ⟨b,h2,hu.trans hc⟩)
  have one : ∀ {cc:SC},Bh (fN P) s' fn.results.toList=some [(false,[cc])] -> ∃u,Aw g' s'.h w' cc u/\(results fn a'.tmps).run P w' = .ok u w':=by
   intro cc hg
   obtain ⟨vs,k1,k2,k3⟩:=CJ R' hg
   have hrun:=GN (P:=P) (w:=w') (λx=>match x with | .tmp t=>(pure (a'.tmps.getD t undef):Sem Value) | .cell p t=>(do loadVar t (<-asAddr (a'.tmps.getD p undef)):Sem Value)) fn.results.toList vs (by rw [k1]) k3
   have hrun':(results fn a'.tmps).run P w' = .ok (if h:vs.toArray.size=1 then vs.toArray[0] else .tuple vs.toArray) w':=by unfold results;rw [<-Array.toArray_toList (xs:=fn.results)];rw [List.mapM_toArray];simp only [qs,Sem.run_map,qu];exact (congrArg (λr:Result (List Value)=>(r.andThen λa w'=>Result.ok a.toArray w').andThen λa w'=>Result.ok (if h:a.size=1 then a[0] else Value.tuple a) w') hrun).trans rfl
   obtain ⟨u,vs',rfl,⟨u',us,e1,m1,m2⟩,m3⟩:=k2
   have m3':vs'=[]:=m3
   subst m3'
   simp only [List.cons.injEq] at e1
   obtain ⟨rfl,_⟩:=e1
   exact ⟨u,m1,hrun'⟩
  rcases hr with ⟨hg,rfl⟩ | ⟨n,hg,hnl,hys⟩
  ·obtain ⟨u,⟨_,_,m⟩,hrun⟩:=one hg;have hu:u=g'.val 7059000:=m (by rw [hh]) e sz zs dp (by rw [hh]);subst hu;have hG:g'.fp 7059000=[]:=IC p3.rep hyfl;exact ⟨R'.defers,_,hrun,_,cells1,rfl,p1,by rw [<-hG];exact p3.rep,hgrow,hblk' _ rfl⟩
  ·obtain ⟨u,⟨_,_,m⟩,hrun⟩:=one hg
   obtain ⟨ad,cap,hu,hnc,_,m2⟩:=m (by rw [hh]) e sz zs dp (by rw [hh])
   obtain ⟨mm,hval,hnm'⟩:=m2 rfl
   have hsp:aU w' (zs.take n++zs.drop n) cells1 (g'.fp 7059000):=by rw [qo];exact p3.rep
   obtain ⟨v1,v2,G1,G2,hcs,hG,m3,m4⟩:=aU.split hsp
   rw [hys] at m3
   have hG1:G1=[]:=IC m3 hyfl
   subst hG1
   have hyln:ys.length=n:=by rw [<-hys,qV,Nat.min_eq_left hnl]
   have hv1:v1.length=n*sz:=by rw [aU.length m3 hyl,hyln]
   refine ⟨R'.defers,_,hrun,u,v1,rfl,?_,m3,hgrow,hblk' u (by rw [hu,hval];cases ad<;>rfl)⟩
   rw [hyln]
   rcases p1.2 with ⟨q1,q2⟩ | ⟨b,c2,cur,q1,q2,q3,q4,q5,q6,q7⟩
   ·rw [hval] at q1
    simp only [Value.slice.injEq] at q1
    obtain ⟨r1,r2,r3⟩:=q1
    have hn0:n=0:=by omega
    subst hn0
    have:v1=[]:=List.length_eq_zero_iff.1 (by rw [hv1];simp)
    subst this
    rw [hu,r1,r3]
    exact World.ownsRow_nil w' base e sz
   ·rw [hval] at q1
    simp only [Value.slice.injEq] at q1
    obtain ⟨r1,r2,r3⟩:=q1
    rw [hu,r1,r3]
    refine ⟨hv1,.inr ⟨b,c2,cur,rfl,q2,q3,jF,q5,q6,?_⟩⟩
    have hle:n*sz<=zs.length*sz:=qj _ hnl
    have:cur.toList.take (n*sz)=cells1.take (n*sz):=by rw [<-q7,List.take_take,Nat.min_eq_left hle]
    rw [this,hcs,<-hv1,List.take_left]
 cases en with
 | normal=>exact fin h1
 | ret=>exact fin h1
 | exit id=>exact h1.elim
 | goto l=>exact h1.elim
 | panic c=>exact h1.elim
 | outgrown=>exact h1.elim
theorem Ra{α:Type}{xs z:List α}{i:Int}(h:Bd xs i=some z):0<=i/\i.toNat<=xs.length:=by unfold Bd at h;split at h;(assumption);·cases h
theorem F8{α:Type}{xs z:List α}{i:Int}(h:Bd xs i=some z):i.toNat+(xs.length-i.toNat)=xs.length:=by have:=Ra h;omega
theorem Hj{α:Type}{f:α->List D}{xs z:List α}{i:Int}{r:List D}(h:Bd xs i=some z):0<=i/\i.toNat<=(List.map f (List.take i.toNat xs)++List.replicate (xs.length-i.toNat) r).length:=by have:=Ra h;refine⟨this.1,?_⟩;rw[qE,qU,qV,jA];omega
theorem RI{α:Type}{f:α->List D}{xs z:List α}{i:Int}{n:Nat}{r:List D}(h:Bd xs i=some z):(List.map f (List.take i.toNat xs)++List.replicate n r).take i.toNat=List.map f (List.take i.toNat xs):=by have:=Ra h;exact List.take_left' (by rw[qU,qV];omega)
def aCp:=PLift.up (qI @Vv @Ok)
theorem LQ:type_of% aCp.down:=aCp.down
end Go.Sh
namespace Go.Sh
open Go.RowKit
theorem Kg{w:World}:∀{ds:List D} {vs:List Value} {F:List Nat} {i:Nat} {d:D},aH w ds vs F->ds[i]? =some d->∃v G,vs[i]? =some v/\Rep w d v G/\∀b∈G,b∈F
 |[],_,_,_,_,_,h=>by simp at h
 |d::ds,vs,F,i,d',j,h=>by
  simp only[aH]at j
  obtain⟨v,vs',C,F2,rfl,rfl,h3,h4⟩:=j
  cases i with
  |zero=>simp at h;subst h;exact⟨v,C,rfl,h3,λb hb=>by simp[hb]⟩
  |succ i=>
   obtain⟨u,G,I,J,U⟩:=Kg h4 (by simpa using h)
   exact⟨u,G,by simpa using I,J,λb hb=>by simp[U b hb]⟩
theorem aR.aDi{g:Gh}{h:Heap}{w:World}:∀{cs:List SC} {vs:List Value} {i:Nat} {c:SC} {v:Value},aR g h w cs vs->vs[i]? =some v->Aw g h w c v->aR g h w (cs.set i c) vs
 |[],vs,i,c,v,hc,_,_=>hc
 |U::cs,vs,i,c,v,hc,C,I=>by
  obtain⟨J,j,rfl,h1,h2⟩:=hc
  cases i with
  |zero=>simp at C;subst C;exact⟨J,j,rfl,I,h2⟩
  |succ i=>exact⟨J,j,rfl,h1,aR.aDi h2 (by simpa using C) I⟩
theorem Wn(W:World)(p:Value)(j:Nat):Xh W p j []=[]:=rfl
theorem PG(W:World)(p:Value)(j:Nat)(d:D)(ds:List D):Xh W p j (d::ds)=.exa W d (cellAt W p j)::Xh W p (j+1) ds:=rfl
theorem R9(W:World)(p:Value):∀(j:Nat) (ds:List D),(Xh W p j ds).length=ds.length
 |_,[]=>rfl
 |j,d::ds=>by rw[PG,qJ,R9 W p (j+1) ds,qJ]
theorem Se{g:Gh}{h:Heap}{w W:World}{p:Value}:∀{ds:List D} {vs:List Value} (j:Nat),aR g h w (Xh W p j ds) vs->∀i v,vs[i]? =some v->v=cellAt W p (j+i)
 |[],vs,j,C=>by rw[show vs=[]from C];intro i v J;simp at J
 |d::ds,vs,j,C=>by
  obtain⟨v,U,rfl,⟨h1,_⟩,h4⟩:=C
  intro i u I
  cases i with
  |zero=>simp at I;rw[<-I];exact h1
  |succ i=>
   rw[Se (j+1) h4 i u (by simpa using I)]
   congr 1
   omega
def WZ(W:World)(c:Nat)(u:Value)(d:D)(x:List D)(rest:List (Bool×List D)):St:=
 { t:=λi=>if i=0 then .v true ((x.map .dat).set c (.exa W d u))else(init ((true,x)::rest)).t i,h:=λ_=>(0,.none) }
theorem YD(W:World)(c:Nat)(u:Value)(d:D)(x:List D)(rest:List (Bool×List D))(i:Nat):(WZ W c u d x rest).t i=if i=0 then .v true ((x.map .dat).set c (.exa W d u))else(init ((true,x)::rest)).t i:=rfl
theorem Ye(W:World)(c:Nat)(u:Value)(d:D)(x:List D)(rest:List (Bool×List D))(i:Nat):(WZ W c u d x rest).h i=(0,.none):=rfl
def aBQ(T:OE)(vars:List ResultVar)(W:World)(u:Value)(k sz:Nat)(y:List D)(s:St):Prop:=Bh T s vars=some [(true,Xh W (Yf u k sz) 0 y),(false,[.dat (.bool true)])]
theorem ZT {P : Program} {f : FuncId} {fn : Func} {c : Code} {x : List D} {rest : List (Bool × List D)} {cc k sz : Nat} {xs : List (List D)} {y : List D} {N : Nat} {vars : List ResultVar} (hf : P.funcs[f]? = some fn) (hb : fn.body = some c) (hN : fn.ntmps = N) (hv : fn.results.toList = vars) (hnm : (fn.name == "runtime.NumGoroutine") = false) (hn : rest.length + 1 <= N)
  (hx:x[cc]? = some (.sl xs)) (hy:xs[k]? = some y) (hyl:y.length=sz)
  (h : ∀(base:Nat) (w0:W0) (u:Value),SW P base w0 N c (WZ w0.w cc u (.sl xs) x rest) (aft P base w0 N (aBQ (fN P) vars w0.w u k sz y) [])):gL P f ((true,x)::rest) [(false,[.edit (.sel cc k sz)])]:=by
 subst hN hv
 refine .inr (.inl ⟨.sel cc k sz,rfl,⟨fn,c,hf,hb,hnm⟩,λw vs Fa ha => ?_⟩)
 obtain ⟨hlen,hat⟩:=args_at ha
 have hlen':vs.size=rest.length+1:=by simpa using hlen
 have hFlt:=HK ha
 obtain ⟨v0,F0,e0,⟨c0,rfl,r0⟩,hF0⟩:=hat 0 _ rfl
 obtain ⟨u,Fu,hu,hru,hFu⟩:=Kg r0 hx
 refine calls_of_wp hf hb ?_
 let g:Gh:={ val:=λ_=>undef,fp:=λ_=>[],S:=λb=>b∈Fa,Q:=⟨λb=>b∈Fa,w.heap.size,none,slP P⟩ }
 have R:Rel P w.heap.size ⟨w,⟨λb=>b∈Fa,w.heap.size,none,slP P⟩,noK,O8⟩ fn.ntmps (WZ w cc u (.sl xs) x rest) { tmps:=vs++Array.replicate (fn.ntmps-vs.size) undef,defers:=[] } w:=by
  refine ⟨g,rfl,jG,Below.refl _ _,⟨λ_ x=>x,rfl,λ_ hx=>(by cases hx)⟩,λ_ x=>x.elim,⟨qg _,λ_ x _=>x,hFlt,λi=>trivial,λi b hl=>absurd rfl hl,λi j b _ hl=>absurd rfl hl,?_,Av.nil _ _,jH,λi hd=>(by obtain ⟨_,_,_,hd⟩:=hd;cases hd),qg _⟩,λt => ?_,⟨rfl,.inl rfl⟩,λ_=>trivial⟩
  ·rintro i j _ ⟨_,_,_,hd⟩;cases hd
  ·show vW g _ w (if t=0 then .v true ((x.map .dat).set cc (.exa w (.sl xs) u)) else match ((true,x)::rest)[t]? with | some (ag,ds)=>.v ag (ds.map .dat) | none=>.undef) _
   by_cases h0:t=0
   ·subst h0
    rw [if_pos rfl]
    have hv:(vs++Array.replicate (fn.ntmps-vs.size) undef).getD 0 undef = .agg c0:=by
     simp only [Array.getD_eq_getD_getElem?,Array.getElem?_append]
     rw [if_pos jF]
     have:vs[0]? = some (.agg c0):=by simpa using e0
     rw [this];rfl
    show ∃us,(vs++Array.replicate (fn.ntmps-vs.size) undef).getD 0 undef = .agg us/\_
    rw [hv]
    exact ⟨c0,rfl,(aR.FY r0 hF0).aDi hu ⟨rfl,Fu,hru,λb hb=>⟨hF0 b (hFu b hb),rfl⟩⟩⟩
   ·rw [if_neg h0]
    cases ht:((true,x)::rest)[t]? with
    | none =>
     have hge:rest.length+1<=t:=by simpa using List.getElem?_eq_none_iff.1 ht
     show _=undef
     simp only [Array.getD_eq_getD_getElem?,Array.getElem?_append]
     rw [if_neg jF]
     by_cases h2:t-vs.size<fn.ntmps-vs.size
     ·simp [h2]
     ·rw [Array.getElem?_eq_none jG];rfl
    | some z =>
     obtain ⟨v,Fi,h1,h2,hFi⟩:=hat t z ht
     have hlt:t<vs.size:=by have:=(qe.1 ht).1;simp at this;omega
     have hv:(vs++Array.replicate (fn.ntmps-vs.size) undef).getD t undef=v:=by
      simp only [Array.getD_eq_getD_getElem?,Array.getElem?_append]
      rw [if_pos hlt]
      have:vs[t]? = some v:=by simpa using h1
      rw [this];rfl
     rw [hv]
     obtain ⟨ag,ds⟩:=z
     cases ag with
     | false =>
      obtain ⟨d,rfl,hr⟩:=h2
      exact ⟨v,[],rfl,⟨Fi,hr,hFi⟩,rfl⟩
     | true =>
      obtain ⟨cs,rfl,hr⟩:=h2
      exact ⟨cs,rfl,aR.FY hr hFi⟩
 refine wp_mono (h w.heap.size ⟨w,⟨λb=>b∈Fa,w.heap.size,none,slP P⟩,noK,O8⟩ u _ w R) ?_
 rintro e a' w' ⟨s',h1,g',R'⟩
 have fin:aBQ (fN P) fn.results.toList w u k sz y s'->a'.defers=[] /\ ∃v,(results fn a'.tmps).run P w' = .ok v w'/\(Below w.heap.size w w' /\ ∃us:Array Value,us.size=sz/\Ending.returned v = .returned (.tuple #[.agg us,.bool true]) /\
   ∃cs rest b o n cap,vs.toList = .agg cs::rest/\cs.toList[cc]? = some (.slice (some ⟨b,o,none⟩) n cap)/\B2 w b (o+k*sz) us.toList):=by
  intro hr
  obtain ⟨vs',k1,k2,k3⟩:=CJ R' hr
  have hrun:=GN (P:=P) (w:=w') (λx=>match x with | .tmp t=>(pure (a'.tmps.getD t undef):Sem Value) | .cell p t=>(do loadVar t (<-asAddr (a'.tmps.getD p undef)):Sem Value)) fn.results.toList vs' (by rw [k1]) k3
  have hrun':(results fn a'.tmps).run P w' = .ok (if h:vs'.toArray.size=1 then vs'.toArray[0] else .tuple vs'.toArray) w':=by unfold results;rw [<-Array.toArray_toList (xs:=fn.results)];rw [List.mapM_toArray];simp only [qs,Sem.run_map,qu];exact (congrArg (λr:Result (List Value)=>(r.andThen λa w'=>Result.ok a.toArray w').andThen λa w'=>Result.ok (if h:a.size=1 then a[0] else Value.tuple a) w') hrun).trans rfl
  obtain ⟨u1,vs1,rfl,⟨d2,rfl,m1⟩,u2,vs2,rfl,m2,m3⟩:=k2
  have m3':vs2=[]:=m3
  subst m3'
  have e2:u2 = .bool true:=Dt (g:=g') (s:=s') (w:=w') (b:=true) m2
  subst e2
  have hl2:d2.toList.length=sz:=by rw [aR.length m1,R9,hyl]
  have hvals:=Se 0 m1
  simp only [Rep] at hru
  obtain ⟨ad,n,cap,rfl,kn,kc,k4⟩:=hru
  have hk:k<xs.length:=(qe.1 hy).1
  rcases k4 with k4 | ⟨b,off,cells,sz',G,rfl,q2,rfl,q4,q5,q6,q7⟩
  ·omega
  ·have hsz:sz'=sz:=by rw [<-hyl];exact (q6 y (jC hy)).symm
   subst hsz
   refine ⟨R'.defers,_,hrun',R'.below,d2,by simpa using hl2,rfl,c0,vs.toList.tail,b,off,n,cap,?_,hu,λj v hj => ?_⟩
   ·cases hvl:vs.toList with
    | nil=>rw [hvl] at e0;simp at e0
    | cons a l=>rw [hvl] at e0;simp at e0;simp [e0]
   ·have hjl:j<sz':=by have:=(qe.1 hj).1;omega
    have hc:k*sz'+j<cells.length:=by rw [q5,kn];have:(k+1)*sz'<=xs.length*sz':=qj _ hk;rw [Nat.succ_mul] at this;omega
    have hcell:=q4 _ _ (qF hc)
    rw [hvals j v hj]
    simp only [Yf,cellAt,qp]
    rw [show off+k*sz'+j=off+(k*sz'+j) by omega,hcell]
    rfl
 cases e with
 | normal=>exact fin h1
 | ret=>exact fin h1
 | exit id=>exact h1.elim
 | goto l=>exact h1.elim
 | panic c=>exact h1.elim
 | outgrown=>exact h1.elim
def aF1:=PLift.up (qI @YD (qI @Ye (qI @Wn @PG)))
theorem LS:type_of% aF1.down:=aF1.down
end Go.Sh
namespace Go.Sh
open Go.RowKit
def Vt(t:TypeId)(B:Nat)(C:Value)(d0:D)(ds:List D)(rest:List (Bool×List D)):St:=
 { t:=λi=>match i with|0=>.v false [.bp 7059000 1 0]|i+1=>match rest[i]? with|some (j,ds)=>.v j (ds.map .dat)|none=>.undef,h:=λi=>if i=7059000 then(1,.box t (.old B d0 (some C)::ds.map .dat))else(0,.none) }
theorem Tz(t:TypeId)(B:Nat)(C:Value)(d0:D)(ds:List D)(rest:List (Bool×List D))(i:Nat):(Vt t B C d0 ds rest).t i=match i with|0=>.v false [.bp 7059000 1 0]|i+1=>(match rest[i]? with|some (j,ds)=>.v j (ds.map .dat)|none=>.undef):=rfl
theorem JK(t:TypeId)(B:Nat)(j:Value)(d0:D)(ds:List D)(rest:List (Bool×List D))(i:Nat):(Vt t B j d0 ds rest).h i=if i=7059000 then(1,.box t (.old B d0 (some j)::ds.map .dat))else(0,.none):=rfl
def I5(T:OE)(vars:List ResultVar)(t:TypeId)(B:Nat)(C:Value)(d0:D)(es:List D)(j:List (Bool×List RC))(s:St):Prop:=
 Ret T vars j s/\s.h 7059000=(1,.box t (.old B d0 (some C)::es.map .dat))
theorem RY{g:Gh}{h:Heap}{w:World}:∀{es:List D} {j:List Value},aR g h w (es.map .dat) j->es.all D.flat=true->aH w es j []
 |[],j,hc,_=>by simp only[aH];exact⟨hc,trivial⟩
 |d::es,j,hc,C=>by obtain⟨v,I,rfl,⟨F,h1,_⟩,h3⟩:=hc;simp only[List.all_cons,qM]at C;have e:F=[]:=Ja h1 C.1;subst e;simp only[aH];exact⟨v,I,[],[],rfl,rfl,h1,RY h3 C.2⟩
theorem Y4 {P : Program} {f : FuncId} {fn : Func} {c : Code} {t : TypeId} {d0 : D} {ds es : List D} {rest : List (Bool × List D)} {rs : List (Bool × List RC)} {N : Nat} {vars : List ResultVar} (hf : P.funcs[f]? = some fn) (hb : fn.body = some c) (hN : fn.ntmps = N) (hv : fn.results.toList = vars) (hnm : (fn.name == "runtime.NumGoroutine") = false) (hn : rest.length + 1 <= N)
  (hrs:Bi rs=false) (hds:ds.all D.flat=true) (hes:es.all D.flat=true) (hl:es.length=ds.length)
  (h : ∀(base:Nat) (w0:W0) (B:Nat) (v0:Value),(B<=base/\w0.Q.L=slP P /\ ∀b,w0.K b->b<base)->SW P base w0 N c (Vt t B v0 d0 ds rest) (aft P base w0 N (I5 (fN P) vars t B v0 d0 es rs) [])):gL P f ((false,[.ptr (d0::ds)])::rest) ((false,[.edit (.lend t es)])::rs):=by
 subst hN hv
 refine .inr (.inr ⟨t,es,rs,rfl,⟨fn,c,hf,hb,hnm⟩,hrs,hes,d0,ds,rest,rfl,hds,hl,λw b vals v0 vs0 vs Fb F hw hvals r0 r1 hbF ha hbF2 => ?_⟩)
 refine calls_of_wp hf hb ?_
 have hbl:b<w.heap.size:=(qm.1 hw).1
 obtain ⟨hlen,hat⟩:=args_at ha
 have hFlt:=HK ha
 have hFb:=Rep.lt _ _ _ r0
 let K:Nat->Prop:=λx=>x<w.heap.size/\x≠b
 let q:QF:=⟨λx=>x<w.heap.size,b,some b,slP P⟩
 let g:Gh:={ val:=λ_=>.pointer (some ⟨b,0,none⟩),fp:=λ_=>[],S:=K,Q:=q }
 let s0:=Vt t w.heap.size v0 d0 ds rest
 have hlv : ∀i,live s0.h i->i=7059000:=λi hl=>by unfold live at hl;rw [JK] at hl;by_cases hi:i=7059000;(exact hi);·rw [if_neg hi] at hl;exact absurd rfl hl
 have R:Rel P w.heap.size ⟨w,q,K,O8⟩ fn.ntmps s0 { tmps:=(.pointer (some ⟨b,0,none⟩)::vs).toArray++Array.replicate (fn.ntmps-(.pointer (some ⟨b,0,none⟩)::vs).toArray.size) undef,defers:=[] } w:=by
  have hsz:(Value.pointer (some ⟨b,0,none⟩)::vs).toArray.size=rest.length+1:=by simp [hlen]
  have hnd : ∀i,¬iY s0.h i:=by rintro i ⟨_,_,_,hd⟩;rw [JK] at hd;split at hd<;>cases hd
  have hmt : ∀i x,live s0.h i->Bo (g.val i)=some x -> ¬g.S x:=by intro i x hl hx hS;have:some b=some x:=hx;exact hS.2 (qd this).symm
  have hlt:Nf (some b) s0.h g:=by intro b' hb';cases hb';exact ⟨by rw [JK,if_pos rfl];exact qg _,λ_ _ _=>rfl⟩
  refine ⟨g,rfl,by simp only [Array.size_append,Array.size_replicate];omega,Below.refl _ _,⟨λ_ x=>x,rfl,hlt⟩,λx hx=>⟨hx,rfl⟩,⟨qg _,λx hx _=>hx.1,λx hx=>hx.1,λi => ?_,hmt,λi j x hne hi hj=>absurd ((hlv i hi).trans (hlv j hj).symm) hne,λi j _ hi _=>absurd hi (hnd i),Av.nil _ _,λ_ hx=>absurd hx qO,λi hi=>absurd hi (hnd i),Nat.le_of_lt hbl⟩,λi => ?_,⟨rfl,.inl rfl⟩,λ_=>trivial⟩
  ·rw [JK];by_cases hi:i=7059000;(rw [if_pos hi];refine ⟨b,vals,rfl,qg _,hw,?_⟩;rw [hvals];refine ⟨v0,vs0,rfl,⟨Fb,r0,λx hx=>⟨⟨hFb x hx,λe=>hbF (e ▸ hx)⟩,hFb x hx⟩,λx hx=>by cases hx;rfl⟩,aR.FY r1 jH⟩);·rw [if_neg hi];trivial
  ·rw [Tz]
   cases i with
   | zero =>
    have:({ tmps:=(Value.pointer (some ⟨b,0,none⟩)::vs).toArray++Array.replicate (fn.ntmps-(Value.pointer (some ⟨b,0,none⟩)::vs).toArray.size) undef,defers:=[] }:Act).tmps.getD 0 undef = .pointer (some ⟨b,0,none⟩):=by rw [Array.getD_eq_getD_getElem?,Array.getElem?_append_left jH];simp
    rw [this]
    refine ⟨_,[],rfl,⟨rfl,?_,λ_ t' cs _=>⟨b,rfl,rfl⟩⟩,rfl⟩
    show 1<=(s0.h 7059000).1
    rw [JK,if_pos rfl]
    exact qg _
   | succ i =>
    show vW g _ w (match rest[i]? with | some (ag,ds)=>.v ag (ds.map .dat) | none=>.undef) _
    cases ht:rest[i]? with
    | none =>
     have hge:rest.length<=i:=List.getElem?_eq_none_iff.1 ht
     show _=undef
     simp only [Array.getD_eq_getD_getElem?,Array.getElem?_append]
     rw [if_neg jF]
     by_cases h2:i+1-(Value.pointer (some ⟨b,0,none⟩)::vs).toArray.size<fn.ntmps-(Value.pointer (some ⟨b,0,none⟩)::vs).toArray.size
     ·rw [Array.getElem?_replicate,if_pos h2];rfl
     ·rw [Array.getElem?_replicate,if_neg h2];rfl
    | some x =>
     obtain ⟨v,Fi,h1,h2,hFi⟩:=hat i x ht
     have hlt:i<vs.length:=by have:=(qe.1 ht).1;omega
     have hv:({ tmps:=(Value.pointer (some ⟨b,0,none⟩)::vs).toArray++Array.replicate (fn.ntmps-(Value.pointer (some ⟨b,0,none⟩)::vs).toArray.size) undef,defers:=[] }:Act).tmps.getD (i+1) undef=v:=by simp only [Array.getD_eq_getD_getElem?,Array.getElem?_append];rw [if_pos jF];simp [h1]
     rw [hv]
     have hK : ∀x∈Fi,K x:=λx hx=>⟨hFlt x (hFi x hx),λe=>hbF2 (e ▸ hFi x hx)⟩
     obtain ⟨ag,ds'⟩:=x
     cases ag with
     | false =>
      obtain ⟨d,rfl,hr⟩:=h2
      exact ⟨v,[],rfl,⟨Fi,hr,hK⟩,rfl⟩
     | true =>
      obtain ⟨cs,rfl,hr⟩:=h2
      exact ⟨cs,rfl,aR.FY hr hK⟩
 refine wp_mono (h w.heap.size ⟨w,q,K,O8⟩ w.heap.size v0 ⟨qg _,rfl,λb hb=>hb.1⟩ _ w R) ?_
 rintro e a' w' ⟨s',h1,R'⟩
 have fin:I5 (fN P) fn.results.toList t w.heap.size v0 d0 es rs s'->a'.defers=[] /\ ∃v,(results fn a'.tmps).run P w' = .ok v w' /\ ∃v' us,Ending.returned v = .returned v'/\Ka (slP P) w.heap.size w' v' rs (λx=>x<w.heap.size)/\w.grownBy w' (some b) /\
    w'.heap[b]? = some (.cells (v0::us).toArray t (0,0))/\aH w' es us []:=by
  rintro ⟨hr,hh⟩
  obtain ⟨v,k1,k2⟩:=QU R' hr
  obtain ⟨g',R''⟩:=R'
  have hobj:=R''.inv.obj 7059000
  rw [show (s'.h 7059000).2 = .box t (.old w.heap.size d0 (some v0)::es.map .dat) from by rw [hh]] at hobj
  obtain ⟨b',vals',p1,p2,p3,p4⟩:=hobj
  obtain ⟨u0,us,e1,⟨F0,_,_,hu0⟩,p5⟩:=p4
  have hu0':u0=v0:=hu0 v0 rfl
  subst hu0'
  have hlive:live s'.h 7059000:=by unfold live;rw [hh];simp
  have hbb:b'=b:=by have:=(R''.q.2.2 b rfl).2 _ _ hh;rw [p1] at this;simpa using this
  subst hbb
  refine ⟨R''.defers,v,k1,v,us,rfl,k2,⟨R''.below.os,R''.below.tape,R''.below.output,R''.below.size,λk hk hne=>(R''.A3 k ⟨hk,λe=>hne (by rw [e])⟩).2⟩,?_,RY p5 hes⟩
  rw [p3,<-e1]
 cases e with
 | normal=>exact fin h1
 | ret=>exact fin h1
 | exit id=>exact h1.elim
 | goto l=>exact h1.elim
 | panic c=>exact h1.elim
 | outgrown=>exact h1.elim
def aBn(T:OE)(vars:List ResultVar)(t:TypeId)(es:List D)(s:St):Prop:=
 ∃i ver,Bh T s vars=some [(false,[.bp i ver 0])]/\s.h i=(ver,.box t (es.map .dat))
theorem P8{g:Gh}{h:Heap}{w:World}:∀{es:List D} {j:List Value},aR g h w (es.map .dat) j->∃G,aH w es j G/\∀b∈G,g.S b
 |[],j,hc=>⟨[],by simp only[aH];exact⟨hc,trivial⟩,jH⟩
 |d::es,j,hc=>by obtain⟨v,C,rfl,⟨F,h1,h2⟩,h3⟩:=hc;obtain⟨G,h4,h5⟩:=P8 h3;refine⟨F++G,by simp only[aH];exact⟨v,C,F,G,rfl,rfl,h1,h4⟩,λb hb=> ?_⟩;rcases qP.1 hb with hb|hb;(exact h2 b hb);·exact h5 b hb
theorem Yi {P : Program} {f : FuncId} {fn : Func} {c : Code} {t : TypeId} {es : List D} {args : List (Bool × List D)} {N : Nat} {vars : List ResultVar} (hf : P.funcs[f]? = some fn) (hb : fn.body = some c) (hN : fn.ntmps = N) (hv : fn.results.toList = vars) (hnm : (fn.name == "runtime.NumGoroutine") = false) (hn : args.length <= N)
  (h : ∀(base:Nat) (w0:W0),SW P base w0 N c (init args) (aft P base w0 N (aBn (fN P) vars t es) [])):gL P f args [(false,[.edit (.newb t es)])]:=by
 subst hN hv
 refine .inr (.inl ⟨.newb t es,rfl,⟨fn,c,hf,hb,hnm⟩,λw vs Fa ha => ?_⟩)
 obtain ⟨hlen,hat⟩:=args_at ha
 have hlen':vs.size=args.length:=by simpa using hlen
 refine calls_of_wp hf hb ?_
 have hFlt:=HK ha
 have R:=Rk (P:=P) (fn:=fn) ha hn
 refine wp_mono (h w.heap.size ⟨w,⟨λb=>b∈Fa,w.heap.size,none,slP P⟩,noK,O8⟩ _ w R) ?_
 rintro e a' w' ⟨s',h1,g',R'⟩
 have fin:aBn (fN P) fn.results.toList t es s'->a'.defers=[] /\ ∃v,(results fn a'.tmps).run P w' = .ok v w'/\Below w.heap.size w w' /\ ∃b vals G,Ending.returned v = .returned (.pointer (some ⟨b,0,none⟩))/\w.heap.size<=b /\
   w'.heap[b]? = some (.cells vals t (0,0))/\aH w' es vals.toList G/\b∉G /\ ∀x∈G,(x∈Fa\/w.heap.size<=x)/\x<w'.heap.size:=by
  rintro ⟨i,ver,hg,hh⟩
  have hobj:=R'.inv.obj i
  rw [show (s'.h i).2 = .box t (es.map .dat) from by rw [hh]] at hobj
  obtain ⟨b,vals,p1,p2,p3,p4⟩:=hobj
  obtain ⟨G,p5,p6⟩:=P8 p4
  have hlive:live s'.h i:=by unfold live;rw [hh];simp
  have hfb:w.heap.size<=b:=by have h1:=R'.q.2.1;have h2:(⟨w,⟨λb=>b∈Fa,w.heap.size,none,slP P⟩,noK,O8⟩:W0).Q.fb=w.heap.size:=rfl;omega
  obtain ⟨vs,k1,k2,k3⟩:=CJ R' hg
  have hrun:=GN (P:=P) (w:=w') (λx=>match x with | .tmp t=>(pure (a'.tmps.getD t undef):Sem Value) | .cell p t=>(do loadVar t (<-asAddr (a'.tmps.getD p undef)):Sem Value)) fn.results.toList vs (by rw [k1]) k3
  have hrun':(results fn a'.tmps).run P w' = .ok (if h:vs.toArray.size=1 then vs.toArray[0] else .tuple vs.toArray) w':=by unfold results;rw [<-Array.toArray_toList (xs:=fn.results)];rw [List.mapM_toArray];simp only [qs,Sem.run_map,qu];exact (congrArg (λr:Result (List Value)=>(r.andThen λa w'=>Result.ok a.toArray w').andThen λa w'=>Result.ok (if h:a.size=1 then a[0] else Value.tuple a) w') hrun).trans rfl
  obtain ⟨u,vs',rfl,⟨u',us,e1,m1,m2⟩,m3⟩:=k2
  have m3':vs'=[]:=m3
  subst m3'
  simp only [List.cons.injEq] at e1
  obtain ⟨rfl,_⟩:=e1
  obtain ⟨b2,q1,q2⟩:=m1.2.2 (by rw [hh]) t (es.map .dat) (by rw [hh])
  have hbb:b2=b:=by rw [p1] at q1;simp at q1;exact q1.symm
  subst hbb
  refine ⟨R'.defers,u,hrun',R'.below,b2,vals,G,by rw [q2],hfb,p3,p5,λhx=>R'.inv.mtb i b2 hlive (by rw [p1];rfl) (p6 _ hx),λx hx=>⟨?_,R'.inv.S_lt x (p6 x hx)⟩⟩
  rcases Nat.lt_or_ge x w.heap.size with hlt | hge
  ·exact .inl (R'.q.1 x (R'.inv.S_old x (p6 x hx) hlt))
  ·exact .inr hge
 cases e with
 | normal=>exact fin h1
 | ret=>exact fin h1
 | exit id=>exact h1.elim
 | goto l=>exact h1.elim
 | panic c=>exact h1.elim
 | outgrown=>exact h1.elim
end Go.Sh
namespace Go.Sh
open Go.RowKit
def SC.clean(base:Nat):SC->Prop
 | .dat d=>d.flat=true
 | .old B _ _=>B<=base
 | .exa _ _ _=>False
 |_=>True
def SV.clean(base:Nat):SV->Prop
 | .v _ j=>∀c∈j,SC.clean base c
 | .tup C=>∀x∈C,∀c∈x.2,SC.clean base c
 |_=>True
def DH.clean(base:Nat):DH->Prop
 | .none=>True
 | .box _ j=>∀c∈j,SC.clean base c
 | .row _ _ _ C=>C=true
 | .pin _ _ _=>False
section
variable {P:Program}{base N:Nat}{w0:W0}{w:World}{g:Gh}{s:St}{a:Act}
theorem Ui{Q:Exit->Act->World->Prop}{ops:Array Oper}{K:St->Prop}(m:Nat):∀(l:List Oper) (i:Nat) {s:St} {a:Act} {w:World},(ops.toList.drop i).take l.length=l->Rel P base w0 N s a w->uD P (fN P) N ops l s K->
  (∀s' I w',K s'->Rel P base w0 N s' I w'->wpOps P ops Q (List.range' (i+l.length) m) I w')->wpOps P ops Q (List.range' i (l.length+m)) a w
 |[],i,s,a,w,C,R,h,hq=>by simpa using hq s a w h R
 |o::l,i,s,a,w,C,R,h,hq=>by
  rw[show(o::l).length+m=(l.length+m)+1 from by simp;omega,List.range'_succ,wpOps_cons]
  have J:ops[i]? =some o:=by
   have:((ops.toList.drop i).take (o::l).length)[0]? =some o:=by rw[C];rfl
   rw[List.getElem?_take]at this
   simp at this
   exact this
  have U:(ops.toList.drop (i+1)).take l.length=l:=by
   have h1:(ops.toList.drop i)=o::ops.toList.drop (i+1):=by
    have j:i<ops.toList.length:=by simpa using(qm.1 J).1
    rw[qX j]
    have:ops.toList[i]? =some o:=by simpa using J
    rw[qF j]at this
    simp at this
    simp[this]
   rw[h1]at C
   simpa using C
  refine wpOp_mono ?_ (QD J R h)
  rintro I w' ⟨s',k1,k2⟩
  refine Ui m l (i+1) U k2 k1 λs2 a2 w2 h2 R2=> ?_
  have:=hq s2 a2 w2 h2 R2
  rwa [show i+(o::l).length=i+1+l.length from by simp;omega]at this
def aBO(s:St):Operand->SV
 | .tmp t=>s.t t
 | .const c=>cst c
 | .func f=>.v false [.dat (.fn f [])]
 | .global _=>.unk
theorem Xe(R:nI P base w0 N g s a w [])(x:Operand):vW g s.h w (aBO s x) (a.eval x):=by
 cases x with
 |tmp t=>exact R.tmp t
 |const c=>exact Vl c g s.h w
 |func f=>exact⟨_,[],rfl,⟨[],by simp only[Rep];exact⟨[],rfl,by simp[aH]⟩,jH⟩,rfl⟩
 |global j=>trivial
def aAP(s:St)(as:List Operand):St:=
 { t:=λi=>match as[i]? with|some x=>aBO s x|none=>.undef,h:=s.h,fr:=λi=>if i<10000 then s.t i else s.fr (i-10000) }
def YU(j:W0)(a:Act)(i:Nat):Value:=if i<10000 then a.tmps.getD i undef else j.fv (i-10000)
def aAF(s:St)(d:Nat)(sv:SV):St:=
 { t:=λi=>if i=d then sv else if i<10000 then s.fr i else .unk,h:=s.h,fr:=λi=>s.fr (i+10000) }
theorem Yt(j:W0)(a:Act)(i:Nat):YU j a (i+10000)=j.fv i:=by
 unfold YU
 have h1:¬i+10000<10000:=by omega
 have h2:i+10000-10000=i:=by omega
 rw[if_neg h1,h2]
theorem XG(s:St)(as:List Operand)(i:Nat):(aAP s as).t i=match as[i]? with|some x=>aBO s x|none=>.undef:=rfl
theorem aAU(s:St)(as:List Operand)(i:Nat):(aAP s as).h i=s.h i:=rfl
theorem Vo(s:St)(as:List Operand)(i:Nat):(aAP s as).fr i=if i<10000 then s.t i else s.fr (i-10000):=rfl
theorem Ya(s:St)(d:Nat)(sv:SV)(i:Nat):(aAF s d sv).t i=if i=d then sv else if i<10000 then s.fr i else .unk:=rfl
theorem ZL(s:St)(d:Nat)(sv:SV)(i:Nat):(aAF s d sv).h i=s.h i:=rfl
theorem UJ(s:St)(d:Nat)(sv:SV)(i:Nat):(aAF s d sv).fr i=s.fr (i+10000):=rfl
theorem St.Yk(s:St)(t:Nat)(v:SV)(i:Nat):(s.GW t v).fr i=s.fr i:=rfl
theorem St.Yo(s:St)(t:Nat)(v:Nat×DH)(i:Nat):(s.fP t v).fr i=s.fr i:=rfl
def Ly:List (Bool×List SC)->SV
 |[(j,C)]=>.v j C
 |l=>.tup l
def Tx(P:Program)(T:OE)(vars:List ResultVar)(N:Nat)(ops:Array Oper)(n d:Nat)(K:St->Prop)(s:St):Prop:=
 ∃l,Bh T s vars=some l/\uD P T N ops (ops.toList.drop (n+1)) (aAF s d (Ly l)) K
set_option maxRecDepth 20000 in
theorem TD {Z:St->Prop} {kf:List Fr} {id n f d N':Nat} {ops:Array Oper} {o:Oper} {as:Array Operand} {ts:Array TypeId} {s1:St} {fn:Func} {c:Code} {vars:List ResultVar}
  (ho:ops.toList[n]? = some o) (hop:o.op = .call { callee:=.value (.func f),args:=as,argTypes:=ts }) (hg:o.guard=none) (hd:o.dst=some d) (hdN:d<N)
  (hf : P.funcs[f]? = some fn) (hb : fn.body = some c) (hN : fn.ntmps = N') (hv : fn.results.toList = vars) (hnm : (fn.name == "runtime.NumGoroutine") = false) (hn : as.toList.length <= N')
  (h1:uD P (fN P) N ops (ops.toList.take n) s (Is s1))
  (h : ∀fv,SW P base { w0 with fv:=fv } N' c (aAP s1 as.toList) (aft P base { w0 with fv:=fv } N' (Tx P (fN P) vars N ops n d (λs3=>aft P base w0 N Z kf .normal s3)) [])) :
  SW P base w0 N (.region id ops false) s (aft P base w0 N Z kf):=by
 subst hN hv
 intro a w R
 refine wp_region ?_
 have hlt:n<ops.toList.length:=(qe.1 ho).1
 have hoi:ops[n]? = some o:=by simpa using ho
 have hsz:ops.size=ops.toList.length:=by simp
 have htl:(ops.toList.take n).length=n:=by rw [qV];omega
 rw [List.range_eq_range',hsz,show ops.toList.length=(ops.toList.take n).length+((ops.toList.drop (n+1)).length+1) from by rw [htl,qW];omega]
 refine Ui _ (ops.toList.take n) 0 (by rw [htl];simp) R h1 λs' a' w' hs R' => ?_
 rw [show s'=s1 from hs] at R'
 rw [htl,qp,List.range'_succ,wpOps_cons]
 obtain ⟨g,R'⟩:=R'
 have hmid:wpOp P ops (λe a' w'=>∃s',aft P base w0 N Z kf e s'/\Rel P base w0 N s' a' w') n (λa2 w2=>∃s2,uD P (fN P) N ops (ops.toList.drop (n+1)) s2 (λs3=>aft P base w0 N Z kf .normal s3)/\Rel P base w0 N s2 a2 w2) a' w':=by
  unfold wpOp
  simp only [hoi]
  rw [if_pos (by simp [Region.wanted,hg])]
  refine .inl ?_
  unfold Oper.wp
  have hrun:(execOp a'.eval o).run P w' = .ok (.enter f (as.map a'.eval)) w':=by simp [execOp,hop,resolve,Act.eval,Deferred.ofValue,invoke,FN ⟨fn,c,hf,hb,hnm⟩]
  rw [hrun]
  unfold Oper.upon
  refine calls_of_wp hf hb ?_
  let fv:=YU w0 a'
  have hvl:(as.map a'.eval).size=as.toList.length:=by simp
  have R2:nI P base { w0 with fv:=fv } fn.ntmps g (aAP s1 as.toList) { tmps:=as.map a'.eval++Array.replicate (fn.ntmps-(as.map a'.eval).size) undef,defers:=[] } w' []:=by
   refine ⟨rfl,by simp only [Array.size_append,Array.size_replicate];omega,R'.below,R'.q,R'.A3,R'.inv,λi => ?_,R'.lab,λi => ?_⟩
   ·rw [XG]
    cases hx:as.toList[i]? with
    | none =>
     have hge:as.toList.length<=i:=List.getElem?_eq_none_iff.1 hx
     show _=undef
     simp only [Array.getD_eq_getD_getElem?,Array.getElem?_append]
     rw [if_neg jF]
     by_cases h2:i-(as.map a'.eval).size<fn.ntmps-(as.map a'.eval).size
     ·rw [Array.getElem?_replicate,if_pos h2];rfl
     ·rw [Array.getElem?_replicate,if_neg h2];rfl
    | some x =>
     have hil:i<as.toList.length:=(qe.1 hx).1
     have hv:(as.map a'.eval++Array.replicate (fn.ntmps-(as.map a'.eval).size) undef).getD i undef=a'.eval x:=by
      simp only [Array.getD_eq_getD_getElem?,Array.getElem?_append]
      rw [if_pos jF,Array.getElem?_map]
      have:as[i]? = some x:=by simpa using hx
      rw [this];rfl
     rw [show ({ tmps:=as.map a'.eval++Array.replicate (fn.ntmps-(as.map a'.eval).size) undef,defers:=[] }:Act).tmps.getD i undef=a'.eval x from hv]
     exact Xe R' x
   ·rw [Vo];show vW g s1.h w' _ (YU w0 a' i);unfold YU;split;(exact R'.tmp i);·exact R'.frm _
  refine wp_mono (h fv _ w' ⟨g,R2⟩) ?_
  rintro e a2 w2 ⟨s2,k1,g2,R3⟩
  have fin:Tx P (fN P) fn.results.toList N ops n d (λs3=>aft P base w0 N Z kf .normal s3) s2->a2.defers=[] /\ ∃v,(results fn a2.tmps).run P w2 = .ok v w2 /\
    ∃s2,uD P (fN P) N ops (ops.toList.drop (n+1)) s2 (λs3=>aft P base w0 N Z kf .normal s3)/\Rel P base w0 N s2 (a'.put o.dst v) w2:=by
   rintro ⟨l,hgt,hrest⟩
   obtain ⟨vs,m1,m2,m3⟩:=CJ R3 hgt
   have hrun:=GN (P:=P) (w:=w2) (λx=>match x with | .tmp t=>(pure (a2.tmps.getD t undef):Sem Value) | .cell p t=>(do loadVar t (<-asAddr (a2.tmps.getD p undef)):Sem Value)) fn.results.toList vs (by rw [m1]) m3
   have hrun':(results fn a2.tmps).run P w2 = .ok (if h:vs.toArray.size=1 then vs.toArray[0] else .tuple vs.toArray) w2:=by unfold results;rw [<-Array.toArray_toList (xs:=fn.results)];rw [List.mapM_toArray];simp only [qs,Sem.run_map,qu];exact (congrArg (λr:Result (List Value)=>(r.andThen λa w'=>Result.ok a.toArray w').andThen λa w'=>Result.ok (if h:a.size=1 then a[0] else Value.tuple a) w') hrun).trans rfl
   refine ⟨R3.defers,_,hrun',_,hrest,?_⟩
   have hres:vW g2 s2.h w2 (Ly l) (if h:vs.toArray.size=1 then vs.toArray[0] else .tuple vs.toArray):=by
    match l,vs,m2 with
    | [],[],m2=>exact ⟨#[],rfl,rfl⟩
    | [(ag,cs)],[v],m2 =>
     obtain ⟨v',vs',e1,e2,e3⟩:=m2
     simp only [List.cons.injEq] at e1
     obtain ⟨rfl,rfl⟩:=e1
     exact e2
    | [(ag,cs)],v::v'::vs,m2 =>
     obtain ⟨v1,vs1,e1,e2,e3⟩:=m2
     simp only [List.cons.injEq] at e1
     obtain ⟨rfl,rfl⟩:=e1
     cases e3
    | x::y::l,[v],m2 =>
     obtain ⟨v1,vs1,e1,e2,v2,vs2,e3,_⟩:=m2
     simp only [List.cons.injEq] at e1
     rw [e3] at e1
     simp at e1
    | x::y::l,v::v'::vs,m2 =>
     have hne : ¬(v::v'::vs).toArray.size=1:=by simp
     rw [dif_neg hne]
     exact ⟨_,rfl,by simpa using m2⟩
    | [],v::vs,m2=>cases m2
    | x::l,[],m2=>obtain ⟨v1,vs1,e1,_⟩:=m2;cases e1
   generalize (if h:vs.toArray.size=1 then vs.toArray[0] else Value.tuple vs.toArray)=v at hres
   refine ⟨g2,by simp [Act.put,hd,R'.defers],by simp [Act.put,hd,R'.size],R3.below,R3.q,R3.A3,R3.inv,λi => ?_,R3.lab,λi => ?_⟩
   ·rw [Ya,hd,Rp R'.size hdN];by_cases hi:i=d;(rw [if_pos hi,if_pos hi];exact hres);·rw [if_neg hi,if_neg hi];by_cases h1:i<10000;(rw [if_pos h1];have:=R3.frm i;rw [show ({ w0 with fv:=fv }:W0).fv i=a'.tmps.getD i undef from by show YU w0 a' i=_;unfold YU;rw [if_pos h1]] at this;exact this);·rw [if_neg h1];trivial
   ·rw [UJ];have h:=R3.frm (i+10000);have e:({ w0 with fv:=fv }:W0).fv (i+10000)=w0.fv i:=Yt w0 a' i;rw [e] at h;exact h
  cases e with
  | normal=>exact fin k1
  | ret=>exact fin k1
  | exit id=>exact k1.elim
  | goto l=>exact k1.elim
  | panic c=>exact k1.elim
  | outgrown=>exact k1.elim
 refine wpOp_mono (λa2 w2 R2 => ?_) hmid
 obtain ⟨s2,k1,k2⟩:=R2
 exact QW (Q:=λe a' w'=>∃s',aft P base w0 N Z kf e s'/\Rel P base w0 N s' a' w') (ops.toList.drop (n+1)) (n+1) rfl k2 k1 λs' a' w' h1 h2=>⟨s',h1,h2⟩
def aEe:=PLift.up (qI @XG (qI @aAU (qI @Vo (qI @Ya (qI @ZL (qI @UJ (qI @St.Yk @St.Yo)))))))
theorem LI:type_of% aEe.down:=aEe.down
end
end Go.Sh
namespace Go.Sh
open Go.RowKit
def Z7(h:Heap)(C:List Nat)(i ver:Nat)(e:TypeId)(sz:Nat)(xs:List (List D))(j:Nat)(x:List D)(off K:Nat)(e':TypeId)(sz':Nat)(ys:List (List D))(u:Value):Heap:=λl=>
 if l=i then(ver,.row e sz (xs.set j (x.set off (.val u))) true)else if l=K then((h K).1+1,.row e' sz' ys true)else if l=7058000 then((h 7058000).1+1,.pin K ((h K).1+1) u)else if l∈C then h l else((h l).1,.none)
def Rs(s:St)(I C:List Nat)(i ver:Nat)(e:TypeId)(sz:Nat)(xs:List (List D))(j:Nat)(x:List D)(off K:Nat)(e':TypeId)(sz':Nat)(ys:List (List D))(u:Value):St:=
 { t:=λt=>if t∈I then s.t t else .unk,h:=Z7 s.h C i ver e sz xs j x off K e' sz' ys u }
theorem Sg(s:St)(C I:List Nat)(i ver:Nat)(e:TypeId)(sz:Nat)(xs:List (List D))(j:Nat)(x:List D)(off K:Nat)(e':TypeId)(sz':Nat)(ys:List (List D))(u:Value)(t:Nat):(Rs s C I i ver e sz xs j x off K e' sz' ys u).t t=if t∈C then s.t t else .unk:=rfl
theorem WA(s:St)(I C:List Nat)(i ver:Nat)(e:TypeId)(sz:Nat)(xs:List (List D))(j:Nat)(x:List D)(off K:Nat)(e':TypeId)(sz':Nat)(ys:List (List D))(u:Value)(l:Nat):(Rs s I C i ver e sz xs j x off K e' sz' ys u).h l=
  if l=i then(ver,.row e sz (xs.set j (x.set off (.val u))) true)else if l=K then((s.h K).1+1,.row e' sz' ys true)else if l=7058000 then((s.h 7058000).1+1,.pin K ((s.h K).1+1) u)else if l∈C then s.h l else((s.h l).1,.none):=rfl
section
variable {P:Program}{base N:Nat}{w0:W0}{w:World}{g:Gh}{s:St}{a:Act}
theorem bT.at_{L:TL}{ds:List D}{ts:Lb}{vs:List Value}{F:List Nat}(h:bT L w ds ts vs F){off:Nat}{d:D}(hd:ds[off]? =some d):
  ∃I v v3 C J F3,vs=I++v::v3/\I.length=off/\F=C++(J++F3)/\Dg L w d (Sh.lab (ts.drop off)) v J/\∀(U:D) (v':Value) (j:List Nat),Dg L w U (Sh.lab (ts.drop off)) v' j->bT L w (ds.set off U) ts (I++v'::v3) (C++(j++F3)):=by
 induction ds generalizing ts vs F off with
 |nil=>simp at hd
 |cons d0 ds ih=>
  simp only[bT]at h
  obtain⟨v,vs',C,J,rfl,rfl,h3,h4⟩:=h
  cases off with
  |zero=>
   simp at hd
   subst hd
   refine⟨[],v,vs',[],C,J,rfl,rfl,rfl,by simpa using h3,λU v' j h'=> ?_⟩
   simp only[List.set_cons_zero,bT,List.nil_append]
   exact⟨v',vs',j,J,rfl,rfl,by simpa using h',h4⟩
  |succ off=>
   obtain⟨I,v2,v3,G1,G2,G3,rfl,hl,rfl,k1,k2⟩:=ih h4 (by simpa using hd)
   rw[List.drop_tail]at k1 k2
   refine⟨v::I,v2,v3,C++G1,G2,G3,rfl,by simp[hl],jH,k1,λU v' j h'=> ?_⟩
   simp only[List.set_cons_succ,bT]
   exact⟨v,I++v'::v3,C,G1++(j++G3),jH,jH,h3,k2 U v' j h'⟩
theorem Te{g':Gh}{h C:Heap}{B:Option Nat}(hB:∀b,B=some b->base<=b)(hlt:∀b,g.S b->some b≠B->g'.S b)(hval:∀i,(C i).1=(h i).1->(C i).2≠ .none->g'.val i=g.val i)(hver:∀i,(h i).1<=(C i).1)
  (hrow:∀i e sz xs dp,(C i).1=(h i).1->(C i).2=.row e sz xs dp->∃J I,(h i).2=.row e sz J I)(hbox:∀i t cs,(C i).1=(h i).1->(C i).2=.box t cs->∃cs0,(h i).2=.box t cs0)
  {c:SC}{v:Value}(hc:Aw g h w c v)(hcl:SC.clean base c):Aw g' C w c v:=by
 have cap:∀{c:Nat×Nat×Nat} {v:Value},IU g h c v->IU g' C c v:=by
  rintro c v ⟨h1,h2⟩
  refine⟨qh h1 (hver _),λhv t cs hx=> ?_⟩
  have e1:(C c.1).1=(h c.1).1:=by have:=hver c.1;omega
  obtain⟨cs0,hx0⟩:=hbox _ _ _ e1 hx
  rw[hval _ e1 (by rw[hx];simp)]
  exact h2 jF t cs0 hx0
 have caps:∀{cs:List (Nat×Nat×Nat)} {vs:List Value},DL g h cs vs->DL g' C cs vs:=by
  intro cs
  induction cs with
  |nil=>intro vs h;exact h
  |cons c cs ih=>rintro vs ⟨v,vs',rfl,h1,h2⟩;exact⟨v,vs',rfl,cap h1,ih h2⟩
 have row:∀{i ver:Nat},ver<=(h i).1->(C i).1=ver->∀{e sz xs dp},(C i).2=.row e sz xs dp->(h i).1=ver/\g'.val i=g.val i/\∃J I,(h i).2=.row e sz J I:=by
  intro i ver h1 hv e sz xs dp hr
  have e1:(C i).1=(h i).1:=by have:=hver i;omega
  exact⟨jF,hval _ e1 (by rw[hr];simp),hrow _ _ _ _ _ e1 hr⟩
 cases c with
 |dat d=>
  obtain⟨F',h1,h2⟩:=hc
  have:=Ja h1 hcl
  subst this
  exact⟨[],h1,jH⟩
 |nil=>exact hc
 |row i ver=>
  obtain⟨h0,h1,h2⟩:=hc
  refine⟨h0,qh h1 (hver _),λhv e sz xs dp hr=> ?_⟩
  obtain⟨e1,e2,J,I,U⟩:=row h1 hv hr
  rw[e2];exact h2 e1 _ _ _ _ U
 |bp i ver off=>exact⟨hc.1,cap hc.2⟩
 |rp i ver j off=>
  obtain⟨h0,h1,h2⟩:=hc
  refine⟨h0,qh h1 (hver _),λhv e sz xs dp hr=> ?_⟩
  obtain⟨e1,e2,J,I,U⟩:=row h1 hv hr
  rw[e2];exact h2 e1 _ _ _ _ U
 |clo f cs=>obtain⟨vs,h1,h2⟩:=hc;exact⟨vs,h1,caps h2⟩
 |old B0 d u=>
  obtain⟨F',h1,h2,h3⟩:=hc
  have hB0:B0<=base:=hcl
  exact⟨F',h1,λb hm=>⟨hlt b (h2 b hm).1 λe=>by have:=hB b e.symm;have:=(h2 b hm).2;omega,(h2 b hm).2⟩,h3⟩
 |part i ver lo n=>
  obtain⟨h0,h1,h2⟩:=hc
  refine⟨h0,qh h1 (hver _),λhv e sz xs dp hr=> ?_⟩
  obtain⟨e1,e2,J,I,U⟩:=row h1 hv hr
  rw[e2];exact h2 e1 _ _ _ _ U
 |exa W d x=>exact hcl.elim
theorem W4{kt kh:List Nat}{i ver:Nat}{e:TypeId}{sz:Nat}{xs:List (List D)}{j:Nat}{x:List D}{off K:Nat}{e':TypeId}{sz':Nat}{ys:List (List D)}(R:nI P base w0 N g s a w [])
  (hi:s.h i=(ver,.row e sz xs true))(hj:xs[j]? =some x)(ho:x[off]? =some (.sl ys))(hl:lab ((slP P e).drop off)=some (e',sz'))(hL:w0.Q.L=slP P)(hlent:w0.Q.lent=none\/(7059000∈kh/\i≠7059000/\K≠7059000))(hK0:∀b,w0.K b->b<base)
  (hiK:i≠K)(hi0:i≠7058000)(hK1:K≠7058000)(hkt:∀t∈kt,SV.clean base (s.t t))(hkh:∀l∈kh,DH.clean base (s.h l).2):
  ∃u,Rel P base w0 N (Rs s kt kh i ver e sz xs j x off K e' sz' ys u) a w:=by
 have hi2:(s.h i).2=.row e sz xs true:=by rw[hi]
 have hob:=R.inv.obj i
 rw[hi2]at hob
 obtain⟨cells,p1,p2,p3,p4,p5⟩:=hob
 have hof:=p5 rfl
 have hlive:live s.h i:=by unfold live;rw[hi2];simp
 have hdeep:iY s.h i:=⟨e,sz,xs,hi2⟩
 obtain⟨v1,v2,v3,F1,F2,F3,rfl,hF,hl1,hr1,hr2,hr3⟩:=p3.at_ p2 hj
 have hgL:g.Q.L=slP P:=R.lab.1.trans hL
 obtain⟨c1,u,c3,Fa,Fb,Fc,rfl,hc1,rfl,hu,tR⟩:=bT.at_ (show bT g.Q.L w x (g.Q.L e) v2 F2 from hr2) ho
 rw[hgL,hl]at hu
 simp only[Dg]at hu
 obtain⟨cells',G,q1,q2,rfl,q3⟩:=hu
 have hone:u.oneCell'=true:=by rcases q1.2 with⟨rfl,_⟩|⟨_,_,_,rfl,_⟩<;>rfl
 have hset':=tR (.val u) u [] (by unfold Dg;exact⟨⟨rfl,hone⟩,rfl⟩)
 have hnd:=hof.1
 rw[hF]at hnd
 have hBin:∀b,u.ownBlock=some b->b∈g.fp i:=λb hb=>by rw[hF,hb];simp
 have hGin:∀b∈G,b∈g.fp i:=λb hb=>by rw[hF];simp[hb]
 have hBbase:∀b,u.ownBlock=some b->base<=b:=λb hb=>(hof.2 b (hBin b hb)).1
 let FI:=F1++((Fa++([]++Fc))++F3)
 have hFI:∀b∈FI,b∈g.fp i:=λb hb=>by rw[hF];simp only[FI,qP,qO,false_or]at hb⊢;rcases hb with hb|((hb|hb)|hb);(exact .inl hb);(exact .inr (.inl (.inl hb)));(exact .inr (.inl (.inr (.inr hb))));·exact .inr (.inr hb)
 have hsub:List.Sublist FI (F1++((Fa++((u.ownBlock.toList++G)++Fc))++F3)):=
  (List.Sublist.refl _).append (((List.Sublist.refl _).append ((List.nil_sublist _).append (List.Sublist.refl _))).append (List.Sublist.refl _))
 have hBG:(u.ownBlock.toList++G).Nodup:=by have:=(qt.1 (qt.1 (qt.1 (qt.1 hnd).2.1).1).2.1).1;exact this
 have hFIB:∀b∈FI,b∉u.ownBlock.toList++G:=by intro b hb I;simp only[qt,qP]at hnd;simp only[FI,qP,qO,false_or]at hb;simp only[qP]at I;grind
 have hFIB1:∀b∈FI,u.ownBlock≠some b:=λb hb e0=>hFIB b hb (by rw[e0];simp)
 have hGB:∀b∈G,u.ownBlock≠some b:=λb hb e0=>by rw[e0]at hBG;simp at hBG;exact hBG.1 hb
 have hFIG:∀b∈FI,b∉G:=λb hb I=>hFIB b hb (by simp[I])
 have huB:Bo u=u.ownBlock:=mU q1
 let S':Nat->Prop:=λb=>g.S b/\u.ownBlock≠some b
 let g':Gh:={ val:=λl=>if l=K then u else if l=7058000 then undef else g.val l,fp:=λl=>if l=i then FI else if l=K then G else g.fp l,S:=S',Q:=g.Q }
 let h':=Z7 s.h kh i ver e sz xs j x off K e' sz' ys u
 have h'i:h' i=(ver,.row e sz (xs.set j (x.set off (.val u))) true):=if_pos rfl
 have h'K:h' K=((s.h K).1+1,.row e' sz' ys true):=by show(if K=i then _ else _)=_;rw[if_neg (Ne.symm hiK),if_pos rfl]
 have h'0:h' 7058000=((s.h 7058000).1+1,.pin K ((s.h K).1+1) u):=by show(if 7058000=i then _ else _)=_;rw[if_neg (Ne.symm hi0),if_neg (Ne.symm hK1),if_pos rfl]
 have h'n:∀l,l≠i->l≠K->l≠7058000->h' l=if l∈kh then s.h l else((s.h l).1,.none):=λl U C a3=>by show(if l=i then _ else _)=_;rw[if_neg U,if_neg C,if_neg a3]
 have vi:g'.val i=g.val i:=by show(if i=K then _ else _)=_;rw[if_neg hiK,if_neg hi0]
 have vK:g'.val K=u:=if_pos rfl
 have v0:g'.val 7058000=undef:=by show(if 7058000=K then _ else _)=_;rw[if_neg (Ne.symm hK1),if_pos rfl]
 have vn:∀l,l≠K->l≠7058000->g'.val l=g.val l:=λl U C=>by show(if l=K then _ else _)=_;rw[if_neg U,if_neg C]
 have fi:g'.fp i=FI:=if_pos rfl
 have fK:g'.fp K=G:=by show(if K=i then _ else _)=_;rw[if_neg (Ne.symm hiK),if_pos rfl]
 have fn:∀l,l≠i->l≠K->g'.fp l=g.fp l:=λl U C=>by show(if l=i then _ else _)=_;rw[if_neg U,if_neg C]
 have hverle:∀l,(s.h l).1<=(h' l).1:=λl=>by by_cases U:l=i;(subst U;rw[h'i,hi];exact qg _);by_cases C:l=K;(subst C;rw[h'K];exact Nat.le_succ _);by_cases a3:l=7058000;(subst a3;rw[h'0];exact Nat.le_succ _);rw[h'n l U C a3];split<;>exact qg _
 have hnK:∀l,(h' l).1=(s.h l).1->l≠K/\l≠7058000:=λl hv=>by refine⟨λe0=> ?_,λe0=> ?_⟩;(subst e0;rw[h'K]at hv;simp at hv);·subst e0;rw[h'0]at hv;simp at hv
 have hcl:∀{c:SC} {v:Value},Aw g s.h w c v->SC.clean base c->Aw g' h' w c v:=λh1 h2=>by refine Te (g':=g') (B:=u.ownBlock) hBbase (λb hb hne=>⟨hb,λe0=>hne e0.symm⟩) (λl hv _=>vn l (hnK l hv).1 (hnK l hv).2) hverle (λl e1 sz1 xs1 dp1 hv hr=> ?_) (λl t cs hv hx=> ?_) h1 h2;(obtain⟨C,a3⟩:=hnK l hv;by_cases U:l=i;(subst U;rw[h'i]at hr;cases hr;exact⟨xs,true,hi2⟩);·rw[h'n l U C a3]at hr;split at hr;(exact⟨xs1,dp1,hr⟩);·cases hr);·obtain⟨C,a3⟩:=hnK l hv;by_cases U:l=i;(subst U;rw[h'i]at hx;cases hx);·rw[h'n l U C a3]at hx;split at hx;(exact⟨cs,hx⟩);·cases hx
 have hcls:∀{cs0:List SC} {us:List Value},aR g s.h w cs0 us->(∀c∈cs0,SC.clean base c)->aR g' h' w cs0 us:=by
  intro cs0
  induction cs0 with
  |nil=>intro us h _;exact h
  |cons c cs0 ih=>
   rintro us ⟨v,vs',rfl,h1,h2⟩ J
   exact⟨v,vs',rfl,hcl h1 (J c jH),ih h2 λc' hc'=>J c' (by simp[hc'])⟩
 have hlv:∀l,live h' l->l≠K->l≠7058000->live s.h l:=λl hl C a3=>by by_cases U:l=i;(subst U;exact hlive);·unfold live at hl⊢;rw[h'n l U C a3]at hl;split at hl;(exact hl);·exact absurd rfl hl
 have hdp:∀l,iY h' l->l≠K->iY s.h l:=λl hd C=>by obtain⟨e1,sz1,xs1,hh⟩:=hd;by_cases U:l=i;(subst U;exact hdeep);by_cases a3:l=7058000;(subst a3;rw[h'0]at hh;cases hh);rw[h'n l U C a3]at hh;split at hh;(exact⟨e1,sz1,xs1,hh⟩);·cases hh
 have fsub:∀l,l≠K->∀b∈g'.fp l,b∈g.fp l:=λl C b hb=>by by_cases U:l=i;(subst U;rw[fi]at hb;exact hFI b hb);·rw[fn l U C]at hb;exact hb
 have hOK:Av base w G:=⟨(qt.1 hBG).2.1,λb hb=>hof.2 b (hGin b hb)⟩
 have hO1:Av base w FI:=⟨hnd.sublist hsub,λb hb=>hof.2 b (hFI b hb)⟩
 have hlent':Nf w0.Q.lent h' g':=by
  intro b hb
  rcases hlent with hn|⟨m1,m2,m3⟩
  ·rw[hn]at hb;cases hb
  ·have e1:h' 7059000=s.h 7059000:=by rw[h'n _ (Ne.symm m2) (Ne.symm m3) jI,if_pos m1]
   rw[e1,vn _ (Ne.symm m3) jI]
   exact R.q.2.2 b hb
 refine⟨u,g',R.defers,R.size,R.below,⟨R.q.1,R.q.2.1,hlent'⟩,λb hb=>⟨⟨(R.A3 b hb).1,λe0=> ?_⟩,(R.A3 b hb).2⟩,
  ⟨R.inv.base_le,λb hb hlt=>R.inv.S_old b hb.1 hlt,λb hb=>R.inv.S_lt b hb.1,λl=> ?_,λl b hl hb=> ?_,λl k b hne hl hk hb I=> ?_,λl k hne hl hk b hb I=> ?_,Av.nil _ _,λ_ hx=>absurd hx qO,λ_ _ _ _=>qO,R.inv.fb⟩,λt=> ?_,R.lab,λ_=>trivial⟩
 ·have:=hK0 b hb;have:=hBbase b e0;omega
 ·show C8 base g' h' w l (h' l).2
  by_cases U:l=i
  ·subst U;rw[h'i];refine⟨v1++((c1++u::c3)++v3),?_,?_,?_,?_,λ_=>by rw[fi];exact hO1⟩;(rw[vi,qN];exact p1);(intro y hy;rcases jD hy with hy|rfl;(exact p2 y hy);·rw[qN];exact p2 x (jC hj));(rw[fi];have hjlt:j<xs.length:=(qe.1 hj).1;rw[show xs.set j (x.set off (.val u))=xs.take j++([x.set off (.val u)]++xs.drop (j+1))from by rw[List.set_eq_take_append_cons_drop,if_pos hjlt];rfl];exact hr1.append (cT.append (cT.one hset') hr3));·rw[fi];exact λb hb=>⟨p4 b (hFI b hb),hFIB1 b hb⟩
  by_cases C:l=K
  ·subst C;rw[h'K];refine⟨cells',?_,q2,?_,?_,λ_=>by rw[fK];exact hOK⟩;(rw[vK];refine⟨q1.1,?_⟩;rcases q1.2 with k|⟨gg,cap,cur,k1,k2,k3⟩;(exact .inl k);·exact .inr ⟨gg,cap,cur,k1,hBbase gg (by rw[k1];rfl),k3⟩);(rw[fK];show kX g.Q.L w ys e' cells' G;rw[hgL];exact q3);·rw[fK];exact λb hb=>⟨p4 b (hGin b hb),hGB b hb⟩
  by_cases a3:l=7058000
  ·subst a3;rw[h'0];exact⟨v0,by rw[h'K];exact qg _,λ_ _ _ _ _ _=>vK⟩
  rw[h'n l U C a3]
  by_cases a4:l∈kh
  ·rw[if_pos a4]
   have J:=hkh l a4
   have hob:=R.inv.obj l
   cases hh:(s.h l).2 with
   |none=>trivial
   |pin j v u=>rw[hh]at J;exact J.elim
   |box t cells0=>
    rw[hh]at hob J
    obtain⟨b,vals,k1,k2,k3,k4⟩:=hob
    exact⟨b,vals,(vn l C a3).trans k1,k2,k3,hcls k4 J⟩
   |row e1 sz1 xs1 dp1=>
    rw[hh]at hob J
    have hd1:dp1=true:=J
    subst hd1
    obtain⟨cells1,k1,k2,k3,k4,k5⟩:=hob
    refine⟨cells1,by rw[vn l C a3];exact k1,k2,by rw[fn l U C];exact k3,by rw[fn l U C];exact λb hb=>⟨k4 b hb,λe0=>R.inv.dis l i U ⟨e1,sz1,xs1,hh⟩ hdeep b hb (hBin b e0)⟩,by rw[fn l U C];exact k5⟩
  ·rw[if_neg a4];trivial
 ·by_cases C:l=K;(subst C;rw[vK,huB]at hb;exact λhS=>hS.2 hb);by_cases a3:l=7058000;(subst a3;rw[v0]at hb;simp[undef,Bo]at hb);rw[vn l C a3]at hb;exact λhS=>R.inv.mtb l b (hlv l hl C a3) hb hS.1
 ·have key:∀m,m≠K->live h' m->Bo (g'.val m)=some b->u.ownBlock=some b->False:=λm C hm hmb hu=>by
   by_cases a3:m=7058000
   ·subst a3;rw[v0]at hmb;simp[undef,Bo]at hmb
   rw[vn m C a3]at hmb
   exact R.inv.mtb m b (hlv m hm C a3) hmb (p4 b (hBin b hu))
  by_cases C:l=K
  ·subst C;rw[vK,huB]at hb;exact key k (Ne.symm hne) hk I hb
  by_cases b2:k=K
  ·subst b2;rw[vK,huB]at I;exact key l C hl hb I
  by_cases a3:l=7058000
  ·subst a3;rw[v0]at hb;simp[undef,Bo]at hb
  by_cases b3:k=7058000
  ·subst b3;rw[v0]at I;simp[undef,Bo]at I
  rw[vn l C a3]at hb
  rw[vn k b2 b3]at I
  exact R.inv.inj l k b hne (hlv l hl C a3) (hlv k hk b2 b3) hb I
 ·by_cases C:l=K;(subst C;rw[fK]at hb;by_cases b1:k=i;(subst b1;rw[fi]at I;exact hFIG b I hb);·rw[fn k b1 (Ne.symm hne)]at I;exact R.inv.dis k i b1 (hdp k hk (Ne.symm hne)) hdeep b I (hGin b hb));by_cases b2:k=K;(subst b2;rw[fK]at I;by_cases b1:l=i;(subst b1;rw[fi]at hb;exact hFIG b hb I);·rw[fn l b1 C]at hb;exact R.inv.dis l i b1 (hdp l hl C) hdeep b hb (hGin b I));exact R.inv.dis l k hne (hdp l hl C) (hdp k hk b2) b (fsub l C b hb) (fsub k b2 b I)
 ·rw[Sg]
  by_cases ht:t∈kt
  ·rw[if_pos ht]
   have hsv:=R.tmp t
   have J:=hkt t ht
   cases hx:s.t t with
   |unk=>trivial
   |undef=>rw[hx]at hsv;exact hsv
   |v ag cs0=>
    rw[hx]at hsv J
    cases ag with
    |false=>exact hcls hsv J
    |true=>obtain⟨us,h1,h2⟩:=hsv;exact⟨us,h1,hcls h2 J⟩
   |tup xs=>
    rw[hx]at hsv J
    obtain⟨us,h1,h2⟩:=hsv
    refine⟨us,h1,?_⟩
    revert h2 J
    generalize us.toList=vl
    intro J h2
    clear hx h1
    induction xs generalizing vl with
    |nil=>exact h2
    |cons x xs ih=>
     obtain⟨v,vs',rfl,q1,q2⟩:=h2
     refine⟨v,vs',rfl,?_,ih vs' (λy hy=>J y (by simp[hy])) q2⟩
     obtain⟨ag,cs1⟩:=x
     have hcx:=J (ag,cs1) jH
     cases ag with
     |false=>exact hcls q1 hcx
     |true=>obtain⟨us',r1,r2⟩:=q1;exact⟨us',r1,hcls r2 hcx⟩
  ·rw[if_neg ht];trivial
theorem Q4{c:Code}{Q:Exit->St->Prop}(kt kh:List Nat){i ver:Nat}{e:TypeId}{sz:Nat}{xs:List (List D)}{j:Nat}{x:List D}{off K:Nat}{e':TypeId}{sz':Nat}{ys:List (List D)}
  (hi:s.h i=(ver,.row e sz xs true))(hj:xs[j]? =some x)(ho:x[off]? =some (.sl ys))(hl:lab ((slP P e).drop off)=some (e',sz'))(hL:w0.Q.L=slP P)(hlent:w0.Q.lent=none\/(7059000∈kh/\i≠7059000/\K≠7059000))(C:∀b,w0.K b->b<base)
  (U:i≠K)(J:i≠7058000)(I:K≠7058000)(hkt:∀t∈kt,SV.clean base (s.t t))(hkh:∀l∈kh,DH.clean base (s.h l).2)
  (h:∀u,SW P base w0 N c (Rs s kt kh i ver e sz xs j x off K e' sz' ys u) Q):SW P base w0 N c s Q:=λa w ⟨g,R⟩=>by
 obtain⟨u,R'⟩:=W4 R hi hj ho hl hL hlent C U J I hkt hkh
 exact h u a w R'
theorem Gho.close{i ver:Nat}{e:TypeId}{sz:Nat}{xs:List (List D)}{j:Nat}{x:List D}{off K vK pv:Nat}{e':TypeId}{sz':Nat}{ys:List (List D)}{u:Value}
  (hi:s.h i=(ver,.row e sz xs true))(hj:xs[j]? =some x)(ho:x[off]? =some (.val u))(hp:s.h 7058000=(pv,.pin K vK u))(hk:s.h K=(vK,.row e' sz' ys true))(hl:lab ((slP P e).drop off)=some (e',sz'))(hL:w0.Q.L=slP P)(hiK:i≠K):
  Gho P base w0 N s ((s.fP K (vK,.none)).fP i (ver,.row e sz (xs.set j (x.set off (.sl ys))) true)):=by
 rintro a w ⟨g,R⟩
 have hgL:g.Q.L=slP P:=R.lab.1.trans hL
 have hk2:(s.h K).2=.row e' sz' ys true:=by rw[hk]
 have hob0:=R.inv.obj 7058000
 rw[show(s.h 7058000).2=.pin K vK u from by rw[hp]]at hob0
 have hval:g.val K=u:=hob0.2.2 (by rw[hk]) _ _ _ _ hk2
 obtain⟨J,F,t1,t1b,t2,tS,tF,t3,t4,t5⟩:=R.inv.take hk2
 have T1:lH g { g with S:=J } s.h (tR s.h K ((s.h K).1,.none)) w w:=lH.drop K J t1
 rw[show(s.h K).1=vK from by rw[hk]]at T1 t5
 have U:nI P base w0 N { g with S:=J } (s.fP K (vK,.none)) a w ([]++F):=R.turn T1 rfl R.below t5
 have hi':(s.fP K (vK,.none)).h i=(ver,.row e sz xs true):=by rw[St.LY,if_neg hiK];exact hi
 have I:((s.fP K (vK,.none)).h i).2=.row e sz xs true:=by rw[hi']
 have hob:=U.inv.obj i
 rw[I]at hob
 obtain⟨cells,p1,p2,p3,p4,p5⟩:=hob
 have hof:=p5 rfl
 have hjlt:j<xs.length:=(qe.1 hj).1
 rcases p1.2 with⟨_,h0⟩|⟨gg,cap,cur,c1,c2,c3,c4⟩
 ·omega
 have hlive:live (s.fP K (vK,.none)).h i:=by unfold live;rw[I];simp
 have hown:Bo (({ g with S:=J }:Gh).val i)=some gg:=by rw[c1];rfl
 have hdi:iY (s.fP K (vK,.none)).h i:=⟨e,sz,xs,I⟩
 obtain⟨v1,v2,v3,F1,F2,F3,rfl,hF,hl1,hr1,hr2,hr3⟩:=p3.at_ p2 hj
 obtain⟨d1,v,d3,Fa,Fb,Fc,rfl,hd1,rfl,hu,hsetc⟩:=bT.at_ (show bT g.Q.L w x (g.Q.L e) v2 F2 from hr2) ho
 have hu':(v=u/\v.oneCell'=true)/\Fb=[]:=by unfold Dg at hu;exact hu
 obtain⟨⟨rfl,_⟩,rfl⟩:=hu'
 have hset':=hsetc (.sl ys) v F (by rw[hgL,hl,<-hval,<-hgL];exact tS rfl)
 have hpd:=U.inv.pool_dis i hdi
 have hpo:=U.inv.pool_own
 rw[List.nil_append]at hpd hpo
 have hnd:=hof.1
 rw[hF]at hnd
 have hnd2:(F1++((Fa++(F++Fc))++F3)).Nodup:=OZ hnd hpo.1 λy C hy'=>hpd y (by rw[hF];exact hy') C
 have hin:∀y∈F1++((Fa++(F++Fc))++F3),y∈F\/y∈({ g with S:=J }:Gh).fp i:=λy C=>by rw[hF];simp only[qP,qO,false_or]at C⊢;rcases C with C|((C|C|C)|C)<;>simp[C]
 have hnS:=U.inv.mtb i gg hlive hown
 have T2:lH { g with S:=J } { ({ g with S:=J }:Gh)with fp:=FH g.fp i (F1++((Fa++(F++Fc))++F3)) } (s.fP K (vK,.none)).h (tR (s.fP K (vK,.none)).h i (((s.fP K (vK,.none)).h i).1,.row e sz (xs.set j (x.set off (.sl ys))) true)) w w:=
  lH.Ey hnS (λ_ _=>rfl) (by intro e0 sz0 xs0 dp0 hh';cases hh';exact⟨_,_,I⟩) (by intro t0 cs0 hh';cases hh')
 have hrow:cT g.Q.L true w e (xs.set j (x.set off (.sl ys))) (v1++((d1++v::d3)++v3)) (F1++((Fa++(F++Fc))++F3)):=by rw[show xs.set j (x.set off (.sl ys))=xs.take j++([x.set off (.sl ys)]++xs.drop (j+1))from by rw[List.set_eq_take_append_cons_drop,if_pos hjlt];rfl];exact hr1.append (cT.append (cT.one hset') hr3)
 have I':=U.inv.Ey (i:=i) (b:=gg) (F:=F1++((Fa++(F++Fc))++F3)) (pool':=[]) (w':=w) hlive hown rfl (λ_ _=>rfl) T2
  ⟨_,by rw[qN];exact p1,(λy C=>by
   rcases jD C with C|rfl
   ·exact p2 y C
   ·rw[qN];exact p2 x (jC hj)),(by
   show cT _ _ _ _ _ _ (FH g.fp i _ i)
   rw[dQ]
   exact hrow),(by
   show ∀y∈FH g.fp i _ i,J y
   rw[dQ]
   intro y C
   rcases hin y C with h|h
   ·exact t3 y h
   ·exact p4 y h),(by
   intro _
   show Av base w (FH g.fp i _ i)
   rw[dQ]
   refine⟨hnd2,λy C=> ?_⟩
   rcases hin y C with h|h
   ·exact hpo.2 y h
   ·exact hof.2 y h)⟩ jH List.nodup_nil (by
   rintro _ y C
   refine⟨?_,qO⟩
   rcases hin y C with h|h
   ·exact .inl (by simpa using h)
   ·exact .inr ⟨hdi,h⟩)
 rw[show((s.fP K (vK,.none)).h i).1=ver from by rw[hi']]at T2 I'
 exact⟨_,U.turn T2 rfl U.below I'⟩
end
end Go.Sh
namespace Go.Sh
open Go.RowKit
def W7(B:Nat)(d:D):SC:=if d.flat=true then .dat d else .old B d none
def SO(B:Nat)(args:List (Bool×List D)):St:=
 { t:=λi=>match args[i]? with|some (j,ds)=>.v j (ds.map (W7 B))|none=>.undef,h:=λ_=>(0,.none) }
theorem Zq(B:Nat)(args:List (Bool×List D))(i:Nat):(SO B args).t i=match args[i]? with|some (j,ds)=>.v j (ds.map (W7 B))|none=>.undef:=rfl
theorem YG(B:Nat)(args:List (Bool×List D))(i:Nat):(SO B args).h i=(0,.none):=rfl
theorem WG(B:Nat)(k:IntKind)(n:Int):W7 B (.int k n)=.dat (.int k n):=rfl
theorem Vc(B:Nat)(b:Bool):W7 B (.bool b)=.dat (.bool b):=rfl
theorem XC(B:Nat)(b:ByteArray):W7 B (.str b)=.dat (.str b):=rfl
theorem YF(B:Nat)(xs:List (List D)):W7 B (.sl xs)=.old B (.sl xs) none:=rfl
theorem aR.TA{g:Gh}{h:Heap}{w:World}{B:Nat}:∀{ds:List D} {vs:List Value} {F:List Nat},aH w ds vs F->(∀b∈F,g.S b/\b<B)->aR g h w (ds.map (W7 B)) vs
 |[],vs,F,j,_=>by simp only[aH]at j;exact j.1
 |d::ds,vs,F,j,C=>by simp only[aH]at j;obtain⟨v,I,J,U,rfl,rfl,h3,h4⟩:=j;refine⟨v,I,rfl,?_,aR.TA h4 λb hb=>C b (by simp[hb])⟩;unfold W7;split;(exact⟨J,h3,λb hb=>(C b (by simp[hb])).1⟩);·exact⟨J,h3,λb hb=>C b (by simp[hb]),λ_ e=>by cases e⟩
def T9(j:List (Bool×List RC)):Bool:=j.all λr=>r.2.all λc=>match c with| .own _ _ _=>false|_=>true
theorem GK{L I:TL}{base:Nat}{w:World}{X:Nat->Prop}:∀{vs:List Value} {C:List RC} {F:List Nat},(C.all λc=>match c with| .own _ _ _=>false|_=>true)=true->sL L base w X vs C F->sL I base w X vs C F
 |[],[],F,_,h=>h
 |v::vs,.any d::C,F,j,h=>by simp only[List.all_cons,Bool.true_and]at j;exact⟨h.1,GK j h.2⟩
 |v::vs,.ro d::C,F,j,h=>by simp only[List.all_cons,Bool.true_and]at j;exact⟨h.1,GK j h.2⟩
 |v::vs,.own e sz J::C,F,j,h=>by simp at j
 |v::vs,.edit q::C,F,_,h=>h.elim
 |[],_::_,F,_,h=>h.elim
 |_::_,[],F,_,h=>h.elim
theorem RO{L C:TL}{base:Nat}{w:World}{X:Nat->Prop}{v:Value}{r:Bool×List RC}{F:List Nat}(j:(r.2.all λc=>match c with| .own _ _ _=>false|_=>true)=true)(h:L8 L base w X v r F):L8 C base w X v r F:=by
 obtain⟨I,U⟩:=r
 cases I with
 |true=>obtain⟨J,rfl,h⟩:=h;exact⟨J,rfl,GK j h⟩
 |false=>exact GK j h
theorem L6{L U:TL}{base:Nat}{w:World}{X:Nat->Prop}:∀{vs:List Value} {j:List (Bool×List RC)} {F:List Nat},T9 j=true->Dm L base w X vs j F->Dm U base w X vs j F
 |[],[],F,_,h=>h
 |v::vs,r::j,F,C,⟨I,J,h0,h1,h2⟩=>by simp only[T9,List.all_cons,qM]at C;exact⟨I,J,h0,RO C.1 h1,L6 C.2 h2⟩
 |[],_::_,F,_,h=>h.elim
 |_::_,[],F,_,h=>h.elim
theorem V6{L J:TL}{base:Nat}{w:World}{v:Value}{C:List (Bool×List RC)}{Q:Nat->Prop}(j:T9 C=true)(h:Ka L base w v C Q):Ka J base w v C Q:=by
 obtain⟨F,X,h1,h2,h3,h4⟩:=h
 refine⟨F,X,h1,h2,h3,?_⟩
 match C,j,h4 with
 |[r],j,h4=>
  simp only[T9,List.all_cons,List.all_nil,Bool.and_true]at j
  exact RO j h4
 |[],j,h4=>obtain⟨I,e,h⟩:=h4;exact⟨I,e,L6 j h⟩
 |a::b::C,j,h4=>obtain⟨I,e,h⟩:=h4;exact⟨I,e,L6 j h⟩
theorem Y3 {P : Program} (L : TL) {f : FuncId} {fn : Func} {c : Code} {args : List (Bool × List D)} {rs : List (Bool × List RC)} {N : Nat} {vars : List ResultVar} (hf : P.funcs[f]? = some fn) (hb : fn.body = some c) (hN : fn.ntmps = N) (hv : fn.results.toList = vars) (hnm : (fn.name == "runtime.NumGoroutine") = false) (hn : args.length <= N) (hL : L = slP P \/ (L = S7 /\ T9 rs = true))
  (h : ∀(base:Nat) (wd:World×(Nat->Prop)),SW P base ⟨wd.1,⟨wd.2,base,none,L⟩,noK,O8⟩ N c (SO base args) (aft P base ⟨wd.1,⟨wd.2,base,none,L⟩,noK,O8⟩ N (Ret (fN P) vars rs) [])):gL P f args rs:=by
 subst hN hv
 refine .inl ⟨⟨fn,c,hf,hb,hnm⟩,λw vs Fa ha => ?_⟩
 obtain ⟨hlen,hat⟩:=args_at ha
 have hlen':vs.size=args.length:=by simpa using hlen
 refine calls_of_wp hf hb ?_
 have hFlt:=HK ha
 let g:Gh:={ val:=λ_=>undef,fp:=λ_=>[],S:=λb=>b∈Fa,Q:=⟨λb=>b∈Fa,w.heap.size,none,L⟩ }
 have R:Rel P w.heap.size ⟨w,⟨λb=>b∈Fa,w.heap.size,none,L⟩,noK,O8⟩ fn.ntmps (SO w.heap.size args) { tmps:=vs++Array.replicate (fn.ntmps-vs.size) undef,defers:=[] } w:=by
  refine ⟨g,rfl,jG,Below.refl _ _,⟨λ_ x=>x,rfl,λ_ hx=>(by cases hx)⟩,λ_ x=>x.elim,⟨qg _,λ_ x _=>x,hFlt,λi=>trivial,λi b hl=>absurd rfl hl,λi j b _ hl=>absurd rfl hl,?_,Av.nil _ _,jH,λi hd=>(by obtain ⟨_,_,_,hd⟩:=hd;cases hd),qg _⟩,λt => ?_,⟨rfl,hL.imp id And.left⟩,λ_=>trivial⟩
  ·rintro i j _ ⟨_,_,_,hd⟩;cases hd
  ·show vW g _ w (match args[t]? with | some (ag,ds)=>.v ag (ds.map (W7 w.heap.size)) | none=>.undef) _
   cases ht:args[t]? with
   | none =>
    have hge:args.length<=t:=List.getElem?_eq_none_iff.1 ht
    show _=undef
    simp only [Array.getD_eq_getD_getElem?,Array.getElem?_append]
    rw [if_neg jF]
    by_cases h2:t-vs.size<fn.ntmps-vs.size
    ·simp [h2]
    ·rw [Array.getElem?_eq_none jG];rfl
   | some x =>
    obtain ⟨v,Fi,h1,h2,hFi⟩:=hat t x ht
    have hlt:t<vs.size:=by have:=(qe.1 ht).1;omega
    have hv:(vs++Array.replicate (fn.ntmps-vs.size) undef).getD t undef=v:=by
     simp only [Array.getD_eq_getD_getElem?,Array.getElem?_append]
     rw [if_pos hlt]
     have:vs[t]? = some v:=by simpa using h1
     rw [this];rfl
    rw [hv]
    obtain ⟨ag,ds⟩:=x
    cases ag with
    | false =>
     obtain ⟨d,rfl,hr⟩:=h2
     have hcs:aH w [d] [v] Fi:=by simp only [aH];exact ⟨v,[],Fi,[],rfl,jH,hr,jH⟩
     exact aR.TA hcs λb hb=>⟨hFi b hb,hFlt b (hFi b hb)⟩
    | true =>
     obtain ⟨cs,rfl,hr⟩:=h2
     exact ⟨cs,rfl,aR.TA hr λb hb=>⟨hFi b hb,hFlt b (hFi b hb)⟩⟩
 refine wp_mono (h w.heap.size (w,λb=>b∈Fa) _ w R) ?_
 rintro e a' w' ⟨s',h1,R'⟩
 have fin:Ret (fN P) fn.results.toList rs s'->a'.defers=[] /\ ∃v,(results fn a'.tmps).run P w' = .ok v w' /\ ∃v',Ending.returned v = .returned v'/\Ka (slP P) w.heap.size w' v' rs (λb=>b∈Fa)/\Below w.heap.size w w':=by intro hr;obtain ⟨v,k1,k2⟩:=QU R' hr;obtain ⟨g',R''⟩:=R';refine ⟨R''.defers,v,k1,v,rfl,?_,R''.below⟩;rcases hL with rfl | ⟨_,hno⟩;(exact k2);·exact V6 hno k2
 cases e with
 | normal=>exact fin h1
 | ret=>exact fin h1
 | exit id=>exact h1.elim
 | goto l=>exact h1.elim
 | panic c=>exact h1.elim
 | outgrown=>exact h1.elim
theorem YN {P : Program} {f : FuncId} {fn : Func} {c : Code} {args : List (Bool × List D)} {rs : List (Bool × List RC)} {N : Nat} {vars : List ResultVar} (hf : P.funcs[f]? = some fn) (hb : fn.body = some c) (hN : fn.ntmps = N) (hv : fn.results.toList = vars) (hnm : (fn.name == "runtime.NumGoroutine") = false) (hn : args.length <= N)
  (h : ∀(base:Nat) (wd:World×(Nat->Prop)),SW P base ⟨wd.1,⟨wd.2,base,none,slP P⟩,noK,O8⟩ N c (SO base args) (aft P base ⟨wd.1,⟨wd.2,base,none,slP P⟩,noK,O8⟩ N (Ret (fN P) vars rs) [])):gL P f args rs:=Y3 (slP P) hf hb hN hv hnm hn (.inl rfl) h
theorem UY(B:Nat)(d:D)(u:Option Value)(cs:List SC)(k:List D->Prog):Cx (.old B d u::cs) k=Cx cs λds=>k (d::ds):=rfl
theorem VN(b:Nat)(d:D):SC.clean b (.dat d)=(d.flat=true):=rfl
theorem VM(b B:Nat)(d:D)(u:Option Value):SC.clean b (.old B d u)=(B<=b):=rfl
theorem Vb(b:Nat):SC.clean b .nil=True:=rfl
theorem T7(b i v:Nat):SC.clean b (.row i v)=True:=rfl
theorem Xk(b i v o:Nat):SC.clean b (.bp i v o)=True:=rfl
theorem YC(b:Nat)(j:Bool)(cs:List SC):SV.clean b (.v j cs)=∀c∈cs,SC.clean b c:=rfl
theorem UE(b:Nat)(xs:List (Bool×List SC)):SV.clean b (.tup xs)=∀x∈xs,∀c∈x.2,SC.clean b c:=rfl
theorem TU(b:Nat):SV.clean b .unk=True:=rfl
theorem Qy(b:Nat):SV.clean b .undef=True:=rfl
theorem SG(b:Nat):DH.clean b .none=True:=rfl
theorem Vn(b:Nat)(t:TypeId)(cs:List SC):DH.clean b (.box t cs)=∀c∈cs,SC.clean b c:=rfl
theorem Sx(b:Nat)(e:TypeId)(sz:Nat)(xs:List (List D))(dp:Bool):DH.clean b (.row e sz xs dp)=(dp=true):=rfl
theorem aG2{α:Type}{p:α->Prop}{a:α}{l:List α}:(∀x∈a::l,p x)=(p a/\∀x∈l,p x):=by simp
theorem aG4{α:Type}{p:α->Prop}:(∀x∈([]:List α),p x)=True:=by simp
theorem WI(k:IntKind)(n:Int):D.flat (.int k n)=true:=rfl
theorem UC(b:Bool):D.flat (.bool b)=true:=rfl
theorem WQ(b:ByteArray):D.flat (.str b)=true:=rfl
theorem Yr(b:Nat):(b<=b)=True:=by simp
theorem exI{P:Program}{T:OE}{N:Nat}{ops:Array Oper}{l:List Oper}{s j:St}{K:St->Prop}(h:uD P T N ops l s (Is j))(hk:K j):uD P T N ops l s K:=
 Er l (λτ hτ=>by rw[show τ=j from hτ];exact hk) h
theorem Wo(b i v j o:Nat):SC.clean b (.rp i v j o)=True:=rfl
theorem Vz{α:Type}{l:List α}{i:Nat}{a b:α}(h:l[i]? =some b):(l.set i a)[i]? =some a:=by rw[List.getElem?_set_self (qe.1 h).1]
def aBw:=PLift.up (qI @VN (qI @VM (qI @Vb (qI @T7 (qI @Xk (qI @Wo (qI @YC (qI @UE (qI @TU (qI @Qy (qI @SG (qI @Vn (qI @Sx (qI @aG2 (qI @aG4 (qI @WI (qI @UC (qI @WQ (qI @Yr (qI and_true (qI true_and and_self)))))))))))))))))))))
theorem LC:type_of% aBw.down:=aBw.down
def aCC:=PLift.up (qI @Tz (qI @JK (qI @Zq (qI @YG (qI @WG (qI @Vc (qI @XC (qI @YF (qI @UY (qI @Sg (qI @WA (qI @List.set_set.{0} @List.length_set.{0}))))))))))))
theorem LN:type_of% aCC.down:=aCC.down
end Go.Sh
namespace Go.Sh
open Go.RowKit
section
variable {P:Program}{base N:Nat}{w0:W0}{s:St}
theorem OM{g:Gh}{a:Act}{w:World}{j K vj n:Nat}{e:TypeId}{sz:Nat}{xs ys:List (List D)}{dp:Bool}{v:Value}(R:nI P base w0 N g s a w [])(h2:s.h j=(vj,.row e sz xs dp))(hn:n<=xs.length)(J:xs.take n=ys)(hv:Aw g s.h w (.part j vj 0 n) v):
  ∃g',nI P base w0 N g' ((s.fP j (vj,.none)).fP K ((s.h K).1+1,.row e sz ys dp)) a w []/\lH g g' s.h ((s.fP j (vj,.none)).fP K ((s.h K).1+1,.row e sz ys dp)).h w w/\
   Aw g' ((s.fP j (vj,.none)).fP K ((s.h K).1+1,.row e sz ys dp)).h w (.row K ((s.h K).1+1)) v:=by
 have C:(s.h j).1=vj:=by rw[h2]
 have I:(s.h j).2=.row e sz xs dp:=by rw[h2]
 have hob:=R.inv.obj j
 rw[I]at hob
 obtain⟨cells,p1,p2,p3,p4,p5⟩:=hob
 obtain⟨I1,hfr⟩:=R.inv.DD I
 rw[C]at I1 hfr
 have T1:lH g g s.h (tR s.h j (vj,.none)) w w:=by have:=lH.drop (g:=g) (h:=s.h) (w:=w) j g.S λ_ x=>x;rw[C]at this;exact this
 have hver:(tR s.h j (vj,.none) K).1=(s.h K).1:=by by_cases hk:K=j;(subst hk;rw[bM,C]);·rw[fU _ _ _ _ hk]
 obtain⟨hv0,_,hv⟩:=hv
 obtain⟨U,c,rfl,k2,_,k4⟩:=hv C e sz xs dp I
 obtain⟨m,k5,k6⟩:=k4 rfl
 have hyl:ys.length=n:=by rw[<-J,qV,Nat.min_eq_left hn]
 have hsp:cT g.Q.L dp w e (xs.take n++xs.drop n) cells (g.fp j):=by rw[qo];exact p3
 obtain⟨v1,v2,F1,F2,hce,hF,q1,q2⟩:=cT.split hsp
 rw[J]at q1
 have hxl:∀y∈ys,y.length=sz:=λy hy=>p2 y (qk (J ▸ hy))
 have hl1:v1.length=n*sz:=by rw[<-hyl];exact aU.length q1.rep hxl
 have ho:w.ownsRow base e sz (.slice U n c) ys.length v1:=by
  rw[hyl]
  refine⟨hl1,?_⟩
  rcases p1.2 with⟨h6,h7⟩|⟨gg,cap,cur,h6,h7,h8,h9,aa,ae,af⟩
  ·rw[k5]at h6
   simp at h6
   obtain⟨rfl,rfl,rfl⟩:=h6
   have:n=0:=by omega
   subst this
   exact .inl ⟨rfl,rfl⟩
  ·rw[k5]at h6
   simp at h6
   obtain⟨rfl,rfl,rfl⟩:=h6
   refine .inr ⟨gg,c,cur,rfl,h7,h8,k2,aa,ae,?_⟩
   have:(cur.toList.take (xs.length*sz)).take (n*sz)=v1:=by rw[af,hce];exact List.take_left' hl1
   rw[List.take_take,Nat.min_eq_left (qj sz hn)]at this
   exact this
 have hob2:∀b,Bo (.slice U n c)=some b->Bo (g.val j)=some b:=by intro b hb;rw[k5];cases U<;>first|(simp[Bo]at hb;done)|simpa[Bo]using hb
 have I2:=I1.DK (i:=K) (v:=.slice U n c) (e:=e) (sz:=sz) (xs:=ys) (dp:=dp) (cells:=v1) (F:=F1) (pool':=[]) ho hxl q1 (λb hb=>p4 b (by rw[hF];simp[hb])) (λb hb=>hfr b (hob2 b hb)) jH List.nodup_nil (λhd=>by subst hd;simp only[if_true,List.nil_append];have hnd:=(p5 rfl).1;rw[hF]at hnd⊢;exact⟨(qt.1 hnd).1,λb hb=>⟨by simp[hb],jH⟩⟩)
 have T2:=lH.create (g:=g) (h:=tR s.h j (vj,.none)) (w:=w) K (.slice U n c) F1 (.row e sz ys dp)
 rw[hver]at I2 T2
 refine⟨_,R.turn (T1.trans T2) rfl R.below I2,T1.trans T2,hv0,?_,?_⟩
 ·show _<=(tR _ K _ K).1;rw[bM];exact qg _
 ·intro _ e' sz' xs' dp' _;show _=FH g.val K (.slice U n c) K;rw[dQ]
theorem aR.XI{g g':Gh}{h J:Heap}{w:World}(T:lH g g' h J w w){y:SC}:∀{cs:List SC} {vs:List Value} (c:Nat) (x:SC) (v:Value),aR g h w cs vs->cs[c]? =some x->vs[c]? =some v->Aw g' J w y v->aR g' J w (cs.set c y) vs
 |[],vs,c,x,v,hc,I,_,_=>by simp at I
 |z::cs,vs,0,x,v,hc,I,C,U=>by obtain⟨v0,j,rfl,h1,h2⟩:=hc;simp at C;subst C;exact⟨v0,j,rfl,U,aR.turn T h2⟩
 |z::cs,vs,c+1,x,v,hc,I,C,U=>by obtain⟨v0,j,rfl,h1,h2⟩:=hc;exact⟨v0,j,rfl,Aw.turn T h1,aR.XI T c x v h2 (by simpa using I) (by simpa using C) U⟩
theorem aR.get{g:Gh}{h:Heap}{w:World}:∀{cs:List SC} {vs:List Value} (c:Nat) (x:SC),aR g h w cs vs->cs[c]? =some x->∃v,vs[c]? =some v/\Aw g h w x v
 |[],vs,c,x,hc,j=>by simp at j
 |z::cs,vs,0,x,hc,j=>by obtain⟨I,C,rfl,h1,h2⟩:=hc;simp at j;subst j;exact⟨I,rfl,h1⟩
 |z::cs,vs,c+1,x,hc,j=>by obtain⟨I,C,rfl,h1,h2⟩:=hc;exact aR.get c x h2 (by simpa using j)
theorem Gho.Zn{b vb c j K vj n:Nat}{t:TypeId}{cells:List SC}{e:TypeId}{sz:Nat}{xs:List (List D)}{dp:Bool}(ys:List (List D))(I:s.h b=(vb,.box t cells))(h1:cells[c]? =some (.part j vj 0 n))(h2:s.h j=(vj,.row e sz xs dp))(hk:b≠K)(hn:n<=xs.length)(hys:xs.take n=ys):
  Gho P base w0 N s (((s.fP j (vj,.none)).fP K ((s.h K).1+1,.row e sz ys dp)).fP b (vb,.box t (cells.set c (.row K ((s.h K).1+1))))):=by
 rintro a w ⟨g,R⟩
 have U:b≠j:=λe=>by rw[e,h2]at I;cases I
 have J:=R.inv.obj b
 rw[show(s.h b).2=.box t cells from by rw[I]]at J
 obtain⟨b',vals,h3,h4,h5,h6⟩:=J
 obtain⟨v,k1,k2⟩:=aR.get c _ h6 h1
 obtain⟨g',R',T,hc⟩:=OM (K:=K) R h2 hn hys k2
 have C:((s.fP j (vj,.none)).fP K ((s.h K).1+1,.row e sz ys dp)).h b=(vb,.box t cells):=by show tR (tR s.h j _) K _ b=_;rw[fU _ _ _ _ hk,fU _ _ _ _ U,I]
 have hv:g'.val b=g.val b:=(T.box b t cells (by rw[C,I]) (by rw[C])).1
 exact XM R' C (hv.trans h3) h5 (aR.XI T c _ v h6 h1 k1 hc)
theorem Gho.Zt{i j K vj n:Nat}{e:TypeId}{sz:Nat}{xs:List (List D)}{dp:Bool}(ys:List (List D))(h1:s.t i=.v false [.part j vj 0 n])(h2:s.h j=(vj,.row e sz xs dp))(hn:n<=xs.length)(C:xs.take n=ys):
  Gho P base w0 N s (((s.fP j (vj,.none)).fP K ((s.h K).1+1,.row e sz ys dp)).GW i (.v false [.row K ((s.h K).1+1)])):=by
 rintro a w ⟨g,R⟩
 have I:=R.tmp i
 rw[h1]at I
 obtain⟨U,J,T,hc⟩:=OM (K:=K) R h2 hn C (eD I)
 exact⟨U,OA J ⟨_,[],rfl,hc,rfl⟩⟩
theorem Tx.mk{P:Program}{T:OE}{vars:List ResultVar}{ops:Array Oper}{n d:Nat}{K:St->Prop}{l:List (Bool×List SC)}{s s1:St}(h1:Bh T s vars=some l)(h2:uD P T N ops (ops.toList.drop (n+1)) (aAF s d (Ly l)) (Is s1))(h3:K s1):Tx P T vars N ops n d K s:=⟨l,h1,exI h2 h3⟩
end
end Go.Sh
namespace Go.Sh
open Go.RowKit
section
variable {P:Program}{base N:Nat}{w0:W0}{Z:St->Prop}{k:List Fr}{s:St}
theorem sD{x y:Code}(J:St->Prop)(h1:SW P base w0 N x s (aft P base w0 N Z (.inv J::k)))(h2:∀s',J s'->SW P base w0 N y s' (aft P base w0 N Z k)):SW P base w0 N (.seq x y) s (aft P base w0 N Z k):=by
 refine sq λa w R=>wp_mono (h1 a w R) ?_
 rintro e a' w' ⟨s',k1,k2⟩
 refine⟨s',?_,k2⟩
 cases e with
 |normal=>exact h2 s' k1
 |_=>exact k1
