/-
  Helper text. No conditions.
-/
import Derived.Test.YtjlnkcoeghonfaaGreatStepPageShC
import Derived.ProofKit
import Derived.OpenShut
import Derived.ShutString
import Derived.Deep.Slices
import Derived.Carry
set_option linter.all false
namespace Go.Sh
open Go.RowKit
theorem V9(args:List (Bool×List D))(i:Nat):(init args).t i=match args[i]? with|some (j,ds)=>.v j (ds.map .dat)|none=>.undef:=rfl
theorem WD(args:List (Bool×List D))(i:Nat):(init args).h i=(0,.none):=rfl
def aAJ(v:SV)(A B:Prop):Prop:=match v with
 | .v false [.dat (.bool b)]=>(b=true->A)/\(b=false->B)
 |_=>False
theorem SI(b:Bool)(A B:Prop):aAJ (.v false [.dat (.bool b)]) A B=((b=true->A)/\(b=false->B)):=rfl
theorem bK{n:Int}(h1: -9223372036854775808<=n)(h2:n<=9223372036854775807):IntKind.i64.wrap n=n:=by rw[IntKind.wrap_i64];omega
attribute [simp] Dn QS TC RB MX K6 NK Eg FW evG AQ vOp aAA put ex exF cst one aft St.Gv St.Vk St.Wd St.Pe DA G7 IL Gx Ds Hu xB Fz Et EU rows tC Jk lenOf NI Nn Lu De EE Hm Ps D.flat rid TI.agg V9 WD Ik FB PN Ki Iz SI
open Go.ChangeShapes Go.WideShapes Go.Deep
inductive Shp where
 |int (k:IntKind)
 |bool
 |str
 |sl (es:List Shp)
def J1(P:Program)(f:TypeId->Option (List Shp)):Nat->List Field->Option (List Shp)
 |_,[]=>some []
 |j,x::C=>if x.offset=j then(match f x.type,J1 P f (j+P.cellsOf x.type) C with
   |some a,some b=>if a.length=P.cellsOf x.type then some (a++b)else none
   |_,_=>none)else none
def Wl(P:Program):Nat->TypeId->Option (List Shp)
 |0,_=>none
 |n+1,t=>match P.underlying t with
  |some (.int k)=>some [.int k]
  |some .bool=>some [.bool]
  |some .string=>some [.str]
  |some (.slice e)=>match Wl P n e with
   |some es=>if es.length=P.cellsOf e/\0<es.length then some [.sl es]else none
   |none=>none
  |some (.struct j)=>match J1 P (Wl P n) 0 j.toList with
   |some es=>if es.length=P.cellsOf t then some es else none
   |none=>none
  |_=>none
mutual
def Has:Shp->D->Prop
 | .int k,d=>∃n,d=.int k n/\(Lit.int k n).wf=true
 | .bool,d=>∃b,d=.bool b
 | .str,d=>∃s,d=.str s/\s.size<=maxLen
 | .sl es,d=>∃j,d=.sl j/\j.length<=maxLen/\∀x∈j,sM es x
def sM:List Shp->List D->Prop
 |[],ds=>ds=[]
 |e::es,ds=>∃d j,ds=d::j/\Has e d/\sM es j
end
theorem sM.append:∀{a b:List Shp} {x y:List D},sM a x->sM b y->sM (a++b) (x++y)
 |[],b,x,y,h,k=>by simp only[sM]at h;subst h;exact k
 |e::a,b,x,y,h,k=>by simp only[sM]at h;obtain⟨d,j,rfl,h1,h2⟩:=h;simp only[List.cons_append,sM];exact⟨d,j++y,rfl,h1,sM.append h2 k⟩
theorem sM.length:∀{a:List Shp} {x:List D},sM a x->x.length=a.length
 |[],x,h=>by simp only[sM]at h;subst h;rfl
 |e::a,x,h=>by simp only[sM]at h;obtain⟨d,j,rfl,h1,h2⟩:=h;simp[sM.length h2]
section
variable {H:Type}{enc:TypeId×Value->H}{P:Program}{w:World}{base:Nat}{spare:Nat->Bool}{held:Bool}
theorem Dj{w:World}{d:D}{v:Value}{F:List Nat}(h:Rep w d v F):aF w [d] [v] F:=by simp only[aF];exact⟨v,[],F,[],rfl,jF,h,rfl,rfl⟩
theorem IZ{e:Shp}{d:D}(h:Has e d):sM [e] [d]:=by simp only[sM];exact⟨d,[],rfl,h,rfl⟩
theorem Pj{n m:Nat}(U:∀(t:TypeId) (j:List Shp) (cs:List Value) (x:DataW H×List MemPlace),Wl P n t=some j->DataW.trod enc P w base spare held m t cs=some x->∃ds F,aF w ds cs F/\sM j ds):
  ∀(C:List Field) (off:Nat) (j:List Shp) (cs:List Value),J1 P (Wl P n) off C=some j->off+j.length=cs.length->
   (∀f∈C,∃x,DataW.trod enc P w base spare held m f.type ((cs.drop f.offset).take (P.cellsOf f.type))=some x)->∃ds F,aF w ds (cs.drop off) F/\sM j ds
 |[],off,j,cs,h,I,_=>by simp[J1]at h;subst h;refine⟨[],[],?_,by simp[sM]⟩;rw[List.drop_of_length_le (by simpa using Nat.le_of_eq I.symm)];simp[aF]
 |f::C,off,j,cs,h,I,J=>by
  simp only[J1]at h
  split at h
  ·rename_i ho
   split at h
   ·rename_i a b ha hb
    split at h
    ·rename_i hlen
     cases h
     obtain⟨x,hx⟩:=J f jF
     obtain⟨d1,F1,k1,k2⟩:=U _ _ _ _ ha hx
     obtain⟨d2,F2,k3,k4⟩:=Pj U C _ b cs hb (by rw[qE,hlen]at I;omega) λy hy=>J y (by simp[hy])
     refine⟨d1++d2,F1++F2,?_,k2.append k4⟩
     have:cs.drop off=(cs.drop f.offset).take (P.cellsOf f.type)++cs.drop (off+P.cellsOf f.type):=by rw[ho,<-List.drop_drop,qn]
     rw[this]
     exact k1.append k3
    ·cases h
   ·cases h
  ·cases h
theorem Vc{a:Addr}{v:Value}(h:w.cell? a=some v):a=⟨a.block,a.off,none⟩:=by
 obtain⟨b,o,s⟩:=a
 unfold World.cell? at h
 cases s with
 |none=>rfl
 |some s=>
  split at h
  ·simp at h
  ·cases h
theorem QD{es:List Shp}{C:Nat}(hC:es.length=C){a:Addr}:∀(len:Nat),(∀i,i<len->∃I ds F,I.length=C/\(∀j,j<C->w.cell? (a.add (i*C+j))=I[j]?)/\aF w ds I F/\sM es ds)->
  ∃U cells G,U.length=len/\(∀x∈U,sM es x)/\aT w U cells G/\cells.length=len*C/\∀j,j<len*C->w.cell? (a.add j)=cells[j]?
 |0,_=>⟨[],[],[],rfl,jF,by simp[aT],jF,jF⟩
 |len+1,h=>by
  obtain⟨U,cells,G,h1,h2,h3,h4,h5⟩:=QD hC len λi hi=>h i jD
  obtain⟨I,ds,F,k1,k2,k3,k4⟩:=h len jD
  refine⟨U++[ds],cells++I,G++F,by simp[h1],?_,?_,by rw[qE,h4,k1,Nat.add_mul];omega,?_⟩
  ·intro x J;rcases qP.1 J with J|J;(exact h2 x J);·simp at J;subst J;exact k4
  ·refine h3.append ?_;simp only[aT];exact⟨I,[],F,[],jF,jF,k3,rfl,rfl⟩
  ·intro j hj;rw[Nat.add_mul,Nat.one_mul]at hj;by_cases hjl:j<len*C;(rw[h5 j hjl,List.getElem?_append_left jD]);·have:=k2 (j-len*C) jD;rw[show len*C+(j-len*C)=j from by omega]at this;rw[this,List.getElem?_append_right jD,h4]
theorem Ql:∀(n:Nat) (m:Nat) (t:TypeId) (C:List Shp) (cs:List Value) (x:DataW H×List MemPlace),Wl P n t=some C->DataW.trod enc P w base spare held m t cs=some x->∃ds F,aF w ds cs F/\sM C ds
 |0,_,_,_,_,_,h,_=>by simp[Wl]at h
 |n+1,m,t,C,cs,x,h,hx=>by
  simp only[Wl]at h
  split at h
  ·rename_i k I;cases h;obtain⟨v,rfl,_,hw⟩:=DataW.trod_int I hx;exact⟨[.int k v],[],Dj (by simp[Rep]),IZ (by simp[Has,hw])⟩
  ·rename_i I;cases h;obtain⟨v,rfl,_⟩:=DataW.trod_bool I hx;exact⟨[.bool v],[],Dj (by simp[Rep]),IZ (by simp[Has])⟩
  ·rename_i I;cases h;obtain⟨v,rfl,_,hw⟩:=DataW.trod_string I hx;exact⟨[.str v],[],Dj (by simp[Rep]),IZ (by simp[Has,hw])⟩
  ·rename_i e I
   split at h
   ·rename_i es U
    split at h
    ·rename_i hc
     cases h
     rcases open_slice I hx with⟨rfl,_⟩|⟨a,len,cap,mm,fu,Dd,Pl,rfl,h1,h2,h3,h4,_,h6⟩
     ·refine⟨[.sl []],[],?_,?_⟩;(refine Dj ?_;simp only[Rep];exact⟨none,0,0,rfl,rfl,qf _,.inl jF⟩);·refine IZ ?_;simp only[Has];exact⟨[],rfl,jF,jF⟩
     ·have hle:len<=mm:=by rw[h4];split<;>omega
      obtain⟨xs,cells,G,k1,k2,k3,k4,k5⟩:=QD (w:=w) hc.1 (a:=a) len λi hi=>by obtain⟨cs',q1,q2⟩:=h6 i jD;obtain⟨_,q3,q4⟩:=World.cells?_some q1;obtain⟨ds,F,q5,q6⟩:=Ql n fu e es cs' _ U q2;exact⟨cs',ds,F,q3,λj hj=>by rw[<-Go.Deep.add_add];exact q4 j hj,q5,q6⟩
      rcases Nat.eq_zero_or_pos len with h0|h0
      ·have hxs:xs=[]:=qk jD;subst hxs;refine⟨[.sl []],[],?_,?_⟩;(refine Dj ?_;simp only[Rep];exact⟨some a,len,cap,rfl,by simpa using h0,h2,.inl ⟨h0,trivial⟩⟩);·refine IZ ?_;simp only[Has];exact⟨[],rfl,jF,jF⟩
      ·have hpos:0<len*P.cellsOf e:=Nat.mul_pos h0 jD
       have J:=k5 0 hpos
       have hc0':cells[0]? =some (cells[0]'jD):=qF jD
       have hadd0:a.add 0=a:=by simp[Addr.add]
       rw[hadd0,hc0']at J
       have ha:=Vc J
       refine⟨[.sl xs],a.block::G,?_,?_⟩
       ·refine Dj ?_
        simp only[Rep]
        refine⟨some a,len,cap,rfl,k1.symm,h2,.inr ⟨a.block,a.off,cells,P.cellsOf e,G,by rw[<-ha],World.block_lt_of_cell? w a J,rfl,?_,k4,?_,k3⟩⟩
        ·intro j u hu'
         have hj:j<len*P.cellsOf e:=by rw[<-k4];exact(qd.1 hu').1
         have:=k5 j hj
         rw[ha,Addr.add_lit]at this
         rw[this];exact hu'
        ·intro x hx';rw[(k2 x hx').length,hc.1]
       ·refine IZ ?_;simp only[Has];exact⟨xs,rfl,jD,k2⟩
    ·cases h
   ·cases h
  ·rename_i fs I
   split at h
   ·rename_i es U
    split at h
    ·rename_i hc
     cases h
     obtain⟨xs,mm,rfl,_,q1,q2,q3⟩:=DataW.trod_struct I hx
     have:=Pj (m:=mm) (λt C cs x=>Ql n mm t C cs x) fs.toList 0 C cs U jD (λf hf=>by
      obtain⟨i,hi⟩:=List.getElem?_of_mem hf
      have hi':fs[i]? =some f:=by simpa using hi
      have hlt:i<xs.length:=by rw[q2];exact(ql.1 hi').1
      exact⟨xs[i],by rw[q3 i f hi',qF hlt]⟩)
     simpa using this
    ·cases h
   ·cases h
  ·cases h
theorem ZS{n:Nat}{t:TypeId}{C:List Shp}{v:Value}{d:DataW H}{p:List MemPlace}{b:Nat}(h:Wl P n t=some C)(I:Value.okWide P w .any b t v)(J:DataW.Trod enc P w base spare held t v d p):
  ∃ds F,sM C ds/\Tl w v (LW P t,ds) F:=by
 obtain⟨fuel,hf⟩:=id J
 obtain⟨ds,F,h1,h2⟩:=Ql n fuel t C _ _ h hf
 refine⟨ds,F,h2,?_⟩
 have one:v.cells.toList=[v]->∃d,ds=[d]/\Rep w d v F:=by
  intro hc
  rw[hc]at h1
  have hl:=h1.length
  match ds,h1,hl with
  |[d],h1,_=>
   simp only[aF]at h1
   obtain⟨u,us,F1,F2,e1,e2,e3,_,e5⟩:=h1
   simp at e1
   rw[e5,qX]at e2
   exact⟨d,rfl,e2 ▸ e1.1 ▸ e3⟩
 cases n with
 |zero=>simp[Wl]at h
 |succ n=>
  simp only[Wl]at h
  unfold LW
  split at h
  ·rename_i k j;obtain⟨x,rfl,_⟩:=open_int j I J;rw[j];exact one rfl
  ·rename_i j;obtain⟨x,rfl,_⟩:=open_bool j I J;rw[j];exact one rfl
  ·rename_i j;obtain⟨x,rfl,_⟩:=Go.ChangeMaps.open_string j I J;rw[j];exact one rfl
  ·rename_i e j;obtain⟨x,y,z,rfl⟩:=okWide_slice j I;rw[j];exact one rfl
  ·rename_i fs j;obtain⟨U,rfl,_⟩:=okWide_struct j I;rw[j];exact⟨U,rfl,h1⟩
  ·cases h
theorem Uz{f:Func}{s:ChangeSpec}{apart fresh handsOn again:Bool}{W J:World}{args:Array Value}{v:Value}{ds gs:List (DataW H)}{before pa pv:List MemPlace}
  (hW:DataW.Whole enc P f.params.toList s.vars apart W args.toList ds gs before)
  (hres:∀(b:Nat) (sp:Nat->Bool) (hd:Bool),DataW.TrodAll enc P J b sp hd f.resultTypes.toList (v.resultList f.resultTypes.size) (s.fn H (ds++gs)).results [])
  (hargs:∀sp:Nat->Bool,(∀p∈before,sp p.block=true)->DataW.TrodAll enc P J 0 sp true f.params.toList args.toList (s.fn H (ds++gs)).args pa)
  (hvars:∀sp:Nat->Bool,(∀p∈before,sp p.block=true)->DataW.TrodVars enc P J sp s.vars (s.fn H (ds++gs)).vars pv)
  (I:before=pa++pv)(hb:Below W.heap.size W J)
  (hok:∀(j:Nat) (t:TypeId) (r:Value),f.resultTypes[j]? =some t->(v.resultList f.resultTypes.size)[j]? =some r->Value.okWide P J .any 0 t r):
  s.post enc P f apart fresh handsOn again W args v J:=by
 have hlt:∀p∈before,p.block<W.heap.size:=λp C=>hW.lt p C
 have hold:∀p∈before,(λb=>decide (b<W.heap.size)) p.block=true:=λp C=>by simpa using hlt p C
 refine⟨ds,gs,before,[],pa,pv,hW,hres _ _ _,hargs _ hold,hvars _ hold,World.keptBut_mono (λp C=>⟨C,?_⟩) (hb.frame (· ∈before)),λ_=> ?_⟩
 ·rw[I,qP]at C;exact Or.inr C
 ·obtain⟨_,_,_,_,_,hz,hn⟩:=hW
  refine⟨hok,_,_,([]++pa)++pv,⟨[]++pa,pv,trodAll_append (hargs _ (λ_ _=>rfl)) (hres _ _ _),hvars _ (λ_ _=>rfl),rfl,?_,?_⟩,?_⟩
  ·intro b off C
   have U:MemPlace.cell b off∈before:=by rw[I];simpa using C
   rw[hb.frozen (hlt _ U)]
   exact hz b off U
  ·intro ha;have:=hn ha;rw[I]at this;simpa using this
  ·intro p C _;rw[I];simpa using C
theorem KF(hl:laidOutB P=true){W W':World}(hb:Below W.heap.size W W'){sp:Nat->Bool}:∀{ts:List TypeId} {vs:List Value} {ds:List (DataW H)} {C:List MemPlace},DataW.TrodAll enc P W 0 (λ_=>true) true ts vs ds C->
  (∀t∈ts,P.readableRec t=true/\t<P.types.size)->(∀x∈C,x.block<W.heap.size)->(∀x∈C,sp x.block=true)->DataW.TrodAll enc P W' 0 sp true ts vs ds C
 |[],vs,ds,C,h,_,_,_=>by obtain⟨rfl,rfl,rfl⟩:=trodAll_nil h;rfl
 |t::ts,vs,ds,C,h,U,I,J=>by obtain⟨v,vs',d,ds',p,q,rfl,rfl,rfl,h1,h2⟩:=trodAll_cons h;refine⟨p,q,?_,?_,rfl⟩;(exact WideElems.Trod_stays hl (U t jF).1 (U t jF).2 h1 (λx j=>hb.same (I x (by simp[j]))) (λx j=>J x (by simp[j])));·exact KF hl hb h2 (λu hu=>U u (by simp[hu])) (λx j=>I x (by simp[j])) (λx j=>J x (by simp[j]))
def ZP(P:Program)(n:Nat):List TypeId->List (List Shp)->Prop
 |[],j=>j=[]
 |t::ts,j=>∃s C,j=s::C/\Wl P n t=some s/\ZP P n ts C
def VZ:List (List Shp)->List (List D)->Prop
 |[],ds=>ds=[]
 |s::C,ds=>∃d j,ds=d::j/\sM s d/\VZ C j
def VJ(P:Program):List TypeId->List (List D)->List (Bool×List D)
 |t::ts,d::ds=>(LW P t,d)::VJ P ts ds
 |_,_=>[]
theorem TF{n:Nat}{W:World}{b:Nat}:∀{ts:List TypeId} {vs:List Value} {ds:List (DataW H)} {ps:List MemPlace} {I:List (List Shp)},ZP P n ts I->DataW.TrodAll enc P W 0 (λ_=>true) true ts vs ds ps->
  (∀(j:Nat) t v,ts[j]? =some t->vs[j]? =some v->Value.okWide P W .any b t v)->∃C F,VZ I C/\xN W vs (VJ P ts C) F
 |[],vs,ds,ps,I,J,h,hv=>by obtain⟨rfl,rfl,rfl⟩:=trodAll_nil h;have:I=[]:=J;subst this;exact⟨[],[],rfl,rfl⟩
 |t::ts,vs,ds,ps,I,J,h,hv=>by
  obtain⟨s,ss,rfl,U,hs2⟩:=J
  obtain⟨v,vs',d,ds',p,q,rfl,rfl,rfl,h1,h2⟩:=trodAll_cons h
  obtain⟨d1,F1,k1,k2⟩:=ZS U (hv 0 t v rfl rfl) h1
  obtain⟨C,F2,k3,k4⟩:=TF hs2 h2 λj t' v' ht hv'=>hv (j+1) t' v' (by simpa using ht) (by simpa using hv')
  exact⟨d1::C,F1++F2,⟨d1,C,rfl,k1,k3⟩,F1,F2,rfl,k2,k4⟩
theorem WU{f:FuncId}{fn:Func}{s:ChangeSpec}{n tb:Nat}{shs:List (List Shp)}(hl:laidOutB P=true)(hvars:s.vars=[])(hres:fn.resultTypes= #[tb])(htb:P.underlying tb=some .bool)(hsh:ZP P n fn.params.toList shs)
  (hread:∀t∈fn.params.toList,P.readableRec t=true/\t<P.types.size)
  (hfn:∀(ds:List (DataW H)),ds.length=fn.params.toList.length->s.fn H (ds++[])={ results:=[.lit (.bool true)],args:=ds })
  (hc:∀dss,VZ shs dss->pC P f (VJ P fn.params.toList dss) [(false,[.ro (.bool true)])])
  {W:World}{b:Nat}{args:Array Value}{ds gs:List (DataW H)}{before:List MemPlace}(hval:∀(j:Nat) t v,fn.params[j]? =some t->args[j]? =some v->Value.okWide P W .any b t v)
  (hW:DataW.Whole enc P fn.params.toList s.vars false W args.toList ds gs before):
  Calls P f args W λe W'=>∃v,e=.returned v/\s.post enc P fn false true false false W args v W':=by
 have hW':=hW
 obtain⟨p,q,hA,hV,rfl,hfz,hnd⟩:=hW
 rw[hvars]at hV
 obtain⟨rfl,rfl⟩:=trodVars_none hV
 obtain⟨dss,Fa,k1,k2⟩:=TF hsh hA λj t v ht hv=>hval j t v (by simpa using ht) (by simpa using hv)
 refine(((hc dss k1).old rfl).2 W args Fa k2).mono λe W' hh=> ?_
 obtain⟨v,rfl,⟨F,X,_,_,_,hr⟩,hb⟩:=hh
 have hv:v=.bool true:=by have h1:Rep W' (.bool true) v []:=hr.1;simp only[Rep]at h1;exact h1.1
 subst hv
 have hdl:ds.length=fn.params.toList.length:=by
  have:∀{ts:List TypeId} {vs:List Value} {ds:List (DataW H)} {ps:List MemPlace},DataW.TrodAll enc P W 0 (λ_=>true) true ts vs ds ps->ds.length=ts.length:=by
   intro ts
   induction ts with
   |nil=>intro vs ds ps h;obtain⟨_,rfl,_⟩:=trodAll_nil h;rfl
   |cons t ts ih=>intro vs ds ps h;obtain⟨v,vs',d,ds',p,q,rfl,rfl,rfl,h1,h2⟩:=trodAll_cons h;simp[ih h2]
  exact this hA
 have hfn':=hfn ds hdl
 refine⟨_,rfl,Uz (pa:=p) (pv:=[]) hW' ?_ ?_ ?_ jF hb (ok_one hres rfl (okWide_bool_mk htb _))⟩
 ·intro b sp hd;rw[hfn',hres];exact trodAll_cons_mk (shut_bool htb _) trodAll_mk0
 ·intro sp hsp;rw[hfn'];exact KF hl hb hA hread (λx hx=>hW'.lt x (by simpa using hx)) (λx hx=>hsp x (by simpa using hx))
 ·intro sp hsp;rw[hfn',hvars];rfl
end
end Go.Sh
namespace Go.Sh
open Go.RowKit
def Is(s t:St):Prop:=t=s
theorem Is.mk(t:St):Is t t:=rfl
theorem KY{P:Program}{T:KU}{N:Nat}{ops:Array Oper}:∀(l:List Oper) {s:St} {K C:St->Prop},(∀s,K s->C s)->Eg P T N ops l s K->Eg P T N ops l s C
 |[],_,_,_,h,j=>h _ j
 |o::l,s,_,_,h,j=>JU (evG T N ops o) (λJ I=>KY l h I) j
theorem Hy{P:Program}:∀(p:Prog) {s:St} {R W:List Loc} {K C:St->List Loc->List Loc->Prop},(∀s R W,K s R W->C s R W)->exF P p s R W K->exF P p s R W C
 | .done,_,_,_,_,_,h,j=>h _ _ _ j
 | .fail,_,_,_,_,_,_,j=>j
 | .getT t k,s,_,_,_,_,h,j=>Hy (k (s.t t)) h j
 | .Ha t v k,s,_,_,_,_,h,j=>Hy k h j
 | .getH i k,s,_,_,_,_,h,j=>Hy (k (s.h i)) h j
 | .fK i x k,s,_,_,_,_,h,j=>Hy k h j
 | .call f args k,s,_,_,_,_,h,⟨I,hc,j⟩=>⟨I,hc,Hy (k I) h j⟩
 | .must p k,s,_,_,_,_,h,⟨J,j⟩=>⟨J,Hy k h j⟩
theorem Og{P:Program}{T:KU}{N:Nat}{ops:Array Oper}:∀(l:List Oper) {s:St} {j:List Fp} {K I:St->List Fp->Prop},(∀s a,K s a->I s a)->FW P T N ops l s j K->FW P T N ops l s j I
 |[],_,_,_,_,h,C=>h _ _ C
 |o::l,s,_,_,_,h,C=>Hy (evG T N ops o) (λU R W J=>Og l h J) C
section
variable {P:Program}{base N:Nat}{w0:W0}{Z:St->Prop}{k:List Fr}{s s':St}
theorem iR{id:Nat}{ops:Array Oper}(h:Eg P (dI P) N ops ops.toList s (Is s'))(hk:aft P base w0 N Z k .normal s'):SW P base w0 N (.region id ops false) s (aft P base w0 N Z k):=
 Ri (KY ops.toList (λt j=>by rw[show t=s' from j];exact hk) h)
def QP(ops:Array Oper)(j:List Fp):Prop:=JN ops j=true
theorem QP.mk{ops:Array Oper}{j:List Fp}(h:JN ops j=true):QP ops j:=h
theorem K0(I:P.follows .mixedOrders=true){id:Nat}{ops:Array Oper}(h:FW P (dI P) N ops ops.toList s [] λt j=>QP ops j/\Is s' t)(hk:aft P base w0 N Z k .normal s'):SW P base w0 N (.region id ops true) s (aft P base w0 N Z k):=
 VF I (Og ops.toList (λt j C=>⟨C.1,by rw[show t=s' from C.2];exact hk⟩) h)
theorem It{id:Nat}(h:aft P base w0 N Z k .normal s):aft P base w0 N Z (.block id::k) (.exit id) s:=by simp only[aft,if_true];exact h
theorem aCE{id j:Nat}(C:j≠id)(h:aft P base w0 N Z k (.exit j) s):aft P base w0 N Z (.block id::k) (.exit j) s:=by simp only[aft,C,if_false];exact h
theorem EW{c:Code}{id:Nat}(h:aft P base w0 N Z k (.exit id) s):aft P base w0 N Z (.code c::k) (.exit id) s:=h
theorem jU{J:St->Prop}(h:J s):aft P base w0 N Z (.inv J::k) .normal s:=h
theorem EP{J:St->Prop}{id:Nat}(h:aft P base w0 N Z k (.exit id) s):aft P base w0 N Z (.inv J::k) (.exit id) s:=h
theorem Ft{t:Nat}{x y:Code}(hb:s.t t=.v false [.dat (.bool true)])(h:SW P base w0 N x s (aft P base w0 N Z k)):SW P base w0 N (.cond (.tmp t) x y) s (aft P base w0 N Z k):=
 Sj hb (λ_=>h) (λe=>by cases e)
theorem F6{t:Nat}{x y:Code}(hb:s.t t=.v false [.dat (.bool false)])(h:SW P base w0 N y s (aft P base w0 N Z k)):SW P base w0 N (.cond (.tmp t) x y) s (aft P base w0 N Z k):=
 Sj hb (λe=>by cases e) (λ_=>h)
theorem Eh{c:Code}{Q:Exit->St->Prop}{J:St->Prop}(j:J s)(h:∀s,J s->SW P base w0 N c s Q):SW P base w0 N c s Q:=h s j
end
def fuel:Nat:=18446744073709551616
theorem cK(b:Bool):b=true\/b=false:=by cases b<;>simp
theorem GB(b:Bool):b=false\/b=true:=by cases b<;>simp
theorem bJ{α:Type}{b:Bool}{x y z:α}(hb:b=true)(h:(if b=true then x else y)=z):x=z:=by rw[if_pos hb]at h;exact h
theorem bI{α:Type}{b:Bool}{x y z:α}(hb:b=false)(h:(if b=true then x else y)=z):y=z:=by rw[hb]at h;simpa using h
theorem bind_some{α β:Type}{o:Option α}{f:α->Option β}{r:β}(h:o.bind f=some r):∃x,o=some x/\f x=some r:=by
 cases o with
 |none=>cases h
 |some x=>exact⟨x,rfl,h⟩
def idx{α:Type}(xs:List α)(i:Int):Option α:=if 0<=i then xs[i.toNat]? else none
theorem aU{α:Type}{xs:List α}{i:Int}{x:α}(h:idx xs i=some x):0<=i/\xs[i.toNat]? =some x/\i.toNat<xs.length:=by unfold idx at h;split at h;(rename_i j;exact⟨j,h,(qd.1 h).1⟩);·cases h
def Yf(s:ByteArray)(i:Int):Option UInt8:=if 0<=i then s[i.toNat]? else none
theorem U5{s:ByteArray}{i:Int}{x:UInt8}(h:Yf s i=some x):0<=i/\s[i.toNat]? =some x:=by unfold Yf at h;split at h;(rename_i j;exact⟨j,h⟩);·cases h
def app{α:Type}(b:Nat)(xs ys:List α):Option (List α):=if(xs.length+ys.length)*b<=140737488355328 then some (xs++ys)else none
theorem zF{α:Type}{b:Nat}{xs ys zs:List α}(h:app b xs ys=some zs):(xs.length+ys.length)*b<=140737488355328:=by unfold app at h;split at h;(assumption);·cases h
def aHm{α:Type}(b:Nat)(ys:List α):Option (List α):=if ys.length*b<=140737488355328 then some ys else none
theorem sJ{α:Type}{b:Nat}{ys zs:List α}(h:aHm b ys=some zs):ys.length*b<=140737488355328:=by unfold aHm at h;split at h;(assumption);·cases h
def mkL{α:Type}(b:Nat)(n:Int)(z:α):Option (List α):=if 0<=n/\n.toNat*b<=140737488355328/\n<=9223372036854775807 then some (List.replicate n.toNat z)else none
theorem Ya{α:Type}{b:Nat}{n:Int}{z:α}{x:List α}(h:mkL b n z=some x):0<=n/\n.toNat*b<=140737488355328/\n<=9223372036854775807:=by unfold mkL at h;split at h;(assumption);·cases h
def cat(x y:ByteArray):Option ByteArray:=if x.size+y.size<=9223372036854775807 then some (x++y)else none
theorem Xp{x y z:ByteArray}(h:cat x y=some z):x.size+y.size<=9223372036854775807:=by unfold cat at h;split at h;(assumption);·cases h
def enI(n:Int):List D:=[.int .i64 n]
def enB(n:Int):List D:=[.int .u8 n]
def enS(s:ByteArray):List D:=[.str s]
def enT(b:Bool):List D:=[.bool b]
def enL{α:Type}(f:α->List D)(xs:List α):List D:=[.sl (xs.map f)]
def bC(s:ByteArray):List Int:=s.data.toList.map λb=>(b.toNat:Int)
theorem WQ(s:ByteArray):ET s.data.toList=(bC s).map enB:=by unfold ET bC enB;rw[List.map_map];rfl
def bF(l:List Int):ByteArray:=⟨(l.map λn=>UInt8.ofNat n.toNat).toArray⟩
def toStr(l:List Int):Option ByteArray:=if l.all (λn=>decide (0<=n/\n<256))=true then some (bF l)else none
theorem J2(l:List Int):strOf (l.map enB)=bF l:=by unfold strOf bF enB;rw[List.map_map];rfl
theorem K9{l:List Int}{z:ByteArray}(h:toStr l=some z):∀x∈l.map enB,∃b:UInt8,x=[.int .u8 (b.toNat:Int)]:=by
 unfold toStr at h
 split at h
 ·rename_i j
  intro x I
  obtain⟨n,C,rfl⟩:=qx.1 I
  have:=qR.1 j n C
  simp only[qL]at this
  refine⟨UInt8.ofNat n.toNat,?_⟩
  unfold enB
  have h1:(UInt8.ofNat n.toNat).toNat=n.toNat:=by simp;omega
  rw[h1,Int.toNat_of_nonneg this.1]
 ·cases h
def D3{α:Type}(xs:List α)(i:Int):Option (List α):=if 0<=i/\i.toNat<=xs.length then some (xs.drop i.toNat)else none
def GL{α:Type}(xs:List α)(j:Int):Option (List α):=if 0<=j/\j.toNat<=xs.length then some (xs.take j.toNat)else none
def QX{α:Type}(xs:List α)(i j:Int):Option (List α):=if 0<=i/\i<=j/\j.toNat<=xs.length then some ((xs.take j.toNat).drop i.toNat)else none
theorem O8{α:Type}{xs z:List α}{i:Int}{f:α->List D}{n:Nat}(C:∀x,(f x).length=n)(h:D3 xs i=some z):0<=i/\i.toNat<=xs.length/\∀x∈xs.map f,x.length=n:=by unfold D3 at h;split at h;(rename_i j;refine⟨j.1,j.2,λx I=> ?_⟩;obtain⟨y,_,rfl⟩:=qx.1 I;exact C y);·cases h
theorem O0{α:Type}{xs z:List α}{i:Int}{f:α->List D}{n:Nat}(C:∀x,(f x).length=n)(h:GL xs i=some z):0<=i/\i.toNat<=xs.length/\∀x∈xs.map f,x.length=n:=by unfold GL at h;split at h;(rename_i j;refine⟨j.1,j.2,λx I=> ?_⟩;obtain⟨y,_,rfl⟩:=qx.1 I;exact C y);·cases h
theorem K5{α:Type}{xs z:List α}{i j:Int}{f:α->List D}{n:Nat}(I:∀x,(f x).length=n)(h:QX xs i j=some z):0<=i/\i<=j/\j.toNat<=xs.length/\∀x∈xs.map f,x.length=n:=by unfold QX at h;split at h;(rename_i C;refine⟨C.1,C.2.1,C.2.2,λx J=> ?_⟩;obtain⟨y,_,rfl⟩:=qx.1 J;exact I y);·cases h
theorem Jb{α:Type}{f:α->List D}(j:∀x,(f x).all D.flat=true)(xs:List α):(xs.map f).all (λy=>y.all D.flat)=true:=by rw[qR];intro y C;obtain⟨x,_,rfl⟩:=qx.1 C;exact j x
theorem enI.fl(l:List Int):(List.map enI l).all (λy=>y.all D.flat)=true:=Jb (λ_=>rfl) l
theorem enB.fl(l:List Int):(List.map enB l).all (λy=>y.all D.flat)=true:=Jb (λ_=>rfl) l
theorem enS.fl(l:List ByteArray):(List.map enS l).all (λy=>y.all D.flat)=true:=Jb (λ_=>rfl) l
theorem enT.fl(l:List Bool):(List.map enT l).all (λy=>y.all D.flat)=true:=Jb (λ_=>rfl) l
theorem PL {P : Program} {f : FuncId} {fn : Func} {c : Code} {args : List (Bool × List D)} {rs : List (Bool × List RC)} {N : Nat} {vars : List ResultVar} (hf : P.funcs[f]? = some fn) (hb : fn.body = some c) (hN : fn.ntmps = N) (hv : fn.results.toList = vars) (hnm : (fn.name == "runtime.NumGoroutine") = false) (hn : args.length <= N)
  (h : ∀(base:Nat) (w0:W0),SW P base w0 N c (init args) (aft P base w0 N (Ret (dI P) vars rs) [])):pC P f args rs:=by
 subst hN hv
 exact WG hf hb hnm hn h
end Go.Sh
namespace Go.Sh
theorem SO(N d:Nat)(a b:Bool×List RC)(j:List (Bool×List RC)):Et N (some d) (a::b::j)=Fz d 0 (a::b::j) λC=>put N (some d) (.tup C):=rfl
theorem Sq(N d:Nat):Et N (some d) []=Fz d 0 [] λj=>put N (some d) (.tup j):=rfl
theorem S9(sz k:Nat)(xs:List (List D)):(Ra sz 0 k xs).drop k=xs.drop k:=by unfold Ra;rw[List.take_zero,List.nil_append,qo];exact List.drop_left' jF
theorem W2(sz k:Nat)(xs:List (List D)):(Ra sz 0 k xs).length-k=xs.length-k:=by unfold Ra;simp
theorem Xx{α:Type}(xs:List α)(k:Nat):(xs.drop k).take (xs.length-k)=xs.drop k:=List.take_of_length_le jF
theorem YJ{sz:Nat}{i:Int}{xs:List (List D)}(h:0<=i):0<=i/\i.toNat<=(Ra sz 0 i.toNat xs).length:=⟨h,by unfold Ra;simp⟩
theorem WW{α:Type}(a:α)(as j:List α):List.append (a::as) j=a::List.append as j:=rfl
theorem Yu{α:Type}(j:List α):List.append [] j=j:=rfl
theorem Zq(xs:List (List D)):D.flat (.sl xs)=false:=rfl
theorem XJ(xs:List D):D.flat (.ptr xs)=false:=rfl
theorem Xa(u:Value):D.flat (.val u)=false:=rfl
def Ez9:=PLift.up (qI @Eg.eq_1 (qI @Eg.eq_2 (qI @FW.eq_1 (qI @FW.eq_2 (qI @evG.eq_1 (qI @AQ.eq_1 (qI @vOp.eq_1 (qI @vOp.eq_2 (qI @vOp.eq_3 (qI @vOp.eq_4 (qI @aAA.eq_1 (qI @aAA.eq_2 (qI @put.eq_1 (qI @put.eq_2 (qI @ex.eq_1 (qI @ex.eq_2 (qI @ex.eq_3 (qI @ex.eq_4 (qI @ex.eq_5 (qI @ex.eq_6 (qI @ex.eq_7 (qI @ex.eq_8 (qI @exF.eq_1 (qI @exF.eq_2 (qI @exF.eq_3 (qI @exF.eq_4 (qI @exF.eq_5 (qI @exF.eq_6 (qI @exF.eq_7 (qI @exF.eq_8 (qI @cst.eq_1 (qI @cst.eq_2 (qI @cst.eq_3 (qI @cst.eq_4 (qI @one.eq_1 (qI @DA.eq_1 (qI @DA.eq_2 (qI @DA.eq_3 (qI @DA.eq_4 (qI @lab.eq_1 (qI @lab.eq_2 (qI @Mi.eq_1 (qI @Mi.eq_2 (qI @Mi.eq_3 (qI @Mi.eq_4 (qI @Mi.eq_5 (qI @Mi.eq_6 (qI @Mi.eq_7 (qI @Mi.eq_8 (qI @Mi.eq_9 (qI @G7.eq_1 (qI @G7.eq_2 (qI @G7.eq_3 (qI @G7.eq_4 (qI @G7.eq_5 (qI @IL.eq_1 (qI @Gx.eq_1 (qI @Gx.eq_2 (qI @Ds.eq_1 (qI @Ds.eq_2 (qI @Ds.eq_3 (qI @Ds.eq_4 (qI @Ds.eq_5 (qI @Ds.eq_6 (qI @Ds.eq_7 (qI @Ds.eq_8 (qI @Ds.eq_9 (qI @Hu.eq_1 (qI @Hu.eq_2 (qI @xB.eq_1 (qI @xB.eq_2 (qI @xB.eq_3 (qI @xB.eq_4 (qI @xB.eq_5 (qI @Fz.eq_1 (qI @Fz.eq_2 (qI @Et.eq_1 (qI @Et.eq_2 (qI @MX.eq_1 (qI @Be.eq_1 (qI @Be.eq_2 (qI @Be.eq_3 (qI @Be.eq_4 (qI @Be.eq_5 (qI @Be.eq_6 (qI @Be.eq_7 (qI @Rv.eq_1 (qI @Rv.eq_2 (qI @Qw.eq_1 (qI @Qw.eq_2 (qI @HC.eq_1 (qI @HC.eq_2 (qI @HC.eq_3 (qI @HC.eq_4 (qI @HC.eq_5 (qI @HC.eq_6 (qI @HC.eq_7 (qI @HC.eq_8 (qI @RC.ed.eq_1 (qI @RC.ed.eq_2 (qI @RC.ed.eq_3 (qI @RC.ed.eq_4 (qI @RO.eq_1 (qI @RO.eq_2 (qI @RO.eq_3 (qI @O6.eq_1 (qI @K6.eq_1 (qI @K6.eq_2 (qI @K6.eq_3 (qI @K6.eq_4 (qI @K6.eq_5 (qI @NK.eq_1 (qI @NK.eq_2 (qI @EU.eq_1 (qI @EU.eq_2 (qI @rows.eq_1 (qI @rows.eq_2 (qI @tC.eq_1 (qI @tC.eq_2 (qI @tC.eq_3 (qI @tC.eq_4 (qI @tC.eq_5 (qI @tC.eq_6 (qI @tC.eq_7 (qI @tC.eq_8 (qI @tC.eq_9 (qI @tC.eq_10 (qI @tC.eq_11 (qI @tC.eq_12 (qI @tC.eq_13 (qI @tC.eq_14 (qI @tC.eq_15 (qI @tC.eq_16 (qI @tC.eq_17 (qI @Jk.eq_1 (qI @Jk.eq_2 (qI @Jk.eq_3 (qI @Jk.eq_4 (qI @Jk.eq_5 (qI @Jk.eq_6 (qI @lenOf.eq_1 (qI @lenOf.eq_2 (qI @lenOf.eq_3 (qI @lenOf.eq_4 (qI @lenOf.eq_5 (qI @NI.eq_1 (qI @NI.eq_2 (qI @NI.eq_3 (qI @NI.eq_4 (qI @Nn.eq_1 (qI @Nn.eq_2 (qI @Lu.eq_1 (qI @Lu.eq_2 (qI @Lu.eq_3 (qI @De.eq_1 (qI @De.eq_2 (qI @De.eq_3 (qI @De.eq_4 (qI @EE.eq_1 (qI @EE.eq_2 (qI @EE.eq_3 (qI @EE.eq_4 (qI @Hm.eq_1 (qI @Hm.eq_2 (qI @Hm.eq_3 (qI @Hm.eq_4 (qI @SS.eq_1 (qI @Ps.eq_1 (qI @Ps.eq_2 (qI @Df.eq_1 (qI @Df.eq_2 (qI @Df.eq_3 (qI @Df.eq_4 (qI @Qh.eq_1 (qI @D.flat.eq_1 (qI @D.flat.eq_2 (qI @D.flat.eq_3 (qI @D.flat.eq_4 (qI @rid.eq_1 (qI @TI.agg.eq_1 (qI @QS (qI @TC (qI @RB (qI @Um (qI @Ux (qI @S9 (qI @W2 (qI @Xx (qI @Dn.eq_1 (qI @SO (qI @Sq (qI @Zq (qI @XJ (qI @Xa (qI @St.Gv (qI @St.Vk (qI @St.Wd (qI @St.Pe (qI @V9 @WD)))))))))))))))))))))))))))))))))))))))))))))))))))))))))))))))))))))))))))))))))))))))))))))))))))))))))))))))))))))))))))))))))))))))))))))))))))))))))))))))))))))))))))))))))))))))))))))))))))))))
theorem E:type_of% Ez9.down:=Ez9.down
def Lz9:=PLift.up (qI @List.take_succ_cons.{0} (qI @List.take_zero.{0} (qI @List.drop_succ_cons.{0} (qI @List.drop_zero.{0} (qI @List.map_cons.{0,0} (qI @List.map_nil.{0,0} (qI @List.cons_append.{0} (qI @List.nil_append.{0} (qI @List.append_nil.{0} (qI @List.length_cons.{0} (qI @List.length_nil.{0} (qI (@List.getElem?_cons_zero.{0}) (qI (@List.getElem?_cons_succ.{0}) (qI @List.tail_cons.{0} (qI @List.tail_nil.{0} (qI @Option.isSome_some.{0} (qI @Option.isSome_none.{0} (qI @List.take_nil.{0} (qI @List.drop_nil.{0} (qI (@List.getElem?_map.{0,0}) (qI @Option.map_some.{0,0} (qI @Option.bind_some.{0,0} (qI @List.length_map.{0,0} (qI @List.replicate_succ.{0} (qI @List.replicate_zero.{0} (qI @List.flatten_cons.{0} (qI @List.flatten_nil.{0} (qI (@List.getElem?_toArray.{0}) (qI @List.toList_toArray.{0} (qI @WW (qI @Yu (qI @List.any_cons.{0} (qI @List.any_nil.{0} (qI Bool.or_true (qI Bool.true_or (qI Bool.or_false (qI Bool.false_or (qI Bool.and_true (qI Bool.true_and (qI Bool.and_false (qI Bool.false_and (qI true_and (qI and_true and_self)))))))))))))))))))))))))))))))))))))))))))
theorem L:type_of% Lz9.down:=Lz9.down
def Fz9:=PLift.up (qI @List.set_cons_zero.{0} (qI @List.set_cons_succ.{0} (qI @St.Gv (qI @St.Vk (qI @St.Wd (qI @St.Pe (qI @V9 (qI @WD (qI @List.map_append.{0,0} (qI @List.map_cons.{0,0} (qI @List.map_nil.{0,0} (qI @List.map_set.{0,0} (qI @List.map_replicate.{0,0} (qI @List.append_nil.{0} (qI @List.nil_append.{0} (qI @List.cons_append.{0} (qI (@List.getElem?_cons_zero.{0}) (qI (@List.getElem?_cons_succ.{0}) (qI Bool.and_true Bool.true_and)))))))))))))))))))
theorem F:type_of% Fz9.down:=Fz9.down
open Go.RowKit
def Gho(P:Program)(base:Nat)(w0:W0)(N:Nat)(s s':St):Prop:=∀a w,Rel P base w0 N s a w->Rel P base w0 N s' a w
theorem aIi{α β:Type}{f:α->β}{K:α}{r:β}(h:f K=r):∃j,j=K/\f j=r:=⟨K,rfl,h⟩
section
variable {P:Program}{base N:Nat}{w0:W0}{Z:St->Prop}{k:List Fr}{s s' s'':St}
theorem Gho.refl(s:St):Gho P base w0 N s s:=λ_ _ h=>h
theorem Gho.trans(h:Gho P base w0 N s s')(j:Gho P base w0 N s' s''):Gho P base w0 N s s'':=λa w R=>j a w (h a w R)
theorem Ir{c:Code}{Q:Exit->St->Prop}(j:Gho P base w0 N s s')(h:SW P base w0 N c s' Q):SW P base w0 N c s Q:=λa w R=>h a w (j a w R)
theorem PM{c:Code}(I:Nat->St->Prop)(n:Nat)(J:I n s)(h:∀m s,I m s->SW P base w0 N c s (aft P base w0 N Z (.inv (λs'=>∃j,Gho P base w0 N s' j/\∃C,C<m/\I C j)::k))):SW P base w0 N (.loop c) s (aft P base w0 N Z k):=by
 intro a w R
 refine wp_loop_ghost (λm a w=>∃s,I m s/\Rel P base w0 N s a w) n ⟨s,J,R⟩ ?_
 rintro m a w ⟨s,h1,R⟩
 refine wp_mono (h m s h1 a w R) ?_
 rintro e a' w' ⟨s',h2,h3⟩
 cases e with
 |normal=>obtain⟨j,U,C,h4,h5⟩:=h2;exact⟨C,h4,j,h5,U _ _ h3⟩
 |_=>exact⟨s',h2,h3⟩
theorem Tr{g:Gh}{a:Act}{w:World}{j K vj:Nat}{e:TypeId}{sz:Nat}{xs:List (List D)}{dp:Bool}(R:lG P base w0 N g s a w [])(h2:s.h j=(vj,.row e sz xs dp)):
  ∃g',lG P base w0 N g' ((s.fK j (vj,.none)).fK K ((s.h K).1+1,.row e sz xs dp)) a w []/\kI g g' s.h ((s.fK j (vj,.none)).fK K ((s.h K).1+1,.row e sz xs dp)).h w w/\
   ∀v,yR g s.h w (.row j vj) v->yR g' ((s.fK j (vj,.none)).fK K ((s.h K).1+1,.row e sz xs dp)).h w (.row K ((s.h K).1+1)) v:=by
 have C:(s.h j).1=vj:=by rw[h2]
 have I:(s.h j).2=.row e sz xs dp:=by rw[h2]
 have U:=R.inv.obj j
 rw[I]at U
 obtain⟨cells,p1,p2,p3,p4,p5⟩:=U
 obtain⟨I1,J⟩:=R.inv.FD I
 rw[C]at I1 J
 have T1:kI g g s.h (nJ s.h j (vj,.none)) w w:=by have:=kI.drop (g:=g) (h:=s.h) (w:=w) j g.S λ_ x=>x;rw[C]at this;exact this
 have hver:(nJ s.h j (vj,.none) K).1=(s.h K).1:=by by_cases hk:K=j;(subst hk;rw[bM,C]);·rw[dP _ _ _ _ hk]
 have I2:=I1.FN (i:=K) (v:=g.val j) (e:=e) (sz:=sz) (xs:=xs) (dp:=dp) (cells:=cells) (F:=g.fp j) (pool':=[]) p1 p2 p3 p4 J jF List.nodup_nil (λhd=>by subst hd;simp only[if_true,List.nil_append];exact⟨(p5 rfl).1,λb hb=>⟨hb,jF⟩⟩)
 have T2:=kI.create (g:=g) (h:=nJ s.h j (vj,.none)) (w:=w) K (g.val j) (g.fp j) (.row e sz xs dp)
 rw[hver]at I2 T2
 refine⟨_,R.turn (T1.trans T2) rfl R.below I2,T1.trans T2,?_⟩
 rintro v ⟨h0,_,hv⟩
 refine⟨h0,?_,?_⟩
 ·show _<=(nJ _ K _ K).1;rw[bM];exact qf _
 ·intro _ e' sz' xs' dp' _;show v=Ji g.val K (g.val j) K;rw[fG];exact hv C e sz xs dp I
theorem WA{g:Gh}{a:Act}{w:World}{K:Nat}(e:TypeId)(sz:Nat)(R:lG P base w0 N g s a w []):
  ∃j,lG P base w0 N j (s.fK K ((s.h K).1+1,.row e sz [] true)) a w []/\kI g j s.h (s.fK K ((s.h K).1+1,.row e sz [] true)).h w w/\
   ∀v,yR g s.h w .nil v->yR j (s.fK K ((s.h K).1+1,.row e sz [] true)).h w (.row K ((s.h K).1+1)) v:=by
 have J:=R.inv.FN (i:=K) (v:=.slice none 0 0) (e:=e) (sz:=sz) (xs:=[]) (dp:=true) (cells:=[]) (F:=[]) (pool':=[]) (World.ownsRow_nil w base e sz) jF dG.nil jF (by intro b hb;cases hb) jF List.nodup_nil (λ_=>⟨List.nodup_nil,jF⟩)
 have I:=kI.create (g:=g) (h:=s.h) (w:=w) K (.slice none 0 0) [] (.row e sz [] true)
 refine⟨_,R.turn I rfl R.below J,I,?_⟩
 intro v C
 have C:v=.slice none 0 0:=C
 subst C
 refine⟨rfl,?_,?_⟩
 ·show _<=(nJ _ K _ K).1;rw[bM];exact qf _
 ·intro _ e' sz' xs' U _;show _=Ji g.val K _ K;rw[fG]
theorem Qk{g:Gh}{a:Act}{w:World}{i:Nat}{sv:SV}(R:lG P base w0 N g s a w [])(j:nK g s.h w sv (a.tmps.getD i undef)):lG P base w0 N g (s.Ha i sv) a w []:=by refine⟨R.defers,R.size,R.below,R.q,R.oN,R.inv,λt=> ?_,R.lab,R.frm⟩;rw[St.Gv];by_cases ht:t=i;(subst ht;simp only[if_true];exact j);·simp only[ht,if_false];exact R.tmp t
theorem Gho.aAP{i j K vj:Nat}{e:TypeId}{sz:Nat}{xs:List (List D)}{dp:Bool}(h1:s.t i=.v false [.row j vj])(h2:s.h j=(vj,.row e sz xs dp)):
  Gho P base w0 N s (((s.fK j (vj,.none)).fK K ((s.h K).1+1,.row e sz xs dp)).Ha i (.v false [.row K ((s.h K).1+1)])):=by
 rintro a w ⟨g,R⟩
 have C:=R.tmp i
 rw[h1]at C
 obtain⟨J,I,T,hc⟩:=Tr (K:=K) R h2
 exact⟨J,Qk I ⟨_,[],rfl,hc _ (eK C),rfl⟩⟩
theorem Gho.aB3{i K:Nat}(e:TypeId)(sz:Nat)(h1:s.t i=.v false [.nil]):
  Gho P base w0 N s ((s.fK K ((s.h K).1+1,.row e sz [] true)).Ha i (.v false [.row K ((s.h K).1+1)])):=by
 rintro a w ⟨g,R⟩
 have j:=R.tmp i
 rw[h1]at j
 obtain⟨I,C,T,hc⟩:=WA (K:=K) e sz R
 exact⟨I,Qk C ⟨_,[],rfl,hc _ (eK j),rfl⟩⟩
theorem aP.set{g:Gh}{h:Heap}{w:World}:∀{cs:List SC} {vs:List Value} (c:Nat) (x y:SC),aP g h w cs vs->cs[c]? =some x->(∀v,yR g h w x v->yR g h w y v)->aP g h w (cs.set c y) vs
 |[],vs,c,x,y,hc,I,_=>by simp at I
 |z::cs,vs,0,x,y,hc,I,j=>by obtain⟨v,C,rfl,h1,h2⟩:=hc;simp at I;subst I;exact⟨v,C,rfl,j v h1,h2⟩
 |z::cs,vs,c+1,x,y,hc,I,j=>by obtain⟨v,C,rfl,h1,h2⟩:=hc;exact⟨v,C,rfl,h1,aP.set c x y h2 (by simpa using I) j⟩
theorem YL{g:Gh}{a:Act}{w:World}{b vb C:Nat}{t:TypeId}{cells cells':List SC}{vals:Array Value}(R:lG P base w0 N g s a w [])(hb:s.h b=(vb,.box t cells))(h3:g.val b=.pointer (some ⟨C,0,none⟩))(h5:w.heap[C]? =some (.cells vals t (0,0)))(hc:aP g s.h w cells' vals.toList):
  ∃g',lG P base w0 N g' (s.fK b (vb,.box t cells')) a w []:=by
 have I:(s.h b).1=vb:=by rw[hb]
 have hb2:(s.h b).2=.box t cells:=by rw[hb]
 have hlive:live s.h b:=by unfold live;rw[hb2];simp
 have hown:Dt (g.val b)=some C:=by rw[h3];rfl
 have J:=R.inv.mtb b C hlive hown
 have T:kI g { g with fp:=Ji g.fp b (g.fp b) } s.h (nJ s.h b ((s.h b).1,.box t cells')) w w:=
  kI.Ih J (λ_ _=>rfl) (by intro e sz xs dp j;cases j) (by intro t0 cs0 j;cases j;exact⟨_,hb2⟩)
 have U:=R.inv.Ih (i:=b) (b:=C) (F:=g.fp b) (pool':=[]) (w':=w) hlive hown rfl (λ_ _=>rfl) T
  ⟨C,vals,h3,(R.inv.HG hlive hown).1,h5,hc.turn T⟩ jF List.nodup_nil (by rintro⟨_,_,_,j⟩;cases j)
 rw[I]at T U
 exact⟨_,R.turn T rfl R.below U⟩
theorem JA{g C:Gh}{a:Act}{w:World}{b vb c:Nat}{t:TypeId}{cells:List SC}{x y:SC}(R:lG P base w0 N g s a w [])(R':lG P base w0 N C s' a w [])(T:kI g C s.h s'.h w w)(h0:s.h b=(vb,.box t cells))(j:s'.h b=(vb,.box t cells))(h1:cells[c]? =some x)
  (hc:∀v,yR g s.h w x v->yR C s'.h w y v):Rel P base w0 N (s'.fK b (vb,.box t (cells.set c y))) a w:=by
 have I:=R.inv.obj b
 rw[show(s.h b).2=.box t cells from by rw[h0]]at I
 obtain⟨b',vals,h3,h4,h5,h6⟩:=I
 have hv:C.val b=g.val b:=(T.box b t cells (by rw[j,h0]) (by rw[j])).1
 have hnew:∀{cs:List SC} {vs:List Value} (c:Nat),aP g s.h w cs vs->cs[c]? =some x->aP C s'.h w (cs.set c y) vs:=by
  intro cs
  induction cs with
  |nil=>intro vs c _ J;simp at J
  |cons z cs ih=>
   intro vs c hA J
   obtain⟨v,U,rfl,k1,k2⟩:=hA
   cases c with
   |zero=>simp at J;subst J;exact⟨v,U,rfl,hc v k1,k2.turn T⟩
   |succ c=>exact⟨v,U,rfl,k1.turn T,ih c k2 (by simpa using J)⟩
 exact YL R' j (hv.trans h3) h5 (hnew c h6 h1)
theorem Gho.aAf{b vb c j K vj:Nat}{t:TypeId}{cells:List SC}{e:TypeId}{sz:Nat}{xs:List (List D)}{dp:Bool}(C:s.h b=(vb,.box t cells))(h1:cells[c]? =some (.row j vj))(h2:s.h j=(vj,.row e sz xs dp))(hk:b≠K):
  Gho P base w0 N s (((s.fK j (vj,.none)).fK K ((s.h K).1+1,.row e sz xs dp)).fK b (vb,.box t (cells.set c (.row K ((s.h K).1+1))))):=by
 rintro a w ⟨g,R⟩
 have I:b≠j:=λe=>by rw[e,h2]at C;cases C
 obtain⟨U,J,T,hc⟩:=Tr (K:=K) R h2
 refine JA R J T C ?_ h1 hc
 show nJ (nJ s.h j _) K _ b=_
 rw[dP _ _ _ _ hk,dP _ _ _ _ I,C]
theorem Gho.aBm{b vb c K:Nat}{t:TypeId}{cells:List SC}(e:TypeId)(sz:Nat)(j:s.h b=(vb,.box t cells))(h1:cells[c]? =some .nil)(hk:b≠K):
  Gho P base w0 N s ((s.fK K ((s.h K).1+1,.row e sz [] true)).fK b (vb,.box t (cells.set c (.row K ((s.h K).1+1))))):=by
 rintro a w ⟨g,R⟩
 obtain⟨I,C,T,hc⟩:=WA (K:=K) e sz R
 refine JA R C T j ?_ h1 hc
 show nJ s.h K _ b=_
 rw[dP _ _ _ _ hk,j]
theorem sq{x y:Code}(h:SW P base w0 N x s (aft P base w0 N Z (.code y::k))):SW P base w0 N (.seq x y) s (aft P base w0 N Z k):=aAL h
theorem bk{id:Nat}{c:Code}(h:SW P base w0 N c s (aft P base w0 N Z (.block id::k))):SW P base w0 N (.block id c) s (aft P base w0 N Z k):=Yn h
theorem sk(h:aft P base w0 N Z k .normal s):SW P base w0 N .skip s (aft P base w0 N Z k):=Zj h
theorem xt{id:Nat}(h:aft P base w0 N Z k (.exit id) s):SW P base w0 N (.exit id) s (aft P base w0 N Z k):=Zu h
theorem rt(h:Z s):SW P base w0 N .ret s (aft P base w0 N Z k):=aAQ h
theorem an{c:Code}(h:SW P base w0 N c s (aft P base w0 N Z k)):aft P base w0 N Z (.code c::k) .normal s:=h
theorem ab{id:Nat}(h:aft P base w0 N Z k .normal s):aft P base w0 N Z (.block id::k) .normal s:=h
end
section
variable {P:Program}{base N:Nat}{w0:W0}{Z:St->Prop}{k:List Fr}{s s':St}
theorem UZ{g:Gh}{a:Act}{w:World}{j vj:Nat}{e:TypeId}{sz:Nat}{xs:List (List D)}{dp:Bool}(R:lG P base w0 N g s a w [])(h2:s.h j=(vj,.row e sz xs dp)):
  ∃U,lG P base w0 N U (s.fK j (vj,.none)) a w []/\kI g U s.h (s.fK j (vj,.none)).h w w/\∀v,yR g s.h w (.row j vj) v->yR U (s.fK j (vj,.none)).h w (.dat (.sl xs)) v:=by
 have C:(s.h j).1=vj:=by rw[h2]
 have I:(s.h j).2=.row e sz xs dp:=by rw[h2]
 obtain⟨S',F,hS,_,hrep,_,_,hF,_,I1⟩:=R.inv.take I
 have J:=kI.drop (g:=g) (h:=s.h) (w:=w) j S' hS
 rw[C]at I1 J
 refine⟨_,R.turn J rfl R.below I1.forget,J,?_⟩
 rintro v ⟨h0,_,hv⟩
 have e1:v=g.val j:=hv C e sz xs dp I
 subst e1
 exact⟨F,hrep,hF⟩
theorem aP.swap{g I:Gh}{h J:Heap}{w:World}{x y:SC}(T:kI g I h J w w)(hc:∀v,yR g h w x v->yR I J w y v):∀{cs:List SC} {vs:List Value} (c:Nat),aP g h w cs vs->cs[c]? =some x->aP I J w (cs.set c y) vs
 |[],_,c,_,C=>by simp at C
 |z::cs,vs,0,U,C=>by obtain⟨v,j,rfl,k1,k2⟩:=U;simp at C;subst C;exact⟨v,j,rfl,hc v k1,k2.turn T⟩
 |z::cs,vs,c+1,U,C=>by obtain⟨v,j,rfl,k1,k2⟩:=U;exact⟨v,j,rfl,k1.turn T,aP.swap T hc c k2 (by simpa using C)⟩
theorem Gho.aCD{i c j vj:Nat}{ag:Bool}{cs:List SC}{e:TypeId}{sz:Nat}{xs:List (List D)}{dp:Bool}(h1:s.t i=.v ag cs)(hc:cs[c]? =some (.row j vj))(h2:s.h j=(vj,.row e sz xs dp)):
  Gho P base w0 N s ((s.fK j (vj,.none)).Ha i (.v ag (cs.set c (.dat (.sl xs))))):=by
 rintro a w ⟨g,R⟩
 have C:=R.tmp i
 rw[h1]at C
 obtain⟨U,J,T,I⟩:=UZ R h2
 refine⟨U,Qk J ?_⟩
 cases ag with
 |false=>exact aP.swap T I c C hc
 |true=>
  obtain⟨vs,h3,h4⟩:=C
  exact⟨vs,h3,aP.swap T I c h4 hc⟩
theorem Gho.aCR{b vb c j vj:Nat}{t:TypeId}{cells:List SC}{e:TypeId}{sz:Nat}{xs:List (List D)}{dp:Bool}(C:s.h b=(vb,.box t cells))(h1:cells[c]? =some (.row j vj))(h2:s.h j=(vj,.row e sz xs dp)):
  Gho P base w0 N s ((s.fK j (vj,.none)).fK b (vb,.box t (cells.set c (.dat (.sl xs))))):=by
 rintro a w ⟨g,R⟩
 have I:b≠j:=λe=>by rw[e,h2]at C;cases C
 obtain⟨U,J,T,hc⟩:=UZ R h2
 refine JA R J T C ?_ h1 hc
 show nJ s.h j _ b=_
 rw[dP _ _ _ _ I,C]
end
def W6(B:Nat)(j:Nat->Value):Nat->List D->List SC
 |_,[]=>[]
 |k,d::ds=>.old B d (some (j k))::W6 B j (k+1) ds
theorem X4(B:Nat)(j:Nat->Value)(k:Nat):W6 B j k []=[]:=rfl
theorem WH(B:Nat)(j:Nat->Value)(k:Nat)(d:D)(ds:List D):W6 B j k (d::ds)=.old B d (some (j k))::W6 B j (k+1) ds:=rfl
def X7(B:Nat)(j:Nat->Value)(x y:List D):St:=
 { t:=λi=>if i=0 then .v true (x.map .dat)else if i=1 then .v true (W6 B j 0 y)else .undef,h:=λ_=>(0,.none) }
theorem ZL(B:Nat)(j:Nat->Value)(x y:List D)(i:Nat):(X7 B j x y).t i=if i=0 then .v true (x.map .dat)else if i=1 then .v true (W6 B j 0 y)else .undef:=rfl
theorem Y9(B:Nat)(j:Nat->Value)(x y:List D)(i:Nat):(X7 B j x y).h i=(0,.none):=rfl
theorem T7(B:Nat)(d:D)(u:Option Value)(cs:List SC)(k:List D->Prog):Ds (.old B d u::cs) k=Ds cs λds=>k (d::ds):=rfl
def aCO(T:KU)(vars:List ResultVar)(B:Nat)(j:Nat->Value)(y:List D)(s:St):Prop:=Ik T s vars=some [(true,W6 B j 0 y),(false,[.dat (.bool true)])]
theorem WB{g:Gh}{h:Heap}{w:World}{B:Nat}{U:Nat->Value}:∀{ds:List D} {vs:List Value} {F:List Nat} (k:Nat),aF w ds vs F->(∀b∈F,g.S b/\b<B)->(∀i v,vs[i]? =some v->v=U (k+i))->aP g h w (W6 B U k ds) vs
 |[],vs,F,k,j,_,_=>by simp only[aF]at j;exact j.1
 |d::ds,vs,F,k,j,I,J=>by simp only[aF]at j;obtain⟨v,C,F1,F2,rfl,rfl,h3,h4⟩:=j;refine⟨v,C,rfl,⟨F1,h3,λb hb=>I b (by simp[hb]),λx hx=> ?_⟩,WB (k+1) h4 (λb hb=>I b (by simp[hb])) λi u hi=> ?_⟩;(cases hx;exact J 0 v rfl);·rw[J (i+1) u (by simpa using hi)];congr 1;omega
theorem Wn{g:Gh}{h:Heap}{w:World}{B:Nat}{I:Nat->Value}:∀{ds:List D} {vs:List Value} (k:Nat),aP g h w (W6 B I k ds) vs->vs.length=ds.length/\∀i v,vs[i]? =some v->v=I (k+i)
 |[],vs,k,j=>by rw[show vs=[]from j];exact⟨rfl,λi v J=>by simp at J⟩
 |d::ds,vs,k,j=>by
  obtain⟨v,vs',rfl,⟨F,_,_,h3⟩,h4⟩:=j
  obtain⟨U,k2⟩:=Wn (k+1) h4
  refine⟨by simp[U],λi u C=> ?_⟩
  cases i with
  |zero=>simp at C;rw[<-C];exact h3 _ rfl
  |succ i=>
   rw[k2 i u (by simpa using C)]
   congr 1
   omega
theorem Zp {P : Program} {f : FuncId} {fn : Func} {c : Code} {x y : List D} {N : Nat} {vars : List ResultVar} (hf : P.funcs[f]? = some fn) (hb : fn.body = some c) (hN : fn.ntmps = N) (hv : fn.results.toList = vars) (hnm : (fn.name == "runtime.NumGoroutine") = false) (hn : 2 <= N)
  (h : ∀(base:Nat) (w0:W0) (us:Nat->Value),SW P base w0 N c (X7 base us x y) (aft P base w0 N (aCO (dI P) vars base us y) [])):pC P f [(true,x),(true,y)] [(false,[.edit .pass])]:=by
 subst hN hv
 refine .inr (.inl ⟨.pass,rfl,⟨fn,c,hf,hb,hnm⟩,λw v1 v2 Fa ha => ?_⟩)
 have hFlt:=N0 (vs:=[v1,v2]) ha
 obtain ⟨F1,F',e1,h1,F2,F3,e2,h2,h3⟩:=ha
 have e3:F3=[]:=h3
 subst e3 e2 e1
 obtain ⟨c1,rfl,r1⟩:=h1
 obtain ⟨c2,rfl,r2⟩:=h2
 refine calls_of_wp hf hb ?_
 let us:Nat->Value:=λi=>c2.toList.getD i undef
 let g:Gh:={ val:=λ_=>undef,fp:=λ_=>[],S:=λb=>b∈F1++(F2++[]),Q:=⟨λb=>b∈F1++(F2++[]),w.heap.size,none,slP P⟩ }
 have R:Rel P w.heap.size ⟨w,⟨λb=>b∈F1++(F2++[]),w.heap.size,none,slP P⟩,noK,W7⟩ fn.ntmps (X7 w.heap.size us x y) { tmps := #[.agg c1,.agg c2]++Array.replicate (fn.ntmps-2) undef,defers:=[] } w:=by refine ⟨g,rfl,jE,Below.refl _ _,⟨λ_ x=>x,rfl,λ_ hx=>(by cases hx)⟩,λ_ x=>x.elim,⟨qf _,λ_ x _=>x,hFlt,λi=>trivial,λi b hl=>absurd rfl hl,λi j b _ hl=>absurd rfl hl,?_,Ck.nil _ _,jF,λi hd=>(by obtain ⟨_,_,_,hd⟩:=hd;cases hd),qf _⟩,λt => ?_,⟨rfl,.inl rfl⟩,λ_=>trivial⟩;(rintro i j _ ⟨_,_,_,hd⟩;cases hd);·show nK g _ w (if t=0 then .v true (x.map .dat) else if t=1 then .v true (W6 w.heap.size us 0 y) else .undef) _;by_cases h0:t=0;(subst h0;rw [if_pos rfl];exact ⟨c1,by rw [Array.getD_eq_getD_getElem?,Array.getElem?_append_left jF];rfl,aP.L3 r1 λb hb=>by show b∈F1++(F2++[]);simp [hb]⟩);·rw [if_neg h0];by_cases h1:t=1;(subst h1;rw [if_pos rfl];refine ⟨c2,by rw [Array.getD_eq_getD_getElem?,Array.getElem?_append_left jF];rfl,WB 0 r2 (λb hb=>⟨by show b∈F1++(F2++[]);simp [hb],hFlt b (by simp [hb])⟩) λi v hi => ?_⟩;show v=c2.toList.getD (0+i) undef;rw [qo,List.getD_eq_getElem?_getD,hi];rfl);·rw [if_neg h1];show _=undef;simp only [Array.getD_eq_getD_getElem?,Array.getElem?_append];rw [if_neg jE];by_cases h2:t-2<fn.ntmps-2;(simp [h2]);·rw [Array.getElem?_eq_none jE];rfl
 refine wp_mono (h w.heap.size ⟨w,⟨λb=>b∈F1++(F2++[]),w.heap.size,none,slP P⟩,noK,W7⟩ us _ w R) ?_
 rintro e a' w' ⟨s',h1,g',R'⟩
 have fin:aCO (dI P) fn.results.toList w.heap.size us y s'->a'.defers=[] /\ ∃v,(results fn a'.tmps).run P w' = .ok v w'/\Ending.returned v = .returned (.tuple #[.agg c2,.bool true])/\Below w.heap.size w w':=by
  intro hr
  obtain ⟨vs,k1,k2,k3⟩:=G0 R' hr
  have hrun:=MY (P:=P) (w:=w') (λx=>match x with | .tmp t=>(pure (a'.tmps.getD t undef):Sem Value) | .cell p t=>(do loadVar t (<-asAddr (a'.tmps.getD p undef)):Sem Value)) fn.results.toList vs (by rw [k1]) k3
  have hrun':(results fn a'.tmps).run P w' = .ok (if h:vs.toArray.size=1 then vs.toArray[0] else .tuple vs.toArray) w':=by unfold results;rw [<-Array.toArray_toList (xs:=fn.results)];rw [List.mapM_toArray];simp only [qs,Sem.run_map,qu];exact (congrArg (λr:Result (List Value)=>(r.andThen λa w'=>Result.ok a.toArray w').andThen λa w'=>Result.ok (if h:a.size=1 then a[0] else Value.tuple a) w') hrun).trans rfl
  obtain ⟨u1,vs1,rfl,⟨d2,rfl,m1⟩,u2,vs2,rfl,m2,m3⟩:=k2
  have m3':vs2=[]:=m3
  subst m3'
  have e2:u2 = .bool true:=Fo (g:=g') (s:=s') (w:=w') (b:=true) m2
  subst e2
  obtain ⟨n1,n2⟩:=Wn 0 m1
  have n3:c2.toList.length=y.length:=r2.length
  have e1:d2=c2:=by
   apply Array.ext'
   apply List.ext_getElem?
   intro i
   rcases Nat.lt_or_ge i y.length with hi | hi
   ·have hd:i<d2.toList.length:=by rw [n1];exact hi
    have hc:i<c2.toList.length:=by rw [n3];exact hi
    rw [qF hd,qF hc]
    have:=n2 i _ (qF hd)
    rw [this]
    show some (c2.toList.getD (0+i) undef)=_
    rw [qo,List.getD_eq_getElem?_getD,qF hc]
    rfl
   ·rw [qY (by rw [n1];exact hi),qY (by rw [n3];exact hi)]
  subst e1
  exact ⟨R'.defers,_,hrun',rfl,R'.below⟩
 cases e with
 | normal=>exact fin h1
 | ret=>exact fin h1
 | exit id=>exact h1.elim
 | goto l=>exact h1.elim
 | panic c=>exact h1.elim
 | outgrown=>exact h1.elim
def aE8:=PLift.up (qI @X4 (qI @WH (qI @ZL (qI @Y9 @T7))))
theorem LP:type_of% aE8.down:=aE8.down
theorem SQ{α:Type}{xs z:List α}{i:Int}(h:D3 xs i=some z):0<=i/\i.toNat<=xs.length:=by unfold D3 at h;split at h;(assumption);·cases h
theorem PH{α:Type}{xs z:List α}{i:Int}(h:D3 xs i=some z):i.toNat+(xs.length-i.toNat)=xs.length:=by have:=SQ h;omega
theorem Rw{α:Type}{f:α->List D}{xs z:List α}{i:Int}{r:List D}(h:D3 xs i=some z):0<=i/\i.toNat<=(List.map f (List.take i.toNat xs)++List.replicate (xs.length-i.toNat) r).length:=by have:=SQ h;refine⟨this.1,?_⟩;rw[qE,List.length_map,qU,qz];omega
theorem XO{α:Type}{f:α->List D}{xs z:List α}{i:Int}{n:Nat}{r:List D}(h:D3 xs i=some z):(List.map f (List.take i.toNat xs)++List.replicate n r).take i.toNat=List.map f (List.take i.toNat xs):=by have:=SQ h;exact List.take_left' (by rw[List.length_map,qU];omega)
def aAd(t:TypeId)(B:Nat)(C:Value)(d0:D)(ds:List D)(rest:List (Bool×List D)):St:=
 { t:=λi=>match i with|0=>.v false [.bp 7059000 1 0]|i+1=>match rest[i]? with|some (j,ds)=>.v j (ds.map .dat)|none=>.undef,h:=λi=>if i=7059000 then(1,.box t (.old B d0 (some C)::ds.map .dat))else(0,.none) }
theorem Y3(t:TypeId)(B:Nat)(C:Value)(d0:D)(ds:List D)(rest:List (Bool×List D))(i:Nat):(aAd t B C d0 ds rest).t i=match i with|0=>.v false [.bp 7059000 1 0]|i+1=>(match rest[i]? with|some (j,ds)=>.v j (ds.map .dat)|none=>.undef):=rfl
theorem ZK(t:TypeId)(B:Nat)(j:Value)(d0:D)(ds:List D)(rest:List (Bool×List D))(i:Nat):(aAd t B j d0 ds rest).h i=if i=7059000 then(1,.box t (.old B d0 (some j)::ds.map .dat))else(0,.none):=rfl
def SC.clean(base:Nat):SC->Prop
 | .dat d=>d.flat=true
 | .old B _ _=>B<=base
 | .exa _ _ _=>False
 |_=>True
def SV.clean(base:Nat):SV->Prop
 | .v _ j=>∀c∈j,SC.clean base c
 | .tup C=>∀x∈C,∀c∈x.2,SC.clean base c
 |_=>True
def Ff.clean(base:Nat):Ff->Prop
 | .none=>True
 | .box _ j=>∀c∈j,SC.clean base c
 | .row _ _ _ C=>C=true
 | .pin _ _ _=>False
section
variable {P:Program}{base N:Nat}{w0:W0}{w:World}{g:Gh}{s:St}{a:Act}
theorem R7{Q:Exit->Act->World->Prop}{ops:Array Oper}{K:St->Prop}(m:Nat):∀(l:List Oper) (i:Nat) {s:St} {a:Act} {w:World},(ops.toList.drop i).take l.length=l->Rel P base w0 N s a w->Eg P (dI P) N ops l s K->
  (∀s' I w',K s'->Rel P base w0 N s' I w'->wpOps P ops Q (List.range' (i+l.length) m) I w')->wpOps P ops Q (List.range' i (l.length+m)) a w
 |[],i,s,a,w,C,R,h,hq=>by simpa using hq s a w h R
 |o::l,i,s,a,w,C,R,h,hq=>by
  rw[show(o::l).length+m=(l.length+m)+1 from by simp;omega,List.range'_succ,wpOps_cons]
  have J:ops[i]? =some o:=by
   have:((ops.toList.drop i).take (o::l).length)[0]? =some o:=by rw[C];rfl
   rw[List.getElem?_take]at this
   simp at this
   exact this
  have U:(ops.toList.drop (i+1)).take l.length=l:=by
   have h1:(ops.toList.drop i)=o::ops.toList.drop (i+1):=by
    have j:i<ops.toList.length:=by simpa using(ql.1 J).1
    rw[qW j]
    have:ops.toList[i]? =some o:=by simpa using J
    rw[qF j]at this
    simp at this
    simp[this]
   rw[h1]at C
   simpa using C
  refine wpOp_mono ?_ (Si J R h)
  rintro I w' ⟨s',k1,k2⟩
  refine R7 m l (i+1) U k2 k1 λs2 a2 w2 h2 R2=> ?_
  have:=hq s2 a2 w2 h2 R2
  rwa [show i+(o::l).length=i+1+l.length from by simp;omega]at this
def aB1(s:St):Operand->SV
 | .tmp t=>s.t t
 | .const c=>cst c
 | .func f=>.v false [.dat (.fn f [])]
 | .global _=>.unk
theorem X9(R:lG P base w0 N g s a w [])(x:Operand):nK g s.h w (aB1 s x) (a.eval x):=by
 cases x with
 |tmp t=>exact R.tmp t
 |const c=>exact Wq c g s.h w
 |func f=>exact⟨_,[],rfl,⟨[],by simp only[Rep];exact⟨[],rfl,by simp[aF]⟩,jF⟩,rfl⟩
 |global j=>trivial
def aAn(s:St)(as:List Operand):St:=
 { t:=λi=>match as[i]? with|some x=>aB1 s x|none=>.undef,h:=s.h,fr:=λi=>if i<10000 then s.t i else s.fr (i-10000) }
def ZA(w0:W0)(a:Act)(i:Nat):Value:=if i<10000 then a.tmps.getD i undef else w0.fv (i-10000)
def aAi(s:St)(d:Nat)(sv:SV):St:=
 { t:=λi=>if i=d then sv else if i<10000 then s.fr i else .unk,h:=s.h,fr:=λi=>s.fr (i+10000) }
theorem Zn(w0:W0)(a:Act)(i:Nat):ZA w0 a (i+10000)=w0.fv i:=by
 unfold ZA
 have h1:¬i+10000<10000:=by omega
 have h2:i+10000-10000=i:=by omega
 rw[if_neg h1,h2]
theorem YD(s:St)(as:List Operand)(i:Nat):(aAn s as).t i=match as[i]? with|some x=>aB1 s x|none=>.undef:=rfl
theorem aAs(s:St)(as:List Operand)(i:Nat):(aAn s as).h i=s.h i:=rfl
theorem Wu(s:St)(as:List Operand)(i:Nat):(aAn s as).fr i=if i<10000 then s.t i else s.fr (i-10000):=rfl
theorem Y0(s:St)(d:Nat)(sv:SV)(i:Nat):(aAi s d sv).t i=if i=d then sv else if i<10000 then s.fr i else .unk:=rfl
theorem aAI(s:St)(d:Nat)(sv:SV)(i:Nat):(aAi s d sv).h i=s.h i:=rfl
theorem V0(s:St)(d:Nat)(sv:SV)(i:Nat):(aAi s d sv).fr i=s.fr (i+10000):=rfl
theorem St.Zd(s:St)(t:Nat)(v:SV)(i:Nat):(s.Ha t v).fr i=s.fr i:=rfl
theorem St.Zi(s:St)(t:Nat)(v:Nat×Ff)(i:Nat):(s.fK t v).fr i=s.fr i:=rfl
def VL:List (Bool×List SC)->SV
 |[(j,C)]=>.v j C
 |l=>.tup l
def aAB(P:Program)(T:KU)(vars:List ResultVar)(N:Nat)(ops:Array Oper)(n d:Nat)(K:St->Prop)(s:St):Prop:=
 ∃l,Ik T s vars=some l/\Eg P T N ops (ops.toList.drop (n+1)) (aAi s d (VL l)) K
set_option maxRecDepth 20000 in
theorem UX {Z:St->Prop} {kf:List Fr} {id n f d N':Nat} {ops:Array Oper} {o:Oper} {as:Array Operand} {ts:Array TypeId} {s1:St} {fn:Func} {c:Code} {vars:List ResultVar}
  (ho:ops.toList[n]? = some o) (hop:o.op = .call { callee:=.value (.func f),args:=as,argTypes:=ts }) (hg:o.guard=none) (hd:o.dst=some d) (hdN:d<N)
  (hf : P.funcs[f]? = some fn) (hb : fn.body = some c) (hN : fn.ntmps = N') (hv : fn.results.toList = vars) (hnm : (fn.name == "runtime.NumGoroutine") = false) (hn : as.toList.length <= N')
  (h1:Eg P (dI P) N ops (ops.toList.take n) s (Is s1))
  (h : ∀fv,SW P base { w0 with fv:=fv } N' c (aAn s1 as.toList) (aft P base { w0 with fv:=fv } N' (aAB P (dI P) vars N ops n d (λs3=>aft P base w0 N Z kf .normal s3)) [])) :
  SW P base w0 N (.region id ops false) s (aft P base w0 N Z kf):=by
 subst hN hv
 intro a w R
 refine wp_region ?_
 have hlt:n<ops.toList.length:=(qd.1 ho).1
 have hoi:ops[n]? = some o:=by simpa using ho
 have hsz:ops.size=ops.toList.length:=by simp
 have htl:(ops.toList.take n).length=n:=by rw [qU];omega
 rw [List.range_eq_range',hsz,show ops.toList.length=(ops.toList.take n).length+((ops.toList.drop (n+1)).length+1) from by rw [htl,qV];omega]
 refine R7 _ (ops.toList.take n) 0 (by rw [htl];simp) R h1 λs' a' w' hs R' => ?_
 rw [show s'=s1 from hs] at R'
 rw [htl,qo,List.range'_succ,wpOps_cons]
 obtain ⟨g,R'⟩:=R'
 have hmid:wpOp P ops (λe a' w'=>∃s',aft P base w0 N Z kf e s'/\Rel P base w0 N s' a' w') n (λa2 w2=>∃s2,Eg P (dI P) N ops (ops.toList.drop (n+1)) s2 (λs3=>aft P base w0 N Z kf .normal s3)/\Rel P base w0 N s2 a2 w2) a' w':=by
  unfold wpOp
  simp only [hoi]
  rw [if_pos (by simp [Region.wanted,hg])]
  refine .inl ?_
  unfold Oper.wp
  have hrun:(execOp a'.eval o).run P w' = .ok (.enter f (as.map a'.eval)) w':=by simp [execOp,hop,resolve,Act.eval,Deferred.ofValue,invoke,Dh ⟨fn,c,hf,hb,hnm⟩]
  rw [hrun]
  unfold Oper.upon
  refine calls_of_wp hf hb ?_
  let fv:=ZA w0 a'
  have hvl:(as.map a'.eval).size=as.toList.length:=by simp
  have R2:lG P base { w0 with fv:=fv } fn.ntmps g (aAn s1 as.toList) { tmps:=as.map a'.eval++Array.replicate (fn.ntmps-(as.map a'.eval).size) undef,defers:=[] } w' []:=by
   refine ⟨rfl,by simp only [Array.size_append,Array.size_replicate];omega,R'.below,R'.q,R'.oN,R'.inv,λi => ?_,R'.lab,λi => ?_⟩
   ·rw [YD]
    cases hx:as.toList[i]? with
    | none =>
     have hge:as.toList.length<=i:=List.getElem?_eq_none_iff.1 hx
     show _=undef
     simp only [Array.getD_eq_getD_getElem?,Array.getElem?_append]
     rw [if_neg jD]
     by_cases h2:i-(as.map a'.eval).size<fn.ntmps-(as.map a'.eval).size
     ·rw [Array.getElem?_replicate,if_pos h2];rfl
     ·rw [Array.getElem?_replicate,if_neg h2];rfl
    | some x =>
     have hil:i<as.toList.length:=(qd.1 hx).1
     have hv:(as.map a'.eval++Array.replicate (fn.ntmps-(as.map a'.eval).size) undef).getD i undef=a'.eval x:=by
      simp only [Array.getD_eq_getD_getElem?,Array.getElem?_append]
      rw [if_pos jD,Array.getElem?_map]
      have:as[i]? = some x:=by simpa using hx
      rw [this];rfl
     rw [show ({ tmps:=as.map a'.eval++Array.replicate (fn.ntmps-(as.map a'.eval).size) undef,defers:=[] }:Act).tmps.getD i undef=a'.eval x from hv]
     exact X9 R' x
   ·rw [Wu];show nK g s1.h w' _ (ZA w0 a' i);unfold ZA;split;(exact R'.tmp i);·exact R'.frm _
  refine wp_mono (h fv _ w' ⟨g,R2⟩) ?_
  rintro e a2 w2 ⟨s2,k1,g2,R3⟩
  have fin:aAB P (dI P) fn.results.toList N ops n d (λs3=>aft P base w0 N Z kf .normal s3) s2->a2.defers=[] /\ ∃v,(results fn a2.tmps).run P w2 = .ok v w2 /\
    ∃s2,Eg P (dI P) N ops (ops.toList.drop (n+1)) s2 (λs3=>aft P base w0 N Z kf .normal s3)/\Rel P base w0 N s2 (a'.put o.dst v) w2:=by
   rintro ⟨l,hgt,hrest⟩
   obtain ⟨vs,m1,m2,m3⟩:=G0 R3 hgt
   have hrun:=MY (P:=P) (w:=w2) (λx=>match x with | .tmp t=>(pure (a2.tmps.getD t undef):Sem Value) | .cell p t=>(do loadVar t (<-asAddr (a2.tmps.getD p undef)):Sem Value)) fn.results.toList vs (by rw [m1]) m3
   have hrun':(results fn a2.tmps).run P w2 = .ok (if h:vs.toArray.size=1 then vs.toArray[0] else .tuple vs.toArray) w2:=by unfold results;rw [<-Array.toArray_toList (xs:=fn.results)];rw [List.mapM_toArray];simp only [qs,Sem.run_map,qu];exact (congrArg (λr:Result (List Value)=>(r.andThen λa w'=>Result.ok a.toArray w').andThen λa w'=>Result.ok (if h:a.size=1 then a[0] else Value.tuple a) w') hrun).trans rfl
   refine ⟨R3.defers,_,hrun',_,hrest,?_⟩
   have hres:nK g2 s2.h w2 (VL l) (if h:vs.toArray.size=1 then vs.toArray[0] else .tuple vs.toArray):=by
    match l,vs,m2 with
    | [],[],m2=>exact ⟨#[],rfl,rfl⟩
    | [(ag,cs)],[v],m2 =>
     obtain ⟨v',vs',e1,e2,e3⟩:=m2
     simp only [List.cons.injEq] at e1
     obtain ⟨rfl,rfl⟩:=e1
     exact e2
    | [(ag,cs)],v::v'::vs,m2 =>
     obtain ⟨v1,vs1,e1,e2,e3⟩:=m2
     simp only [List.cons.injEq] at e1
     obtain ⟨rfl,rfl⟩:=e1
     cases e3
    | x::y::l,[v],m2 =>
     obtain ⟨v1,vs1,e1,e2,v2,vs2,e3,_⟩:=m2
     simp only [List.cons.injEq] at e1
     rw [e3] at e1
     simp at e1
    | x::y::l,v::v'::vs,m2 =>
     have hne : ¬(v::v'::vs).toArray.size=1:=by simp
     rw [dif_neg hne]
     exact ⟨_,rfl,by simpa using m2⟩
    | [],v::vs,m2=>cases m2
    | x::l,[],m2=>obtain ⟨v1,vs1,e1,_⟩:=m2;cases e1
   generalize (if h:vs.toArray.size=1 then vs.toArray[0] else Value.tuple vs.toArray)=v at hres
   refine ⟨g2,by simp [Act.put,hd,R'.defers],by simp [Act.put,hd,R'.size],R3.below,R3.q,R3.oN,R3.inv,λi => ?_,R3.lab,λi => ?_⟩
   ·rw [Y0,hd,Hk R'.size hdN];by_cases hi:i=d;(rw [if_pos hi,if_pos hi];exact hres);·rw [if_neg hi,if_neg hi];by_cases h1:i<10000;(rw [if_pos h1];have:=R3.frm i;rw [show ({ w0 with fv:=fv }:W0).fv i=a'.tmps.getD i undef from by show ZA w0 a' i=_;unfold ZA;rw [if_pos h1]] at this;exact this);·rw [if_neg h1];trivial
   ·rw [V0];have h:=R3.frm (i+10000);have e:({ w0 with fv:=fv }:W0).fv (i+10000)=w0.fv i:=Zn w0 a' i;rw [e] at h;exact h
  cases e with
  | normal=>exact fin k1
  | ret=>exact fin k1
  | exit id=>exact k1.elim
  | goto l=>exact k1.elim
  | panic c=>exact k1.elim
  | outgrown=>exact k1.elim
 refine wpOp_mono (λa2 w2 R2 => ?_) hmid
 obtain ⟨s2,k1,k2⟩:=R2
 exact P9 (Q:=λe a' w'=>∃s',aft P base w0 N Z kf e s'/\Rel P base w0 N s' a' w') (ops.toList.drop (n+1)) (n+1) rfl k2 k1 λs' a' w' h1 h2=>⟨s',h1,h2⟩
def aGQ:=PLift.up (qI @YD (qI @aAs (qI @Wu (qI @Y0 (qI @aAI (qI @V0 (qI @St.Zd @St.Zi)))))))
theorem LI:type_of% aGQ.down:=aGQ.down
end
def aB6(h:Heap)(kh:List Nat)(i ver:Nat)(e:TypeId)(sz:Nat)(xs:List (List D))(j:Nat)(x:List D)(off K:Nat)(I:TypeId)(C:Nat)(ys:List (List D))(u:Value):Heap:=λl=>
 if l=i then(ver,.row e sz (xs.set j (x.set off (.val u))) true)else if l=K then((h K).1+1,.row I C ys true)else if l=7058000 then((h 7058000).1+1,.pin K ((h K).1+1) u)else if l∈kh then h l else((h l).1,.none)
def YC(s:St)(kt kh:List Nat)(i ver:Nat)(e:TypeId)(sz:Nat)(xs:List (List D))(j:Nat)(x:List D)(off K:Nat)(I:TypeId)(C:Nat)(ys:List (List D))(u:Value):St:=
 { t:=λt=>if t∈kt then s.t t else .unk,h:=aB6 s.h kh i ver e sz xs j x off K I C ys u }
theorem Yp(s:St)(kt kh:List Nat)(i ver:Nat)(e:TypeId)(sz:Nat)(xs:List (List D))(j:Nat)(x:List D)(off K:Nat)(I:TypeId)(C:Nat)(ys:List (List D))(u:Value)(t:Nat):(YC s kt kh i ver e sz xs j x off K I C ys u).t t=if t∈kt then s.t t else .unk:=rfl
theorem XC(s:St)(kt kh:List Nat)(i ver:Nat)(e:TypeId)(sz:Nat)(xs:List (List D))(j:Nat)(x:List D)(off K:Nat)(I:TypeId)(C:Nat)(ys:List (List D))(u:Value)(l:Nat):(YC s kt kh i ver e sz xs j x off K I C ys u).h l=
  if l=i then(ver,.row e sz (xs.set j (x.set off (.val u))) true)else if l=K then((s.h K).1+1,.row I C ys true)else if l=7058000 then((s.h 7058000).1+1,.pin K ((s.h K).1+1) u)else if l∈kh then s.h l else((s.h l).1,.none):=rfl
section
variable {P:Program}{base N:Nat}{w0:W0}{w:World}{g:Gh}{s:St}{a:Act}
theorem bZ.at_{L:TL}{ds:List D}{ts:Lb}{vs:List Value}{F:List Nat}(h:bZ L w ds ts vs F){off:Nat}{d:D}(hd:ds[off]? =some d):
  ∃I v v3 C J F3,vs=I++v::v3/\I.length=off/\F=C++(J++F3)/\Fy L w d (Sh.lab (ts.drop off)) v J/\∀(U:D) (v':Value) (j:List Nat),Fy L w U (Sh.lab (ts.drop off)) v' j->bZ L w (ds.set off U) ts (I++v'::v3) (C++(j++F3)):=by
 induction ds generalizing ts vs F off with
 |nil=>simp at hd
 |cons d0 ds ih=>
  simp only[bZ]at h
  obtain⟨v,vs',C,J,rfl,rfl,h3,h4⟩:=h
  cases off with
  |zero=>
   simp at hd
   subst hd
   refine⟨[],v,vs',[],C,J,rfl,rfl,rfl,by simpa using h3,λU v' j h'=> ?_⟩
   simp only[List.set_cons_zero,bZ,List.nil_append]
   exact⟨v',vs',j,J,rfl,rfl,by simpa using h',h4⟩
  |succ off=>
   obtain⟨I,v2,v3,G1,G2,G3,rfl,hl,rfl,k1,k2⟩:=ih h4 (by simpa using hd)
   rw[List.drop_tail]at k1 k2
   refine⟨v::I,v2,v3,C++G1,G2,G3,rfl,by simp[hl],jF,k1,λU v' j h'=> ?_⟩
   simp only[List.set_cons_succ,bZ]
   exact⟨v,I++v'::v3,C,G1++(j++G3),jF,jF,h3,k2 U v' j h'⟩
end
def X6(B:Nat)(d:D):SC:=if d.flat=true then .dat d else .old B d none
def VG(B:Nat)(args:List (Bool×List D)):St:=
 { t:=λi=>match args[i]? with|some (j,ds)=>.v j (ds.map (X6 B))|none=>.undef,h:=λ_=>(0,.none) }
theorem WO(B:Nat)(args:List (Bool×List D))(i:Nat):(VG B args).t i=match args[i]? with|some (j,ds)=>.v j (ds.map (X6 B))|none=>.undef:=rfl
theorem VR(B:Nat)(args:List (Bool×List D))(i:Nat):(VG B args).h i=(0,.none):=rfl
theorem Tp(B:Nat)(k:IntKind)(n:Int):X6 B (.int k n)=.dat (.int k n):=rfl
theorem Rd(B:Nat)(b:Bool):X6 B (.bool b)=.dat (.bool b):=rfl
theorem T0(B:Nat)(b:ByteArray):X6 B (.str b)=.dat (.str b):=rfl
theorem VP(B:Nat)(xs:List (List D)):X6 B (.sl xs)=.old B (.sl xs) none:=rfl
theorem aP.UU{g:Gh}{h:Heap}{w:World}{B:Nat}:∀{ds:List D} {vs:List Value} {F:List Nat},aF w ds vs F->(∀b∈F,g.S b/\b<B)->aP g h w (ds.map (X6 B)) vs
 |[],vs,F,j,_=>by simp only[aF]at j;exact j.1
 |d::ds,vs,F,j,C=>by simp only[aF]at j;obtain⟨v,I,J,U,rfl,rfl,h3,h4⟩:=j;refine⟨v,I,rfl,?_,aP.UU h4 λb hb=>C b (by simp[hb])⟩;unfold X6;split;(exact⟨J,h3,λb hb=>(C b (by simp[hb])).1⟩);·exact⟨J,h3,λb hb=>C b (by simp[hb]),λ_ e=>by cases e⟩
def Uf(j:List (Bool×List RC)):Bool:=j.all λr=>r.2.all λc=>match c with| .own _ _ _=>false|_=>true
theorem I5{L I:TL}{base:Nat}{w:World}{X:Nat->Prop}:∀{vs:List Value} {C:List RC} {F:List Nat},(C.all λc=>match c with| .own _ _ _=>false|_=>true)=true->pL L base w X vs C F->pL I base w X vs C F
 |[],[],F,_,h=>h
 |v::vs,.any d::C,F,j,h=>by simp only[List.all_cons,Bool.true_and]at j;exact⟨h.1,I5 j h.2⟩
 |v::vs,.ro d::C,F,j,h=>by simp only[List.all_cons,Bool.true_and]at j;exact⟨h.1,I5 j h.2⟩
 |v::vs,.own e sz J::C,F,j,h=>by simp at j
 |v::vs,.edit q::C,F,_,h=>h.elim
 |[],_::_,F,_,h=>h.elim
 |_::_,[],F,_,h=>h.elim
theorem Tw{L C:TL}{base:Nat}{w:World}{X:Nat->Prop}{v:Value}{r:Bool×List RC}{F:List Nat}(j:(r.2.all λc=>match c with| .own _ _ _=>false|_=>true)=true)(h:NX L base w X v r F):NX C base w X v r F:=by
 obtain⟨I,U⟩:=r
 cases I with
 |true=>obtain⟨J,rfl,h⟩:=h;exact⟨J,rfl,I5 j h⟩
 |false=>exact I5 j h
theorem NT{L U:TL}{base:Nat}{w:World}{X:Nat->Prop}:∀{vs:List Value} {j:List (Bool×List RC)} {F:List Nat},Uf j=true->E9 L base w X vs j F->E9 U base w X vs j F
 |[],[],F,_,h=>h
 |v::vs,r::j,F,C,⟨I,J,h0,h1,h2⟩=>by simp only[Uf,List.all_cons,qM]at C;exact⟨I,J,h0,Tw C.1 h1,NT C.2 h2⟩
 |[],_::_,F,_,h=>h.elim
 |_::_,[],F,_,h=>h.elim
theorem Xh{L J:TL}{base:Nat}{w:World}{v:Value}{C:List (Bool×List RC)}{Q:Nat->Prop}(j:Uf C=true)(h:Ns L base w v C Q):Ns J base w v C Q:=by
 obtain⟨F,X,h1,h2,h3,h4⟩:=h
 refine⟨F,X,h1,h2,h3,?_⟩
 match C,j,h4 with
 |[r],j,h4=>
  simp only[Uf,List.all_cons,List.all_nil,Bool.and_true]at j
  exact Tw j h4
 |[],j,h4=>obtain⟨I,e,h⟩:=h4;exact⟨I,e,NT j h⟩
 |a::b::C,j,h4=>obtain⟨I,e,h⟩:=h4;exact⟨I,e,NT j h⟩
theorem ZH {P : Program} (L : TL) {f : FuncId} {fn : Func} {c : Code} {args : List (Bool × List D)} {rs : List (Bool × List RC)} {N : Nat} {vars : List ResultVar} (hf : P.funcs[f]? = some fn) (hb : fn.body = some c) (hN : fn.ntmps = N) (hv : fn.results.toList = vars) (hnm : (fn.name == "runtime.NumGoroutine") = false) (hn : args.length <= N) (hL : L = slP P \/ (L = Kt /\ Uf rs = true))
  (h : ∀(base:Nat) (wd:World×(Nat->Prop)),SW P base ⟨wd.1,⟨wd.2,base,none,L⟩,noK,W7⟩ N c (VG base args) (aft P base ⟨wd.1,⟨wd.2,base,none,L⟩,noK,W7⟩ N (Ret (dI P) vars rs) [])):pC P f args rs:=by
 subst hN hv
 refine .inl ⟨⟨fn,c,hf,hb,hnm⟩,λw vs Fa ha => ?_⟩
 obtain ⟨hlen,hat⟩:=args_at ha
 have hlen':vs.size=args.length:=by simpa using hlen
 refine calls_of_wp hf hb ?_
 have hFlt:=N0 ha
 let g:Gh:={ val:=λ_=>undef,fp:=λ_=>[],S:=λb=>b∈Fa,Q:=⟨λb=>b∈Fa,w.heap.size,none,L⟩ }
 have R:Rel P w.heap.size ⟨w,⟨λb=>b∈Fa,w.heap.size,none,L⟩,noK,W7⟩ fn.ntmps (VG w.heap.size args) { tmps:=vs++Array.replicate (fn.ntmps-vs.size) undef,defers:=[] } w:=by
  refine ⟨g,rfl,jE,Below.refl _ _,⟨λ_ x=>x,rfl,λ_ hx=>(by cases hx)⟩,λ_ x=>x.elim,⟨qf _,λ_ x _=>x,hFlt,λi=>trivial,λi b hl=>absurd rfl hl,λi j b _ hl=>absurd rfl hl,?_,Ck.nil _ _,jF,λi hd=>(by obtain ⟨_,_,_,hd⟩:=hd;cases hd),qf _⟩,λt => ?_,⟨rfl,hL.imp id And.left⟩,λ_=>trivial⟩
  ·rintro i j _ ⟨_,_,_,hd⟩;cases hd
  ·show nK g _ w (match args[t]? with | some (ag,ds)=>.v ag (ds.map (X6 w.heap.size)) | none=>.undef) _
   cases ht:args[t]? with
   | none =>
    have hge:args.length<=t:=List.getElem?_eq_none_iff.1 ht
    show _=undef
    simp only [Array.getD_eq_getD_getElem?,Array.getElem?_append]
    rw [if_neg jD]
    by_cases h2:t-vs.size<fn.ntmps-vs.size
    ·simp [h2]
    ·rw [Array.getElem?_eq_none jE];rfl
   | some x =>
    obtain ⟨v,Fi,h1,h2,hFi⟩:=hat t x ht
    have hlt:t<vs.size:=by have:=(qd.1 ht).1;omega
    have hv:(vs++Array.replicate (fn.ntmps-vs.size) undef).getD t undef=v:=by
     simp only [Array.getD_eq_getD_getElem?,Array.getElem?_append]
     rw [if_pos hlt]
     have:vs[t]? = some v:=by simpa using h1
     rw [this];rfl
    rw [hv]
    obtain ⟨ag,ds⟩:=x
    cases ag with
    | false =>
     obtain ⟨d,rfl,hr⟩:=h2
     have hcs:aF w [d] [v] Fi:=by simp only [aF];exact ⟨v,[],Fi,[],rfl,jF,hr,jF⟩
     exact aP.UU hcs λb hb=>⟨hFi b hb,hFlt b (hFi b hb)⟩
    | true =>
     obtain ⟨cs,rfl,hr⟩:=h2
     exact ⟨cs,rfl,aP.UU hr λb hb=>⟨hFi b hb,hFlt b (hFi b hb)⟩⟩
 refine wp_mono (h w.heap.size (w,λb=>b∈Fa) _ w R) ?_
 rintro e a' w' ⟨s',h1,R'⟩
 have fin:Ret (dI P) fn.results.toList rs s'->a'.defers=[] /\ ∃v,(results fn a'.tmps).run P w' = .ok v w' /\ ∃v',Ending.returned v = .returned v'/\Ns (slP P) w.heap.size w' v' rs (λb=>b∈Fa)/\Below w.heap.size w w':=by intro hr;obtain ⟨v,k1,k2⟩:=Wy R' hr;obtain ⟨g',R''⟩:=R';refine ⟨R''.defers,v,k1,v,rfl,?_,R''.below⟩;rcases hL with rfl | ⟨_,hno⟩;(exact k2);·exact Xh hno k2
 cases e with
 | normal=>exact fin h1
 | ret=>exact fin h1
 | exit id=>exact h1.elim
 | goto l=>exact h1.elim
 | panic c=>exact h1.elim
 | outgrown=>exact h1.elim
theorem Zy {P : Program} {f : FuncId} {fn : Func} {c : Code} {args : List (Bool × List D)} {rs : List (Bool × List RC)} {N : Nat} {vars : List ResultVar} (hf : P.funcs[f]? = some fn) (hb : fn.body = some c) (hN : fn.ntmps = N) (hv : fn.results.toList = vars) (hnm : (fn.name == "runtime.NumGoroutine") = false) (hn : args.length <= N)
  (h : ∀(base:Nat) (wd:World×(Nat->Prop)),SW P base ⟨wd.1,⟨wd.2,base,none,Kt⟩,noK,W7⟩ N c (VG base args) (aft P base ⟨wd.1,⟨wd.2,base,none,Kt⟩,noK,W7⟩ N (Ret (dI P) vars rs) [])) (hno:Uf rs=true:=by exact rfl):pC P f args rs:=ZH Kt hf hb hN hv hnm hn (.inr ⟨rfl,hno⟩) h
theorem Q6(B:Nat)(d:D)(u:Option Value)(cs:List SC)(k:List D->Prog):Ds (.old B d u::cs) k=Ds cs λds=>k (d::ds):=rfl
theorem WT(b:Nat)(d:D):SC.clean b (.dat d)=(d.flat=true):=rfl
theorem WS(b B:Nat)(d:D)(u:Option Value):SC.clean b (.old B d u)=(B<=b):=rfl
theorem Wg(b:Nat):SC.clean b .nil=True:=rfl
theorem Vg(b i v:Nat):SC.clean b (.row i v)=True:=rfl
theorem Yg(b i v o:Nat):SC.clean b (.bp i v o)=True:=rfl
theorem Zs(b:Nat)(ag:Bool)(cs:List SC):SV.clean b (.v ag cs)=∀c∈cs,SC.clean b c:=rfl
theorem VU(b:Nat)(xs:List (Bool×List SC)):SV.clean b (.tup xs)=∀x∈xs,∀c∈x.2,SC.clean b c:=rfl
theorem U8(b:Nat):SV.clean b .unk=True:=rfl
theorem Sd(b:Nat):SV.clean b .undef=True:=rfl
theorem Ue(b:Nat):Ff.clean b .none=True:=rfl
theorem Ws(b:Nat)(t:TypeId)(cs:List SC):Ff.clean b (.box t cs)=∀c∈cs,SC.clean b c:=rfl
theorem T4(b:Nat)(e:TypeId)(sz:Nat)(xs:List (List D))(dp:Bool):Ff.clean b (.row e sz xs dp)=(dp=true):=rfl
theorem aJR{α:Type}{p:α->Prop}{a:α}{l:List α}:(∀x∈a::l,p x)=(p a/\∀x∈l,p x):=by simp
theorem aJT{α:Type}{p:α->Prop}:(∀x∈([]:List α),p x)=True:=by simp
theorem XI(k:IntKind)(n:Int):D.flat (.int k n)=true:=rfl
theorem VO(b:Bool):D.flat (.bool b)=true:=rfl
theorem XR(b:ByteArray):D.flat (.str b)=true:=rfl
theorem Zk(b:Nat):(b<=b)=True:=by simp
theorem Gho.shallow{P:Program}{base N:Nat}{w0:W0}{s:St}{i ver:Nat}{e:TypeId}{sz:Nat}{xs:List (List D)}(hi:s.h i=(ver,.row e sz xs true)):Gho P base w0 N s (s.fK i (ver,.row e sz xs false)):=by
 rintro a w ⟨g,R⟩
 have hi2:(s.h i).2=.row e sz xs true:=by rw[hi]
 have T:kI g g s.h (nJ s.h i (ver,.row e sz xs false)) w w:=by refine⟨λ_ x=>x,λ_ _=>rfl,λj=> ?_,λj e' sz' ys dp' _ C=>⟨rfl,?_⟩,λj t cs _ C=>⟨rfl,?_⟩,rfl⟩;(by_cases C:j=i;(subst C;rw[bM,hi];exact qf _);·rw[dP _ _ _ _ C];exact qf _);(by_cases J:j=i;(subst J;rw[bM]at C;cases C;exact⟨xs,true,hi2⟩);·rw[dP _ _ _ _ J]at C;exact⟨ys,dp',C⟩);·by_cases J:j=i;(subst J;rw[bM]at C;cases C);·rw[dP _ _ _ _ J]at C;exact⟨cs,C⟩
 have lv:∀j,live (nJ s.h i (ver,.row e sz xs false)) j->live s.h j:=λj U=>by by_cases C:j=i;(subst C;unfold live;rw[hi2];simp);·unfold live at U⊢;rw[dP _ _ _ _ C]at U;exact U
 have dv:∀j,gS (nJ s.h i (ver,.row e sz xs false)) j->gS s.h j:=λj U=>by obtain⟨e',sz',ys,hh⟩:=U;by_cases C:j=i;(subst C;rw[bM]at hh;cases hh);·rw[dP _ _ _ _ C]at hh;exact⟨e',sz',ys,hh⟩
 have I:=R.inv
 refine⟨g,R.turn T rfl R.below ⟨I.base_le,I.S_old,I.S_lt,λj=> ?_,λj b U=>I.mtb j b (lv j U),λj k b hne U hk=>I.inj j k b hne (lv j U) (lv k hk),λj k hne C hk=>I.dis j k hne (dv j C) (dv k hk),I.pool_own,I.pool_S,λj hd=>I.pool_dis j (dv j hd),I.fb⟩⟩
 show Cg base g (nJ s.h i (ver,.row e sz xs false)) w j (nJ s.h i (ver,.row e sz xs false) j).2
 by_cases C:j=i
 ·subst C;rw[bM];have ho:=I.obj j;rw[hi2]at ho;obtain⟨cells,h1,h2,h3,h4,_⟩:=ho;exact⟨cells,h1,h2,h3.rep,h4,λh=>by cases h⟩
 ·rw[dP _ _ _ _ C];exact Cg.turn T rfl rfl (λ_ _=>rfl) (I.obj j)
theorem exI{P:Program}{T:KU}{N:Nat}{ops:Array Oper}{l:List Oper}{s s3:St}{K:St->Prop}(h:Eg P T N ops l s (Is s3))(hk:K s3):Eg P T N ops l s K:=
 KY l (λτ hτ=>by rw[show τ=s3 from hτ];exact hk) h
theorem Xt(b i v j o:Nat):SC.clean b (.rp i v j o)=True:=rfl
def aCt:=PLift.up (qI @WT (qI @WS (qI @Wg (qI @Vg (qI @Yg (qI @Xt (qI @Zs (qI @VU (qI @U8 (qI @Sd (qI @Ue (qI @Ws (qI @T4 (qI @aJR (qI @aJT (qI @XI (qI @VO (qI @XR (qI @Zk (qI and_true (qI true_and and_self)))))))))))))))))))))
theorem LC:type_of% aCt.down:=aCt.down
def aDD:=PLift.up (qI @Y3 (qI @ZK (qI @WO (qI @VR (qI @Tp (qI @Rd (qI @T0 (qI @VP (qI @Q6 (qI @Yp (qI @XC (qI @List.set_set.{0} @List.length_set.{0}))))))))))))
theorem LN:type_of% aDD.down:=aDD.down
section
variable {P:Program}{base N:Nat}{w0:W0}{s:St}
theorem U0{g:Gh}{a:Act}{w:World}{j K vj n:Nat}{e:TypeId}{sz:Nat}{xs ys:List (List D)}{dp:Bool}{v:Value}(R:lG P base w0 N g s a w [])(h2:s.h j=(vj,.row e sz xs dp))(hn:n<=xs.length)(J:xs.take n=ys)(hv:yR g s.h w (.part j vj 0 n) v):
  ∃g',lG P base w0 N g' ((s.fK j (vj,.none)).fK K ((s.h K).1+1,.row e sz ys dp)) a w []/\kI g g' s.h ((s.fK j (vj,.none)).fK K ((s.h K).1+1,.row e sz ys dp)).h w w/\
   yR g' ((s.fK j (vj,.none)).fK K ((s.h K).1+1,.row e sz ys dp)).h w (.row K ((s.h K).1+1)) v:=by
 have C:(s.h j).1=vj:=by rw[h2]
 have I:(s.h j).2=.row e sz xs dp:=by rw[h2]
 have hob:=R.inv.obj j
 rw[I]at hob
 obtain⟨cells,p1,p2,p3,p4,p5⟩:=hob
 obtain⟨I1,hfr⟩:=R.inv.FD I
 rw[C]at I1 hfr
 have T1:kI g g s.h (nJ s.h j (vj,.none)) w w:=by have:=kI.drop (g:=g) (h:=s.h) (w:=w) j g.S λ_ x=>x;rw[C]at this;exact this
 have hver:(nJ s.h j (vj,.none) K).1=(s.h K).1:=by by_cases hk:K=j;(subst hk;rw[bM,C]);·rw[dP _ _ _ _ hk]
 obtain⟨hv0,_,hv⟩:=hv
 obtain⟨U,c,rfl,k2,_,k4⟩:=hv C e sz xs dp I
 obtain⟨m,k5,k6⟩:=k4 rfl
 have hyl:ys.length=n:=by rw[<-J,qU,Nat.min_eq_left hn]
 have hsp:dG g.Q.L dp w e (xs.take n++xs.drop n) cells (g.fp j):=by rw[qn];exact p3
 obtain⟨v1,v2,F1,F2,hce,hF,q1,q2⟩:=dG.split hsp
 rw[J]at q1
 have hxl:∀y∈ys,y.length=sz:=λy hy=>p2 y (qj (J ▸ hy))
 have hl1:v1.length=n*sz:=by rw[<-hyl];exact aT.length q1.rep hxl
 have ho:w.ownsRow base e sz (.slice U n c) ys.length v1:=by
  rw[hyl]
  refine⟨hl1,?_⟩
  rcases p1.2 with⟨h6,h7⟩|⟨gg,cap,cur,h6,h7,h8,h9,aa,ae,af⟩
  ·rw[k5]at h6
   simp at h6
   obtain⟨rfl,rfl,rfl⟩:=h6
   have:n=0:=by omega
   subst this
   exact .inl ⟨rfl,rfl⟩
  ·rw[k5]at h6
   simp at h6
   obtain⟨rfl,rfl,rfl⟩:=h6
   refine .inr ⟨gg,c,cur,rfl,h7,h8,k2,aa,ae,?_⟩
   have:(cur.toList.take (xs.length*sz)).take (n*sz)=v1:=by rw[af,hce];exact List.take_left' hl1
   rw[List.take_take,Nat.min_eq_left (qi sz hn)]at this
   exact this
 have hob2:∀b,Dt (.slice U n c)=some b->Dt (g.val j)=some b:=by intro b hb;rw[k5];cases U<;>first|(simp[Dt]at hb;done)|simpa[Dt]using hb
 have I2:=I1.FN (i:=K) (v:=.slice U n c) (e:=e) (sz:=sz) (xs:=ys) (dp:=dp) (cells:=v1) (F:=F1) (pool':=[]) ho hxl q1 (λb hb=>p4 b (by rw[hF];simp[hb])) (λb hb=>hfr b (hob2 b hb)) jF List.nodup_nil (λhd=>by subst hd;simp only[if_true,List.nil_append];have hnd:=(p5 rfl).1;rw[hF]at hnd⊢;exact⟨(qt.1 hnd).1,λb hb=>⟨by simp[hb],jF⟩⟩)
 have T2:=kI.create (g:=g) (h:=nJ s.h j (vj,.none)) (w:=w) K (.slice U n c) F1 (.row e sz ys dp)
 rw[hver]at I2 T2
 refine⟨_,R.turn (T1.trans T2) rfl R.below I2,T1.trans T2,hv0,?_,?_⟩
 ·show _<=(nJ _ K _ K).1;rw[bM];exact qf _
 ·intro _ e' sz' xs' dp' _;show _=Ji g.val K (.slice U n c) K;rw[fG]
theorem aP.YH{g J:Gh}{h U:Heap}{w:World}(T:kI g J h U w w){y:SC}:∀{cs:List SC} {vs:List Value} (c:Nat) (x:SC) (v:Value),aP g h w cs vs->cs[c]? =some x->vs[c]? =some v->yR J U w y v->aP J U w (cs.set c y) vs
 |[],vs,c,x,v,hc,I,_,_=>by simp at I
 |z::cs,vs,0,x,v,hc,I,C,hy=>by obtain⟨v0,j,rfl,h1,h2⟩:=hc;simp at C;subst C;exact⟨v0,j,rfl,hy,aP.turn T h2⟩
 |z::cs,vs,c+1,x,v,hc,I,C,hy=>by obtain⟨v0,j,rfl,h1,h2⟩:=hc;exact⟨v0,j,rfl,yR.turn T h1,aP.YH T c x v h2 (by simpa using I) (by simpa using C) hy⟩
theorem aP.get{g:Gh}{h:Heap}{w:World}:∀{cs:List SC} {vs:List Value} (c:Nat) (x:SC),aP g h w cs vs->cs[c]? =some x->∃v,vs[c]? =some v/\yR g h w x v
 |[],vs,c,x,hc,j=>by simp at j
 |z::cs,vs,0,x,hc,j=>by obtain⟨I,C,rfl,h1,h2⟩:=hc;simp at j;subst j;exact⟨I,rfl,h1⟩
 |z::cs,vs,c+1,x,hc,j=>by obtain⟨I,C,rfl,h1,h2⟩:=hc;exact aP.get c x h2 (by simpa using j)
theorem Gho.ZY{b vb c j K vj n:Nat}{t:TypeId}{cells:List SC}{e:TypeId}{sz:Nat}{xs:List (List D)}{dp:Bool}(ys:List (List D))(I:s.h b=(vb,.box t cells))(h1:cells[c]? =some (.part j vj 0 n))(h2:s.h j=(vj,.row e sz xs dp))(hk:b≠K)(hn:n<=xs.length)(hys:xs.take n=ys):
  Gho P base w0 N s (((s.fK j (vj,.none)).fK K ((s.h K).1+1,.row e sz ys dp)).fK b (vb,.box t (cells.set c (.row K ((s.h K).1+1))))):=by
 rintro a w ⟨g,R⟩
 have U:b≠j:=λe=>by rw[e,h2]at I;cases I
 have J:=R.inv.obj b
 rw[show(s.h b).2=.box t cells from by rw[I]]at J
 obtain⟨b',vals,h3,h4,h5,h6⟩:=J
 obtain⟨v,k1,k2⟩:=aP.get c _ h6 h1
 obtain⟨g',R',T,hc⟩:=U0 (K:=K) R h2 hn hys k2
 have C:((s.fK j (vj,.none)).fK K ((s.h K).1+1,.row e sz ys dp)).h b=(vb,.box t cells):=by show nJ (nJ s.h j _) K _ b=_;rw[dP _ _ _ _ hk,dP _ _ _ _ U,I]
 have hv:g'.val b=g.val b:=(T.box b t cells (by rw[C,I]) (by rw[C])).1
 exact YL R' C (hv.trans h3) h5 (aP.YH T c _ v h6 h1 k1 hc)
theorem aAB.mk{P:Program}{T:KU}{vars:List ResultVar}{ops:Array Oper}{n d:Nat}{K:St->Prop}{l:List (Bool×List SC)}{s s1:St}(h1:Ik T s vars=some l)(h2:Eg P T N ops (ops.toList.drop (n+1)) (aAi s d (VL l)) (Is s1))(h3:K s1):aAB P T vars N ops n d K s:=⟨l,h1,exI h2 h3⟩
end
section
variable {P:Program}{base N:Nat}{w0:W0}{Z:St->Prop}{k:List Fr}{s:St}
theorem E8{x y:Code}(J:St->Prop)(h1:SW P base w0 N x s (aft P base w0 N Z (.inv J::k)))(h2:∀s',J s'->SW P base w0 N y s' (aft P base w0 N Z k)):SW P base w0 N (.seq x y) s (aft P base w0 N Z k):=by
 refine sq λa w R=>wp_mono (h1 a w R) ?_
 rintro e a' w' ⟨s',k1,k2⟩
 refine⟨s',?_,k2⟩
 cases e with
 |normal=>exact h2 s' k1
 |_=>exact k1
