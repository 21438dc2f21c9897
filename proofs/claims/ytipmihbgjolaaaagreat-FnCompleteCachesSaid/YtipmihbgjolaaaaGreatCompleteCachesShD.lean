/-
  Helper text. No conditions.
-/
import Derived.Test.YtipmihbgjolaaaaGreatCompleteCachesShC
import Derived.ProofKit
import Derived.OpenShut
import Derived.ShutString
import Derived.Deep.Slices
import Derived.Carry
set_option linter.unusedVariables false
set_option linter.unusedSimpArgs false
namespace Go.Sh
open Go.RowKit
theorem Uq (args:List (Bool×List D)) (i:Nat):(init args).t i=match args[i]? with | some (ag,ds)=>.v ag (ds.map .dat) | none=>.undef:=rfl
theorem U4 (args:List (Bool×List D)) (i:Nat):(init args).h i=(0,.none):=rfl
def ZJ (v:SV) (A B:Prop):Prop:=match v with
 | .v false [.dat (.bool b)]=>(b=true->A)/\(b=false->B)
 | _=>False
theorem Qo (b:Bool) (A B:Prop):ZJ (.v false [.dat (.bool b)]) A B=((b=true->A)/\(b=false->B)):=rfl
theorem bN {n:Int} (h1 : -9223372036854775808<=n) (h2:n<=9223372036854775807):IntKind.i64.wrap n=n:=by rw [IntKind.wrap_i64];omega
attribute [simp] AJ Oz Rg Pn Kp IF K0 sO Dk evG AL vOp Zu put ex exF cst one aft St.JE St.Tq St.Uv St.K7 Bw Eg FX DG Bt EA xD CY Cc Ct rows vY GB lenOf KY KM I4 Bg Ck Ep MU D.flat rid TI.agg Uq U4 Dw C1 Nt HO FM Qo
end Go.Sh
namespace Go.Sh
open Go.RowKit Go.ChangeShapes Go.WideShapes Go.Deep
inductive Shp where
 | int (k:IntKind)
 | bool
 | str
 | sl (es:List Shp)
def Hr (P:Program) (f:TypeId->Option (List Shp)):Nat->List Field->Option (List Shp)
 | _,[]=>some []
 | off,x::xs=>if x.offset=off then (match f x.type,Hr P f (off+P.cellsOf x.type) xs with
   | some a,some b=>if a.length=P.cellsOf x.type then some (a++b) else none
   | _,_=>none) else none
def UL (P:Program):Nat->TypeId->Option (List Shp)
 | 0,_=>none
 | n+1,t=>match P.underlying t with
  | some (.int k)=>some [.int k]
  | some .bool=>some [.bool]
  | some .string=>some [.str]
  | some (.slice e)=>match UL P n e with
   | some es=>if es.length=P.cellsOf e/\0<es.length then some [.sl es] else none
   | none=>none
  | some (.struct fs)=>match Hr P (UL P n) 0 fs.toList with
   | some es=>if es.length=P.cellsOf t then some es else none
   | none=>none
  | _=>none
mutual
def Has:Shp->D->Prop
 | .int k,d=>∃n,d = .int k n/\(Lit.int k n).wf=true
 | .bool,d=>∃b,d = .bool b
 | .str,d=>∃s,d = .str s/\s.size<=maxLen
 | .sl es,d=>∃xs,d = .sl xs/\xs.length<=maxLen /\ ∀x∈xs,Hm es x
def Hm:List Shp->List D->Prop
 | [],ds=>ds=[]
 | e::es,ds=>∃d ds',ds=d::ds'/\Has e d/\Hm es ds'
end
theorem Hm.append : ∀ {a b:List Shp} {x y:List D},Hm a x->Hm b y->Hm (a++b) (x++y)
 | [],b,x,y,h,k=>by simp only [Hm] at h;subst h;exact k
 | e::a,b,x,y,h,k=>by simp only [Hm] at h;obtain ⟨d,ds',rfl,h1,h2⟩:=h;simp only [List.cons_append,Hm];exact ⟨d,ds'++y,rfl,h1,Hm.append h2 k⟩
theorem Hm.length : ∀ {a:List Shp} {x:List D},Hm a x->x.length=a.length
 | [],x,h=>by simp only [Hm] at h;subst h;rfl
 | e::a,x,h=>by simp only [Hm] at h;obtain ⟨d,ds',rfl,h1,h2⟩:=h;simp [Hm.length h2]
section
variable {H:Type} {enc:TypeId×Value->H} {P:Program} {w:World} {base:Nat} {spare:Nat->Bool} {held:Bool}
theorem Bq {w:World} {d:D} {v:Value} {F:List Nat} (h:Rep w d v F):aJ w [d] [v] F:=by simp only [aJ];exact ⟨v,[],F,[],rfl,qd,h,rfl,rfl⟩
theorem Gc {e:Shp} {d:D} (h:Has e d):Hm [e] [d]:=by simp only [Hm];exact ⟨d,[],rfl,h,rfl⟩
theorem MJ {n m:Nat} (ih : ∀(t:TypeId) (shs:List Shp) (cs:List Value) (x:DataW H×List MemPlace),UL P n t=some shs->DataW.trod enc P w base spare held m t cs=some x -> ∃ds F,aJ w ds cs F/\Hm shs ds) :
  ∀(fs:List Field) (off:Nat) (shs:List Shp) (cs:List Value),Hr P (UL P n) off fs=some shs->off+shs.length=cs.length ->
   (∀f∈fs,∃x,DataW.trod enc P w base spare held m f.type ((cs.drop f.offset).take (P.cellsOf f.type))=some x) -> ∃ds F,aJ w ds (cs.drop off) F/\Hm shs ds
 | [],off,shs,cs,h,hl,_=>by simp [Hr] at h;subst h;refine ⟨[],[],?_,by simp [Hm]⟩;rw [List.drop_of_length_le (by simpa using Nat.le_of_eq hl.symm)];simp [aJ]
 | f::fs,off,shs,cs,h,hl,hf=>by
  simp only [Hr] at h
  split at h
  ·rename_i ho
   split at h
   ·rename_i a b ha hb
    split at h
    ·rename_i hlen
     cases h
     obtain ⟨x,hx⟩:=hf f qd
     obtain ⟨d1,F1,k1,k2⟩:=ih _ _ _ _ ha hx
     obtain ⟨d2,F2,k3,k4⟩:=MJ ih fs _ b cs hb (by rw [qE,hlen] at hl;omega) λy hy=>hf y (by simp [hy])
     refine ⟨d1++d2,F1++F2,?_,k2.append k4⟩
     have:cs.drop off=(cs.drop f.offset).take (P.cellsOf f.type)++cs.drop (off+P.cellsOf f.type):=by rw [ho,<-List.drop_drop,List.take_append_drop]
     rw [this]
     exact k1.append k3
    ·cases h
   ·cases h
  ·cases h
theorem Th {a:Addr} {v:Value} (h:w.cell? a=some v):a=⟨a.block,a.off,none⟩:=by
 obtain ⟨b,o,s⟩:=a
 unfold World.cell? at h
 cases s with
 | none=>rfl
 | some s =>
  split at h
  ·simp at h
  ·cases h
theorem Og {es:List Shp} {C:Nat} (hC:es.length=C) {a:Addr} : ∀(len:Nat),(∀i,i<len -> ∃cs' ds F,cs'.length=C/\(∀j,j<C->w.cell? (a.add (i*C+j))=cs'[j]?)/\aJ w ds cs' F/\Hm es ds) ->
  ∃xs cells G,xs.length=len/\(∀x∈xs,Hm es x)/\aV w xs cells G/\cells.length=len*C /\ ∀j,j<len*C->w.cell? (a.add j)=cells[j]?
 | 0,_=>⟨[],[],[],rfl,qd,by simp [aV],qd,qd⟩
 | len+1,h=>by
  obtain ⟨xs,cells,G,h1,h2,h3,h4,h5⟩:=Og hC len λi hi=>h i qb
  obtain ⟨cs',ds,F,k1,k2,k3,k4⟩:=h len qb
  refine ⟨xs++[ds],cells++cs',G++F,by simp [h1],?_,?_,by rw [qE,h4,k1,Nat.add_mul];omega,?_⟩
  ·intro x hx;rcases List.mem_append.1 hx with hx | hx;(exact h2 x hx);·simp at hx;subst hx;exact k4
  ·refine h3.append ?_;simp only [aV];exact ⟨cs',[],F,[],qd,qd,k3,rfl,rfl⟩
  ·intro j hj;rw [Nat.add_mul,Nat.one_mul] at hj;by_cases hjl:j<len*C;(rw [h5 j hjl,List.getElem?_append_left qb]);·have:=k2 (j-len*C) qb;rw [show len*C+(j-len*C)=j from by omega] at this;rw [this,List.getElem?_append_right qb,h4]
theorem NX : ∀(n:Nat) (m:Nat) (t:TypeId) (shs:List Shp) (cs:List Value) (x:DataW H×List MemPlace),UL P n t=some shs->DataW.trod enc P w base spare held m t cs=some x -> ∃ds F,aJ w ds cs F/\Hm shs ds
 | 0,_,_,_,_,_,h,_=>by simp [UL] at h
 | n+1,m,t,shs,cs,x,h,hx=>by
  simp only [UL] at h
  split at h
  ·rename_i k hu;cases h;obtain ⟨v,rfl,_,hw⟩:=DataW.trod_int hu hx;exact ⟨[.int k v],[],Bq (by simp [Rep]),Gc (by simp [Has,hw])⟩
  ·rename_i hu;cases h;obtain ⟨v,rfl,_⟩:=DataW.trod_bool hu hx;exact ⟨[.bool v],[],Bq (by simp [Rep]),Gc (by simp [Has])⟩
  ·rename_i hu;cases h;obtain ⟨v,rfl,_,hw⟩:=DataW.trod_string hu hx;exact ⟨[.str v],[],Bq (by simp [Rep]),Gc (by simp [Has,hw])⟩
  ·rename_i e hu
   split at h
   ·rename_i es hes
    split at h
    ·rename_i hc
     cases h
     rcases open_slice hu hx with ⟨rfl,_⟩ | ⟨a,len,cap,mm,fu,Dd,Pl,rfl,h1,h2,h3,h4,_,h6⟩
     ·refine ⟨[.sl []],[],?_,?_⟩;(refine Bq ?_;simp only [Rep];exact ⟨none,0,0,rfl,rfl,Nat.le_refl _,.inl qd⟩);·refine Gc ?_;simp only [Has];exact ⟨[],rfl,qd,qd⟩
     ·have hle:len<=mm:=by rw [h4];split<;>omega
      obtain ⟨xs,cells,G,k1,k2,k3,k4,k5⟩:=Og (w:=w) hc.1 (a:=a) len λi hi=>by obtain ⟨cs',q1,q2⟩:=h6 i qb;obtain ⟨_,q3,q4⟩:=World.cells?_some q1;obtain ⟨ds,F,q5,q6⟩:=NX n fu e es cs' _ hes q2;exact ⟨cs',ds,F,q3,λj hj=>by rw [<-Go.Deep.add_add];exact q4 j hj,q5,q6⟩
      rcases Nat.eq_zero_or_pos len with h0 | h0
      ·have hxs:xs=[]:=List.eq_nil_of_length_eq_zero qb;subst hxs;refine ⟨[.sl []],[],?_,?_⟩;(refine Bq ?_;simp only [Rep];exact ⟨some a,len,cap,rfl,by simpa using h0,h2,.inl ⟨h0,trivial⟩⟩);·refine Gc ?_;simp only [Has];exact ⟨[],rfl,qd,qd⟩
      ·have hpos:0<len*P.cellsOf e:=Nat.mul_pos h0 qb
       have hc0:=k5 0 hpos
       have hc0':cells[0]? = some (cells[0]'qb):=qF qb
       have hadd0:a.add 0=a:=by simp [Addr.add]
       rw [hadd0,hc0'] at hc0
       have ha:=Th hc0
       refine ⟨[.sl xs],a.block::G,?_,?_⟩
       ·refine Bq ?_
        simp only [Rep]
        refine ⟨some a,len,cap,rfl,k1.symm,h2,.inr ⟨a.block,a.off,cells,P.cellsOf e,G,by rw [<-ha],World.block_lt_of_cell? w a hc0,rfl,?_,k4,?_,k3⟩⟩
        ·intro j u hu'
         have hj:j<len*P.cellsOf e:=by rw [<-k4];exact (List.getElem?_eq_some_iff.1 hu').1
         have:=k5 j hj
         rw [ha,Addr.add_lit] at this
         rw [this];exact hu'
        ·intro x hx';rw [(k2 x hx').length,hc.1]
       ·refine Gc ?_;simp only [Has];exact ⟨xs,rfl,qb,k2⟩
    ·cases h
   ·cases h
  ·rename_i fs hu
   split at h
   ·rename_i es hes
    split at h
    ·rename_i hc
     cases h
     obtain ⟨xs,mm,rfl,_,q1,q2,q3⟩:=DataW.trod_struct hu hx
     have:=MJ (m:=mm) (λt shs cs x=>NX n mm t shs cs x) fs.toList 0 shs cs hes qb (λf hf=>by
      obtain ⟨i,hi⟩:=List.getElem?_of_mem hf
      have hi':fs[i]? = some f:=by simpa using hi
      have hlt:i<xs.length:=by rw [q2];exact (Array.getElem?_eq_some_iff.1 hi').1
      exact ⟨xs[i],by rw [q3 i f hi',qF hlt]⟩)
     simpa using this
    ·cases h
   ·cases h
  ·cases h
theorem Zb {n:Nat} {t:TypeId} {shs:List Shp} {v:Value} {d:DataW H} {p:List MemPlace} {b:Nat} (h:UL P n t=some shs) (hv:Value.okWide P w .any b t v) (ht:DataW.Trod enc P w base spare held t v d p) :
  ∃ds F,Hm shs ds/\QZ w v (Ju P t,ds) F:=by
 obtain ⟨fuel,hf⟩:=id ht
 obtain ⟨ds,F,h1,h2⟩:=NX n fuel t shs _ _ h hf
 refine ⟨ds,F,h2,?_⟩
 have one:v.cells.toList=[v] -> ∃d,ds=[d]/\Rep w d v F:=by
  intro hc
  rw [hc] at h1
  have hl:=h1.length
  match ds,h1,hl with
  | [d],h1,_ =>
   simp only [aJ] at h1
   obtain ⟨u,us,F1,F2,e1,e2,e3,_,e5⟩:=h1
   simp at e1
   rw [e5,qW] at e2
   exact ⟨d,rfl,e2 ▸ e1.1 ▸ e3⟩
 cases n with
 | zero=>simp [UL] at h
 | succ n =>
  simp only [UL] at h
  unfold Ju
  split at h
  ·rename_i k hu;obtain ⟨x,rfl,_⟩:=open_int hu hv ht;rw [hu];exact one rfl
  ·rename_i hu;obtain ⟨x,rfl,_⟩:=open_bool hu hv ht;rw [hu];exact one rfl
  ·rename_i hu;obtain ⟨x,rfl,_⟩:=Go.ChangeMaps.open_string hu hv ht;rw [hu];exact one rfl
  ·rename_i e hu;obtain ⟨x,y,z,rfl⟩:=okWide_slice hu hv;rw [hu];exact one rfl
  ·rename_i fs hu;obtain ⟨cs,rfl,_⟩:=okWide_struct hu hv;rw [hu];exact ⟨cs,rfl,h1⟩
  ·cases h
theorem Ss {f:Func} {s:ChangeSpec} {apart fresh handsOn again:Bool} {W W':World} {args:Array Value} {v:Value} {ds gs:List (DataW H)} {before pa pv:List MemPlace}
  (hW:DataW.Whole enc P f.params.toList s.vars apart W args.toList ds gs before)
  (hres : ∀(b:Nat) (sp:Nat->Bool) (hd:Bool),DataW.TrodAll enc P W' b sp hd f.resultTypes.toList (v.resultList f.resultTypes.size) (s.fn H (ds++gs)).results [])
  (hargs : ∀sp:Nat->Bool,(∀p∈before,sp p.block=true)->DataW.TrodAll enc P W' 0 sp true f.params.toList args.toList (s.fn H (ds++gs)).args pa)
  (hvars : ∀sp:Nat->Bool,(∀p∈before,sp p.block=true)->DataW.TrodVars enc P W' sp s.vars (s.fn H (ds++gs)).vars pv)
  (hps:before=pa++pv) (hb:Below W.heap.size W W')
  (hok : ∀(j:Nat) (t:TypeId) (r:Value),f.resultTypes[j]? = some t->(v.resultList f.resultTypes.size)[j]? = some r->Value.okWide P W' .any 0 t r) :
  s.post enc P f apart fresh handsOn again W args v W':=by
 have hlt : ∀p∈before,p.block<W.heap.size:=λp hp=>hW.lt p hp
 have hold : ∀p∈before,(λb=>decide (b<W.heap.size)) p.block=true:=λp hp=>by simpa using hlt p hp
 refine ⟨ds,gs,before,[],pa,pv,hW,hres _ _ _,hargs _ hold,hvars _ hold,World.keptBut_mono (λp hp=>⟨hp,?_⟩) (hb.frame (· ∈ before)),λ_ => ?_⟩
 ·rw [hps,qP] at hp;exact Or.inr hp
 ·obtain ⟨_,_,_,_,_,hz,hn⟩:=hW
  refine ⟨hok,_,_,([]++pa)++pv,⟨[]++pa,pv,trodAll_append (hargs _ (λ_ _=>rfl)) (hres _ _ _),hvars _ (λ_ _=>rfl),rfl,?_,?_⟩,?_⟩
  ·intro b off hp
   have hin:MemPlace.cell b off∈before:=by rw [hps];simpa using hp
   rw [hb.frozen (hlt _ hin)]
   exact hz b off hin
  ·intro ha;have:=hn ha;rw [hps] at this;simpa using this
  ·intro p hp _;rw [hps];simpa using hp
theorem H5 (hl:laidOutB P=true) {W W':World} (hb:Below W.heap.size W W') {sp:Nat->Bool} : ∀ {ts:List TypeId} {vs:List Value} {ds:List (DataW H)} {ps:List MemPlace},DataW.TrodAll enc P W 0 (λ_=>true) true ts vs ds ps ->
  (∀t∈ts,P.readableRec t=true/\t<P.types.size)->(∀x∈ps,x.block<W.heap.size)->(∀x∈ps,sp x.block=true)->DataW.TrodAll enc P W' 0 sp true ts vs ds ps
 | [],vs,ds,ps,h,_,_,_=>by obtain ⟨rfl,rfl,rfl⟩:=trodAll_nil h;rfl
 | t::ts,vs,ds,ps,h,ht,hlt,hsp=>by obtain ⟨v,vs',d,ds',p,q,rfl,rfl,rfl,h1,h2⟩:=trodAll_cons h;refine ⟨p,q,?_,?_,rfl⟩;(exact WideElems.Trod_stays hl (ht t qd).1 (ht t qd).2 h1 (λx hx=>hb.same (hlt x (by simp [hx]))) (λx hx=>hsp x (by simp [hx])));·exact H5 hl hb h2 (λu hu=>ht u (by simp [hu])) (λx hx=>hlt x (by simp [hx])) (λx hx=>hsp x (by simp [hx]))
def Y8 (P:Program) (n:Nat):List TypeId->List (List Shp)->Prop
 | [],shs=>shs=[]
 | t::ts,shs=>∃s ss,shs=s::ss/\UL P n t=some s/\Y8 P n ts ss
def Ua:List (List Shp)->List (List D)->Prop
 | [],ds=>ds=[]
 | s::ss,ds=>∃d ds',ds=d::ds'/\Hm s d/\Ua ss ds'
def TT (P:Program):List TypeId->List (List D)->List (Bool×List D)
 | t::ts,d::ds=>(Ju P t,d)::TT P ts ds
 | _,_=>[]
theorem Rk {n:Nat} {W:World} {b:Nat} : ∀ {ts:List TypeId} {vs:List Value} {ds:List (DataW H)} {ps:List MemPlace} {shs:List (List Shp)},Y8 P n ts shs->DataW.TrodAll enc P W 0 (λ_=>true) true ts vs ds ps ->
  (∀(j:Nat) t v,ts[j]? = some t->vs[j]? = some v->Value.okWide P W .any b t v) -> ∃dss F,Ua shs dss/\xJ W vs (TT P ts dss) F
 | [],vs,ds,ps,shs,hs,h,hv=>by obtain ⟨rfl,rfl,rfl⟩:=trodAll_nil h;have:shs=[]:=hs;subst this;exact ⟨[],[],rfl,rfl⟩
 | t::ts,vs,ds,ps,shs,hs,h,hv=>by
  obtain ⟨s,ss,rfl,hs1,hs2⟩:=hs
  obtain ⟨v,vs',d,ds',p,q,rfl,rfl,rfl,h1,h2⟩:=trodAll_cons h
  obtain ⟨d1,F1,k1,k2⟩:=Zb hs1 (hv 0 t v rfl rfl) h1
  obtain ⟨dss,F2,k3,k4⟩:=Rk hs2 h2 λj t' v' ht hv'=>hv (j+1) t' v' (by simpa using ht) (by simpa using hv')
  exact ⟨d1::dss,F1++F2,⟨d1,dss,rfl,k1,k3⟩,F1,F2,rfl,k2,k4⟩
theorem Vp {f:FuncId} {fn:Func} {s:ChangeSpec} {n tb:Nat} {shs:List (List Shp)} (hl:laidOutB P=true) (hvars:s.vars=[]) (hres:fn.resultTypes = #[tb]) (htb:P.underlying tb=some .bool) (hsh:Y8 P n fn.params.toList shs)
  (hread : ∀t∈fn.params.toList,P.readableRec t=true/\t<P.types.size)
  (hfn : ∀(ds:List (DataW H)),ds.length=fn.params.toList.length->s.fn H (ds++[])={ results:=[.lit (.bool true)],args:=ds })
  (hc : ∀dss,Ua shs dss->kR P f (TT P fn.params.toList dss) [(false,[.ro (.bool true)])])
  {W:World} {b:Nat} {args:Array Value} {ds gs:List (DataW H)} {before:List MemPlace} (hval : ∀(j:Nat) t v,fn.params[j]? = some t->args[j]? = some v->Value.okWide P W .any b t v)
  (hW:DataW.Whole enc P fn.params.toList s.vars false W args.toList ds gs before) :
  Calls P f args W λe W'=>∃v,e = .returned v/\s.post enc P fn false true false false W args v W':=by
 have hW':=hW
 obtain ⟨p,q,hA,hV,rfl,hfz,hnd⟩:=hW
 rw [hvars] at hV
 obtain ⟨rfl,rfl⟩:=trodVars_none hV
 obtain ⟨dss,Fa,k1,k2⟩:=Rk hsh hA λj t v ht hv=>hval j t v (by simpa using ht) (by simpa using hv)
 refine (((hc dss k1).old rfl).2 W args Fa k2).mono λe W' hh => ?_
 obtain ⟨v,rfl,⟨F,X,_,_,_,hr⟩,hb⟩:=hh
 have hv:v = .bool true:=by have h1:Rep W' (.bool true) v []:=hr.1;simp only [Rep] at h1;exact h1.1
 subst hv
 have hdl:ds.length=fn.params.toList.length:=by
  have : ∀ {ts:List TypeId} {vs:List Value} {ds:List (DataW H)} {ps:List MemPlace},DataW.TrodAll enc P W 0 (λ_=>true) true ts vs ds ps->ds.length=ts.length:=by
   intro ts
   induction ts with
   | nil=>intro vs ds ps h;obtain ⟨_,rfl,_⟩:=trodAll_nil h;rfl
   | cons t ts ih=>intro vs ds ps h;obtain ⟨v,vs',d,ds',p,q,rfl,rfl,rfl,h1,h2⟩:=trodAll_cons h;simp [ih h2]
  exact this hA
 have hfn':=hfn ds hdl
 refine ⟨_,rfl,Ss (pa:=p) (pv:=[]) hW' ?_ ?_ ?_ qd hb (ok_one hres rfl (okWide_bool_mk htb _))⟩
 ·intro b sp hd;rw [hfn',hres];exact trodAll_cons_mk (shut_bool htb _) trodAll_mk0
 ·intro sp hsp;rw [hfn'];exact H5 hl hb hA hread (λx hx=>hW'.lt x (by simpa using hx)) (λx hx=>hsp x (by simpa using hx))
 ·intro sp hsp;rw [hfn',hvars];rfl
end
end Go.Sh
namespace Go.Sh
open Go.RowKit
def Is (s t:St):Prop:=t=s
theorem Is.mk (t:St):Is t t:=rfl
theorem DX {P:Program} {T:N3} {N:Nat} {ops:Array Oper} : ∀(l:List Oper) {s:St} {K K':St->Prop},(∀s,K s->K' s)->sO P T N ops l s K->sO P T N ops l s K'
 | [],_,_,_,h,hh=>h _ hh
 | o::l,s,_,_,h,hh=>F4 (evG T N ops o) (λs' h'=>DX l h h') hh
theorem EH {P:Program} : ∀(p:Prog) {s:St} {R W:List Loc} {K K':St->List Loc->List Loc->Prop},(∀s R W,K s R W->K' s R W)->exF P p s R W K->exF P p s R W K'
 | .done,_,_,_,_,_,h,hh=>h _ _ _ hh
 | .fail,_,_,_,_,_,_,hh=>hh
 | .getT t k,s,_,_,_,_,h,hh=>EH (k (s.t t)) h hh
 | .Gu t v k,s,_,_,_,_,h,hh=>EH k h hh
 | .getH i k,s,_,_,_,_,h,hh=>EH (k (s.h i)) h hh
 | .fH i x k,s,_,_,_,_,h,hh=>EH k h hh
 | .call f args k,s,_,_,_,_,h,⟨rs,hc,hh⟩=>⟨rs,hc,EH (k rs) h hh⟩
 | .must p k,s,_,_,_,_,h,⟨hp,hh⟩=>⟨hp,EH k h hh⟩
theorem LD {P:Program} {T:N3} {N:Nat} {ops:Array Oper} : ∀(l:List Oper) {s:St} {acc:List Fp} {K K':St->List Fp->Prop},(∀s a,K s a->K' s a)->Dk P T N ops l s acc K->Dk P T N ops l s acc K'
 | [],_,_,_,_,h,hh=>h _ _ hh
 | o::l,s,_,_,_,h,hh=>EH (evG T N ops o) (λs' R W h'=>LD l h h') hh
section
variable {P:Program} {base N:Nat} {w0:W0} {Z:St->Prop} {k:List Fr} {s s':St}
theorem bY {id:Nat} {ops:Array Oper} (h:sO P (fN P) N ops ops.toList s (Is s')) (hk:aft P base w0 N Z k .normal s'):SW P base w0 N (.region id ops false) s (aft P base w0 N Z k):=
 Lc (DX ops.toList (λt ht=>by rw [show t=s' from ht];exact hk) h)
def Ou (ops:Array Oper) (fps:List Fp):Prop:=G9 ops fps=true
theorem Ou.mk {ops:Array Oper} {fps:List Fp} (h:G9 ops fps=true):Ou ops fps:=h
theorem Bv (hm:P.follows .mixedOrders=true) {id:Nat} {ops:Array Oper} (h:Dk P (fN P) N ops ops.toList s [] λt fps=>Ou ops fps/\Is s' t) (hk:aft P base w0 N Z k .normal s'):SW P base w0 N (.region id ops true) s (aft P base w0 N Z k):=
 TP hm (LD ops.toList (λt fps ht=>⟨ht.1,by rw [show t=s' from ht.2];exact hk⟩) h)
theorem J0 {id:Nat} (h:aft P base w0 N Z k .normal s):aft P base w0 N Z (.block id::k) (.exit id) s:=by simp only [aft,if_true];exact h
theorem aBR {id id':Nat} (hne:id'≠id) (h:aft P base w0 N Z k (.exit id') s):aft P base w0 N Z (.block id::k) (.exit id') s:=by simp only [aft,hne,if_false];exact h
theorem E2 {c:Code} {id:Nat} (h:aft P base w0 N Z k (.exit id) s):aft P base w0 N Z (.code c::k) (.exit id) s:=h
theorem lJ {J:St->Prop} (h:J s):aft P base w0 N Z (.inv J::k) .normal s:=h
theorem EV {J:St->Prop} {id:Nat} (h:aft P base w0 N Z k (.exit id) s):aft P base w0 N Z (.inv J::k) (.exit id) s:=h
theorem Dg {t:Nat} {x y:Code} (hb:s.t t = .v false [.dat (.bool true)]) (h:SW P base w0 N x s (aft P base w0 N Z k)):SW P base w0 N (.cond (.tmp t) x y) s (aft P base w0 N Z k):=
 P3 hb (λ_=>h) (λe=>by cases e)
theorem EJ {t:Nat} {x y:Code} (hb:s.t t = .v false [.dat (.bool false)]) (h:SW P base w0 N y s (aft P base w0 N Z k)):SW P base w0 N (.cond (.tmp t) x y) s (aft P base w0 N Z k):=
 P3 hb (λe=>by cases e) (λ_=>h)
theorem eA {c:Code} {Q:Exit->St->Prop} {J:St->Prop} (hj:J s) (h : ∀s,J s->SW P base w0 N c s Q):SW P base w0 N c s Q:=h s hj
end
def fuel:Nat:=18446744073709551616
theorem oQ (b:Bool):b=true\/b=false:=by cases b<;>simp
theorem CH (b:Bool):b=false\/b=true:=by cases b<;>simp
theorem cT {α:Type} {b:Bool} {x y z:α} (hb:b=true) (h:(if b=true then x else y)=z):x=z:=by rw [if_pos hb] at h;exact h
theorem cR {α:Type} {b:Bool} {x y z:α} (hb:b=false) (h:(if b=true then x else y)=z):y=z:=by rw [hb] at h;simpa using h
theorem bind_some {α β:Type} {o:Option α} {f:α->Option β} {r:β} (h:o.bind f=some r) : ∃x,o=some x/\f x=some r:=by
 cases o with
 | none=>cases h
 | some x=>exact ⟨x,rfl,h⟩
def idx {α:Type} (xs:List α) (i:Int):Option α:=if 0<=i then xs[i.toNat]? else none
theorem Az {α:Type} {xs:List α} {i:Int} {x:α} (h:idx xs i=some x):0<=i/\xs[i.toNat]? = some x/\i.toNat<xs.length:=by unfold idx at h;split at h;(rename_i hi;exact ⟨hi,h,(List.getElem?_eq_some_iff.1 h).1⟩);·cases h
def W3 (s:ByteArray) (i:Int):Option UInt8:=if 0<=i then s[i.toNat]? else none
theorem Tb {s:ByteArray} {i:Int} {x:UInt8} (h:W3 s i=some x):0<=i/\s[i.toNat]? = some x:=by unfold W3 at h;split at h;(rename_i hi;exact ⟨hi,h⟩);·cases h
def app {α:Type} (b:Nat) (xs ys:List α):Option (List α):=if (xs.length+ys.length)*b<=140737488355328 then some (xs++ys) else none
theorem gL {α:Type} {b:Nat} {xs ys zs:List α} (h:app b xs ys=some zs):(xs.length+ys.length)*b<=140737488355328:=by unfold app at h;split at h;(assumption);·cases h
def aAL {α:Type} (b:Nat) (ys:List α):Option (List α):=if ys.length*b<=140737488355328 then some ys else none
theorem iG {α:Type} {b:Nat} {ys zs:List α} (h:aAL b ys=some zs):ys.length*b<=140737488355328:=by unfold aAL at h;split at h;(assumption);·cases h
def mkL {α:Type} (b:Nat) (n:Int) (z:α):Option (List α):=if 0<=n/\n.toNat*b<=140737488355328/\n<=9223372036854775807 then some (List.replicate n.toNat z) else none
theorem WY {α:Type} {b:Nat} {n:Int} {z:α} {x:List α} (h:mkL b n z=some x):0<=n/\n.toNat*b<=140737488355328/\n<=9223372036854775807:=by unfold mkL at h;split at h;(assumption);·cases h
def cat (x y:ByteArray):Option ByteArray:=if x.size+y.size<=9223372036854775807 then some (x++y) else none
theorem VV {x y z:ByteArray} (h:cat x y=some z):x.size+y.size<=9223372036854775807:=by unfold cat at h;split at h;(assumption);·cases h
def enI (n:Int):List D:=[.int .i64 n]
def enB (n:Int):List D:=[.int .u8 n]
def enS (s:ByteArray):List D:=[.str s]
def enT (b:Bool):List D:=[.bool b]
def enL {α:Type} (f:α->List D) (xs:List α):List D:=[.sl (xs.map f)]
def bR (s:ByteArray):List Int:=s.data.toList.map λb=>(b.toNat:Int)
theorem Vl (s:ByteArray):Cr s.data.toList=(bR s).map enB:=by unfold Cr bR enB;rw [List.map_map];rfl
def dH (l:List Int):ByteArray:=⟨(l.map λn=>UInt8.ofNat n.toNat).toArray⟩
def toStr (l:List Int):Option ByteArray:=if l.all (λn=>decide (0<=n/\n<256))=true then some (dH l) else none
theorem VN (l:List Int):strOf (l.map enB)=dH l:=by unfold strOf dH enB;rw [List.map_map];rfl
theorem R5 {l:List Int} {z:ByteArray} (h:toStr l=some z) : ∀x∈l.map enB,∃b:UInt8,x=[.int .u8 (b.toNat:Int)]:=by
 unfold toStr at h
 split at h
 ·rename_i ha
  intro x hx
  obtain ⟨n,hn,rfl⟩:=List.mem_map.1 hx
  have:=List.all_eq_true.1 ha n hn
  simp only [qL] at this
  refine ⟨UInt8.ofNat n.toNat,?_⟩
  unfold enB
  have h1:(UInt8.ofNat n.toNat).toNat=n.toNat:=by simp;omega
  rw [h1,Int.toNat_of_nonneg this.1]
 ·cases h
def Cb {α:Type} (xs:List α) (i:Int):Option (List α):=if 0<=i/\i.toNat<=xs.length then some (xs.drop i.toNat) else none
def An {α:Type} (xs:List α) (j:Int):Option (List α):=if 0<=j/\j.toNat<=xs.length then some (xs.take j.toNat) else none
def Uc {α:Type} (xs:List α) (i j:Int):Option (List α):=if 0<=i/\i<=j/\j.toNat<=xs.length then some ((xs.take j.toNat).drop i.toNat) else none
theorem MB {α:Type} {xs z:List α} {i:Int} {f:α->List D} {n:Nat} (hf : ∀x,(f x).length=n) (h:Cb xs i=some z):0<=i/\i.toNat<=xs.length /\ ∀x∈xs.map f,x.length=n:=by unfold Cb at h;split at h;(rename_i hh;refine ⟨hh.1,hh.2,λx hx => ?_⟩;obtain ⟨y,_,rfl⟩:=List.mem_map.1 hx;exact hf y);·cases h
theorem Ms {α:Type} {xs z:List α} {i:Int} {f:α->List D} {n:Nat} (hf : ∀x,(f x).length=n) (h:An xs i=some z):0<=i/\i.toNat<=xs.length /\ ∀x∈xs.map f,x.length=n:=by unfold An at h;split at h;(rename_i hh;refine ⟨hh.1,hh.2,λx hx => ?_⟩;obtain ⟨y,_,rfl⟩:=List.mem_map.1 hx;exact hf y);·cases h
theorem IE {α:Type} {xs z:List α} {i j:Int} {f:α->List D} {n:Nat} (hf : ∀x,(f x).length=n) (h:Uc xs i j=some z):0<=i/\i<=j/\j.toNat<=xs.length /\ ∀x∈xs.map f,x.length=n:=by unfold Uc at h;split at h;(rename_i hh;refine ⟨hh.1,hh.2.1,hh.2.2,λx hx => ?_⟩;obtain ⟨y,_,rfl⟩:=List.mem_map.1 hx;exact hf y);·cases h
theorem Gm {α:Type} {f:α->List D} (hf : ∀x,(f x).all D.flat=true) (xs:List α):(xs.map f).all (λy=>y.all D.flat)=true:=by rw [qQ];intro y hy;obtain ⟨x,_,rfl⟩:=List.mem_map.1 hy;exact hf x
theorem enI.fl (l:List Int):(List.map enI l).all (λy=>y.all D.flat)=true:=Gm (λ_=>rfl) l
theorem enB.fl (l:List Int):(List.map enB l).all (λy=>y.all D.flat)=true:=Gm (λ_=>rfl) l
theorem enS.fl (l:List ByteArray):(List.map enS l).all (λy=>y.all D.flat)=true:=Gm (λ_=>rfl) l
theorem enT.fl (l:List Bool):(List.map enT l).all (λy=>y.all D.flat)=true:=Gm (λ_=>rfl) l
theorem Nm {P : Program} {f : FuncId} {fn : Func} {c : Code} {args : List (Bool × List D)} {rs : List (Bool × List RC)} {N : Nat} {vars : List ResultVar} (hf : P.funcs[f]? = some fn) (hb : fn.body = some c) (hN : fn.ntmps = N) (hv : fn.results.toList = vars) (hnm : (fn.name == "runtime.NumGoroutine") = false) (hn : args.length <= N)
  (h : ∀(base:Nat) (w0:W0),SW P base w0 N c (init args) (aft P base w0 N (Ret (fN P) vars rs) [])):kR P f args rs:=by
 subst hN hv
 exact U5 hf hb hnm hn h
end Go.Sh
namespace Go.Sh
theorem Qx (N d:Nat) (a b:Bool×List RC) (rs:List (Bool×List RC)):Cc N (some d) (a::b::rs)=CY d 0 (a::b::rs) λvs=>put N (some d) (.tup vs):=rfl
theorem P9 (N d:Nat):Cc N (some d) []=CY d 0 [] λvs=>put N (some d) (.tup vs):=rfl
theorem QS (sz k:Nat) (xs:List (List D)):(J8 sz 0 k xs).drop k=xs.drop k:=by unfold J8;rw [List.take_zero,List.nil_append,Nat.zero_add];exact List.drop_left' qd
theorem Vu (sz k:Nat) (xs:List (List D)):(J8 sz 0 k xs).length-k=xs.length-k:=by unfold J8;simp
theorem V7 {α:Type} (xs:List α) (k:Nat):(xs.drop k).take (xs.length-k)=xs.drop k:=List.take_of_length_le qd
theorem OH {sz:Nat} {i:Int} {xs:List (List D)} (h:0<=i):0<=i/\i.toNat<=(J8 sz 0 i.toNat xs).length:=⟨h,by unfold J8;simp⟩
theorem Vs {α:Type} (a:α) (as bs:List α):List.append (a::as) bs=a::List.append as bs:=rfl
theorem Xi {α:Type} (bs:List α):List.append [] bs=bs:=rfl
theorem Yo (xs:List (List D)):D.flat (.sl xs)=false:=rfl
theorem Wm (xs:List D):D.flat (.ptr xs)=false:=rfl
theorem VC (u:Value):D.flat (.val u)=false:=rfl
def Ez9:=PLift.up (qI @sO.eq_1 (qI @sO.eq_2 (qI @Dk.eq_1 (qI @Dk.eq_2 (qI @evG.eq_1 (qI @AL.eq_1 (qI @vOp.eq_1 (qI @vOp.eq_2 (qI @vOp.eq_3 (qI @vOp.eq_4 (qI @Zu.eq_1 (qI @Zu.eq_2 (qI @put.eq_1 (qI @put.eq_2 (qI @ex.eq_1 (qI @ex.eq_2 (qI @ex.eq_3 (qI @ex.eq_4 (qI @ex.eq_5 (qI @ex.eq_6 (qI @ex.eq_7 (qI @ex.eq_8 (qI @exF.eq_1 (qI @exF.eq_2 (qI @exF.eq_3 (qI @exF.eq_4 (qI @exF.eq_5 (qI @exF.eq_6 (qI @exF.eq_7 (qI @exF.eq_8 (qI @cst.eq_1 (qI @cst.eq_2 (qI @cst.eq_3 (qI @cst.eq_4 (qI @one.eq_1 (qI @Bw.eq_1 (qI @Bw.eq_2 (qI @Bw.eq_3 (qI @Bw.eq_4 (qI @lab.eq_1 (qI @lab.eq_2 (qI @JP.eq_1 (qI @JP.eq_2 (qI @JP.eq_3 (qI @JP.eq_4 (qI @JP.eq_5 (qI @JP.eq_6 (qI @JP.eq_7 (qI @JP.eq_8 (qI @JP.eq_9 (qI @Eg.eq_1 (qI @Eg.eq_2 (qI @Eg.eq_3 (qI @Eg.eq_4 (qI @Eg.eq_5 (qI @FX.eq_1 (qI @DG.eq_1 (qI @DG.eq_2 (qI @Bt.eq_1 (qI @Bt.eq_2 (qI @Bt.eq_3 (qI @Bt.eq_4 (qI @Bt.eq_5 (qI @Bt.eq_6 (qI @Bt.eq_7 (qI @Bt.eq_8 (qI @Bt.eq_9 (qI @EA.eq_1 (qI @EA.eq_2 (qI @xD.eq_1 (qI @xD.eq_2 (qI @xD.eq_3 (qI @xD.eq_4 (qI @xD.eq_5 (qI @CY.eq_1 (qI @CY.eq_2 (qI @Cc.eq_1 (qI @Cc.eq_2 (qI @Kp.eq_1 (qI @zY.eq_1 (qI @zY.eq_2 (qI @zY.eq_3 (qI @zY.eq_4 (qI @zY.eq_5 (qI @zY.eq_6 (qI @zY.eq_7 (qI @Pg.eq_1 (qI @Pg.eq_2 (qI @Od.eq_1 (qI @Od.eq_2 (qI @EL.eq_1 (qI @EL.eq_2 (qI @EL.eq_3 (qI @EL.eq_4 (qI @EL.eq_5 (qI @EL.eq_6 (qI @EL.eq_7 (qI @EL.eq_8 (qI @RC.ed.eq_1 (qI @RC.ed.eq_2 (qI @RC.ed.eq_3 (qI @RC.ed.eq_4 (qI @PB.eq_1 (qI @PB.eq_2 (qI @PB.eq_3 (qI @My.eq_1 (qI @IF.eq_1 (qI @IF.eq_2 (qI @IF.eq_3 (qI @IF.eq_4 (qI @IF.eq_5 (qI @K0.eq_1 (qI @K0.eq_2 (qI @Ct.eq_1 (qI @Ct.eq_2 (qI @rows.eq_1 (qI @rows.eq_2 (qI @vY.eq_1 (qI @vY.eq_2 (qI @vY.eq_3 (qI @vY.eq_4 (qI @vY.eq_5 (qI @vY.eq_6 (qI @vY.eq_7 (qI @vY.eq_8 (qI @vY.eq_9 (qI @vY.eq_10 (qI @vY.eq_11 (qI @vY.eq_12 (qI @vY.eq_13 (qI @vY.eq_14 (qI @vY.eq_15 (qI @vY.eq_16 (qI @vY.eq_17 (qI @GB.eq_1 (qI @GB.eq_2 (qI @GB.eq_3 (qI @GB.eq_4 (qI @GB.eq_5 (qI @GB.eq_6 (qI @lenOf.eq_1 (qI @lenOf.eq_2 (qI @lenOf.eq_3 (qI @lenOf.eq_4 (qI @lenOf.eq_5 (qI @KY.eq_1 (qI @KY.eq_2 (qI @KY.eq_3 (qI @KY.eq_4 (qI @KM.eq_1 (qI @KM.eq_2 (qI @I4.eq_1 (qI @I4.eq_2 (qI @I4.eq_3 (qI @Bg.eq_1 (qI @Bg.eq_2 (qI @Bg.eq_3 (qI @Bg.eq_4 (qI @Ck.eq_1 (qI @Ck.eq_2 (qI @Ck.eq_3 (qI @Ck.eq_4 (qI @Ep.eq_1 (qI @Ep.eq_2 (qI @Ep.eq_3 (qI @Ep.eq_4 (qI @QA.eq_1 (qI @MU.eq_1 (qI @MU.eq_2 (qI @Bh.eq_1 (qI @Bh.eq_2 (qI @Bh.eq_3 (qI @Bh.eq_4 (qI @NU.eq_1 (qI @D.flat.eq_1 (qI @D.flat.eq_2 (qI @D.flat.eq_3 (qI @D.flat.eq_4 (qI @rid.eq_1 (qI @TI.agg.eq_1 (qI @Oz (qI @Rg (qI @Pn (qI @Sd (qI @Sp (qI @QS (qI @Vu (qI @V7 (qI @AJ.eq_1 (qI @Qx (qI @P9 (qI @Yo (qI @Wm (qI @VC (qI @St.JE (qI @St.Tq (qI @St.Uv (qI @St.K7 (qI @Uq @U4)))))))))))))))))))))))))))))))))))))))))))))))))))))))))))))))))))))))))))))))))))))))))))))))))))))))))))))))))))))))))))))))))))))))))))))))))))))))))))))))))))))))))))))))))))))))))))))))))))))))
theorem E:type_of% Ez9.down:=Ez9.down
def Lz9:=PLift.up (qI @List.take_succ_cons.{0} (qI @List.take_zero.{0} (qI @List.drop_succ_cons.{0} (qI @List.drop_zero.{0} (qI @List.map_cons.{0,0} (qI @List.map_nil.{0,0} (qI @List.cons_append.{0} (qI @List.nil_append.{0} (qI @List.append_nil.{0} (qI @List.length_cons.{0} (qI @List.length_nil.{0} (qI (@List.getElem?_cons_zero.{0}) (qI (@List.getElem?_cons_succ.{0}) (qI @List.tail_cons.{0} (qI @List.tail_nil.{0} (qI @Option.isSome_some.{0} (qI @Option.isSome_none.{0} (qI @List.take_nil.{0} (qI @List.drop_nil.{0} (qI (@List.getElem?_map.{0,0}) (qI @Option.map_some.{0,0} (qI @Option.bind_some.{0,0} (qI @List.length_map.{0,0} (qI @List.replicate_succ.{0} (qI @List.replicate_zero.{0} (qI @List.flatten_cons.{0} (qI @List.flatten_nil.{0} (qI (@List.getElem?_toArray.{0}) (qI @List.toList_toArray.{0} (qI @Vs (qI @Xi (qI @List.any_cons.{0} (qI @List.any_nil.{0} (qI Bool.or_true (qI Bool.true_or (qI Bool.or_false (qI Bool.false_or (qI Bool.and_true (qI Bool.true_and (qI Bool.and_false (qI Bool.false_and (qI true_and (qI and_true and_self)))))))))))))))))))))))))))))))))))))))))))
theorem L:type_of% Lz9.down:=Lz9.down
def Fz9:=PLift.up (qI @List.set_cons_zero.{0} (qI @List.set_cons_succ.{0} (qI @St.JE (qI @St.Tq (qI @St.Uv (qI @St.K7 (qI @Uq (qI @U4 (qI @List.map_append.{0,0} (qI @List.map_cons.{0,0} (qI @List.map_nil.{0,0} (qI @List.map_set.{0,0} (qI @List.map_replicate.{0,0} (qI @List.append_nil.{0} (qI @List.nil_append.{0} (qI @List.cons_append.{0} (qI (@List.getElem?_cons_zero.{0}) (qI (@List.getElem?_cons_succ.{0}) (qI Bool.and_true Bool.true_and)))))))))))))))))))
theorem F:type_of% Fz9.down:=Fz9.down
end Go.Sh
namespace Go.Sh
open Go.RowKit
def Gho (P:Program) (base:Nat) (w0:W0) (N:Nat) (s s':St):Prop:=∀a w,Rel P base w0 N s a w->Rel P base w0 N s' a w
section
variable {P:Program} {base N:Nat} {w0:W0} {Z:St->Prop} {k:List Fr} {s s' s'':St}
theorem Gho.refl (s:St):Gho P base w0 N s s:=λ_ _ h=>h
theorem Gho.trans (h:Gho P base w0 N s s') (h':Gho P base w0 N s' s''):Gho P base w0 N s s'':=λa w R=>h' a w (h a w R)
theorem HM {c:Code} {Q:Exit->St->Prop} (hg:Gho P base w0 N s s') (h:SW P base w0 N c s' Q):SW P base w0 N c s Q:=λa w R=>h a w (hg a w R)
theorem Ge {c:Code} (I:Nat->St->Prop) (n:Nat) (h0:I n s) (h : ∀m s,I m s->SW P base w0 N c s (aft P base w0 N Z (.inv (λs'=>∃s'',Gho P base w0 N s' s'' /\ ∃m',m'<m/\I m' s'')::k))):SW P base w0 N (.loop c) s (aft P base w0 N Z k):=by
 intro a w R
 refine wp_loop_ghost (λm a w=>∃s,I m s/\Rel P base w0 N s a w) n ⟨s,h0,R⟩ ?_
 rintro m a w ⟨s,h1,R⟩
 refine wp_mono (h m s h1 a w R) ?_
 rintro e a' w' ⟨s',h2,h3⟩
 cases e with
 | normal=>obtain ⟨s'',hg,m',h4,h5⟩:=h2;exact ⟨m',h4,s'',h5,hg _ _ h3⟩
 | _=>exact ⟨s',h2,h3⟩
theorem Q4 {g:Gh} {a:Act} {w:World} {j K vj:Nat} {e:TypeId} {sz:Nat} {xs:List (List D)} {dp:Bool} (R:mJ P base w0 N g s a w []) (h2:s.h j=(vj,.row e sz xs dp)) :
  ∃g',mJ P base w0 N g' ((s.fH j (vj,.none)).fH K ((s.h K).1+1,.row e sz xs dp)) a w []/\kL g g' s.h ((s.fH j (vj,.none)).fH K ((s.h K).1+1,.row e sz xs dp)).h w w /\
   ∀v,Ae g s.h w (.row j vj) v->Ae g' ((s.fH j (vj,.none)).fH K ((s.h K).1+1,.row e sz xs dp)).h w (.row K ((s.h K).1+1)) v:=by
 have hj1:(s.h j).1=vj:=by rw [h2]
 have hj2:(s.h j).2 = .row e sz xs dp:=by rw [h2]
 have hob:=R.inv.obj j
 rw [hj2] at hob
 obtain ⟨cells,p1,p2,p3,p4,p5⟩:=hob
 obtain ⟨I1,hfr⟩:=R.inv.C3 hj2
 rw [hj1] at I1 hfr
 have T1:kL g g s.h (sB s.h j (vj,.none)) w w:=by have:=kL.drop (g:=g) (h:=s.h) (w:=w) j g.S λ_ x=>x;rw [hj1] at this;exact this
 have hver:(sB s.h j (vj,.none) K).1=(s.h K).1:=by by_cases hk:K=j;(subst hk;rw [bM,hj1]);·rw [fO _ _ _ _ hk]
 have I2:=I1.Dc (i:=K) (v:=g.val j) (e:=e) (sz:=sz) (xs:=xs) (dp:=dp) (cells:=cells) (F:=g.fp j) (pool':=[]) p1 p2 p3 p4 hfr qd List.nodup_nil (λhd=>by subst hd;simp only [if_true,List.nil_append];exact ⟨(p5 rfl).1,λb hb=>⟨hb,qd⟩⟩)
 have T2:=kL.create (g:=g) (h:=sB s.h j (vj,.none)) (w:=w) K (g.val j) (g.fp j) (.row e sz xs dp)
 rw [hver] at I2 T2
 refine ⟨_,R.sN (T1.trans T2) rfl R.below I2,T1.trans T2,?_⟩
 rintro v ⟨h0,_,hv⟩
 refine ⟨h0,?_,?_⟩
 ·show _<=(sB _ K _ K).1;rw [bM];exact Nat.le_refl _
 ·intro _ e' sz' xs' dp' _;show v=E8 g.val K (g.val j) K;rw [dS];exact hv hj1 e sz xs dp hj2
theorem U1 {g:Gh} {a:Act} {w:World} {K:Nat} (e:TypeId) (sz:Nat) (R:mJ P base w0 N g s a w []) :
  ∃g',mJ P base w0 N g' (s.fH K ((s.h K).1+1,.row e sz [] true)) a w []/\kL g g' s.h (s.fH K ((s.h K).1+1,.row e sz [] true)).h w w /\
   ∀v,Ae g s.h w .nil v->Ae g' (s.fH K ((s.h K).1+1,.row e sz [] true)).h w (.row K ((s.h K).1+1)) v:=by
 have I2:=R.inv.Dc (i:=K) (v:=.slice none 0 0) (e:=e) (sz:=sz) (xs:=[]) (dp:=true) (cells:=[]) (F:=[]) (pool':=[]) (World.ownsRow_nil w base e sz) qd dB.nil qd (by intro b hb;cases hb) qd List.nodup_nil (λ_=>⟨List.nodup_nil,qd⟩)
 have T2:=kL.create (g:=g) (h:=s.h) (w:=w) K (.slice none 0 0) [] (.row e sz [] true)
 refine ⟨_,R.sN T2 rfl R.below I2,T2,?_⟩
 intro v hv
 have hv:v = .slice none 0 0:=hv
 subst hv
 refine ⟨rfl,?_,?_⟩
 ·show _<=(sB _ K _ K).1;rw [bM];exact Nat.le_refl _
 ·intro _ e' sz' xs' dp' _;show _=E8 g.val K _ K;rw [dS]
theorem NW {g:Gh} {a:Act} {w:World} {i:Nat} {sv:SV} (R:mJ P base w0 N g s a w []) (hv:uN g s.h w sv (a.tmps.getD i undef)):mJ P base w0 N g (s.Gu i sv) a w []:=by refine ⟨R.defers,R.size,R.below,R.q,R.AH,R.inv,λt => ?_,R.lab,R.frm⟩;rw [St.JE];by_cases ht:t=i;(subst ht;simp only [if_true];exact hv);·simp only [ht,if_false];exact R.tmp t
theorem Gho.aAw {i j K vj:Nat} {e:TypeId} {sz:Nat} {xs:List (List D)} {dp:Bool} (h1:s.t i = .v false [.row j vj]) (h2:s.h j=(vj,.row e sz xs dp)) :
  Gho P base w0 N s (((s.fH j (vj,.none)).fH K ((s.h K).1+1,.row e sz xs dp)).Gu i (.v false [.row K ((s.h K).1+1)])):=by
 rintro a w ⟨g,R⟩
 have ht:=R.tmp i
 rw [h1] at ht
 obtain ⟨g',R',T,hc⟩:=Q4 (K:=K) R h2
 exact ⟨g',NW R' ⟨_,[],rfl,hc _ (eE ht),rfl⟩⟩
theorem Gho.aBK {i K:Nat} (e:TypeId) (sz:Nat) (h1:s.t i = .v false [.nil]) :
  Gho P base w0 N s ((s.fH K ((s.h K).1+1,.row e sz [] true)).Gu i (.v false [.row K ((s.h K).1+1)])):=by
 rintro a w ⟨g,R⟩
 have ht:=R.tmp i
 rw [h1] at ht
 obtain ⟨g',R',T,hc⟩:=U1 (K:=K) e sz R
 exact ⟨g',NW R' ⟨_,[],rfl,hc _ (eE ht),rfl⟩⟩
theorem aT.set {g:Gh} {h:Heap} {w:World} : ∀ {cs:List SC} {vs:List Value} (c:Nat) (x y:SC),aT g h w cs vs->cs[c]? = some x->(∀v,Ae g h w x v->Ae g h w y v)->aT g h w (cs.set c y) vs
 | [],vs,c,x,y,hc,hx,_=>by simp at hx
 | z::cs,vs,0,x,y,hc,hx,hxy=>by obtain ⟨v,vs',rfl,h1,h2⟩:=hc;simp at hx;subst hx;exact ⟨v,vs',rfl,hxy v h1,h2⟩
 | z::cs,vs,c+1,x,y,hc,hx,hxy=>by obtain ⟨v,vs',rfl,h1,h2⟩:=hc;exact ⟨v,vs',rfl,h1,aT.set c x y h2 (by simpa using hx) hxy⟩
theorem XC {g:Gh} {a:Act} {w:World} {b vb b':Nat} {t:TypeId} {cells cells':List SC} {vals:Array Value} (R:mJ P base w0 N g s a w []) (hb:s.h b=(vb,.box t cells)) (h3:g.val b = .pointer (some ⟨b',0,none⟩)) (h5:w.heap[b']? = some (.cells vals t (0,0))) (hc:aT g s.h w cells' vals.toList) :
  ∃g',mJ P base w0 N g' (s.fH b (vb,.box t cells')) a w []:=by
 have hb1:(s.h b).1=vb:=by rw [hb]
 have hb2:(s.h b).2 = .box t cells:=by rw [hb]
 have hlive:live s.h b:=by unfold live;rw [hb2];simp
 have hown:Bj (g.val b)=some b':=by rw [h3];rfl
 have hnS:=R.inv.mtb b b' hlive hown
 have T:kL g { g with fp:=E8 g.fp b (g.fp b) } s.h (sB s.h b ((s.h b).1,.box t cells')) w w:=
  kL.D4 hnS (λ_ _=>rfl) (by intro e sz xs dp hh';cases hh') (by intro t0 cs0 hh';cases hh';exact ⟨_,hb2⟩)
 have I':=R.inv.D4 (i:=b) (b:=b') (F:=g.fp b) (pool':=[]) (w':=w) hlive hown rfl (λ_ _=>rfl) T
  ⟨b',vals,h3,(R.inv.EP hlive hown).1,h5,hc.sN T⟩ qd List.nodup_nil (by rintro ⟨_,_,_,hh'⟩;cases hh')
 rw [hb1] at T I'
 exact ⟨_,R.sN T rfl R.below I'⟩
theorem KE {g g':Gh} {a:Act} {w:World} {b vb c:Nat} {t:TypeId} {cells:List SC} {x y:SC} (R:mJ P base w0 N g s a w []) (R':mJ P base w0 N g' s' a w []) (T:kL g g' s.h s'.h w w) (h0:s.h b=(vb,.box t cells)) (h0':s'.h b=(vb,.box t cells)) (h1:cells[c]? = some x)
  (hc : ∀v,Ae g s.h w x v->Ae g' s'.h w y v):Rel P base w0 N (s'.fH b (vb,.box t (cells.set c y))) a w:=by
 have hob:=R.inv.obj b
 rw [show (s.h b).2 = .box t cells from by rw [h0]] at hob
 obtain ⟨b',vals,h3,h4,h5,h6⟩:=hob
 have hv:g'.val b=g.val b:=(T.box b t cells (by rw [h0',h0]) (by rw [h0'])).1
 have hnew : ∀ {cs:List SC} {vs:List Value} (c:Nat),aT g s.h w cs vs->cs[c]? = some x->aT g' s'.h w (cs.set c y) vs:=by
  intro cs
  induction cs with
  | nil=>intro vs c _ hx;simp at hx
  | cons z cs ih =>
   intro vs c hA hx
   obtain ⟨v,vs',rfl,k1,k2⟩:=hA
   cases c with
   | zero=>simp at hx;subst hx;exact ⟨v,vs',rfl,hc v k1,k2.sN T⟩
   | succ c=>exact ⟨v,vs',rfl,k1.sN T,ih c k2 (by simpa using hx)⟩
 exact XC R' h0' (hv.trans h3) h5 (hnew c h6 h1)
theorem Gho.W8 {b vb c j K vj:Nat} {t:TypeId} {cells:List SC} {e:TypeId} {sz:Nat} {xs:List (List D)} {dp:Bool} (h0:s.h b=(vb,.box t cells)) (h1:cells[c]? = some (.row j vj)) (h2:s.h j=(vj,.row e sz xs dp)) (hk:b≠K) :
  Gho P base w0 N s (((s.fH j (vj,.none)).fH K ((s.h K).1+1,.row e sz xs dp)).fH b (vb,.box t (cells.set c (.row K ((s.h K).1+1))))):=by
 rintro a w ⟨g,R⟩
 have hjb:b≠j:=λe=>by rw [e,h2] at h0;cases h0
 obtain ⟨g',R',T,hc⟩:=Q4 (K:=K) R h2
 refine KE R R' T h0 ?_ h1 hc
 show sB (sB s.h j _) K _ b=_
 rw [fO _ _ _ _ hk,fO _ _ _ _ hjb,h0]
theorem Gho.aA5 {b vb c K:Nat} {t:TypeId} {cells:List SC} (e:TypeId) (sz:Nat) (h0:s.h b=(vb,.box t cells)) (h1:cells[c]? = some .nil) (hk:b≠K) :
  Gho P base w0 N s ((s.fH K ((s.h K).1+1,.row e sz [] true)).fH b (vb,.box t (cells.set c (.row K ((s.h K).1+1))))):=by
 rintro a w ⟨g,R⟩
 obtain ⟨g',R',T,hc⟩:=U1 (K:=K) e sz R
 refine KE R R' T h0 ?_ h1 hc
 show sB s.h K _ b=_
 rw [fO _ _ _ _ hk,h0]
theorem sq {x y:Code} (h:SW P base w0 N x s (aft P base w0 N Z (.code y::k))):SW P base w0 N (.seq x y) s (aft P base w0 N Z k):=ZL h
theorem bk {id:Nat} {c:Code} (h:SW P base w0 N c s (aft P base w0 N Z (.block id::k))):SW P base w0 N (.block id c) s (aft P base w0 N Z k):=Xe h
theorem sk (h:aft P base w0 N Z k .normal s):SW P base w0 N .skip s (aft P base w0 N Z k):=Yg h
theorem xt {id:Nat} (h:aft P base w0 N Z k (.exit id) s):SW P base w0 N (.exit id) s (aft P base w0 N Z k):=Yz h
theorem rt (h:Z s):SW P base w0 N .ret s (aft P base w0 N Z k):=ZO h
theorem an {c:Code} (h:SW P base w0 N c s (aft P base w0 N Z k)):aft P base w0 N Z (.code c::k) .normal s:=h
theorem ab {id:Nat} (h:aft P base w0 N Z k .normal s):aft P base w0 N Z (.block id::k) .normal s:=h
end
end Go.Sh
namespace Go.Sh
open Go.RowKit
section
variable {P:Program} {base N:Nat} {w0:W0} {Z:St->Prop} {k:List Fr} {s s':St}
theorem aT.swap {g g':Gh} {h h':Heap} {w:World} {x y:SC} (T:kL g g' h h' w w) (hc : ∀v,Ae g h w x v->Ae g' h' w y v) : ∀ {cs:List SC} {vs:List Value} (c:Nat),aT g h w cs vs->cs[c]? = some x->aT g' h' w (cs.set c y) vs
 | [],_,c,_,hx=>by simp at hx
 | z::cs,vs,0,hA,hx=>by obtain ⟨v,vs',rfl,k1,k2⟩:=hA;simp at hx;subst hx;exact ⟨v,vs',rfl,hc v k1,k2.sN T⟩
 | z::cs,vs,c+1,hA,hx=>by obtain ⟨v,vs',rfl,k1,k2⟩:=hA;exact ⟨v,vs',rfl,k1.sN T,aT.swap T hc c k2 (by simpa using hx)⟩
end
end Go.Sh
namespace Go.Sh
open Go.RowKit
def Vx (B:Nat) (us:Nat->Value):Nat->List D->List SC
 | _,[]=>[]
 | k,d::ds=>.old B d (some (us k))::Vx B us (k+1) ds
theorem WL (B:Nat) (us:Nat->Value) (k:Nat):Vx B us k []=[]:=rfl
theorem U8 (B:Nat) (us:Nat->Value) (k:Nat) (d:D) (ds:List D):Vx B us k (d::ds) = .old B d (some (us k))::Vx B us (k+1) ds:=rfl
def WS (B:Nat) (us:Nat->Value) (x y:List D):St:=
 { t:=λi=>if i=0 then .v true (x.map .dat) else if i=1 then .v true (Vx B us 0 y) else .undef,h:=λ_=>(0,.none) }
theorem Y5 (B:Nat) (us:Nat->Value) (x y:List D) (i:Nat):(WS B us x y).t i=if i=0 then .v true (x.map .dat) else if i=1 then .v true (Vx B us 0 y) else .undef:=rfl
theorem X6 (B:Nat) (us:Nat->Value) (x y:List D) (i:Nat):(WS B us x y).h i=(0,.none):=rfl
theorem RR (B:Nat) (d:D) (u:Option Value) (cs:List SC) (k:List D->Prog):Bt (.old B d u::cs) k=Bt cs λds=>k (d::ds):=rfl
def aBY (T:N3) (vars:List ResultVar) (B:Nat) (us:Nat->Value) (y:List D) (s:St):Prop:=Dw T s vars=some [(true,Vx B us 0 y),(false,[.dat (.bool true)])]
theorem U2 {g:Gh} {h:Heap} {w:World} {B:Nat} {us:Nat->Value} : ∀ {ds:List D} {vs:List Value} {F:List Nat} (k:Nat),aJ w ds vs F->(∀b∈F,g.S b/\b<B)->(∀i v,vs[i]? = some v->v=us (k+i))->aT g h w (Vx B us k ds) vs
 | [],vs,F,k,hr,_,_=>by simp only [aJ] at hr;exact hr.1
 | d::ds,vs,F,k,hr,hF,hu=>by simp only [aJ] at hr;obtain ⟨v,vs',F1,F2,rfl,rfl,h3,h4⟩:=hr;refine ⟨v,vs',rfl,⟨F1,h3,λb hb=>hF b (by simp [hb]),λx hx => ?_⟩,U2 (k+1) h4 (λb hb=>hF b (by simp [hb])) λi u hi => ?_⟩;(cases hx;exact hu 0 v rfl);·rw [hu (i+1) u (by simpa using hi)];congr 1;omega
theorem UN {g:Gh} {h:Heap} {w:World} {B:Nat} {us:Nat->Value} : ∀ {ds:List D} {vs:List Value} (k:Nat),aT g h w (Vx B us k ds) vs->vs.length=ds.length /\ ∀i v,vs[i]? = some v->v=us (k+i)
 | [],vs,k,hr=>by rw [show vs=[] from hr];exact ⟨rfl,λi v hv=>by simp at hv⟩
 | d::ds,vs,k,hr=>by
  obtain ⟨v,vs',rfl,⟨F,_,_,h3⟩,h4⟩:=hr
  obtain ⟨k1,k2⟩:=UN (k+1) h4
  refine ⟨by simp [k1],λi u hu => ?_⟩
  cases i with
  | zero=>simp at hu;rw [<-hu];exact h3 _ rfl
  | succ i =>
   rw [k2 i u (by simpa using hu)]
   congr 1
   omega
theorem Yn {P : Program} {f : FuncId} {fn : Func} {c : Code} {x y : List D} {N : Nat} {vars : List ResultVar} (hf : P.funcs[f]? = some fn) (hb : fn.body = some c) (hN : fn.ntmps = N) (hv : fn.results.toList = vars) (hnm : (fn.name == "runtime.NumGoroutine") = false) (hn : 2 <= N)
  (h : ∀(base:Nat) (w0:W0) (us:Nat->Value),SW P base w0 N c (WS base us x y) (aft P base w0 N (aBY (fN P) vars base us y) [])):kR P f [(true,x),(true,y)] [(false,[.edit .pass])]:=by
 subst hN hv
 refine .inr (.inl ⟨.pass,rfl,⟨fn,c,hf,hb,hnm⟩,λw v1 v2 Fa ha => ?_⟩)
 have hFlt:=He (vs:=[v1,v2]) ha
 obtain ⟨F1,F',e1,h1,F2,F3,e2,h2,h3⟩:=ha
 have e3:F3=[]:=h3
 subst e3 e2 e1
 obtain ⟨c1,rfl,r1⟩:=h1
 obtain ⟨c2,rfl,r2⟩:=h2
 refine calls_of_wp hf hb ?_
 let us:Nat->Value:=λi=>c2.toList.getD i undef
 let g:Gh:={ val:=λ_=>undef,fp:=λ_=>[],S:=λb=>b∈F1++(F2++[]),Q:=⟨λb=>b∈F1++(F2++[]),w.heap.size,none,slP P⟩ }
 have R:Rel P w.heap.size ⟨w,⟨λb=>b∈F1++(F2++[]),w.heap.size,none,slP P⟩,noK,PT⟩ fn.ntmps (WS w.heap.size us x y) { tmps := #[.agg c1,.agg c2]++Array.replicate (fn.ntmps-2) undef,defers:=[] } w:=by refine ⟨g,rfl,qc,Below.refl _ _,⟨λ_ x=>x,rfl,λ_ hx=>(by cases hx)⟩,λ_ x=>x.elim,⟨Nat.le_refl _,λ_ x _=>x,hFlt,λi=>trivial,λi b hl=>absurd rfl hl,λi j b _ hl=>absurd rfl hl,?_,Ac.nil _ _,qd,λi hd=>(by obtain ⟨_,_,_,hd⟩:=hd;cases hd),Nat.le_refl _⟩,λt => ?_,⟨rfl,.inl rfl⟩,λ_=>trivial⟩;(rintro i j _ ⟨_,_,_,hd⟩;cases hd);·show uN g _ w (if t=0 then .v true (x.map .dat) else if t=1 then .v true (Vx w.heap.size us 0 y) else .undef) _;by_cases h0:t=0;(subst h0;rw [if_pos rfl];exact ⟨c1,by rw [Array.getD_eq_getD_getElem?,Array.getElem?_append_left qd];rfl,aT.GA r1 λb hb=>by show b∈F1++(F2++[]);simp [hb]⟩);·rw [if_neg h0];by_cases h1:t=1;(subst h1;rw [if_pos rfl];refine ⟨c2,by rw [Array.getD_eq_getD_getElem?,Array.getElem?_append_left qd];rfl,U2 0 r2 (λb hb=>⟨by show b∈F1++(F2++[]);simp [hb],hFlt b (by simp [hb])⟩) λi v hi => ?_⟩;show v=c2.toList.getD (0+i) undef;rw [Nat.zero_add,List.getD_eq_getElem?_getD,hi];rfl);·rw [if_neg h1];show _=undef;simp only [Array.getD_eq_getD_getElem?,Array.getElem?_append];rw [if_neg qc];by_cases h2:t-2<fn.ntmps-2;(simp [h2]);·rw [Array.getElem?_eq_none qc];rfl
 refine wp_mono (h w.heap.size ⟨w,⟨λb=>b∈F1++(F2++[]),w.heap.size,none,slP P⟩,noK,PT⟩ us _ w R) ?_
 rintro e a' w' ⟨s',h1,g',R'⟩
 have fin:aBY (fN P) fn.results.toList w.heap.size us y s'->a'.defers=[] /\ ∃v,(results fn a'.tmps).run P w' = .ok v w'/\Ending.returned v = .returned (.tuple #[.agg c2,.bool true])/\Below w.heap.size w w':=by
  intro hr
  obtain ⟨vs,k1,k2,k3⟩:=C7 R' hr
  have hrun:=Ih (P:=P) (w:=w') (λx=>match x with | .tmp t=>(pure (a'.tmps.getD t undef):Sem Value) | .cell p t=>(do loadVar t (<-asAddr (a'.tmps.getD p undef)):Sem Value)) fn.results.toList vs (by rw [k1]) k3
  have hrun':(results fn a'.tmps).run P w' = .ok (if h:vs.toArray.size=1 then vs.toArray[0] else .tuple vs.toArray) w':=by unfold results;rw [<-Array.toArray_toList (xs:=fn.results)];rw [List.mapM_toArray];simp only [Sem.run_bind,Sem.run_map,Sem.run_pure];exact (congrArg (λr:Result (List Value)=>(r.andThen λa w'=>Result.ok a.toArray w').andThen λa w'=>Result.ok (if h:a.size=1 then a[0] else Value.tuple a) w') hrun).trans rfl
  obtain ⟨u1,vs1,rfl,⟨d2,rfl,m1⟩,u2,vs2,rfl,m2,m3⟩:=k2
  have m3':vs2=[]:=m3
  subst m3'
  have e2:u2 = .bool true:=CQ (g:=g') (s:=s') (w:=w') (b:=true) m2
  subst e2
  obtain ⟨n1,n2⟩:=UN 0 m1
  have n3:c2.toList.length=y.length:=r2.length
  have e1:d2=c2:=by
   apply Array.ext'
   apply List.ext_getElem?
   intro i
   rcases Nat.lt_or_ge i y.length with hi | hi
   ·have hd:i<d2.toList.length:=by rw [n1];exact hi
    have hc:i<c2.toList.length:=by rw [n3];exact hi
    rw [qF hd,qF hc]
    have:=n2 i _ (qF hd)
    rw [this]
    show some (c2.toList.getD (0+i) undef)=_
    rw [Nat.zero_add,List.getD_eq_getElem?_getD,qF hc]
    rfl
   ·rw [qX (by rw [n1];exact hi),qX (by rw [n3];exact hi)]
  subst e1
  exact ⟨R'.defers,_,hrun',rfl,R'.below⟩
 cases e with
 | normal=>exact fin h1
 | ret=>exact fin h1
 | exit id=>exact h1.elim
 | goto l=>exact h1.elim
 | panic c=>exact h1.elim
 | outgrown=>exact h1.elim
def aDR:=PLift.up (qI @WL (qI @U8 (qI @Y5 (qI @X6 @RR))))
theorem LP:type_of% aDR.down:=aDR.down
theorem Ee {α:Type} {f:α->List D} {sz b:Nat} {xs z w1 w2:List α} {k:Int} (hf : ∀x,(f x).length=sz) (hb:0<b) (h1:An xs k=some w1) (h2:Cb xs (IntKind.i64.wrap (k+1))=some w2) (h:app b (List.take k.toNat xs) (List.drop (IntKind.i64.wrap (k+1)).toNat xs)=some z) :
  List.take k.toNat (J8 sz (IntKind.i64.wrap (k+1)).toNat (xs.length-(IntKind.i64.wrap (k+1)).toNat) (xs.map f))=List.take k.toNat (xs.map f)/\(∀y∈List.drop (IntKind.i64.wrap (k+1)).toNat (xs.map f),y.length=sz) /\
   (k.toNat+(xs.length-(IntKind.i64.wrap (k+1)).toNat))*b<=140737488355328:=by
 obtain ⟨a1,a2⟩:0<=k/\k.toNat<=xs.length:=by unfold An at h1;split at h1;(assumption);·cases h1
 obtain ⟨b1,b2⟩:0<=IntKind.i64.wrap (k+1)/\(IntKind.i64.wrap (k+1)).toNat<=xs.length:=by unfold Cb at h2;split at h2;(assumption);·cases h2
 have h3:=gL h
 have hl:(List.take k.toNat xs).length=k.toNat:=by rw [qT];omega
 rw [hl,qU] at h3
 have h4:k.toNat<=140737488355328:=Nat.le_trans (Nat.le_trans (Nat.le_mul_of_pos_right _ hb) (Nat.mul_le_mul_right b (Nat.le_add_right _ _))) h3
 have e:IntKind.i64.wrap (k+1)=k+1:=bN qb qb
 rw [e] at b1 b2 h3 ⊢
 refine ⟨?_,λy hy => ?_,?_⟩
 ·unfold J8;rw [List.take_append_of_le_length (by simp only [qT,List.length_map];omega),List.take_take,Nat.min_eq_left qb]
 ·obtain ⟨x,_,rfl⟩:=List.mem_map.1 (List.mem_of_mem_drop hy);exact hf x
 ·exact h3
end Go.Sh
namespace Go.Sh
open Go.RowKit
end Go.Sh
namespace Go.Sh
open Go.RowKit
def UY (t:TypeId) (B:Nat) (v0:Value) (d0:D) (ds:List D) (rest:List (Bool×List D)):St:=
 { t:=λi=>match i with | 0=>.v false [.bp 7059000 1 0] | i+1=>(match rest[i]? with | some (ag,ds)=>.v ag (ds.map .dat) | none=>.undef),h:=λi=>if i=7059000 then (1,.box t (.old B d0 (some v0)::ds.map .dat)) else (0,.none) }
theorem S1 (t:TypeId) (B:Nat) (v0:Value) (d0:D) (ds:List D) (rest:List (Bool×List D)) (i:Nat):(UY t B v0 d0 ds rest).t i=match i with | 0=>.v false [.bp 7059000 1 0] | i+1=>(match rest[i]? with | some (ag,ds)=>.v ag (ds.map .dat) | none=>.undef):=rfl
theorem Jd (t:TypeId) (B:Nat) (v0:Value) (d0:D) (ds:List D) (rest:List (Bool×List D)) (i:Nat):(UY t B v0 d0 ds rest).h i=if i=7059000 then (1,.box t (.old B d0 (some v0)::ds.map .dat)) else (0,.none):=rfl
def Iq (T:N3) (vars:List ResultVar) (t:TypeId) (B:Nat) (v0:Value) (d0:D) (es:List D) (rs:List (Bool×List RC)) (s:St):Prop:=
 Ret T vars rs s/\s.h 7059000=(1,.box t (.old B d0 (some v0)::es.map .dat))
theorem Rm {g:Gh} {h:Heap} {w:World} : ∀ {es:List D} {us:List Value},aT g h w (es.map .dat) us->es.all D.flat=true->aJ w es us []
 | [],us,hc,_=>by simp only [aJ];exact ⟨hc,trivial⟩
 | d::es,us,hc,hf=>by obtain ⟨v,vs',rfl,⟨F,h1,_⟩,h3⟩:=hc;simp only [List.all_cons,qM] at hf;have e:F=[]:=Iy h1 hf.1;subst e;simp only [aJ];exact ⟨v,vs',[],[],rfl,rfl,h1,Rm h3 hf.2⟩
theorem YX {P : Program} {f : FuncId} {fn : Func} {c : Code} {t : TypeId} {d0 : D} {ds es : List D} {rest : List (Bool × List D)} {rs : List (Bool × List RC)} {N : Nat} {vars : List ResultVar} (hf : P.funcs[f]? = some fn) (hb : fn.body = some c) (hN : fn.ntmps = N) (hv : fn.results.toList = vars) (hnm : (fn.name == "runtime.NumGoroutine") = false) (hn : rest.length + 1 <= N)
  (hrs:AJ rs=false) (hds:ds.all D.flat=true) (hes:es.all D.flat=true) (hl:es.length=ds.length)
  (h : ∀(base:Nat) (w0:W0) (B:Nat) (v0:Value),(B<=base/\w0.Q.L=slP P /\ ∀b,w0.K b->b<base)->SW P base w0 N c (UY t B v0 d0 ds rest) (aft P base w0 N (Iq (fN P) vars t B v0 d0 es rs) [])):kR P f ((false,[.ptr (d0::ds)])::rest) ((false,[.edit (.lend t es)])::rs):=by
 subst hN hv
 refine .inr (.inr ⟨t,es,rs,rfl,⟨fn,c,hf,hb,hnm⟩,hrs,hes,d0,ds,rest,rfl,hds,hl,λw b vals v0 vs0 vs Fb F hw hvals r0 r1 hbF ha hbF2 => ?_⟩)
 refine calls_of_wp hf hb ?_
 have hbl:b<w.heap.size:=(Array.getElem?_eq_some_iff.1 hw).1
 obtain ⟨hlen,hat⟩:=args_at ha
 have hFlt:=He ha
 have hFb:=Rep.lt _ _ _ r0
 let K:Nat->Prop:=λx=>x<w.heap.size/\x≠b
 let q:QF:=⟨λx=>x<w.heap.size,b,some b,slP P⟩
 let g:Gh:={ val:=λ_=>.pointer (some ⟨b,0,none⟩),fp:=λ_=>[],S:=K,Q:=q }
 let s0:=UY t w.heap.size v0 d0 ds rest
 have hlv : ∀i,live s0.h i->i=7059000:=λi hl=>by unfold live at hl;rw [Jd] at hl;by_cases hi:i=7059000;(exact hi);·rw [if_neg hi] at hl;exact absurd rfl hl
 have R:Rel P w.heap.size ⟨w,q,K,PT⟩ fn.ntmps s0 { tmps:=(.pointer (some ⟨b,0,none⟩)::vs).toArray++Array.replicate (fn.ntmps-(.pointer (some ⟨b,0,none⟩)::vs).toArray.size) undef,defers:=[] } w:=by
  have hsz:(Value.pointer (some ⟨b,0,none⟩)::vs).toArray.size=rest.length+1:=by simp [hlen]
  have hnd : ∀i,¬iV s0.h i:=by rintro i ⟨_,_,_,hd⟩;rw [Jd] at hd;split at hd<;>cases hd
  have hmt : ∀i x,live s0.h i->Bj (g.val i)=some x -> ¬g.S x:=by intro i x hl hx hS;have:some b=some x:=hx;exact hS.2 (Option.some.inj this).symm
  have hlt:Mw (some b) s0.h g:=by intro b' hb';cases hb';exact ⟨by rw [Jd,if_pos rfl];exact Nat.le_refl _,λ_ _ _=>rfl⟩
  refine ⟨g,rfl,by simp only [Array.size_append,Array.size_replicate];omega,Below.refl _ _,⟨λ_ x=>x,rfl,hlt⟩,λx hx=>⟨hx,rfl⟩,⟨Nat.le_refl _,λx hx _=>hx.1,λx hx=>hx.1,λi => ?_,hmt,λi j x hne hi hj=>absurd ((hlv i hi).trans (hlv j hj).symm) hne,λi j _ hi _=>absurd hi (hnd i),Ac.nil _ _,λ_ hx=>absurd hx qO,λi hi=>absurd hi (hnd i),Nat.le_of_lt hbl⟩,λi => ?_,⟨rfl,.inl rfl⟩,λ_=>trivial⟩
  ·rw [Jd];by_cases hi:i=7059000;(rw [if_pos hi];refine ⟨b,vals,rfl,Nat.le_refl _,hw,?_⟩;rw [hvals];refine ⟨v0,vs0,rfl,⟨Fb,r0,λx hx=>⟨⟨hFb x hx,λe=>hbF (e ▸ hx)⟩,hFb x hx⟩,λx hx=>by cases hx;rfl⟩,aT.GA r1 qd⟩);·rw [if_neg hi];trivial
  ·rw [S1]
   cases i with
   | zero =>
    have:({ tmps:=(Value.pointer (some ⟨b,0,none⟩)::vs).toArray++Array.replicate (fn.ntmps-(Value.pointer (some ⟨b,0,none⟩)::vs).toArray.size) undef,defers:=[] }:Act).tmps.getD 0 undef = .pointer (some ⟨b,0,none⟩):=by rw [Array.getD_eq_getD_getElem?,Array.getElem?_append_left qd];simp
    rw [this]
    refine ⟨_,[],rfl,⟨rfl,?_,λ_ t' cs _=>⟨b,rfl,rfl⟩⟩,rfl⟩
    show 1<=(s0.h 7059000).1
    rw [Jd,if_pos rfl]
    exact Nat.le_refl _
   | succ i =>
    show uN g _ w (match rest[i]? with | some (ag,ds)=>.v ag (ds.map .dat) | none=>.undef) _
    cases ht:rest[i]? with
    | none =>
     have hge:rest.length<=i:=List.getElem?_eq_none_iff.1 ht
     show _=undef
     simp only [Array.getD_eq_getD_getElem?,Array.getElem?_append]
     rw [if_neg qb]
     by_cases h2:i+1-(Value.pointer (some ⟨b,0,none⟩)::vs).toArray.size<fn.ntmps-(Value.pointer (some ⟨b,0,none⟩)::vs).toArray.size
     ·rw [Array.getElem?_replicate,if_pos h2];rfl
     ·rw [Array.getElem?_replicate,if_neg h2];rfl
    | some x =>
     obtain ⟨v,Fi,h1,h2,hFi⟩:=hat i x ht
     have hlt:i<vs.length:=by have:=(List.getElem?_eq_some_iff.1 ht).1;omega
     have hv:({ tmps:=(Value.pointer (some ⟨b,0,none⟩)::vs).toArray++Array.replicate (fn.ntmps-(Value.pointer (some ⟨b,0,none⟩)::vs).toArray.size) undef,defers:=[] }:Act).tmps.getD (i+1) undef=v:=by simp only [Array.getD_eq_getD_getElem?,Array.getElem?_append];rw [if_pos qb];simp [h1]
     rw [hv]
     have hK : ∀x∈Fi,K x:=λx hx=>⟨hFlt x (hFi x hx),λe=>hbF2 (e ▸ hFi x hx)⟩
     obtain ⟨ag,ds'⟩:=x
     cases ag with
     | false =>
      obtain ⟨d,rfl,hr⟩:=h2
      exact ⟨v,[],rfl,⟨Fi,hr,hK⟩,rfl⟩
     | true =>
      obtain ⟨cs,rfl,hr⟩:=h2
      exact ⟨cs,rfl,aT.GA hr hK⟩
 refine wp_mono (h w.heap.size ⟨w,q,K,PT⟩ w.heap.size v0 ⟨Nat.le_refl _,rfl,λb hb=>hb.1⟩ _ w R) ?_
 rintro e a' w' ⟨s',h1,R'⟩
 have fin:Iq (fN P) fn.results.toList t w.heap.size v0 d0 es rs s'->a'.defers=[] /\ ∃v,(results fn a'.tmps).run P w' = .ok v w' /\ ∃v' us,Ending.returned v = .returned v'/\JB (slP P) w.heap.size w' v' rs (λx=>x<w.heap.size)/\w.grownBy w' (some b) /\
    w'.heap[b]? = some (.cells (v0::us).toArray t (0,0))/\aJ w' es us []:=by
  rintro ⟨hr,hh⟩
  obtain ⟨v,k1,k2⟩:=Qi R' hr
  obtain ⟨g',R''⟩:=R'
  have hobj:=R''.inv.obj 7059000
  rw [show (s'.h 7059000).2 = .box t (.old w.heap.size d0 (some v0)::es.map .dat) from by rw [hh]] at hobj
  obtain ⟨b',vals',p1,p2,p3,p4⟩:=hobj
  obtain ⟨u0,us,e1,⟨F0,_,_,hu0⟩,p5⟩:=p4
  have hu0':u0=v0:=hu0 v0 rfl
  subst hu0'
  have hlive:live s'.h 7059000:=by unfold live;rw [hh];simp
  have hbb:b'=b:=by have:=(R''.q.2.2 b rfl).2 _ _ hh;rw [p1] at this;simpa using this
  subst hbb
  refine ⟨R''.defers,v,k1,v,us,rfl,k2,⟨R''.below.os,R''.below.tape,R''.below.output,R''.below.size,λk hk hne=>(R''.AH k ⟨hk,λe=>hne (by rw [e])⟩).2⟩,?_,Rm p5 hes⟩
  rw [p3,<-e1]
 cases e with
 | normal=>exact fin h1
 | ret=>exact fin h1
 | exit id=>exact h1.elim
 | goto l=>exact h1.elim
 | panic c=>exact h1.elim
 | outgrown=>exact h1.elim
def aBf (T:N3) (vars:List ResultVar) (t:TypeId) (es:List D) (s:St):Prop:=
 ∃i ver,Dw T s vars=some [(false,[.bp i ver 0])]/\s.h i=(ver,.box t (es.map .dat))
theorem Ps {g:Gh} {h:Heap} {w:World} : ∀ {es:List D} {us:List Value},aT g h w (es.map .dat) us -> ∃G,aJ w es us G /\ ∀b∈G,g.S b
 | [],us,hc=>⟨[],by simp only [aJ];exact ⟨hc,trivial⟩,qd⟩
 | d::es,us,hc=>by obtain ⟨v,vs',rfl,⟨F,h1,h2⟩,h3⟩:=hc;obtain ⟨G,h4,h5⟩:=Ps h3;refine ⟨F++G,by simp only [aJ];exact ⟨v,vs',F,G,rfl,rfl,h1,h4⟩,λb hb => ?_⟩;rcases List.mem_append.1 hb with hb | hb;(exact h2 b hb);·exact h5 b hb
theorem X8 {P : Program} {f : FuncId} {fn : Func} {c : Code} {t : TypeId} {es : List D} {args : List (Bool × List D)} {N : Nat} {vars : List ResultVar} (hf : P.funcs[f]? = some fn) (hb : fn.body = some c) (hN : fn.ntmps = N) (hv : fn.results.toList = vars) (hnm : (fn.name == "runtime.NumGoroutine") = false) (hn : args.length <= N)
  (h : ∀(base:Nat) (w0:W0),SW P base w0 N c (init args) (aft P base w0 N (aBf (fN P) vars t es) [])):kR P f args [(false,[.edit (.newb t es)])]:=by
 subst hN hv
 refine .inr (.inl ⟨.newb t es,rfl,⟨fn,c,hf,hb,hnm⟩,λw vs Fa ha => ?_⟩)
 obtain ⟨hlen,hat⟩:=args_at ha
 have hlen':vs.size=args.length:=by simpa using hlen
 refine calls_of_wp hf hb ?_
 have hFlt:=He ha
 have R:=QK (P:=P) (fn:=fn) ha hn
 refine wp_mono (h w.heap.size ⟨w,⟨λb=>b∈Fa,w.heap.size,none,slP P⟩,noK,PT⟩ _ w R) ?_
 rintro e a' w' ⟨s',h1,g',R'⟩
 have fin:aBf (fN P) fn.results.toList t es s'->a'.defers=[] /\ ∃v,(results fn a'.tmps).run P w' = .ok v w'/\Below w.heap.size w w' /\ ∃b vals G,Ending.returned v = .returned (.pointer (some ⟨b,0,none⟩))/\w.heap.size<=b /\
   w'.heap[b]? = some (.cells vals t (0,0))/\aJ w' es vals.toList G/\b∉G /\ ∀x∈G,(x∈Fa\/w.heap.size<=x)/\x<w'.heap.size:=by
  rintro ⟨i,ver,hg,hh⟩
  have hobj:=R'.inv.obj i
  rw [show (s'.h i).2 = .box t (es.map .dat) from by rw [hh]] at hobj
  obtain ⟨b,vals,p1,p2,p3,p4⟩:=hobj
  obtain ⟨G,p5,p6⟩:=Ps p4
  have hlive:live s'.h i:=by unfold live;rw [hh];simp
  have hfb:w.heap.size<=b:=by have h1:=R'.q.2.1;have h2:(⟨w,⟨λb=>b∈Fa,w.heap.size,none,slP P⟩,noK,PT⟩:W0).Q.fb=w.heap.size:=rfl;omega
  obtain ⟨vs,k1,k2,k3⟩:=C7 R' hg
  have hrun:=Ih (P:=P) (w:=w') (λx=>match x with | .tmp t=>(pure (a'.tmps.getD t undef):Sem Value) | .cell p t=>(do loadVar t (<-asAddr (a'.tmps.getD p undef)):Sem Value)) fn.results.toList vs (by rw [k1]) k3
  have hrun':(results fn a'.tmps).run P w' = .ok (if h:vs.toArray.size=1 then vs.toArray[0] else .tuple vs.toArray) w':=by unfold results;rw [<-Array.toArray_toList (xs:=fn.results)];rw [List.mapM_toArray];simp only [Sem.run_bind,Sem.run_map,Sem.run_pure];exact (congrArg (λr:Result (List Value)=>(r.andThen λa w'=>Result.ok a.toArray w').andThen λa w'=>Result.ok (if h:a.size=1 then a[0] else Value.tuple a) w') hrun).trans rfl
  obtain ⟨u,vs',rfl,⟨u',us,e1,m1,m2⟩,m3⟩:=k2
  have m3':vs'=[]:=m3
  subst m3'
  simp only [List.cons.injEq] at e1
  obtain ⟨rfl,_⟩:=e1
  obtain ⟨b2,q1,q2⟩:=m1.2.2 (by rw [hh]) t (es.map .dat) (by rw [hh])
  have hbb:b2=b:=by rw [p1] at q1;simp at q1;exact q1.symm
  subst hbb
  refine ⟨R'.defers,u,hrun',R'.below,b2,vals,G,by rw [q2],hfb,p3,p5,λhx=>R'.inv.mtb i b2 hlive (by rw [p1];rfl) (p6 _ hx),λx hx=>⟨?_,R'.inv.S_lt x (p6 x hx)⟩⟩
  rcases Nat.lt_or_ge x w.heap.size with hlt | hge
  ·exact .inl (R'.q.1 x (R'.inv.S_old x (p6 x hx) hlt))
  ·exact .inr hge
 cases e with
 | normal=>exact fin h1
 | ret=>exact fin h1
 | exit id=>exact h1.elim
 | goto l=>exact h1.elim
 | panic c=>exact h1.elim
 | outgrown=>exact h1.elim
end Go.Sh
namespace Go.Sh
open Go.RowKit
def SC.clean (base:Nat):SC->Prop
 | .dat d=>d.flat=true
 | .old B _ _=>B<=base
 | .exa _ _ _=>False
 | _=>True
def SV.clean (base:Nat):SV->Prop
 | .v _ cs=>∀c∈cs,SC.clean base c
 | .tup xs=>∀x∈xs,∀c∈x.2,SC.clean base c
 | _=>True
def CT.clean (base:Nat):CT->Prop
 | .none=>True
 | .box _ cs=>∀c∈cs,SC.clean base c
 | .row _ _ _ dp=>dp=true
 | .pin _ _ _=>False
section
variable {P:Program} {base N:Nat} {w0:W0} {w:World} {g:Gh} {s:St} {a:Act}
theorem TA {Q:Exit->Act->World->Prop} {ops:Array Oper} {K:St->Prop} (m:Nat) : ∀(l:List Oper) (i:Nat) {s:St} {a:Act} {w:World},(ops.toList.drop i).take l.length=l->Rel P base w0 N s a w->sO P (fN P) N ops l s K ->
  (∀s' a' w',K s'->Rel P base w0 N s' a' w'->wpOps P ops Q (List.range' (i+l.length) m) a' w')->wpOps P ops Q (List.range' i (l.length+m)) a w
 | [],i,s,a,w,hl,R,h,hq=>by simpa using hq s a w h R
 | o::l,i,s,a,w,hl,R,h,hq=>by
  rw [show (o::l).length+m=(l.length+m)+1 from by simp;omega,List.range'_succ,wpOps_cons]
  have hi:ops[i]? = some o:=by
   have:((ops.toList.drop i).take (o::l).length)[0]? = some o:=by rw [hl];rfl
   rw [List.getElem?_take] at this
   simp at this
   exact this
  have hl':(ops.toList.drop (i+1)).take l.length=l:=by
   have h1:(ops.toList.drop i)=o::ops.toList.drop (i+1):=by
    have hlt:i<ops.toList.length:=by simpa using (Array.getElem?_eq_some_iff.1 hi).1
    rw [qV hlt]
    have:ops.toList[i]? = some o:=by simpa using hi
    rw [qF hlt] at this
    simp at this
    simp [this]
   rw [h1] at hl
   simpa using hl
  refine wpOp_mono ?_ (P2 hi R h)
  rintro a' w' ⟨s',k1,k2⟩
  refine TA m l (i+1) hl' k2 k1 λs2 a2 w2 h2 R2 => ?_
  have:=hq s2 a2 w2 h2 R2
  rwa [show i+(o::l).length=i+1+l.length from by simp;omega] at this
def aBI (s:St):Operand->SV
 | .tmp t=>s.t t
 | .const c=>cst c
 | .func f=>.v false [.dat (.fn f [])]
 | .global _=>.unk
theorem WX (R:mJ P base w0 N g s a w []) (x:Operand):uN g s.h w (aBI s x) (a.eval x):=by
 cases x with
 | tmp t=>exact R.tmp t
 | const c=>exact UP c g s.h w
 | func f=>exact ⟨_,[],rfl,⟨[],by simp only [Rep];exact ⟨[],rfl,by simp [aJ]⟩,qd⟩,rfl⟩
 | global gl=>trivial
def aAM (s:St) (as:List Operand):St:=
 { t:=λi=>match as[i]? with | some x=>aBI s x | none=>.undef,h:=s.h,fr:=λi=>if i<10000 then s.t i else s.fr (i-10000) }
def YM (w0:W0) (a:Act) (i:Nat):Value:=if i<10000 then a.tmps.getD i undef else w0.fv (i-10000)
def aAD (s:St) (d:Nat) (sv:SV):St:=
 { t:=λi=>if i=d then sv else if i<10000 then s.fr i else .unk,h:=s.h,fr:=λi=>s.fr (i+10000) }
theorem Yj (w0:W0) (a:Act) (i:Nat):YM w0 a (i+10000)=w0.fv i:=by
 unfold YM
 have h1 : ¬i+10000<10000:=by omega
 have h2:i+10000-10000=i:=by omega
 rw [if_neg h1,h2]
theorem Xu (s:St) (as:List Operand) (i:Nat):(aAM s as).t i=match as[i]? with | some x=>aBI s x | none=>.undef:=rfl
theorem aAR (s:St) (as:List Operand) (i:Nat):(aAM s as).h i=s.h i:=rfl
theorem UT (s:St) (as:List Operand) (i:Nat):(aAM s as).fr i=if i<10000 then s.t i else s.fr (i-10000):=rfl
theorem XU (s:St) (d:Nat) (sv:SV) (i:Nat):(aAD s d sv).t i=if i=d then sv else if i<10000 then s.fr i else .unk:=rfl
theorem ZH (s:St) (d:Nat) (sv:SV) (i:Nat):(aAD s d sv).h i=s.h i:=rfl
theorem Ub (s:St) (d:Nat) (sv:SV) (i:Nat):(aAD s d sv).fr i=s.fr (i+10000):=rfl
theorem St.Ya (s:St) (t:Nat) (v:SV) (i:Nat):(s.Gu t v).fr i=s.fr i:=rfl
theorem St.Ye (s:St) (t:Nat) (v:Nat×CT) (i:Nat):(s.fH t v).fr i=s.fr i:=rfl
def KQ:List (Bool×List SC)->SV
 | [(ag,cs)]=>.v ag cs
 | l=>.tup l
def SZ (P:Program) (T:N3) (vars:List ResultVar) (N:Nat) (ops:Array Oper) (n d:Nat) (K:St->Prop) (s:St):Prop:=
 ∃l,Dw T s vars=some l/\sO P T N ops (ops.toList.drop (n+1)) (aAD s d (KQ l)) K
set_option maxRecDepth 20000 in
theorem S4 {Z:St->Prop} {kf:List Fr} {id n f d N':Nat} {ops:Array Oper} {o:Oper} {as:Array Operand} {ts:Array TypeId} {s1:St} {fn:Func} {c:Code} {vars:List ResultVar}
  (ho:ops.toList[n]? = some o) (hop:o.op = .call { callee:=.value (.func f),args:=as,argTypes:=ts }) (hg:o.guard=none) (hd:o.dst=some d) (hdN:d<N)
  (hf : P.funcs[f]? = some fn) (hb : fn.body = some c) (hN : fn.ntmps = N') (hv : fn.results.toList = vars) (hnm : (fn.name == "runtime.NumGoroutine") = false) (hn : as.toList.length <= N')
  (h1:sO P (fN P) N ops (ops.toList.take n) s (Is s1))
  (h : ∀fv,SW P base { w0 with fv:=fv } N' c (aAM s1 as.toList) (aft P base { w0 with fv:=fv } N' (SZ P (fN P) vars N ops n d (λs3=>aft P base w0 N Z kf .normal s3)) [])) :
  SW P base w0 N (.region id ops false) s (aft P base w0 N Z kf):=by
 subst hN hv
 intro a w R
 refine wp_region ?_
 have hlt:n<ops.toList.length:=(List.getElem?_eq_some_iff.1 ho).1
 have hoi:ops[n]? = some o:=by simpa using ho
 have hsz:ops.size=ops.toList.length:=by simp
 have htl:(ops.toList.take n).length=n:=by rw [qT];omega
 rw [List.range_eq_range',hsz,show ops.toList.length=(ops.toList.take n).length+((ops.toList.drop (n+1)).length+1) from by rw [htl,qU];omega]
 refine TA _ (ops.toList.take n) 0 (by rw [htl];simp) R h1 λs' a' w' hs R' => ?_
 rw [show s'=s1 from hs] at R'
 rw [htl,Nat.zero_add,List.range'_succ,wpOps_cons]
 obtain ⟨g,R'⟩:=R'
 have hmid:wpOp P ops (λe a' w'=>∃s',aft P base w0 N Z kf e s'/\Rel P base w0 N s' a' w') n (λa2 w2=>∃s2,sO P (fN P) N ops (ops.toList.drop (n+1)) s2 (λs3=>aft P base w0 N Z kf .normal s3)/\Rel P base w0 N s2 a2 w2) a' w':=by
  unfold wpOp
  simp only [hoi]
  rw [if_pos (by simp [Region.wanted,hg])]
  refine .inl ?_
  unfold Oper.wp
  have hrun:(execOp a'.eval o).run P w' = .ok (.enter f (as.map a'.eval)) w':=by simp [execOp,hop,resolve,Act.eval,Deferred.ofValue,invoke,Fl ⟨fn,c,hf,hb,hnm⟩]
  rw [hrun]
  unfold Oper.upon
  refine calls_of_wp hf hb ?_
  let fv:=YM w0 a'
  have hvl:(as.map a'.eval).size=as.toList.length:=by simp
  have R2:mJ P base { w0 with fv:=fv } fn.ntmps g (aAM s1 as.toList) { tmps:=as.map a'.eval++Array.replicate (fn.ntmps-(as.map a'.eval).size) undef,defers:=[] } w' []:=by
   refine ⟨rfl,by simp only [Array.size_append,Array.size_replicate];omega,R'.below,R'.q,R'.AH,R'.inv,λi => ?_,R'.lab,λi => ?_⟩
   ·rw [Xu]
    cases hx:as.toList[i]? with
    | none =>
     have hge:as.toList.length<=i:=List.getElem?_eq_none_iff.1 hx
     show _=undef
     simp only [Array.getD_eq_getD_getElem?,Array.getElem?_append]
     rw [if_neg qb]
     by_cases h2:i-(as.map a'.eval).size<fn.ntmps-(as.map a'.eval).size
     ·rw [Array.getElem?_replicate,if_pos h2];rfl
     ·rw [Array.getElem?_replicate,if_neg h2];rfl
    | some x =>
     have hil:i<as.toList.length:=(List.getElem?_eq_some_iff.1 hx).1
     have hv:(as.map a'.eval++Array.replicate (fn.ntmps-(as.map a'.eval).size) undef).getD i undef=a'.eval x:=by
      simp only [Array.getD_eq_getD_getElem?,Array.getElem?_append]
      rw [if_pos qb,Array.getElem?_map]
      have:as[i]? = some x:=by simpa using hx
      rw [this];rfl
     rw [show ({ tmps:=as.map a'.eval++Array.replicate (fn.ntmps-(as.map a'.eval).size) undef,defers:=[] }:Act).tmps.getD i undef=a'.eval x from hv]
     exact WX R' x
   ·rw [UT];show uN g s1.h w' _ (YM w0 a' i);unfold YM;split;(exact R'.tmp i);·exact R'.frm _
  refine wp_mono (h fv _ w' ⟨g,R2⟩) ?_
  rintro e a2 w2 ⟨s2,k1,g2,R3⟩
  have fin:SZ P (fN P) fn.results.toList N ops n d (λs3=>aft P base w0 N Z kf .normal s3) s2->a2.defers=[] /\ ∃v,(results fn a2.tmps).run P w2 = .ok v w2 /\
    ∃s2,sO P (fN P) N ops (ops.toList.drop (n+1)) s2 (λs3=>aft P base w0 N Z kf .normal s3)/\Rel P base w0 N s2 (a'.put o.dst v) w2:=by
   rintro ⟨l,hgt,hrest⟩
   obtain ⟨vs,m1,m2,m3⟩:=C7 R3 hgt
   have hrun:=Ih (P:=P) (w:=w2) (λx=>match x with | .tmp t=>(pure (a2.tmps.getD t undef):Sem Value) | .cell p t=>(do loadVar t (<-asAddr (a2.tmps.getD p undef)):Sem Value)) fn.results.toList vs (by rw [m1]) m3
   have hrun':(results fn a2.tmps).run P w2 = .ok (if h:vs.toArray.size=1 then vs.toArray[0] else .tuple vs.toArray) w2:=by unfold results;rw [<-Array.toArray_toList (xs:=fn.results)];rw [List.mapM_toArray];simp only [Sem.run_bind,Sem.run_map,Sem.run_pure];exact (congrArg (λr:Result (List Value)=>(r.andThen λa w'=>Result.ok a.toArray w').andThen λa w'=>Result.ok (if h:a.size=1 then a[0] else Value.tuple a) w') hrun).trans rfl
   refine ⟨R3.defers,_,hrun',_,hrest,?_⟩
   have hres:uN g2 s2.h w2 (KQ l) (if h:vs.toArray.size=1 then vs.toArray[0] else .tuple vs.toArray):=by
    match l,vs,m2 with
    | [],[],m2=>exact ⟨#[],rfl,rfl⟩
    | [(ag,cs)],[v],m2 =>
     obtain ⟨v',vs',e1,e2,e3⟩:=m2
     simp only [List.cons.injEq] at e1
     obtain ⟨rfl,rfl⟩:=e1
     exact e2
    | [(ag,cs)],v::v'::vs,m2 =>
     obtain ⟨v1,vs1,e1,e2,e3⟩:=m2
     simp only [List.cons.injEq] at e1
     obtain ⟨rfl,rfl⟩:=e1
     cases e3
    | x::y::l,[v],m2 =>
     obtain ⟨v1,vs1,e1,e2,v2,vs2,e3,_⟩:=m2
     simp only [List.cons.injEq] at e1
     rw [e3] at e1
     simp at e1
    | x::y::l,v::v'::vs,m2 =>
     have hne : ¬(v::v'::vs).toArray.size=1:=by simp
     rw [dif_neg hne]
     exact ⟨_,rfl,by simpa using m2⟩
    | [],v::vs,m2=>cases m2
    | x::l,[],m2=>obtain ⟨v1,vs1,e1,_⟩:=m2;cases e1
   generalize (if h:vs.toArray.size=1 then vs.toArray[0] else Value.tuple vs.toArray)=v at hres
   refine ⟨g2,by simp [Act.put,hd,R'.defers],by simp [Act.put,hd,R'.size],R3.below,R3.q,R3.AH,R3.inv,λi => ?_,R3.lab,λi => ?_⟩
   ·rw [XU,hd,QO R'.size hdN];by_cases hi:i=d;(rw [if_pos hi,if_pos hi];exact hres);·rw [if_neg hi,if_neg hi];by_cases h1:i<10000;(rw [if_pos h1];have:=R3.frm i;rw [show ({ w0 with fv:=fv }:W0).fv i=a'.tmps.getD i undef from by show YM w0 a' i=_;unfold YM;rw [if_pos h1]] at this;exact this);·rw [if_neg h1];trivial
   ·rw [Ub];have h:=R3.frm (i+10000);have e:({ w0 with fv:=fv }:W0).fv (i+10000)=w0.fv i:=Yj w0 a' i;rw [e] at h;exact h
  cases e with
  | normal=>exact fin k1
  | ret=>exact fin k1
  | exit id=>exact k1.elim
  | goto l=>exact k1.elim
  | panic c=>exact k1.elim
  | outgrown=>exact k1.elim
 refine wpOp_mono (λa2 w2 R2 => ?_) hmid
 obtain ⟨s2,k1,k2⟩:=R2
 exact Ql (Q:=λe a' w'=>∃s',aft P base w0 N Z kf e s'/\Rel P base w0 N s' a' w') (ops.toList.drop (n+1)) (n+1) rfl k2 k1 λs' a' w' h1 h2=>⟨s',h1,h2⟩
def aEJ:=PLift.up (qI @Xu (qI @aAR (qI @UT (qI @XU (qI @ZH (qI @Ub (qI @St.Ya @St.Ye)))))))
theorem LI:type_of% aEJ.down:=aEJ.down
end
end Go.Sh
namespace Go.Sh
open Go.RowKit
def Z5 (h:Heap) (kh:List Nat) (i ver:Nat) (e:TypeId) (sz:Nat) (xs:List (List D)) (j:Nat) (x:List D) (off K:Nat) (e':TypeId) (sz':Nat) (ys:List (List D)) (u:Value):Heap:=λl =>
 if l=i then (ver,.row e sz (xs.set j (x.set off (.val u))) true) else if l=K then ((h K).1+1,.row e' sz' ys true) else if l=7058000 then ((h 7058000).1+1,.pin K ((h K).1+1) u) else if l∈kh then h l else ((h l).1,.none)
def QQ (s:St) (kt kh:List Nat) (i ver:Nat) (e:TypeId) (sz:Nat) (xs:List (List D)) (j:Nat) (x:List D) (off K:Nat) (e':TypeId) (sz':Nat) (ys:List (List D)) (u:Value):St:=
 { t:=λt=>if t∈kt then s.t t else .unk,h:=Z5 s.h kh i ver e sz xs j x off K e' sz' ys u }
theorem Rx (s:St) (kt kh:List Nat) (i ver:Nat) (e:TypeId) (sz:Nat) (xs:List (List D)) (j:Nat) (x:List D) (off K:Nat) (e':TypeId) (sz':Nat) (ys:List (List D)) (u:Value) (t:Nat):(QQ s kt kh i ver e sz xs j x off K e' sz' ys u).t t=if t∈kt then s.t t else .unk:=rfl
theorem Wd (s:St) (kt kh:List Nat) (i ver:Nat) (e:TypeId) (sz:Nat) (xs:List (List D)) (j:Nat) (x:List D) (off K:Nat) (e':TypeId) (sz':Nat) (ys:List (List D)) (u:Value) (l:Nat):(QQ s kt kh i ver e sz xs j x off K e' sz' ys u).h l =
  if l=i then (ver,.row e sz (xs.set j (x.set off (.val u))) true) else if l=K then ((s.h K).1+1,.row e' sz' ys true) else if l=7058000 then ((s.h 7058000).1+1,.pin K ((s.h K).1+1) u) else if l∈kh then s.h l else ((s.h l).1,.none):=rfl
section
variable {P:Program} {base N:Nat} {w0:W0} {w:World} {g:Gh} {s:St} {a:Act}
theorem bT.at_ {L:TL} {ds:List D} {ts:Lb} {vs:List Value} {F:List Nat} (h:bT L w ds ts vs F) {off:Nat} {d:D} (hd:ds[off]? = some d) :
  ∃v1 v v3 F1 F2 F3,vs=v1++v::v3/\v1.length=off/\F=F1++(F2++F3)/\Cx L w d (Sh.lab (ts.drop off)) v F2 /\ ∀(d':D) (v':Value) (F':List Nat),Cx L w d' (Sh.lab (ts.drop off)) v' F'->bT L w (ds.set off d') ts (v1++v'::v3) (F1++(F'++F3)):=by
 induction ds generalizing ts vs F off with
 | nil=>simp at hd
 | cons d0 ds ih =>
  simp only [bT] at h
  obtain ⟨v,vs',F1,F2,rfl,rfl,h3,h4⟩:=h
  cases off with
  | zero =>
   simp at hd
   subst hd
   refine ⟨[],v,vs',[],F1,F2,rfl,rfl,rfl,by simpa using h3,λd' v' F' h' => ?_⟩
   simp only [List.set_cons_zero,bT,List.nil_append]
   exact ⟨v',vs',F',F2,rfl,rfl,by simpa using h',h4⟩
  | succ off =>
   obtain ⟨v1,v2,v3,G1,G2,G3,rfl,hl,rfl,k1,k2⟩:=ih h4 (by simpa using hd)
   rw [List.drop_tail] at k1 k2
   refine ⟨v::v1,v2,v3,F1++G1,G2,G3,rfl,by simp [hl],qd,k1,λd' v' F' h' => ?_⟩
   simp only [List.set_cons_succ,bT]
   exact ⟨v,v1++v'::v3,F1,G1++(F'++G3),qd,qd,h3,k2 d' v' F' h'⟩
theorem SG {g':Gh} {h h':Heap} {B:Option Nat} (hB : ∀b,B=some b->base<=b) (hlt : ∀b,g.S b->some b≠B->g'.S b) (hval : ∀i,(h' i).1=(h i).1->(h' i).2 ≠ .none->g'.val i=g.val i) (hver : ∀i,(h i).1<=(h' i).1)
  (hrow : ∀i e sz xs dp,(h' i).1=(h i).1->(h' i).2 = .row e sz xs dp -> ∃xs0 dp0,(h i).2 = .row e sz xs0 dp0) (hbox : ∀i t cs,(h' i).1=(h i).1->(h' i).2 = .box t cs -> ∃cs0,(h i).2 = .box t cs0)
  {c:SC} {v:Value} (hc:Ae g h w c v) (hcl:SC.clean base c):Ae g' h' w c v:=by
 have cap : ∀ {c:Nat×Nat×Nat} {v:Value},Ig g h c v->Ig g' h' c v:=by
  rintro c v ⟨h1,h2⟩
  refine ⟨Nat.le_trans h1 (hver _),λhv t cs hx => ?_⟩
  have e1:(h' c.1).1=(h c.1).1:=by have:=hver c.1;omega
  obtain ⟨cs0,hx0⟩:=hbox _ _ _ e1 hx
  rw [hval _ e1 (by rw [hx];simp)]
  exact h2 qb t cs0 hx0
 have caps : ∀ {cs:List (Nat×Nat×Nat)} {vs:List Value},De g h cs vs->De g' h' cs vs:=by
  intro cs
  induction cs with
  | nil=>intro vs h;exact h
  | cons c cs ih=>rintro vs ⟨v,vs',rfl,h1,h2⟩;exact ⟨v,vs',rfl,cap h1,ih h2⟩
 have row : ∀ {i ver:Nat},ver<=(h i).1->(h' i).1=ver -> ∀ {e sz xs dp},(h' i).2 = .row e sz xs dp->(h i).1=ver/\g'.val i=g.val i /\ ∃xs0 dp0,(h i).2 = .row e sz xs0 dp0:=by
  intro i ver h1 hv e sz xs dp hr
  have e1:(h' i).1=(h i).1:=by have:=hver i;omega
  exact ⟨qb,hval _ e1 (by rw [hr];simp),hrow _ _ _ _ _ e1 hr⟩
 cases c with
 | dat d =>
  obtain ⟨F',h1,h2⟩:=hc
  have:=Iy h1 hcl
  subst this
  exact ⟨[],h1,qd⟩
 | nil=>exact hc
 | row i ver =>
  obtain ⟨h0,h1,h2⟩:=hc
  refine ⟨h0,Nat.le_trans h1 (hver _),λhv e sz xs dp hr => ?_⟩
  obtain ⟨e1,e2,xs0,dp0,hr0⟩:=row h1 hv hr
  rw [e2];exact h2 e1 _ _ _ _ hr0
 | bp i ver off=>exact ⟨hc.1,cap hc.2⟩
 | rp i ver j off =>
  obtain ⟨h0,h1,h2⟩:=hc
  refine ⟨h0,Nat.le_trans h1 (hver _),λhv e sz xs dp hr => ?_⟩
  obtain ⟨e1,e2,xs0,dp0,hr0⟩:=row h1 hv hr
  rw [e2];exact h2 e1 _ _ _ _ hr0
 | clo f cs=>obtain ⟨vs,h1,h2⟩:=hc;exact ⟨vs,h1,caps h2⟩
 | old B0 d u =>
  obtain ⟨F',h1,h2,h3⟩:=hc
  have hB0:B0<=base:=hcl
  exact ⟨F',h1,λb hm=>⟨hlt b (h2 b hm).1 λe=>by have:=hB b e.symm;have:=(h2 b hm).2;omega,(h2 b hm).2⟩,h3⟩
 | part i ver lo n =>
  obtain ⟨h0,h1,h2⟩:=hc
  refine ⟨h0,Nat.le_trans h1 (hver _),λhv e sz xs dp hr => ?_⟩
  obtain ⟨e1,e2,xs0,dp0,hr0⟩:=row h1 hv hr
  rw [e2];exact h2 e1 _ _ _ _ hr0
 | exa W d x=>exact hcl.elim
theorem WK {kt kh:List Nat} {i ver:Nat} {e:TypeId} {sz:Nat} {xs:List (List D)} {j:Nat} {x:List D} {off K:Nat} {e':TypeId} {sz':Nat} {ys:List (List D)} (R:mJ P base w0 N g s a w [])
  (hi:s.h i=(ver,.row e sz xs true)) (hj:xs[j]? = some x) (ho:x[off]? = some (.sl ys)) (hl:lab ((slP P e).drop off)=some (e',sz')) (hL:w0.Q.L=slP P) (hlent:w0.Q.lent=none\/(7059000∈kh/\i≠7059000/\K≠7059000)) (hK0 : ∀b,w0.K b->b<base)
  (hiK:i≠K) (hi0:i≠7058000) (hK1:K≠7058000) (hkt : ∀t∈kt,SV.clean base (s.t t)) (hkh : ∀l∈kh,CT.clean base (s.h l).2) :
  ∃u,Rel P base w0 N (QQ s kt kh i ver e sz xs j x off K e' sz' ys u) a w:=by
 have hi2:(s.h i).2 = .row e sz xs true:=by rw [hi]
 have hob:=R.inv.obj i
 rw [hi2] at hob
 obtain ⟨cells,p1,p2,p3,p4,p5⟩:=hob
 have hof:=p5 rfl
 have hlive:live s.h i:=by unfold live;rw [hi2];simp
 have hdeep:iV s.h i:=⟨e,sz,xs,hi2⟩
 obtain ⟨v1,v2,v3,F1,F2,F3,rfl,hF,hl1,hr1,hr2,hr3⟩:=p3.at_ p2 hj
 have hgL:g.Q.L=slP P:=R.lab.1.trans hL
 obtain ⟨c1,u,c3,Fa,Fb,Fc,rfl,hc1,rfl,hu,sB⟩:=bT.at_ (show bT g.Q.L w x (g.Q.L e) v2 F2 from hr2) ho
 rw [hgL,hl] at hu
 simp only [Cx] at hu
 obtain ⟨cells',G,q1,q2,rfl,q3⟩:=hu
 have hone:u.oneCell'=true:=by rcases q1.2 with ⟨rfl,_⟩ | ⟨_,_,_,rfl,_⟩<;>rfl
 have hset':=sB (.val u) u [] (by unfold Cx;exact ⟨⟨rfl,hone⟩,rfl⟩)
 have hnd:=hof.1
 rw [hF] at hnd
 have hBin : ∀b,u.ownBlock=some b->b∈g.fp i:=λb hb=>by rw [hF,hb];simp
 have hGin : ∀b∈G,b∈g.fp i:=λb hb=>by rw [hF];simp [hb]
 have hBbase : ∀b,u.ownBlock=some b->base<=b:=λb hb=>(hof.2 b (hBin b hb)).1
 let FI:=F1++((Fa++([]++Fc))++F3)
 have hFI : ∀b∈FI,b∈g.fp i:=λb hb=>by rw [hF];simp only [FI,qP,qO,false_or] at hb ⊢;rcases hb with hb | ((hb | hb) | hb);(exact .inl hb);(exact .inr (.inl (.inl hb)));(exact .inr (.inl (.inr (.inr hb))));·exact .inr (.inr hb)
 have hsub:List.Sublist FI (F1++((Fa++((u.ownBlock.toList++G)++Fc))++F3)):=
  (List.Sublist.refl _).append (((List.Sublist.refl _).append ((List.nil_sublist _).append (List.Sublist.refl _))).append (List.Sublist.refl _))
 have hBG:(u.ownBlock.toList++G).Nodup:=by have:=(List.nodup_append.1 (List.nodup_append.1 (List.nodup_append.1 (List.nodup_append.1 hnd).2.1).1).2.1).1;exact this
 have hFIB : ∀b∈FI,b∉u.ownBlock.toList++G:=by intro b hb hb';simp only [List.nodup_append,qP] at hnd;simp only [FI,qP,qO,false_or] at hb;simp only [qP] at hb';grind
 have hFIB1 : ∀b∈FI,u.ownBlock≠some b:=λb hb e0=>hFIB b hb (by rw [e0];simp)
 have hGB : ∀b∈G,u.ownBlock≠some b:=λb hb e0=>by rw [e0] at hBG;simp at hBG;exact hBG.1 hb
 have hFIG : ∀b∈FI,b∉G:=λb hb hb'=>hFIB b hb (by simp [hb'])
 have huB:Bj u=u.ownBlock:=pN q1
 let S':Nat->Prop:=λb=>g.S b/\u.ownBlock≠some b
 let g':Gh:={ val:=λl=>if l=K then u else if l=7058000 then undef else g.val l,fp:=λl=>if l=i then FI else if l=K then G else g.fp l,S:=S',Q:=g.Q }
 let h':=Z5 s.h kh i ver e sz xs j x off K e' sz' ys u
 have h'i:h' i=(ver,.row e sz (xs.set j (x.set off (.val u))) true):=if_pos rfl
 have h'K:h' K=((s.h K).1+1,.row e' sz' ys true):=by show (if K=i then _ else _)=_;rw [if_neg (Ne.symm hiK),if_pos rfl]
 have h'0:h' 7058000=((s.h 7058000).1+1,.pin K ((s.h K).1+1) u):=by show (if 7058000=i then _ else _)=_;rw [if_neg (Ne.symm hi0),if_neg (Ne.symm hK1),if_pos rfl]
 have h'n : ∀l,l≠i->l≠K->l≠7058000->h' l=if l∈kh then s.h l else ((s.h l).1,.none):=λl a1 a2 a3=>by show (if l=i then _ else _)=_;rw [if_neg a1,if_neg a2,if_neg a3]
 have vi:g'.val i=g.val i:=by show (if i=K then _ else _)=_;rw [if_neg hiK,if_neg hi0]
 have vK:g'.val K=u:=if_pos rfl
 have v0:g'.val 7058000=undef:=by show (if 7058000=K then _ else _)=_;rw [if_neg (Ne.symm hK1),if_pos rfl]
 have vn : ∀l,l≠K->l≠7058000->g'.val l=g.val l:=λl a1 a2=>by show (if l=K then _ else _)=_;rw [if_neg a1,if_neg a2]
 have fi:g'.fp i=FI:=if_pos rfl
 have fK:g'.fp K=G:=by show (if K=i then _ else _)=_;rw [if_neg (Ne.symm hiK),if_pos rfl]
 have fn : ∀l,l≠i->l≠K->g'.fp l=g.fp l:=λl a1 a2=>by show (if l=i then _ else _)=_;rw [if_neg a1,if_neg a2]
 have hverle : ∀l,(s.h l).1<=(h' l).1:=λl=>by by_cases a1:l=i;(subst a1;rw [h'i,hi];exact Nat.le_refl _);by_cases a2:l=K;(subst a2;rw [h'K];exact Nat.le_succ _);by_cases a3:l=7058000;(subst a3;rw [h'0];exact Nat.le_succ _);rw [h'n l a1 a2 a3];split<;>exact Nat.le_refl _
 have hnK : ∀l,(h' l).1=(s.h l).1->l≠K/\l≠7058000:=λl hv=>by refine ⟨λe0 => ?_,λe0 => ?_⟩;(subst e0;rw [h'K] at hv;simp at hv);·subst e0;rw [h'0] at hv;simp at hv
 have hcl : ∀ {c:SC} {v:Value},Ae g s.h w c v->SC.clean base c->Ae g' h' w c v:=λh1 h2=>by refine SG (g':=g') (B:=u.ownBlock) hBbase (λb hb hne=>⟨hb,λe0=>hne e0.symm⟩) (λl hv _=>vn l (hnK l hv).1 (hnK l hv).2) hverle (λl e1 sz1 xs1 dp1 hv hr => ?_) (λl t cs hv hx => ?_) h1 h2;(obtain ⟨a2,a3⟩:=hnK l hv;by_cases a1:l=i;(subst a1;rw [h'i] at hr;cases hr;exact ⟨xs,true,hi2⟩);·rw [h'n l a1 a2 a3] at hr;split at hr;(exact ⟨xs1,dp1,hr⟩);·cases hr);·obtain ⟨a2,a3⟩:=hnK l hv;by_cases a1:l=i;(subst a1;rw [h'i] at hx;cases hx);·rw [h'n l a1 a2 a3] at hx;split at hx;(exact ⟨cs,hx⟩);·cases hx
 have hcls : ∀ {cs0:List SC} {us:List Value},aT g s.h w cs0 us->(∀c∈cs0,SC.clean base c)->aT g' h' w cs0 us:=by
  intro cs0
  induction cs0 with
  | nil=>intro us h _;exact h
  | cons c cs0 ih =>
   rintro us ⟨v,vs',rfl,h1,h2⟩ hc0
   exact ⟨v,vs',rfl,hcl h1 (hc0 c qd),ih h2 λc' hc'=>hc0 c' (by simp [hc'])⟩
 have hlv : ∀l,live h' l->l≠K->l≠7058000->live s.h l:=λl hl a2 a3=>by by_cases a1:l=i;(subst a1;exact hlive);·unfold live at hl ⊢;rw [h'n l a1 a2 a3] at hl;split at hl;(exact hl);·exact absurd rfl hl
 have hdp : ∀l,iV h' l->l≠K->iV s.h l:=λl hd a2=>by obtain ⟨e1,sz1,xs1,hh⟩:=hd;by_cases a1:l=i;(subst a1;exact hdeep);by_cases a3:l=7058000;(subst a3;rw [h'0] at hh;cases hh);rw [h'n l a1 a2 a3] at hh;split at hh;(exact ⟨e1,sz1,xs1,hh⟩);·cases hh
 have fsub : ∀l,l≠K -> ∀b∈g'.fp l,b∈g.fp l:=λl a2 b hb=>by by_cases a1:l=i;(subst a1;rw [fi] at hb;exact hFI b hb);·rw [fn l a1 a2] at hb;exact hb
 have hOK:Ac base w G:=⟨(List.nodup_append.1 hBG).2.1,λb hb=>hof.2 b (hGin b hb)⟩
 have hO1:Ac base w FI:=⟨hnd.sublist hsub,λb hb=>hof.2 b (hFI b hb)⟩
 have hlent':Mw w0.Q.lent h' g':=by
  intro b hb
  rcases hlent with hn | ⟨m1,m2,m3⟩
  ·rw [hn] at hb;cases hb
  ·have e1:h' 7059000=s.h 7059000:=by rw [h'n _ (Ne.symm m2) (Ne.symm m3) qe,if_pos m1]
   rw [e1,vn _ (Ne.symm m3) qe]
   exact R.q.2.2 b hb
 refine ⟨u,g',R.defers,R.size,R.below,⟨R.q.1,R.q.2.1,hlent'⟩,λb hb=>⟨⟨(R.AH b hb).1,λe0 => ?_⟩,(R.AH b hb).2⟩,
  ⟨R.inv.base_le,λb hb hlt=>R.inv.S_old b hb.1 hlt,λb hb=>R.inv.S_lt b hb.1,λl => ?_,λl b hl hb => ?_,λl k b hne hl hk hb hb' => ?_,λl k hne hl hk b hb hb' => ?_,Ac.nil _ _,λ_ hx=>absurd hx qO,λ_ _ _ _=>qO,R.inv.fb⟩,λt => ?_,R.lab,λ_=>trivial⟩
 ·have:=hK0 b hb;have:=hBbase b e0;omega
 ·show Cq base g' h' w l (h' l).2
  by_cases a1:l=i
  ·subst a1;rw [h'i];refine ⟨v1++((c1++u::c3)++v3),?_,?_,?_,?_,λ_=>by rw [fi];exact hO1⟩;(rw [vi,qN];exact p1);(intro y hy;rcases List.mem_or_eq_of_mem_set hy with hy | rfl;(exact p2 y hy);·rw [qN];exact p2 x (List.mem_of_getElem? hj));(rw [fi];have hjlt:j<xs.length:=(List.getElem?_eq_some_iff.1 hj).1;rw [show xs.set j (x.set off (.val u))=xs.take j++([x.set off (.val u)]++xs.drop (j+1)) from by rw [List.set_eq_take_append_cons_drop,if_pos hjlt];rfl];exact hr1.append (dB.append (dB.one hset') hr3));·rw [fi];exact λb hb=>⟨p4 b (hFI b hb),hFIB1 b hb⟩
  by_cases a2:l=K
  ·subst a2;rw [h'K];refine ⟨cells',?_,q2,?_,?_,λ_=>by rw [fK];exact hOK⟩;(rw [vK];refine ⟨q1.1,?_⟩;rcases q1.2 with k | ⟨gg,cap,cur,k1,k2,k3⟩;(exact .inl k);·exact .inr ⟨gg,cap,cur,k1,hBbase gg (by rw [k1];rfl),k3⟩);(rw [fK];show jW g.Q.L w ys e' cells' G;rw [hgL];exact q3);·rw [fK];exact λb hb=>⟨p4 b (hGin b hb),hGB b hb⟩
  by_cases a3:l=7058000
  ·subst a3;rw [h'0];exact ⟨v0,by rw [h'K];exact Nat.le_refl _,λ_ _ _ _ _ _=>vK⟩
  rw [h'n l a1 a2 a3]
  by_cases a4:l∈kh
  ·rw [if_pos a4]
   have hc0:=hkh l a4
   have hob:=R.inv.obj l
   cases hh:(s.h l).2 with
   | none=>trivial
   | pin j v u=>rw [hh] at hc0;exact hc0.elim
   | box t cells0 =>
    rw [hh] at hob hc0
    obtain ⟨b,vals,k1,k2,k3,k4⟩:=hob
    exact ⟨b,vals,(vn l a2 a3).trans k1,k2,k3,hcls k4 hc0⟩
   | row e1 sz1 xs1 dp1 =>
    rw [hh] at hob hc0
    have hd1:dp1=true:=hc0
    subst hd1
    obtain ⟨cells1,k1,k2,k3,k4,k5⟩:=hob
    refine ⟨cells1,by rw [vn l a2 a3];exact k1,k2,by rw [fn l a1 a2];exact k3,by rw [fn l a1 a2];exact λb hb=>⟨k4 b hb,λe0=>R.inv.dis l i a1 ⟨e1,sz1,xs1,hh⟩ hdeep b hb (hBin b e0)⟩,by rw [fn l a1 a2];exact k5⟩
  ·rw [if_neg a4];trivial
 ·by_cases a2:l=K;(subst a2;rw [vK,huB] at hb;exact λhS=>hS.2 hb);by_cases a3:l=7058000;(subst a3;rw [v0] at hb;simp [undef,Bj] at hb);rw [vn l a2 a3] at hb;exact λhS=>R.inv.mtb l b (hlv l hl a2 a3) hb hS.1
 ·have key : ∀m,m≠K->live h' m->Bj (g'.val m)=some b->u.ownBlock=some b->False:=λm a2 hm hmb hu=>by
   by_cases a3:m=7058000
   ·subst a3;rw [v0] at hmb;simp [undef,Bj] at hmb
   rw [vn m a2 a3] at hmb
   exact R.inv.mtb m b (hlv m hm a2 a3) hmb (p4 b (hBin b hu))
  by_cases a2:l=K
  ·subst a2;rw [vK,huB] at hb;exact key k (Ne.symm hne) hk hb' hb
  by_cases b2:k=K
  ·subst b2;rw [vK,huB] at hb';exact key l a2 hl hb hb'
  by_cases a3:l=7058000
  ·subst a3;rw [v0] at hb;simp [undef,Bj] at hb
  by_cases b3:k=7058000
  ·subst b3;rw [v0] at hb';simp [undef,Bj] at hb'
  rw [vn l a2 a3] at hb
  rw [vn k b2 b3] at hb'
  exact R.inv.inj l k b hne (hlv l hl a2 a3) (hlv k hk b2 b3) hb hb'
 ·by_cases a2:l=K;(subst a2;rw [fK] at hb;by_cases b1:k=i;(subst b1;rw [fi] at hb';exact hFIG b hb' hb);·rw [fn k b1 (Ne.symm hne)] at hb';exact R.inv.dis k i b1 (hdp k hk (Ne.symm hne)) hdeep b hb' (hGin b hb));by_cases b2:k=K;(subst b2;rw [fK] at hb';by_cases b1:l=i;(subst b1;rw [fi] at hb;exact hFIG b hb hb');·rw [fn l b1 a2] at hb;exact R.inv.dis l i b1 (hdp l hl a2) hdeep b hb (hGin b hb'));exact R.inv.dis l k hne (hdp l hl a2) (hdp k hk b2) b (fsub l a2 b hb) (fsub k b2 b hb')
 ·rw [Rx]
  by_cases ht:t∈kt
  ·rw [if_pos ht]
   have hsv:=R.tmp t
   have hc0:=hkt t ht
   cases hx:s.t t with
   | unk=>trivial
   | undef=>rw [hx] at hsv;exact hsv
   | v ag cs0 =>
    rw [hx] at hsv hc0
    cases ag with
    | false=>exact hcls hsv hc0
    | true=>obtain ⟨us,h1,h2⟩:=hsv;exact ⟨us,h1,hcls h2 hc0⟩
   | tup xs =>
    rw [hx] at hsv hc0
    obtain ⟨us,h1,h2⟩:=hsv
    refine ⟨us,h1,?_⟩
    revert h2 hc0
    generalize us.toList=vl
    intro hc0 h2
    clear hx h1
    induction xs generalizing vl with
    | nil=>exact h2
    | cons x xs ih =>
     obtain ⟨v,vs',rfl,q1,q2⟩:=h2
     refine ⟨v,vs',rfl,?_,ih vs' (λy hy=>hc0 y (by simp [hy])) q2⟩
     obtain ⟨ag,cs1⟩:=x
     have hcx:=hc0 (ag,cs1) qd
     cases ag with
     | false=>exact hcls q1 hcx
     | true=>obtain ⟨us',r1,r2⟩:=q1;exact ⟨us',r1,hcls r2 hcx⟩
  ·rw [if_neg ht];trivial
theorem Qt {c:Code} {Q:Exit->St->Prop} (kt kh:List Nat) {i ver:Nat} {e:TypeId} {sz:Nat} {xs:List (List D)} {j:Nat} {x:List D} {off K:Nat} {e':TypeId} {sz':Nat} {ys:List (List D)}
  (hi:s.h i=(ver,.row e sz xs true)) (hj:xs[j]? = some x) (ho:x[off]? = some (.sl ys)) (hl:lab ((slP P e).drop off)=some (e',sz')) (hL:w0.Q.L=slP P) (hlent:w0.Q.lent=none\/(7059000∈kh/\i≠7059000/\K≠7059000)) (hK0 : ∀b,w0.K b->b<base)
  (hiK:i≠K) (hi0:i≠7058000) (hK1:K≠7058000) (hkt : ∀t∈kt,SV.clean base (s.t t)) (hkh : ∀l∈kh,CT.clean base (s.h l).2)
  (h : ∀u,SW P base w0 N c (QQ s kt kh i ver e sz xs j x off K e' sz' ys u) Q):SW P base w0 N c s Q:=λa w ⟨g,R⟩=>by
 obtain ⟨u,R'⟩:=WK R hi hj ho hl hL hlent hK0 hiK hi0 hK1 hkt hkh
 exact h u a w R'
theorem Gho.close {i ver:Nat} {e:TypeId} {sz:Nat} {xs:List (List D)} {j:Nat} {x:List D} {off K vK pv:Nat} {e':TypeId} {sz':Nat} {ys:List (List D)} {u:Value}
  (hi:s.h i=(ver,.row e sz xs true)) (hj:xs[j]? = some x) (ho:x[off]? = some (.val u)) (hp:s.h 7058000=(pv,.pin K vK u)) (hk:s.h K=(vK,.row e' sz' ys true)) (hl:lab ((slP P e).drop off)=some (e',sz')) (hL:w0.Q.L=slP P) (hiK:i≠K) :
  Gho P base w0 N s ((s.fH K (vK,.none)).fH i (ver,.row e sz (xs.set j (x.set off (.sl ys))) true)):=by
 rintro a w ⟨g,R⟩
 have hgL:g.Q.L=slP P:=R.lab.1.trans hL
 have hk2:(s.h K).2 = .row e' sz' ys true:=by rw [hk]
 have hob0:=R.inv.obj 7058000
 rw [show (s.h 7058000).2 = .pin K vK u from by rw [hp]] at hob0
 have hval:g.val K=u:=hob0.2.2 (by rw [hk]) _ _ _ _ hk2
 obtain ⟨S',F,t1,t1b,t2,tS,tF,t3,t4,t5⟩:=R.inv.take hk2
 have T1:kL g { g with S:=S' } s.h (sB s.h K ((s.h K).1,.none)) w w:=kL.drop K S' t1
 rw [show (s.h K).1=vK from by rw [hk]] at T1 t5
 have R1:mJ P base w0 N { g with S:=S' } (s.fH K (vK,.none)) a w ([]++F):=R.sN T1 rfl R.below t5
 have hi':(s.fH K (vK,.none)).h i=(ver,.row e sz xs true):=by rw [St.K7,if_neg hiK];exact hi
 have hi2:((s.fH K (vK,.none)).h i).2 = .row e sz xs true:=by rw [hi']
 have hob:=R1.inv.obj i
 rw [hi2] at hob
 obtain ⟨cells,p1,p2,p3,p4,p5⟩:=hob
 have hof:=p5 rfl
 have hjlt:j<xs.length:=(List.getElem?_eq_some_iff.1 hj).1
 rcases p1.2 with ⟨_,h0⟩ | ⟨gg,cap,cur,c1,c2,c3,c4⟩
 ·omega
 have hlive:live (s.fH K (vK,.none)).h i:=by unfold live;rw [hi2];simp
 have hown:Bj (({ g with S:=S' }:Gh).val i)=some gg:=by rw [c1];rfl
 have hdi:iV (s.fH K (vK,.none)).h i:=⟨e,sz,xs,hi2⟩
 obtain ⟨v1,v2,v3,F1,F2,F3,rfl,hF,hl1,hr1,hr2,hr3⟩:=p3.at_ p2 hj
 obtain ⟨d1,v,d3,Fa,Fb,Fc,rfl,hd1,rfl,hu,hsetc⟩:=bT.at_ (show bT g.Q.L w x (g.Q.L e) v2 F2 from hr2) ho
 have hu':(v=u/\v.oneCell'=true)/\Fb=[]:=by unfold Cx at hu;exact hu
 obtain ⟨⟨rfl,_⟩,rfl⟩:=hu'
 have hset':=hsetc (.sl ys) v F (by rw [hgL,hl,<-hval,<-hgL];exact tS rfl)
 have hpd:=R1.inv.pool_dis i hdi
 have hpo:=R1.inv.pool_own
 rw [List.nil_append] at hpd hpo
 have hnd:=hof.1
 rw [hF] at hnd
 have hnd2:(F1++((Fa++(F++Fc))++F3)).Nodup:=Ok hnd hpo.1 λy hy hy'=>hpd y (by rw [hF];exact hy') hy
 have hin : ∀y∈F1++((Fa++(F++Fc))++F3),y∈F\/y∈({ g with S:=S' }:Gh).fp i:=λy hy=>by rw [hF];simp only [qP,qO,false_or] at hy ⊢;rcases hy with hy | ((hy | hy | hy) | hy)<;>simp [hy]
 have hnS:=R1.inv.mtb i gg hlive hown
 have T2:kL { g with S:=S' } { ({ g with S:=S' }:Gh) with fp:=E8 g.fp i (F1++((Fa++(F++Fc))++F3)) } (s.fH K (vK,.none)).h (sB (s.fH K (vK,.none)).h i (((s.fH K (vK,.none)).h i).1,.row e sz (xs.set j (x.set off (.sl ys))) true)) w w:=
  kL.D4 hnS (λ_ _=>rfl) (by intro e0 sz0 xs0 dp0 hh';cases hh';exact ⟨_,_,hi2⟩) (by intro t0 cs0 hh';cases hh')
 have hrow:dB g.Q.L true w e (xs.set j (x.set off (.sl ys))) (v1++((d1++v::d3)++v3)) (F1++((Fa++(F++Fc))++F3)):=by rw [show xs.set j (x.set off (.sl ys))=xs.take j++([x.set off (.sl ys)]++xs.drop (j+1)) from by rw [List.set_eq_take_append_cons_drop,if_pos hjlt];rfl];exact hr1.append (dB.append (dB.one hset') hr3)
 have I':=R1.inv.D4 (i:=i) (b:=gg) (F:=F1++((Fa++(F++Fc))++F3)) (pool':=[]) (w':=w) hlive hown rfl (λ_ _=>rfl) T2
  ⟨_,by rw [qN];exact p1,(λy hy=>by
   rcases List.mem_or_eq_of_mem_set hy with hy | rfl
   ·exact p2 y hy
   ·rw [qN];exact p2 x (List.mem_of_getElem? hj)),(by
   show dB _ _ _ _ _ _ (E8 g.fp i _ i)
   rw [dS]
   exact hrow),(by
   show ∀y∈E8 g.fp i _ i,S' y
   rw [dS]
   intro y hy
   rcases hin y hy with h | h
   ·exact t3 y h
   ·exact p4 y h),(by
   intro _
   show Ac base w (E8 g.fp i _ i)
   rw [dS]
   refine ⟨hnd2,λy hy => ?_⟩
   rcases hin y hy with h | h
   ·exact hpo.2 y h
   ·exact hof.2 y h)⟩ qd List.nodup_nil (by
   rintro _ y hy
   refine ⟨?_,qO⟩
   rcases hin y hy with h | h
   ·exact .inl (by simpa using h)
   ·exact .inr ⟨hdi,h⟩)
 rw [show ((s.fH K (vK,.none)).h i).1=ver from by rw [hi']] at T2 I'
 exact ⟨_,R1.sN T2 rfl R1.below I'⟩
end
end Go.Sh
namespace Go.Sh
open Go.RowKit
def WO (B:Nat) (d:D):SC:=if d.flat=true then .dat d else .old B d none
def Sb (B:Nat) (args:List (Bool×List D)):St:=
 { t:=λi=>match args[i]? with | some (ag,ds)=>.v ag (ds.map (WO B)) | none=>.undef,h:=λ_=>(0,.none) }
theorem Zn (B:Nat) (args:List (Bool×List D)) (i:Nat):(Sb B args).t i=match args[i]? with | some (ag,ds)=>.v ag (ds.map (WO B)) | none=>.undef:=rfl
theorem Yy (B:Nat) (args:List (Bool×List D)) (i:Nat):(Sb B args).h i=(0,.none):=rfl
theorem Wj (B:Nat) (k:IntKind) (n:Int):WO B (.int k n) = .dat (.int k n):=rfl
theorem UE (B:Nat) (b:Bool):WO B (.bool b) = .dat (.bool b):=rfl
theorem Xo (B:Nat) (b:ByteArray):WO B (.str b) = .dat (.str b):=rfl
theorem Yx (B:Nat) (xs:List (List D)):WO B (.sl xs) = .old B (.sl xs) none:=rfl
theorem aT.S2 {g:Gh} {h:Heap} {w:World} {B:Nat} : ∀ {ds:List D} {vs:List Value} {F:List Nat},aJ w ds vs F->(∀b∈F,g.S b/\b<B)->aT g h w (ds.map (WO B)) vs
 | [],vs,F,hr,_=>by simp only [aJ] at hr;exact hr.1
 | d::ds,vs,F,hr,hF=>by simp only [aJ] at hr;obtain ⟨v,vs',F1,F2,rfl,rfl,h3,h4⟩:=hr;refine ⟨v,vs',rfl,?_,aT.S2 h4 λb hb=>hF b (by simp [hb])⟩;unfold WO;split;(exact ⟨F1,h3,λb hb=>(hF b (by simp [hb])).1⟩);·exact ⟨F1,h3,λb hb=>hF b (by simp [hb]),λ_ e=>by cases e⟩
def Tr (rs:List (Bool×List RC)):Bool:=rs.all λr=>r.2.all λc=>match c with | .own _ _ _=>false | _=>true
theorem Gg {L L':TL} {base:Nat} {w:World} {X:Nat->Prop} : ∀ {vs:List Value} {rs:List RC} {F:List Nat},(rs.all λc=>match c with | .own _ _ _=>false | _=>true)=true->pX L base w X vs rs F->pX L' base w X vs rs F
 | [],[],F,_,h=>h
 | v::vs,.any d::rs,F,hn,h=>by simp only [List.all_cons,Bool.true_and] at hn;exact ⟨h.1,Gg hn h.2⟩
 | v::vs,.ro d::rs,F,hn,h=>by simp only [List.all_cons,Bool.true_and] at hn;exact ⟨h.1,Gg hn h.2⟩
 | v::vs,.own e sz xs::rs,F,hn,h=>by simp at hn
 | v::vs,.edit q::rs,F,_,h=>h.elim
 | [],_::_,F,_,h=>h.elim
 | _::_,[],F,_,h=>h.elim
theorem Rb {L L':TL} {base:Nat} {w:World} {X:Nat->Prop} {v:Value} {r:Bool×List RC} {F:List Nat} (hn:(r.2.all λc=>match c with | .own _ _ _=>false | _=>true)=true) (h:Lk L base w X v r F):Lk L' base w X v r F:=by
 obtain ⟨ag,rs⟩:=r
 cases ag with
 | true=>obtain ⟨cs,rfl,h⟩:=h;exact ⟨cs,rfl,Gg hn h⟩
 | false=>exact Gg hn h
theorem Lh {L L':TL} {base:Nat} {w:World} {X:Nat->Prop} : ∀ {vs:List Value} {rs:List (Bool×List RC)} {F:List Nat},Tr rs=true->CI L base w X vs rs F->CI L' base w X vs rs F
 | [],[],F,_,h=>h
 | v::vs,r::rs,F,hn,⟨F1,F2,h0,h1,h2⟩=>by simp only [Tr,List.all_cons,qM] at hn;exact ⟨F1,F2,h0,Rb hn.1 h1,Lh hn.2 h2⟩
 | [],_::_,F,_,h=>h.elim
 | _::_,[],F,_,h=>h.elim
theorem VL {L L':TL} {base:Nat} {w:World} {v:Value} {rs:List (Bool×List RC)} {Q:Nat->Prop} (hn:Tr rs=true) (h:JB L base w v rs Q):JB L' base w v rs Q:=by
 obtain ⟨F,X,h1,h2,h3,h4⟩:=h
 refine ⟨F,X,h1,h2,h3,?_⟩
 match rs,hn,h4 with
 | [r],hn,h4 =>
  simp only [Tr,List.all_cons,List.all_nil,Bool.and_true] at hn
  exact Rb hn h4
 | [],hn,h4=>obtain ⟨vs,e,h⟩:=h4;exact ⟨vs,e,Lh hn h⟩
 | a::b::rs,hn,h4=>obtain ⟨vs,e,h⟩:=h4;exact ⟨vs,e,Lh hn h⟩
theorem YW {P : Program} (L : TL) {f : FuncId} {fn : Func} {c : Code} {args : List (Bool × List D)} {rs : List (Bool × List RC)} {N : Nat} {vars : List ResultVar} (hf : P.funcs[f]? = some fn) (hb : fn.body = some c) (hN : fn.ntmps = N) (hv : fn.results.toList = vars) (hnm : (fn.name == "runtime.NumGoroutine") = false) (hn : args.length <= N) (hL : L = slP P \/ (L = Sx /\ Tr rs = true))
  (h : ∀(base:Nat) (wd:World×(Nat->Prop)),SW P base ⟨wd.1,⟨wd.2,base,none,L⟩,noK,PT⟩ N c (Sb base args) (aft P base ⟨wd.1,⟨wd.2,base,none,L⟩,noK,PT⟩ N (Ret (fN P) vars rs) [])):kR P f args rs:=by
 subst hN hv
 refine .inl ⟨⟨fn,c,hf,hb,hnm⟩,λw vs Fa ha => ?_⟩
 obtain ⟨hlen,hat⟩:=args_at ha
 have hlen':vs.size=args.length:=by simpa using hlen
 refine calls_of_wp hf hb ?_
 have hFlt:=He ha
 let g:Gh:={ val:=λ_=>undef,fp:=λ_=>[],S:=λb=>b∈Fa,Q:=⟨λb=>b∈Fa,w.heap.size,none,L⟩ }
 have R:Rel P w.heap.size ⟨w,⟨λb=>b∈Fa,w.heap.size,none,L⟩,noK,PT⟩ fn.ntmps (Sb w.heap.size args) { tmps:=vs++Array.replicate (fn.ntmps-vs.size) undef,defers:=[] } w:=by
  refine ⟨g,rfl,qc,Below.refl _ _,⟨λ_ x=>x,rfl,λ_ hx=>(by cases hx)⟩,λ_ x=>x.elim,⟨Nat.le_refl _,λ_ x _=>x,hFlt,λi=>trivial,λi b hl=>absurd rfl hl,λi j b _ hl=>absurd rfl hl,?_,Ac.nil _ _,qd,λi hd=>(by obtain ⟨_,_,_,hd⟩:=hd;cases hd),Nat.le_refl _⟩,λt => ?_,⟨rfl,hL.imp id And.left⟩,λ_=>trivial⟩
  ·rintro i j _ ⟨_,_,_,hd⟩;cases hd
  ·show uN g _ w (match args[t]? with | some (ag,ds)=>.v ag (ds.map (WO w.heap.size)) | none=>.undef) _
   cases ht:args[t]? with
   | none =>
    have hge:args.length<=t:=List.getElem?_eq_none_iff.1 ht
    show _=undef
    simp only [Array.getD_eq_getD_getElem?,Array.getElem?_append]
    rw [if_neg qb]
    by_cases h2:t-vs.size<fn.ntmps-vs.size
    ·simp [h2]
    ·rw [Array.getElem?_eq_none qc];rfl
   | some x =>
    obtain ⟨v,Fi,h1,h2,hFi⟩:=hat t x ht
    have hlt:t<vs.size:=by have:=(List.getElem?_eq_some_iff.1 ht).1;omega
    have hv:(vs++Array.replicate (fn.ntmps-vs.size) undef).getD t undef=v:=by
     simp only [Array.getD_eq_getD_getElem?,Array.getElem?_append]
     rw [if_pos hlt]
     have:vs[t]? = some v:=by simpa using h1
     rw [this];rfl
    rw [hv]
    obtain ⟨ag,ds⟩:=x
    cases ag with
    | false =>
     obtain ⟨d,rfl,hr⟩:=h2
     have hcs:aJ w [d] [v] Fi:=by simp only [aJ];exact ⟨v,[],Fi,[],rfl,qd,hr,qd⟩
     exact aT.S2 hcs λb hb=>⟨hFi b hb,hFlt b (hFi b hb)⟩
    | true =>
     obtain ⟨cs,rfl,hr⟩:=h2
     exact ⟨cs,rfl,aT.S2 hr λb hb=>⟨hFi b hb,hFlt b (hFi b hb)⟩⟩
 refine wp_mono (h w.heap.size (w,λb=>b∈Fa) _ w R) ?_
 rintro e a' w' ⟨s',h1,R'⟩
 have fin:Ret (fN P) fn.results.toList rs s'->a'.defers=[] /\ ∃v,(results fn a'.tmps).run P w' = .ok v w' /\ ∃v',Ending.returned v = .returned v'/\JB (slP P) w.heap.size w' v' rs (λb=>b∈Fa)/\Below w.heap.size w w':=by intro hr;obtain ⟨v,k1,k2⟩:=Qi R' hr;obtain ⟨g',R''⟩:=R';refine ⟨R''.defers,v,k1,v,rfl,?_,R''.below⟩;rcases hL with rfl | ⟨_,hno⟩;(exact k2);·exact VL hno k2
 cases e with
 | normal=>exact fin h1
 | ret=>exact fin h1
 | exit id=>exact h1.elim
 | goto l=>exact h1.elim
 | panic c=>exact h1.elim
 | outgrown=>exact h1.elim
theorem YE {P : Program} {f : FuncId} {fn : Func} {c : Code} {args : List (Bool × List D)} {rs : List (Bool × List RC)} {N : Nat} {vars : List ResultVar} (hf : P.funcs[f]? = some fn) (hb : fn.body = some c) (hN : fn.ntmps = N) (hv : fn.results.toList = vars) (hnm : (fn.name == "runtime.NumGoroutine") = false) (hn : args.length <= N)
  (h : ∀(base:Nat) (wd:World×(Nat->Prop)),SW P base ⟨wd.1,⟨wd.2,base,none,slP P⟩,noK,PT⟩ N c (Sb base args) (aft P base ⟨wd.1,⟨wd.2,base,none,slP P⟩,noK,PT⟩ N (Ret (fN P) vars rs) [])):kR P f args rs:=YW (slP P) hf hb hN hv hnm hn (.inl rfl) h
theorem Up (B:Nat) (d:D) (u:Option Value) (cs:List SC) (k:List D->Prog):Bt (.old B d u::cs) k=Bt cs λds=>k (d::ds):=rfl
theorem Vo (b:Nat) (d:D):SC.clean b (.dat d)=(d.flat=true):=rfl
theorem Vn (b B:Nat) (d:D) (u:Option Value):SC.clean b (.old B d u)=(B<=b):=rfl
theorem UD (b:Nat):SC.clean b .nil=True:=rfl
theorem Tp (b i v:Nat):SC.clean b (.row i v)=True:=rfl
theorem W4 (b i v o:Nat):SC.clean b (.bp i v o)=True:=rfl
theorem Yv (b:Nat) (ag:Bool) (cs:List SC):SV.clean b (.v ag cs) = ∀c∈cs,SC.clean b c:=rfl
theorem T6 (b:Nat) (xs:List (Bool×List SC)):SV.clean b (.tup xs) = ∀x∈xs,∀c∈x.2,SC.clean b c:=rfl
theorem Td (b:Nat):SV.clean b .unk=True:=rfl
theorem PV (b:Nat):SV.clean b .undef=True:=rfl
theorem RX (b:Nat):CT.clean b .none=True:=rfl
theorem UR (b:Nat) (t:TypeId) (cs:List SC):CT.clean b (.box t cs) = ∀c∈cs,SC.clean b c:=rfl
theorem RP (b:Nat) (e:TypeId) (sz:Nat) (xs:List (List D)) (dp:Bool):CT.clean b (.row e sz xs dp)=(dp=true):=rfl
theorem aGY {α:Type} {p:α->Prop} {a:α} {l:List α}:(∀x∈a::l,p x)=(p a /\ ∀x∈l,p x):=by simp
theorem aGb {α:Type} {p:α->Prop}:(∀x∈([]:List α),p x)=True:=by simp
theorem Wl (k:IntKind) (n:Int):D.flat (.int k n)=true:=rfl
theorem T0 (b:Bool):D.flat (.bool b)=true:=rfl
theorem Wx (b:ByteArray):D.flat (.str b)=true:=rfl
theorem Yh (b:Nat):(b<=b)=True:=by simp
theorem exI {P:Program} {T:N3} {N:Nat} {ops:Array Oper} {l:List Oper} {s s3:St} {K:St->Prop} (h:sO P T N ops l s (Is s3)) (hk:K s3):sO P T N ops l s K:=
 DX l (λτ hτ=>by rw [show τ=s3 from hτ];exact hk) h
theorem V2 (b i v j o:Nat):SC.clean b (.rp i v j o)=True:=rfl
theorem U7 {α:Type} {l:List α} {i:Nat} {a b:α} (h:l[i]? = some b):(l.set i a)[i]? = some a:=by rw [List.getElem?_set_self (List.getElem?_eq_some_iff.1 h).1]
def aBq:=PLift.up (qI @Vo (qI @Vn (qI @UD (qI @Tp (qI @W4 (qI @V2 (qI @Yv (qI @T6 (qI @Td (qI @PV (qI @RX (qI @UR (qI @RP (qI @aGY (qI @aGb (qI @Wl (qI @T0 (qI @Wx (qI @Yh (qI and_true (qI true_and and_self)))))))))))))))))))))
theorem LC:type_of% aBq.down:=aBq.down
def aB8:=PLift.up (qI @S1 (qI @Jd (qI @Zn (qI @Yy (qI @Wj (qI @UE (qI @Xo (qI @Yx (qI @Up (qI @Rx (qI @Wd (qI @List.set_set.{0} @List.length_set.{0}))))))))))))
theorem LN:type_of% aB8.down:=aB8.down
end Go.Sh
namespace Go.Sh
open Go.RowKit
section
variable {P:Program} {base N:Nat} {w0:W0} {s:St}
theorem N7 {g:Gh} {a:Act} {w:World} {j K vj n:Nat} {e:TypeId} {sz:Nat} {xs ys:List (List D)} {dp:Bool} {v:Value} (R:mJ P base w0 N g s a w []) (h2:s.h j=(vj,.row e sz xs dp)) (hn:n<=xs.length) (hys:xs.take n=ys) (hv:Ae g s.h w (.part j vj 0 n) v) :
  ∃g',mJ P base w0 N g' ((s.fH j (vj,.none)).fH K ((s.h K).1+1,.row e sz ys dp)) a w []/\kL g g' s.h ((s.fH j (vj,.none)).fH K ((s.h K).1+1,.row e sz ys dp)).h w w /\
   Ae g' ((s.fH j (vj,.none)).fH K ((s.h K).1+1,.row e sz ys dp)).h w (.row K ((s.h K).1+1)) v:=by
 have hj1:(s.h j).1=vj:=by rw [h2]
 have hj2:(s.h j).2 = .row e sz xs dp:=by rw [h2]
 have hob:=R.inv.obj j
 rw [hj2] at hob
 obtain ⟨cells,p1,p2,p3,p4,p5⟩:=hob
 obtain ⟨I1,hfr⟩:=R.inv.C3 hj2
 rw [hj1] at I1 hfr
 have T1:kL g g s.h (sB s.h j (vj,.none)) w w:=by have:=kL.drop (g:=g) (h:=s.h) (w:=w) j g.S λ_ x=>x;rw [hj1] at this;exact this
 have hver:(sB s.h j (vj,.none) K).1=(s.h K).1:=by by_cases hk:K=j;(subst hk;rw [bM,hj1]);·rw [fO _ _ _ _ hk]
 obtain ⟨hv0,_,hv⟩:=hv
 obtain ⟨ad,c,rfl,k2,_,k4⟩:=hv hj1 e sz xs dp hj2
 obtain ⟨m,k5,k6⟩:=k4 rfl
 have hyl:ys.length=n:=by rw [<-hys,qT,Nat.min_eq_left hn]
 have hsp:dB g.Q.L dp w e (xs.take n++xs.drop n) cells (g.fp j):=by rw [List.take_append_drop];exact p3
 obtain ⟨v1,v2,F1,F2,hce,hF,q1,q2⟩:=dB.split hsp
 rw [hys] at q1
 have hxl : ∀y∈ys,y.length=sz:=λy hy=>p2 y (List.mem_of_mem_take (hys ▸ hy))
 have hl1:v1.length=n*sz:=by rw [<-hyl];exact aV.length q1.rep hxl
 have ho:w.ownsRow base e sz (.slice ad n c) ys.length v1:=by
  rw [hyl]
  refine ⟨hl1,?_⟩
  rcases p1.2 with ⟨h6,h7⟩ | ⟨gg,cap,cur,h6,h7,h8,h9,aa,ae,af⟩
  ·rw [k5] at h6
   simp at h6
   obtain ⟨rfl,rfl,rfl⟩:=h6
   have:n=0:=by omega
   subst this
   exact .inl ⟨rfl,rfl⟩
  ·rw [k5] at h6
   simp at h6
   obtain ⟨rfl,rfl,rfl⟩:=h6
   refine .inr ⟨gg,c,cur,rfl,h7,h8,k2,aa,ae,?_⟩
   have:(cur.toList.take (xs.length*sz)).take (n*sz)=v1:=by rw [af,hce];exact List.take_left' hl1
   rw [List.take_take,Nat.min_eq_left (Nat.mul_le_mul_right sz hn)] at this
   exact this
 have hob2 : ∀b,Bj (.slice ad n c)=some b->Bj (g.val j)=some b:=by intro b hb;rw [k5];cases ad<;>first | (simp [Bj] at hb;done) | simpa [Bj] using hb
 have I2:=I1.Dc (i:=K) (v:=.slice ad n c) (e:=e) (sz:=sz) (xs:=ys) (dp:=dp) (cells:=v1) (F:=F1) (pool':=[]) ho hxl q1 (λb hb=>p4 b (by rw [hF];simp [hb])) (λb hb=>hfr b (hob2 b hb)) qd List.nodup_nil (λhd=>by subst hd;simp only [if_true,List.nil_append];have hnd:=(p5 rfl).1;rw [hF] at hnd ⊢;exact ⟨(List.nodup_append.1 hnd).1,λb hb=>⟨by simp [hb],qd⟩⟩)
 have T2:=kL.create (g:=g) (h:=sB s.h j (vj,.none)) (w:=w) K (.slice ad n c) F1 (.row e sz ys dp)
 rw [hver] at I2 T2
 refine ⟨_,R.sN (T1.trans T2) rfl R.below I2,T1.trans T2,hv0,?_,?_⟩
 ·show _<=(sB _ K _ K).1;rw [bM];exact Nat.le_refl _
 ·intro _ e' sz' xs' dp' _;show _=E8 g.val K (.slice ad n c) K;rw [dS]
theorem aT.Xw {g g':Gh} {h h':Heap} {w:World} (T:kL g g' h h' w w) {y:SC} : ∀ {cs:List SC} {vs:List Value} (c:Nat) (x:SC) (v:Value),aT g h w cs vs->cs[c]? = some x->vs[c]? = some v->Ae g' h' w y v->aT g' h' w (cs.set c y) vs
 | [],vs,c,x,v,hc,hx,_,_=>by simp at hx
 | z::cs,vs,0,x,v,hc,hx,hv,hy=>by obtain ⟨v0,vs',rfl,h1,h2⟩:=hc;simp at hv;subst hv;exact ⟨v0,vs',rfl,hy,aT.sN T h2⟩
 | z::cs,vs,c+1,x,v,hc,hx,hv,hy=>by obtain ⟨v0,vs',rfl,h1,h2⟩:=hc;exact ⟨v0,vs',rfl,Ae.sN T h1,aT.Xw T c x v h2 (by simpa using hx) (by simpa using hv) hy⟩
theorem aT.get {g:Gh} {h:Heap} {w:World} : ∀ {cs:List SC} {vs:List Value} (c:Nat) (x:SC),aT g h w cs vs->cs[c]? = some x -> ∃v,vs[c]? = some v/\Ae g h w x v
 | [],vs,c,x,hc,hx=>by simp at hx
 | z::cs,vs,0,x,hc,hx=>by obtain ⟨v0,vs',rfl,h1,h2⟩:=hc;simp at hx;subst hx;exact ⟨v0,rfl,h1⟩
 | z::cs,vs,c+1,x,hc,hx=>by obtain ⟨v0,vs',rfl,h1,h2⟩:=hc;exact aT.get c x h2 (by simpa using hx)
theorem Gho.Zj {b vb c j K vj n:Nat} {t:TypeId} {cells:List SC} {e:TypeId} {sz:Nat} {xs:List (List D)} {dp:Bool} (ys:List (List D)) (h0:s.h b=(vb,.box t cells)) (h1:cells[c]? = some (.part j vj 0 n)) (h2:s.h j=(vj,.row e sz xs dp)) (hk:b≠K) (hn:n<=xs.length) (hys:xs.take n=ys) :
  Gho P base w0 N s (((s.fH j (vj,.none)).fH K ((s.h K).1+1,.row e sz ys dp)).fH b (vb,.box t (cells.set c (.row K ((s.h K).1+1))))):=by
 rintro a w ⟨g,R⟩
 have hjb:b≠j:=λe=>by rw [e,h2] at h0;cases h0
 have hob:=R.inv.obj b
 rw [show (s.h b).2 = .box t cells from by rw [h0]] at hob
 obtain ⟨b',vals,h3,h4,h5,h6⟩:=hob
 obtain ⟨v,k1,k2⟩:=aT.get c _ h6 h1
 obtain ⟨g',R',T,hc⟩:=N7 (K:=K) R h2 hn hys k2
 have h0':((s.fH j (vj,.none)).fH K ((s.h K).1+1,.row e sz ys dp)).h b=(vb,.box t cells):=by show sB (sB s.h j _) K _ b=_;rw [fO _ _ _ _ hk,fO _ _ _ _ hjb,h0]
 have hv:g'.val b=g.val b:=(T.box b t cells (by rw [h0',h0]) (by rw [h0'])).1
 exact XC R' h0' (hv.trans h3) h5 (aT.Xw T c _ v h6 h1 k1 hc)
theorem Gho.Zq {i j K vj n:Nat} {e:TypeId} {sz:Nat} {xs:List (List D)} {dp:Bool} (ys:List (List D)) (h1:s.t i = .v false [.part j vj 0 n]) (h2:s.h j=(vj,.row e sz xs dp)) (hn:n<=xs.length) (hys:xs.take n=ys) :
  Gho P base w0 N s (((s.fH j (vj,.none)).fH K ((s.h K).1+1,.row e sz ys dp)).Gu i (.v false [.row K ((s.h K).1+1)])):=by
 rintro a w ⟨g,R⟩
 have ht:=R.tmp i
 rw [h1] at ht
 obtain ⟨g',R',T,hc⟩:=N7 (K:=K) R h2 hn hys (eE ht)
 exact ⟨g',NW R' ⟨_,[],rfl,hc,rfl⟩⟩
theorem SZ.mk {P:Program} {T:N3} {vars:List ResultVar} {ops:Array Oper} {n d:Nat} {K:St->Prop} {l:List (Bool×List SC)} {s s1:St} (h1:Dw T s vars=some l) (h2:sO P T N ops (ops.toList.drop (n+1)) (aAD s d (KQ l)) (Is s1)) (h3:K s1):SZ P T vars N ops n d K s:=⟨l,h1,exI h2 h3⟩
end
end Go.Sh
namespace Go.Sh
open Go.RowKit
section
variable {P:Program} {base N:Nat} {w0:W0} {Z:St->Prop} {k:List Fr} {s:St}
theorem wT {x y:Code} (J:St->Prop) (h1:SW P base w0 N x s (aft P base w0 N Z (.inv J::k))) (h2 : ∀s',J s'->SW P base w0 N y s' (aft P base w0 N Z k)):SW P base w0 N (.seq x y) s (aft P base w0 N Z k):=by
 refine sq λa w R=>wp_mono (h1 a w R) ?_
 rintro e a' w' ⟨s',k1,k2⟩
 refine ⟨s',?_,k2⟩
 cases e with
 | normal=>exact h2 s' k1
 | _=>exact k1
end
end Go.Sh
