/-
  Helper text. No conditions.
-/
import Derived.Test.YtblghjofnielnaaShC
import Derived.ProofKit
import Derived.OpenShut
import Derived.ShutString
import Derived.Deep.Slices
import Derived.Carry
namespace Go.Sh
set_option linter.unusedVariables false
set_option linter.unusedSimpArgs false
open Go.RowKit
theorem qJ (args:List (Bool×List D)) (i:Nat):(init args).t i=match args[i]? with | some (ag,ds)=>.v ag (ds.map .dat) | none=>.undef:=rfl
theorem qS (args:List (Bool×List D)) (i:Nat):(init args).h i=(0,.none):=rfl
def aAt (v:SV) (A B:Prop):Prop:=match v with
 | .v false [.dat (.bool b)]=>(b=true→A)∧(b=false→B)
 | _=>False
theorem sL (b:Bool) (A B:Prop):aAt (.v false [.dat (.bool b)]) A B=((b=true→A)∧(b=false→B)):=rfl
theorem hH {n:Int} (h1 : -9223372036854775808≤n) (h2:n≤9223372036854775807):IntKind.i64.wrap n=n:=by rw [IntKind.wrap_i64];omega
attribute [simp] eI nF pH nQ kR iW kS gS gE evG eR vOp zV put ex exF cst one aft St.jV St.rF St.qP St.lR eK gD iI fY eF gN cC fM fG fC rows bJ gG lenOf iZ jY iH cW eG fN lY D.flat rid TI.agg qJ qS fQ gJ qC kY jA sL
end Go.Sh
namespace Go.Sh
set_option linter.unusedVariables false
set_option linter.unusedSimpArgs false
open Go.RowKit Go.ChangeShapes Go.WideShapes Go.Deep
inductive Shp where
 | int (k:IntKind)
 | bool
 | str
 | sl (es:List Shp)
def kQ (P:Program) (f:TypeId→Option (List Shp)):Nat→List Field→Option (List Shp)
 | _,[]=>some []
 | off,x::xs=>if x.offset=off then (match f x.type,kQ P f (off+P.cellsOf x.type) xs with
   | some a,some b=>if a.length=P.cellsOf x.type then some (a++b) else none
   | _,_=>none) else none
def xL (P:Program):Nat→TypeId→Option (List Shp)
 | 0,_=>none
 | n+1,t=>match P.underlying t with
  | some (.int k)=>some [.int k]
  | some .bool=>some [.bool]
  | some .string=>some [.str]
  | some (.slice e)=>match xL P n e with
   | some es=>if es.length=P.cellsOf e∧0<es.length then some [.sl es] else none
   | none=>none
  | some (.struct fs)=>match kQ P (xL P n) 0 fs.toList with
   | some es=>if es.length=P.cellsOf t then some es else none
   | none=>none
  | _=>none
mutual
def Has:Shp→D→Prop
 | .int k,d=>∃n,d = .int k n∧(Lit.int k n).wf=true
 | .bool,d=>∃b,d = .bool b
 | .str,d=>∃s,d = .str s∧s.size≤maxLen
 | .sl es,d=>∃xs,d = .sl xs∧xs.length≤maxLen ∧ ∀x∈xs,kK es x
def kK:List Shp→List D→Prop
 | [],ds=>ds=[]
 | e::es,ds=>∃d ds',ds=d::ds'∧Has e d∧kK es ds'
end
theorem kK.append : ∀ {a b:List Shp} {x y:List D},kK a x→kK b y→kK (a++b) (x++y)
 | [],b,x,y,h,k=>by simp only [kK] at h;subst h;exact k
 | e::a,b,x,y,h,k=>by
  simp only [kK] at h
  obtain ⟨d,ds',rfl,h1,h2⟩:=h
  simp only [List.cons_append,kK]
  exact ⟨d,ds'++y,rfl,h1,kK.append h2 k⟩
theorem kK.length : ∀ {a:List Shp} {x:List D},kK a x→x.length=a.length
 | [],x,h=>by simp only [kK] at h;subst h;rfl
 | e::a,x,h=>by
  simp only [kK] at h
  obtain ⟨d,ds',rfl,h1,h2⟩:=h
  simp [kK.length h2]
section
variable {H:Type} {enc:TypeId×Value→H} {P:Program} {w:World} {base:Nat} {spare:Nat→Bool} {held:Bool}
theorem fJ {w:World} {d:D} {v:Value} {F:List Nat} (h:Rep w d v F):aA w [d] [v] F:=by
 simp only [aA]
 exact ⟨v,[],F,[],rfl,by simp,h,rfl,rfl⟩
theorem jP {e:Shp} {d:D} (h:Has e d):kK [e] [d]:=by
 simp only [kK]
 exact ⟨d,[],rfl,h,rfl⟩
theorem oL {n m:Nat} (ih : ∀(t:TypeId) (shs:List Shp) (cs:List Value) (x:DataW H×List MemPlace),xL P n t=some shs→DataW.trod enc P w base spare held m t cs=some x → ∃ds F,aA w ds cs F∧kK shs ds) :
  ∀(fs:List Field) (off:Nat) (shs:List Shp) (cs:List Value),kQ P (xL P n) off fs=some shs→off+shs.length=cs.length →
   (∀f∈fs,∃x,DataW.trod enc P w base spare held m f.type ((cs.drop f.offset).take (P.cellsOf f.type))=some x) → ∃ds F,aA w ds (cs.drop off) F∧kK shs ds
 | [],off,shs,cs,h,hl,_=>by
  simp [kQ] at h
  subst h
  refine ⟨[],[],?_,by simp [kK]⟩
  rw [List.drop_of_length_le (by simpa using Nat.le_of_eq hl.symm)]
  simp [aA]
 | f::fs,off,shs,cs,h,hl,hf=>by
  simp only [kQ] at h
  split at h
  ·rename_i ho
   split at h
   ·rename_i a b ha hb
    split at h
    ·rename_i hlen
     cases h
     obtain ⟨x,hx⟩:=hf f (by simp)
     obtain ⟨d1,F1,k1,k2⟩:=ih _ _ _ _ ha hx
     obtain ⟨d2,F2,k3,k4⟩:=oL ih fs _ b cs hb (by rw [List.length_append,hlen] at hl;omega) fun y hy=>hf y (by simp [hy])
     refine ⟨d1++d2,F1++F2,?_,k2.append k4⟩
     have:cs.drop off=(cs.drop f.offset).take (P.cellsOf f.type)++cs.drop (off+P.cellsOf f.type):=by
      rw [ho,←List.drop_drop,List.take_append_drop]
     rw [this]
     exact k1.append k3
    ·cases h
   ·cases h
  ·cases h
theorem wX {a:Addr} {v:Value} (h:w.cell? a=some v):a=⟨a.block,a.off,none⟩:=by
 obtain ⟨b,o,s⟩:=a
 unfold World.cell? at h
 cases s with
 | none=>rfl
 | some s =>
  split at h
  ·simp at h
  ·cases h
theorem rA {es:List Shp} {C:Nat} (hC:es.length=C) {a:Addr} : ∀(len:Nat),(∀i,i<len → ∃cs' ds F,cs'.length=C∧(∀j,j<C→w.cell? (a.add (i*C+j))=cs'[j]?)∧aA w ds cs' F∧kK es ds) →
  ∃xs cells G,xs.length=len∧(∀x∈xs,kK es x)∧aC w xs cells G∧cells.length=len*C ∧ ∀j,j<len*C→w.cell? (a.add j)=cells[j]?
 | 0,_=>⟨[],[],[],rfl,by simp,by simp [aC],by simp,by simp⟩
 | len+1,h=>by
  obtain ⟨xs,cells,G,h1,h2,h3,h4,h5⟩:=rA hC len fun i hi=>h i (by omega)
  obtain ⟨cs',ds,F,k1,k2,k3,k4⟩:=h len (by omega)
  refine ⟨xs++[ds],cells++cs',G++F,by simp [h1],?_,?_,by rw [List.length_append,h4,k1,Nat.add_mul];omega,?_⟩
  ·intro x hx
   rcases List.mem_append.1 hx with hx | hx
   ·exact h2 x hx
   ·simp at hx;subst hx;exact k4
  ·refine h3.append ?_
   simp only [aC]
   exact ⟨cs',[],F,[],by simp,by simp,k3,rfl,rfl⟩
  ·intro j hj
   rw [Nat.add_mul,Nat.one_mul] at hj
   by_cases hjl:j<len*C
   ·rw [h5 j hjl,List.getElem?_append_left (by omega)]
   ·have:=k2 (j-len*C) (by omega)
    rw [show len*C+(j-len*C)=j from by omega] at this
    rw [this,List.getElem?_append_right (by omega),h4]
theorem pW : ∀(n:Nat) (m:Nat) (t:TypeId) (shs:List Shp) (cs:List Value) (x:DataW H×List MemPlace),xL P n t=some shs→DataW.trod enc P w base spare held m t cs=some x → ∃ds F,aA w ds cs F∧kK shs ds
 | 0,_,_,_,_,_,h,_=>by simp [xL] at h
 | n+1,m,t,shs,cs,x,h,hx=>by
  simp only [xL] at h
  split at h
  ·rename_i k hu
   cases h
   obtain ⟨v,rfl,_,hw⟩:=DataW.trod_int hu hx
   exact ⟨[.int k v],[],fJ (by simp [Rep]),jP (by simp [Has,hw])⟩
  ·rename_i hu
   cases h
   obtain ⟨v,rfl,_⟩:=DataW.trod_bool hu hx
   exact ⟨[.bool v],[],fJ (by simp [Rep]),jP (by simp [Has])⟩
  ·rename_i hu
   cases h
   obtain ⟨v,rfl,_,hw⟩:=DataW.trod_string hu hx
   exact ⟨[.str v],[],fJ (by simp [Rep]),jP (by simp [Has,hw])⟩
  ·rename_i e hu
   split at h
   ·rename_i es hes
    split at h
    ·rename_i hc
     cases h
     rcases open_slice hu hx with ⟨rfl,_⟩ | ⟨a,len,cap,mm,fu,Dd,Pl,rfl,h1,h2,h3,h4,_,h6⟩
     ·refine ⟨[.sl []],[],?_,?_⟩
      ·refine fJ ?_
       simp only [Rep]
       exact ⟨none,0,0,rfl,rfl,Nat.le_refl _,.inl (by simp)⟩
      ·refine jP ?_
       simp only [Has]
       exact ⟨[],rfl,by simp,by simp⟩
     ·have hle:len≤mm:=by rw [h4];split<;>omega
      obtain ⟨xs,cells,G,k1,k2,k3,k4,k5⟩:=rA (w:=w) hc.1 (a:=a) len fun i hi=>by
       obtain ⟨cs',q1,q2⟩:=h6 i (by omega)
       obtain ⟨_,q3,q4⟩:=World.cells?_some q1
       obtain ⟨ds,F,q5,q6⟩:=pW n fu e es cs' _ hes q2
       exact ⟨cs',ds,F,q3,fun j hj=>by rw [←Go.Deep.add_add];exact q4 j hj,q5,q6⟩
      rcases Nat.eq_zero_or_pos len with h0 | h0
      ·have hxs:xs=[]:=List.eq_nil_of_length_eq_zero (by omega)
       subst hxs
       refine ⟨[.sl []],[],?_,?_⟩
       ·refine fJ ?_
        simp only [Rep]
        exact ⟨some a,len,cap,rfl,by simpa using h0,h2,.inl ⟨h0,trivial⟩⟩
       ·refine jP ?_
        simp only [Has]
        exact ⟨[],rfl,by simp,by simp⟩
      ·have hpos:0<len*P.cellsOf e:=Nat.mul_pos h0 (by omega)
       have hc0:=k5 0 hpos
       have hc0':cells[0]? = some (cells[0]'(by omega)):=List.getElem?_eq_getElem (by omega)
       have hadd0:a.add 0=a:=by simp [Addr.add]
       rw [hadd0,hc0'] at hc0
       have ha:=wX hc0
       refine ⟨[.sl xs],a.block::G,?_,?_⟩
       ·refine fJ ?_
        simp only [Rep]
        refine ⟨some a,len,cap,rfl,k1.symm,h2,.inr ⟨a.block,a.off,cells,P.cellsOf e,G,by rw [←ha],World.block_lt_of_cell? w a hc0,rfl,?_,k4,?_,k3⟩⟩
        ·intro j u hu'
         have hj:j<len*P.cellsOf e:=by rw [←k4];exact (List.getElem?_eq_some_iff.1 hu').1
         have:=k5 j hj
         rw [ha,Addr.add_lit] at this
         rw [this];exact hu'
        ·intro x hx'
         rw [(k2 x hx').length,hc.1]
       ·refine jP ?_
        simp only [Has]
        exact ⟨xs,rfl,by omega,k2⟩
    ·cases h
   ·cases h
  ·rename_i fs hu
   split at h
   ·rename_i es hes
    split at h
    ·rename_i hc
     cases h
     obtain ⟨xs,mm,rfl,_,q1,q2,q3⟩:=DataW.trod_struct hu hx
     have:=oL (m:=mm) (fun t shs cs x=>pW n mm t shs cs x) fs.toList 0 shs cs hes (by omega) (fun f hf=>by
      obtain ⟨i,hi⟩:=List.getElem?_of_mem hf
      have hi':fs[i]? = some f:=by simpa using hi
      have hlt:i<xs.length:=by rw [q2];exact (Array.getElem?_eq_some_iff.1 hi').1
      exact ⟨xs[i],by rw [q3 i f hi',List.getElem?_eq_getElem hlt]⟩)
     simpa using this
    ·cases h
   ·cases h
  ·cases h
theorem aAL {n:Nat} {t:TypeId} {shs:List Shp} {v:Value} {d:DataW H} {p:List MemPlace} {b:Nat} (h:xL P n t=some shs) (hv:Value.okWide P w .any b t v) (ht:DataW.Trod enc P w base spare held t v d p) :
  ∃ds F,kK shs ds∧wG w v (lO P t,ds) F:=by
 obtain ⟨fuel,hf⟩:=id ht
 obtain ⟨ds,F,h1,h2⟩:=pW n fuel t shs _ _ h hf
 refine ⟨ds,F,h2,?_⟩
 have one:v.cells.toList=[v] → ∃d,ds=[d]∧Rep w d v F:=by
  intro hc
  rw [hc] at h1
  have hl:=h1.length
  match ds,h1,hl with
  | [d],h1,_ =>
   simp only [aA] at h1
   obtain ⟨u,us,F1,F2,e1,e2,e3,_,e5⟩:=h1
   simp at e1
   rw [e5,List.append_nil] at e2
   exact ⟨d,rfl,e2 ▸ e1.1 ▸ e3⟩
 cases n with
 | zero=>simp [xL] at h
 | succ n =>
  simp only [xL] at h
  unfold lO
  split at h
  ·rename_i k hu
   obtain ⟨x,rfl,_⟩:=open_int hu hv ht
   rw [hu]
   exact one rfl
  ·rename_i hu
   obtain ⟨x,rfl,_⟩:=open_bool hu hv ht
   rw [hu]
   exact one rfl
  ·rename_i hu
   obtain ⟨x,rfl,_⟩:=Go.ChangeMaps.open_string hu hv ht
   rw [hu]
   exact one rfl
  ·rename_i e hu
   obtain ⟨x,y,z,rfl⟩:=okWide_slice hu hv
   rw [hu]
   exact one rfl
  ·rename_i fs hu
   obtain ⟨cs,rfl,_⟩:=okWide_struct hu hv
   rw [hu]
   exact ⟨cs,rfl,h1⟩
  ·cases h
theorem uY {f:Func} {s:ChangeSpec} {apart fresh handsOn again:Bool} {W W':World} {args:Array Value} {v:Value} {ds gs:List (DataW H)} {before pa pv:List MemPlace}
  (hW:DataW.Whole enc P f.params.toList s.vars apart W args.toList ds gs before)
  (hres : ∀(b:Nat) (sp:Nat→Bool) (hd:Bool),DataW.TrodAll enc P W' b sp hd f.resultTypes.toList (v.resultList f.resultTypes.size) (s.fn H (ds++gs)).results [])
  (hargs : ∀sp:Nat→Bool,(∀p∈before,sp p.block=true)→DataW.TrodAll enc P W' 0 sp true f.params.toList args.toList (s.fn H (ds++gs)).args pa)
  (hvars : ∀sp:Nat→Bool,(∀p∈before,sp p.block=true)→DataW.TrodVars enc P W' sp s.vars (s.fn H (ds++gs)).vars pv)
  (hps:before=pa++pv) (hb:Below W.heap.size W W')
  (hok : ∀(j:Nat) (t:TypeId) (r:Value),f.resultTypes[j]? = some t→(v.resultList f.resultTypes.size)[j]? = some r→Value.okWide P W' .any 0 t r) :
  s.post enc P f apart fresh handsOn again W args v W':=by
 have hlt : ∀p∈before,p.block<W.heap.size:=fun p hp=>hW.lt p hp
 have hold : ∀p∈before,(fun b=>decide (b<W.heap.size)) p.block=true:=fun p hp=>by simpa using hlt p hp
 refine ⟨ds,gs,before,[],pa,pv,hW,hres _ _ _,hargs _ hold,hvars _ hold,World.keptBut_mono (fun p hp=>⟨hp,?_⟩) (hb.frame (· ∈ before)),fun _ => ?_⟩
 ·rw [hps,List.mem_append] at hp
  exact Or.inr hp
 ·obtain ⟨_,_,_,_,_,hz,hn⟩:=hW
  refine ⟨hok,_,_,([]++pa)++pv,⟨[]++pa,pv,trodAll_append (hargs _ (fun _ _=>rfl)) (hres _ _ _),hvars _ (fun _ _=>rfl),rfl,?_,?_⟩,?_⟩
  ·intro b off hp
   have hin:MemPlace.cell b off∈before:=by rw [hps];simpa using hp
   rw [hb.frozen (hlt _ hin)]
   exact hz b off hin
  ·intro ha
   have:=hn ha
   rw [hps] at this
   simpa using this
  ·intro p hp _
   rw [hps]
   simpa using hp
theorem kN (hl:laidOutB P=true) {W W':World} (hb:Below W.heap.size W W') {sp:Nat→Bool} : ∀ {ts:List TypeId} {vs:List Value} {ds:List (DataW H)} {ps:List MemPlace},DataW.TrodAll enc P W 0 (fun _=>true) true ts vs ds ps →
  (∀t∈ts,P.readableRec t=true∧t<P.types.size)→(∀x∈ps,x.block<W.heap.size)→(∀x∈ps,sp x.block=true)→DataW.TrodAll enc P W' 0 sp true ts vs ds ps
 | [],vs,ds,ps,h,_,_,_=>by
  obtain ⟨rfl,rfl,rfl⟩:=trodAll_nil h
  rfl
 | t::ts,vs,ds,ps,h,ht,hlt,hsp=>by
  obtain ⟨v,vs',d,ds',p,q,rfl,rfl,rfl,h1,h2⟩:=trodAll_cons h
  refine ⟨p,q,?_,?_,rfl⟩
  ·exact WideElems.Trod_stays hl (ht t (by simp)).1 (ht t (by simp)).2 h1 (fun x hx=>hb.same (hlt x (by simp [hx]))) (fun x hx=>hsp x (by simp [hx]))
  ·exact kN hl hb h2 (fun u hu=>ht u (by simp [hu])) (fun x hx=>hlt x (by simp [hx])) (fun x hx=>hsp x (by simp [hx]))
def aAJ (P:Program) (n:Nat):List TypeId→List (List Shp)→Prop
 | [],shs=>shs=[]
 | t::ts,shs=>∃s ss,shs=s::ss∧xL P n t=some s∧aAJ P n ts ss
def xU:List (List Shp)→List (List D)→Prop
 | [],ds=>ds=[]
 | s::ss,ds=>∃d ds',ds=d::ds'∧kK s d∧xU ss ds'
def wR (P:Program):List TypeId→List (List D)→List (Bool×List D)
 | t::ts,d::ds=>(lO P t,d)::wR P ts ds
 | _,_=>[]
theorem tM {n:Nat} {W:World} {b:Nat} : ∀ {ts:List TypeId} {vs:List Value} {ds:List (DataW H)} {ps:List MemPlace} {shs:List (List Shp)},aAJ P n ts shs→DataW.TrodAll enc P W 0 (fun _=>true) true ts vs ds ps →
  (∀(j:Nat) t v,ts[j]? = some t→vs[j]? = some v→Value.okWide P W .any b t v) → ∃dss F,xU shs dss∧dU W vs (wR P ts dss) F
 | [],vs,ds,ps,shs,hs,h,hv=>by
  obtain ⟨rfl,rfl,rfl⟩:=trodAll_nil h
  have:shs=[]:=hs
  subst this
  exact ⟨[],[],rfl,rfl⟩
 | t::ts,vs,ds,ps,shs,hs,h,hv=>by
  obtain ⟨s,ss,rfl,hs1,hs2⟩:=hs
  obtain ⟨v,vs',d,ds',p,q,rfl,rfl,rfl,h1,h2⟩:=trodAll_cons h
  obtain ⟨d1,F1,k1,k2⟩:=aAL hs1 (hv 0 t v rfl rfl) h1
  obtain ⟨dss,F2,k3,k4⟩:=tM hs2 h2 fun j t' v' ht hv'=>hv (j+1) t' v' (by simpa using ht) (by simpa using hv')
  exact ⟨d1::dss,F1++F2,⟨d1,dss,rfl,k1,k3⟩,F1,F2,rfl,k2,k4⟩
theorem xT {f:FuncId} {fn:Func} {s:ChangeSpec} {n tb:Nat} {shs:List (List Shp)} (hl:laidOutB P=true) (hvars:s.vars=[]) (hres:fn.resultTypes = #[tb]) (htb:P.underlying tb=some .bool) (hsh:aAJ P n fn.params.toList shs)
  (hread : ∀t∈fn.params.toList,P.readableRec t=true∧t<P.types.size)
  (hfn : ∀(ds:List (DataW H)),ds.length=fn.params.toList.length→s.fn H (ds++[])={ results:=[.lit (.bool true)],args:=ds })
  (hc : ∀dss,xU shs dss→dO P f (wR P fn.params.toList dss) [(false,[.ro (.bool true)])])
  {W:World} {b:Nat} {args:Array Value} {ds gs:List (DataW H)} {before:List MemPlace} (hval : ∀(j:Nat) t v,fn.params[j]? = some t→args[j]? = some v→Value.okWide P W .any b t v)
  (hW:DataW.Whole enc P fn.params.toList s.vars false W args.toList ds gs before) :
  Calls P f args W fun e W'=>∃v,e = .returned v∧s.post enc P fn false true false false W args v W':=by
 have hW':=hW
 obtain ⟨p,q,hA,hV,rfl,hfz,hnd⟩:=hW
 rw [hvars] at hV
 obtain ⟨rfl,rfl⟩:=trodVars_none hV
 obtain ⟨dss,Fa,k1,k2⟩:=tM hsh hA fun j t v ht hv=>hval j t v (by simpa using ht) (by simpa using hv)
 refine (((hc dss k1).old rfl).2 W args Fa k2).mono fun e W' hh => ?_
 obtain ⟨v,rfl,⟨F,X,_,_,_,hr⟩,hb⟩:=hh
 have hv:v = .bool true:=by
  have h1:Rep W' (.bool true) v []:=hr.1
  simp only [Rep] at h1
  exact h1.1
 subst hv
 have hdl:ds.length=fn.params.toList.length:=by
  have : ∀ {ts:List TypeId} {vs:List Value} {ds:List (DataW H)} {ps:List MemPlace},DataW.TrodAll enc P W 0 (fun _=>true) true ts vs ds ps→ds.length=ts.length:=by
   intro ts
   induction ts with
   | nil=>intro vs ds ps h;obtain ⟨_,rfl,_⟩:=trodAll_nil h;rfl
   | cons t ts ih=>intro vs ds ps h;obtain ⟨v,vs',d,ds',p,q,rfl,rfl,rfl,h1,h2⟩:=trodAll_cons h;simp [ih h2]
  exact this hA
 have hfn':=hfn ds hdl
 refine ⟨_,rfl,uY (pa:=p) (pv:=[]) hW' ?_ ?_ ?_ (by simp) hb (ok_one hres rfl (okWide_bool_mk htb _))⟩
 ·intro b sp hd
  rw [hfn',hres]
  exact trodAll_cons_mk (shut_bool htb _) trodAll_mk0
 ·intro sp hsp
  rw [hfn']
  exact kN hl hb hA hread (fun x hx=>hW'.lt x (by simpa using hx)) (fun x hx=>hsp x (by simpa using hx))
 ·intro sp hsp
  rw [hfn',hvars]
  rfl
end
end Go.Sh
namespace Go.Sh
set_option linter.unusedVariables false
set_option linter.unusedSimpArgs false
open Go.RowKit
def Is (s t:St):Prop:=t=s
theorem Is.mk (t:St):Is t t:=rfl
theorem lE {P:Program} {T:sC} {N:Nat} {ops:Array Oper} : ∀(l:List Oper) {s:St} {K K':St→Prop},(∀s,K s→K' s)→gS P T N ops l s K→gS P T N ops l s K'
 | [],_,_,_,h,hh=>h _ hh
 | o::l,s,_,_,h,hh=>kF (evG T N ops o) (fun s' h'=>lE l h h') hh
theorem iN {P:Program} : ∀(p:Prog) {s:St} {R W:List Loc} {K K':St→List Loc→List Loc→Prop},(∀s R W,K s R W→K' s R W)→exF P p s R W K→exF P p s R W K'
 | .done,_,_,_,_,_,h,hh=>h _ _ _ hh
 | .fail,_,_,_,_,_,_,hh=>hh
 | .getT t k,s,_,_,_,_,h,hh=>iN (k (s.t t)) h hh
 | .kD t v k,s,_,_,_,_,h,hh=>iN k h hh
 | .getH i k,s,_,_,_,_,h,hh=>iN (k (s.h i)) h hh
 | .bL i x k,s,_,_,_,_,h,hh=>iN k h hh
 | .call f args k,s,_,_,_,_,h,⟨rs,hc,hh⟩=>⟨rs,hc,iN (k rs) h hh⟩
 | .must p k,s,_,_,_,_,h,⟨hp,hh⟩=>⟨hp,iN k h hh⟩
theorem nZ {P:Program} {T:sC} {N:Nat} {ops:Array Oper} : ∀(l:List Oper) {s:St} {acc:List Fp} {K K':St→List Fp→Prop},(∀s a,K s a→K' s a)→gE P T N ops l s acc K→gE P T N ops l s acc K'
 | [],_,_,_,_,h,hh=>h _ _ hh
 | o::l,s,_,_,_,h,hh=>iN (evG T N ops o) (fun s' R W h'=>nZ l h h') hh
section
variable {P:Program} {base N:Nat} {w0:W0} {Z:St→Prop} {k:List Fr} {s s':St}
theorem eT {id:Nat} {ops:Array Oper} (h:gS P (dA P) N ops ops.toList s (Is s')) (hk:aft P base w0 N Z k .normal s'):SW P base w0 N (.region id ops false) s (aft P base w0 N Z k):=
 rJ (lE ops.toList (fun t ht=>by rw [show t=s' from ht];exact hk) h)
def sG (ops:Array Oper) (fps:List Fp):Prop:=kB ops fps=true
theorem sG.mk {ops:Array Oper} {fps:List Fp} (h:kB ops fps=true):sG ops fps:=h
theorem mU (hm:P.follows .mixedOrders=true) {id:Nat} {ops:Array Oper} (h:gE P (dA P) N ops ops.toList s [] fun t fps=>sG ops fps∧Is s' t) (hk:aft P base w0 N Z k .normal s'):SW P base w0 N (.region id ops true) s (aft P base w0 N Z k):=
 wK hm (nZ ops.toList (fun t fps ht=>⟨ht.1,by rw [show t=s' from ht.2];exact hk⟩) h)
theorem mC {id:Nat} (h:aft P base w0 N Z k .normal s):aft P base w0 N Z (.block id::k) (.exit id) s:=by
 simp only [aft,if_true];exact h
theorem aBC {id id':Nat} (hne:id'≠id) (h:aft P base w0 N Z k (.exit id') s):aft P base w0 N Z (.block id::k) (.exit id') s:=by
 simp only [aft,hne,if_false];exact h
theorem iR {c:Code} {id:Nat} (h:aft P base w0 N Z k (.exit id) s):aft P base w0 N Z (.code c::k) (.exit id) s:=h
theorem eP {J:St→Prop} (h:J s):aft P base w0 N Z (.inv J::k) .normal s:=h
theorem iQ {J:St→Prop} {id:Nat} (h:aft P base w0 N Z k (.exit id) s):aft P base w0 N Z (.inv J::k) (.exit id) s:=h
theorem yP {t:Nat} {x y:Code} (hb:s.t t = .v false [.dat (.bool true)]) (h:SW P base w0 N x s (aft P base w0 N Z k)):SW P base w0 N (.cond (.tmp t) x y) s (aft P base w0 N Z k):=
 sY hb (fun _=>h) (fun e=>by cases e)
theorem yJ {t:Nat} {x y:Code} (hb:s.t t = .v false [.dat (.bool false)]) (h:SW P base w0 N y s (aft P base w0 N Z k)):SW P base w0 N (.cond (.tmp t) x y) s (aft P base w0 N Z k):=
 sY hb (fun e=>by cases e) (fun _=>h)
theorem gU {c:Code} {Q:Exit→St→Prop} {J:St→Prop} (hj:J s) (h : ∀s,J s→SW P base w0 N c s Q):SW P base w0 N c s Q:=h s hj
end
def fuel:Nat:=18446744073709551616
theorem fK (b:Bool):b=true∨b=false:=by cases b<;>simp
theorem pB (b:Bool):b=false∨b=true:=by cases b<;>simp
theorem cP {α:Type} {b:Bool} {x y z:α} (hb:b=true) (h:(if b=true then x else y)=z):x=z:=by rw [if_pos hb] at h;exact h
theorem cO {α:Type} {b:Bool} {x y z:α} (hb:b=false) (h:(if b=true then x else y)=z):y=z:=by rw [hb] at h;simpa using h
theorem bind_some {α β:Type} {o:Option α} {f:α→Option β} {r:β} (h:o.bind f=some r) : ∃x,o=some x∧f x=some r:=by
 cases o with
 | none=>cases h
 | some x=>exact ⟨x,rfl,h⟩
def idx {α:Type} (xs:List α) (i:Int):Option α:=if 0≤i then xs[i.toNat]? else none
theorem fE {α:Type} {xs:List α} {i:Int} {x:α} (h:idx xs i=some x):0≤i∧xs[i.toNat]? = some x∧i.toNat<xs.length:=by
 unfold idx at h
 split at h
 ·rename_i hi;exact ⟨hi,h,(List.getElem?_eq_some_iff.1 h).1⟩
 ·cases h
def aAu (s:ByteArray) (i:Int):Option UInt8:=if 0≤i then s[i.toNat]? else none
theorem wQ {s:ByteArray} {i:Int} {x:UInt8} (h:aAu s i=some x):0≤i∧s[i.toNat]? = some x:=by
 unfold aAu at h
 split at h
 ·rename_i hi;exact ⟨hi,h⟩
 ·cases h
def app {α:Type} (b:Nat) (xs ys:List α):Option (List α):=if (xs.length+ys.length)*b≤140737488355328 then some (xs++ys) else none
theorem eA {α:Type} {b:Nat} {xs ys zs:List α} (h:app b xs ys=some zs):(xs.length+ys.length)*b≤140737488355328:=by
 unfold app at h
 split at h
 ·assumption
 ·cases h
def aBT {α:Type} (b:Nat) (ys:List α):Option (List α):=if ys.length*b≤140737488355328 then some ys else none
theorem dG {α:Type} {b:Nat} {ys zs:List α} (h:aBT b ys=some zs):ys.length*b≤140737488355328:=by
 unfold aBT at h
 split at h
 ·assumption
 ·cases h
def mkL {α:Type} (b:Nat) (n:Int) (z:α):Option (List α):=if 0≤n∧n.toNat*b≤140737488355328∧n≤9223372036854775807 then some (List.replicate n.toNat z) else none
theorem zM {α:Type} {b:Nat} {n:Int} {z:α} {x:List α} (h:mkL b n z=some x):0≤n∧n.toNat*b≤140737488355328∧n≤9223372036854775807:=by
 unfold mkL at h
 split at h
 ·assumption
 ·cases h
def cat (x y:ByteArray):Option ByteArray:=if x.size+y.size≤9223372036854775807 then some (x++y) else none
theorem yX {x y z:ByteArray} (h:cat x y=some z):x.size+y.size≤9223372036854775807:=by
 unfold cat at h
 split at h
 ·assumption
 ·cases h
def enI (n:Int):List D:=[.int .i64 n]
def enB (n:Int):List D:=[.int .u8 n]
def enS (s:ByteArray):List D:=[.str s]
def enT (b:Bool):List D:=[.bool b]
def enL {α:Type} (f:α→List D) (xs:List α):List D:=[.sl (xs.map f)]
def mH (s:ByteArray):List Int:=s.data.toList.map fun b=>(b.toNat:Int)
theorem rK (s:ByteArray):gC s.data.toList=(mH s).map enB:=by
 unfold gC mH enB
 rw [List.map_map]
 rfl
def mF (l:List Int):ByteArray:=⟨(l.map fun n=>UInt8.ofNat n.toNat).toArray⟩
def toStr (l:List Int):Option ByteArray:=if l.all (fun n=>decide (0≤n∧n<256))=true then some (mF l) else none
theorem tI (l:List Int):strOf (l.map enB)=mF l:=by
 unfold strOf mF enB
 rw [List.map_map]
 rfl
theorem uR {l:List Int} {z:ByteArray} (h:toStr l=some z) : ∀x∈l.map enB,∃b:UInt8,x=[.int .u8 (b.toNat:Int)]:=by
 unfold toStr at h
 split at h
 ·rename_i ha
  intro x hx
  obtain ⟨n,hn,rfl⟩:=List.mem_map.1 hx
  have:=List.all_eq_true.1 ha n hn
  simp only [decide_eq_true_eq] at this
  refine ⟨UInt8.ofNat n.toNat,?_⟩
  unfold enB
  have h1:(UInt8.ofNat n.toNat).toNat=n.toNat:=by simp;omega
  rw [h1,Int.toNat_of_nonneg this.1]
 ·cases h
def oF {α:Type} (xs:List α) (i:Int):Option (List α):=if 0≤i∧i.toNat≤xs.length then some (xs.drop i.toNat) else none
theorem sP {α:Type} {f:α→List D} (hf : ∀x,(f x).all D.flat=true) (xs:List α):(xs.map f).all (fun y=>y.all D.flat)=true:=by
 rw [List.all_eq_true]
 intro y hy
 obtain ⟨x,_,rfl⟩:=List.mem_map.1 hy
 exact hf x
theorem enI.fl (l:List Int):(List.map enI l).all (fun y=>y.all D.flat)=true:=sP (fun _=>rfl) l
theorem enB.fl (l:List Int):(List.map enB l).all (fun y=>y.all D.flat)=true:=sP (fun _=>rfl) l
theorem enS.fl (l:List ByteArray):(List.map enS l).all (fun y=>y.all D.flat)=true:=sP (fun _=>rfl) l
theorem enT.fl (l:List Bool):(List.map enT l).all (fun y=>y.all D.flat)=true:=sP (fun _=>rfl) l
theorem uE {P : Program} {f : FuncId} {fn : Func} {c : Code} {args : List (Bool × List D)} {rs : List (Bool × List RC)} {N : Nat} {vars : List ResultVar} (hf : P.funcs[f]? = some fn) (hb : fn.body = some c) (hN : fn.ntmps = N) (hv : fn.results.toList = vars) (hnm : (fn.name == "runtime.NumGoroutine") = false) (hn : args.length ≤ N)
  (h : ∀(base:Nat) (w0:W0),SW P base w0 N c (init args) (aft P base w0 N (Ret (dA P) vars rs) [])):dO P f args rs:=by
 subst hN hv
 exact wV hf hb hnm hn h
end Go.Sh
namespace Go.Sh
set_option linter.unusedVariables false
set_option linter.unusedSimpArgs false
theorem nN (N d:Nat) (a b:Bool×List RC) (rs:List (Bool×List RC)):fG N (some d) (a::b::rs)=fM d 0 (a::b::rs) fun vs=>put N (some d) (.tup vs):=rfl
theorem nD (N d:Nat):fG N (some d) []=fM d 0 [] fun vs=>put N (some d) (.tup vs):=rfl
theorem tW (sz k:Nat) (xs:List (List D)):(vC sz 0 k xs).drop k=xs.drop k:=by
 unfold vC
 rw [List.take_zero,List.nil_append,Nat.zero_add]
 exact List.drop_left' (by simp)
theorem yA (sz k:Nat) (xs:List (List D)):(vC sz 0 k xs).length-k=xs.length-k:=by
 unfold vC
 simp
theorem uJ {α:Type} (xs:List α) (k:Nat):(xs.drop k).take (xs.length-k)=xs.drop k:=List.take_of_length_le (by simp)
theorem rR {α:Type} (a:α) (as bs:List α):List.append (a::as) bs=a::List.append as bs:=rfl
theorem tX {α:Type} (bs:List α):List.append [] bs=bs:=rfl
theorem wA (xs:List (List D)):D.flat (.sl xs)=false:=rfl
theorem tQ (xs:List D):D.flat (.ptr xs)=false:=rfl
theorem tA (u:Value):D.flat (.val u)=false:=rfl
theorem E:type_of% (And.intro (@gS.eq_1) (And.intro (@gS.eq_2) (And.intro (@gE.eq_1) (And.intro (@gE.eq_2) (And.intro (@evG.eq_1) (And.intro (@eR.eq_1) (And.intro (@vOp.eq_1) (And.intro (@vOp.eq_2) (And.intro (@vOp.eq_3) (And.intro (@vOp.eq_4) (And.intro (@zV.eq_1) (And.intro (@zV.eq_2) (And.intro (@put.eq_1) (And.intro (@put.eq_2) (And.intro (@ex.eq_1) (And.intro (@ex.eq_2) (And.intro (@ex.eq_3) (And.intro (@ex.eq_4) (And.intro (@ex.eq_5) (And.intro (@ex.eq_6) (And.intro (@ex.eq_7) (And.intro (@ex.eq_8) (And.intro (@exF.eq_1) (And.intro (@exF.eq_2) (And.intro (@exF.eq_3) (And.intro (@exF.eq_4) (And.intro (@exF.eq_5) (And.intro (@exF.eq_6) (And.intro (@exF.eq_7) (And.intro (@exF.eq_8) (And.intro (@cst.eq_1) (And.intro (@cst.eq_2) (And.intro (@cst.eq_3) (And.intro (@cst.eq_4) (And.intro (@one.eq_1) (And.intro (@eK.eq_1) (And.intro (@eK.eq_2) (And.intro (@eK.eq_3) (And.intro (@eK.eq_4) (And.intro (@lab.eq_1) (And.intro (@lab.eq_2) (And.intro (@hE.eq_1) (And.intro (@hE.eq_2) (And.intro (@hE.eq_3) (And.intro (@hE.eq_4) (And.intro (@hE.eq_5) (And.intro (@hE.eq_6) (And.intro (@hE.eq_7) (And.intro (@hE.eq_8) (And.intro (@hE.eq_9) (And.intro (@gD.eq_1) (And.intro (@gD.eq_2) (And.intro (@gD.eq_3) (And.intro (@gD.eq_4) (And.intro (@gD.eq_5) (And.intro (@iI.eq_1) (And.intro (@fY.eq_1) (And.intro (@fY.eq_2) (And.intro (@eF.eq_1) (And.intro (@eF.eq_2) (And.intro (@eF.eq_3) (And.intro (@eF.eq_4) (And.intro (@eF.eq_5) (And.intro (@eF.eq_6) (And.intro (@eF.eq_7) (And.intro (@eF.eq_8) (And.intro (@eF.eq_9) (And.intro (@gN.eq_1) (And.intro (@gN.eq_2) (And.intro (@cC.eq_1) (And.intro (@cC.eq_2) (And.intro (@cC.eq_3) (And.intro (@cC.eq_4) (And.intro (@cC.eq_5) (And.intro (@fM.eq_1) (And.intro (@fM.eq_2) (And.intro (@fG.eq_1) (And.intro (@fG.eq_2) (And.intro (@kR.eq_1) (And.intro (@cZ.eq_1) (And.intro (@cZ.eq_2) (And.intro (@cZ.eq_3) (And.intro (@cZ.eq_4) (And.intro (@cZ.eq_5) (And.intro (@cZ.eq_6) (And.intro (@cZ.eq_7) (And.intro (@mZ.eq_1) (And.intro (@mZ.eq_2) (And.intro (@nE.eq_1) (And.intro (@nE.eq_2) (And.intro (@eN.eq_1) (And.intro (@eN.eq_2) (And.intro (@eN.eq_3) (And.intro (@eN.eq_4) (And.intro (@eN.eq_5) (And.intro (@eN.eq_6) (And.intro (@eN.eq_7) (And.intro (@eN.eq_8) (And.intro (@RC.ed.eq_1) (And.intro (@RC.ed.eq_2) (And.intro (@RC.ed.eq_3) (And.intro (@RC.ed.eq_4) (And.intro (@qA.eq_1) (And.intro (@qA.eq_2) (And.intro (@qA.eq_3) (And.intro (@mO.eq_1) (And.intro (@iW.eq_1) (And.intro (@iW.eq_2) (And.intro (@iW.eq_3) (And.intro (@iW.eq_4) (And.intro (@iW.eq_5) (And.intro (@kS.eq_1) (And.intro (@kS.eq_2) (And.intro (@fC.eq_1) (And.intro (@fC.eq_2) (And.intro (@rows.eq_1) (And.intro (@rows.eq_2) (And.intro (@bJ.eq_1) (And.intro (@bJ.eq_2) (And.intro (@bJ.eq_3) (And.intro (@bJ.eq_4) (And.intro (@bJ.eq_5) (And.intro (@bJ.eq_6) (And.intro (@bJ.eq_7) (And.intro (@bJ.eq_8) (And.intro (@bJ.eq_9) (And.intro (@bJ.eq_10) (And.intro (@bJ.eq_11) (And.intro (@bJ.eq_12) (And.intro (@bJ.eq_13) (And.intro (@bJ.eq_14) (And.intro (@bJ.eq_15) (And.intro (@bJ.eq_16) (And.intro (@bJ.eq_17) (And.intro (@gG.eq_1) (And.intro (@gG.eq_2) (And.intro (@gG.eq_3) (And.intro (@gG.eq_4) (And.intro (@gG.eq_5) (And.intro (@gG.eq_6) (And.intro (@lenOf.eq_1) (And.intro (@lenOf.eq_2) (And.intro (@lenOf.eq_3) (And.intro (@lenOf.eq_4) (And.intro (@lenOf.eq_5) (And.intro (@iZ.eq_1) (And.intro (@iZ.eq_2) (And.intro (@iZ.eq_3) (And.intro (@iZ.eq_4) (And.intro (@jY.eq_1) (And.intro (@jY.eq_2) (And.intro (@iH.eq_1) (And.intro (@iH.eq_2) (And.intro (@iH.eq_3) (And.intro (@cW.eq_1) (And.intro (@cW.eq_2) (And.intro (@cW.eq_3) (And.intro (@cW.eq_4) (And.intro (@eG.eq_1) (And.intro (@eG.eq_2) (And.intro (@eG.eq_3) (And.intro (@eG.eq_4) (And.intro (@fN.eq_1) (And.intro (@fN.eq_2) (And.intro (@fN.eq_3) (And.intro (@fN.eq_4) (And.intro (@pZ.eq_1) (And.intro (@lY.eq_1) (And.intro (@lY.eq_2) (And.intro (@dY.eq_1) (And.intro (@dY.eq_2) (And.intro (@dY.eq_3) (And.intro (@dY.eq_4) (And.intro (@mJ.eq_1) (And.intro (@D.flat.eq_1) (And.intro (@D.flat.eq_2) (And.intro (@D.flat.eq_3) (And.intro (@D.flat.eq_4) (And.intro (@rid.eq_1) (And.intro (@TI.agg.eq_1) (And.intro (@nF) (And.intro (@pH) (And.intro (@nQ) (And.intro (@oP) (And.intro (@oN) (And.intro (@tW) (And.intro (@yA) (And.intro (@uJ) (And.intro (@eI.eq_1) (And.intro (@nN) (And.intro (@nD) (And.intro (@wA) (And.intro (@tQ) (And.intro (@tA) (And.intro (@St.jV) (And.intro (@St.rF) (And.intro (@St.qP) (And.intro (@St.lR) (And.intro (@qJ) (@qS)))))))))))))))))))))))))))))))))))))))))))))))))))))))))))))))))))))))))))))))))))))))))))))))))))))))))))))))))))))))))))))))))))))))))))))))))))))))))))))))))))))))))))))))))))))))))))))))))))))))):=
 And.intro (@gS.eq_1) (And.intro (@gS.eq_2) (And.intro (@gE.eq_1) (And.intro (@gE.eq_2) (And.intro (@evG.eq_1) (And.intro (@eR.eq_1) (And.intro (@vOp.eq_1) (And.intro (@vOp.eq_2) (And.intro (@vOp.eq_3) (And.intro (@vOp.eq_4) (And.intro (@zV.eq_1) (And.intro (@zV.eq_2) (And.intro (@put.eq_1) (And.intro (@put.eq_2) (And.intro (@ex.eq_1) (And.intro (@ex.eq_2) (And.intro (@ex.eq_3) (And.intro (@ex.eq_4) (And.intro (@ex.eq_5) (And.intro (@ex.eq_6) (And.intro (@ex.eq_7) (And.intro (@ex.eq_8) (And.intro (@exF.eq_1) (And.intro (@exF.eq_2) (And.intro (@exF.eq_3) (And.intro (@exF.eq_4) (And.intro (@exF.eq_5) (And.intro (@exF.eq_6) (And.intro (@exF.eq_7) (And.intro (@exF.eq_8) (And.intro (@cst.eq_1) (And.intro (@cst.eq_2) (And.intro (@cst.eq_3) (And.intro (@cst.eq_4) (And.intro (@one.eq_1) (And.intro (@eK.eq_1) (And.intro (@eK.eq_2) (And.intro (@eK.eq_3) (And.intro (@eK.eq_4) (And.intro (@lab.eq_1) (And.intro (@lab.eq_2) (And.intro (@hE.eq_1) (And.intro (@hE.eq_2) (And.intro (@hE.eq_3) (And.intro (@hE.eq_4) (And.intro (@hE.eq_5) (And.intro (@hE.eq_6) (And.intro (@hE.eq_7) (And.intro (@hE.eq_8) (And.intro (@hE.eq_9) (And.intro (@gD.eq_1) (And.intro (@gD.eq_2) (And.intro (@gD.eq_3) (And.intro (@gD.eq_4) (And.intro (@gD.eq_5) (And.intro (@iI.eq_1) (And.intro (@fY.eq_1) (And.intro (@fY.eq_2) (And.intro (@eF.eq_1) (And.intro (@eF.eq_2) (And.intro (@eF.eq_3) (And.intro (@eF.eq_4) (And.intro (@eF.eq_5) (And.intro (@eF.eq_6) (And.intro (@eF.eq_7) (And.intro (@eF.eq_8) (And.intro (@eF.eq_9) (And.intro (@gN.eq_1) (And.intro (@gN.eq_2) (And.intro (@cC.eq_1) (And.intro (@cC.eq_2) (And.intro (@cC.eq_3) (And.intro (@cC.eq_4) (And.intro (@cC.eq_5) (And.intro (@fM.eq_1) (And.intro (@fM.eq_2) (And.intro (@fG.eq_1) (And.intro (@fG.eq_2) (And.intro (@kR.eq_1) (And.intro (@cZ.eq_1) (And.intro (@cZ.eq_2) (And.intro (@cZ.eq_3) (And.intro (@cZ.eq_4) (And.intro (@cZ.eq_5) (And.intro (@cZ.eq_6) (And.intro (@cZ.eq_7) (And.intro (@mZ.eq_1) (And.intro (@mZ.eq_2) (And.intro (@nE.eq_1) (And.intro (@nE.eq_2) (And.intro (@eN.eq_1) (And.intro (@eN.eq_2) (And.intro (@eN.eq_3) (And.intro (@eN.eq_4) (And.intro (@eN.eq_5) (And.intro (@eN.eq_6) (And.intro (@eN.eq_7) (And.intro (@eN.eq_8) (And.intro (@RC.ed.eq_1) (And.intro (@RC.ed.eq_2) (And.intro (@RC.ed.eq_3) (And.intro (@RC.ed.eq_4) (And.intro (@qA.eq_1) (And.intro (@qA.eq_2) (And.intro (@qA.eq_3) (And.intro (@mO.eq_1) (And.intro (@iW.eq_1) (And.intro (@iW.eq_2) (And.intro (@iW.eq_3) (And.intro (@iW.eq_4) (And.intro (@iW.eq_5) (And.intro (@kS.eq_1) (And.intro (@kS.eq_2) (And.intro (@fC.eq_1) (And.intro (@fC.eq_2) (And.intro (@rows.eq_1) (And.intro (@rows.eq_2) (And.intro (@bJ.eq_1) (And.intro (@bJ.eq_2) (And.intro (@bJ.eq_3) (And.intro (@bJ.eq_4) (And.intro (@bJ.eq_5) (And.intro (@bJ.eq_6) (And.intro (@bJ.eq_7) (And.intro (@bJ.eq_8) (And.intro (@bJ.eq_9) (And.intro (@bJ.eq_10) (And.intro (@bJ.eq_11) (And.intro (@bJ.eq_12) (And.intro (@bJ.eq_13) (And.intro (@bJ.eq_14) (And.intro (@bJ.eq_15) (And.intro (@bJ.eq_16) (And.intro (@bJ.eq_17) (And.intro (@gG.eq_1) (And.intro (@gG.eq_2) (And.intro (@gG.eq_3) (And.intro (@gG.eq_4) (And.intro (@gG.eq_5) (And.intro (@gG.eq_6) (And.intro (@lenOf.eq_1) (And.intro (@lenOf.eq_2) (And.intro (@lenOf.eq_3) (And.intro (@lenOf.eq_4) (And.intro (@lenOf.eq_5) (And.intro (@iZ.eq_1) (And.intro (@iZ.eq_2) (And.intro (@iZ.eq_3) (And.intro (@iZ.eq_4) (And.intro (@jY.eq_1) (And.intro (@jY.eq_2) (And.intro (@iH.eq_1) (And.intro (@iH.eq_2) (And.intro (@iH.eq_3) (And.intro (@cW.eq_1) (And.intro (@cW.eq_2) (And.intro (@cW.eq_3) (And.intro (@cW.eq_4) (And.intro (@eG.eq_1) (And.intro (@eG.eq_2) (And.intro (@eG.eq_3) (And.intro (@eG.eq_4) (And.intro (@fN.eq_1) (And.intro (@fN.eq_2) (And.intro (@fN.eq_3) (And.intro (@fN.eq_4) (And.intro (@pZ.eq_1) (And.intro (@lY.eq_1) (And.intro (@lY.eq_2) (And.intro (@dY.eq_1) (And.intro (@dY.eq_2) (And.intro (@dY.eq_3) (And.intro (@dY.eq_4) (And.intro (@mJ.eq_1) (And.intro (@D.flat.eq_1) (And.intro (@D.flat.eq_2) (And.intro (@D.flat.eq_3) (And.intro (@D.flat.eq_4) (And.intro (@rid.eq_1) (And.intro (@TI.agg.eq_1) (And.intro (@nF) (And.intro (@pH) (And.intro (@nQ) (And.intro (@oP) (And.intro (@oN) (And.intro (@tW) (And.intro (@yA) (And.intro (@uJ) (And.intro (@eI.eq_1) (And.intro (@nN) (And.intro (@nD) (And.intro (@wA) (And.intro (@tQ) (And.intro (@tA) (And.intro (@St.jV) (And.intro (@St.rF) (And.intro (@St.qP) (And.intro (@St.lR) (And.intro (@qJ) (@qS)))))))))))))))))))))))))))))))))))))))))))))))))))))))))))))))))))))))))))))))))))))))))))))))))))))))))))))))))))))))))))))))))))))))))))))))))))))))))))))))))))))))))))))))))))))))))))))))))))))))
theorem L:type_of% (And.intro (@List.take_succ_cons.{0}) (And.intro (@List.take_zero.{0}) (And.intro (@List.drop_succ_cons.{0}) (And.intro (@List.drop_zero.{0}) (And.intro (@List.map_cons.{0,0}) (And.intro (@List.map_nil.{0,0}) (And.intro (@List.cons_append.{0}) (And.intro (@List.nil_append.{0}) (And.intro (@List.append_nil.{0}) (And.intro (@List.length_cons.{0}) (And.intro (@List.length_nil.{0}) (And.intro (@List.getElem?_cons_zero.{0}) (And.intro (@List.getElem?_cons_succ.{0}) (And.intro (@List.tail_cons.{0}) (And.intro (@List.tail_nil.{0}) (And.intro (@Option.isSome_some.{0}) (And.intro (@Option.isSome_none.{0}) (And.intro (@List.take_nil.{0}) (And.intro (@List.drop_nil.{0}) (And.intro (@List.getElem?_map.{0,0}) (And.intro (@Option.map_some.{0,0}) (And.intro (@Option.bind_some.{0,0}) (And.intro (@List.length_map.{0,0}) (And.intro (@List.replicate_succ.{0}) (And.intro (@List.replicate_zero.{0}) (And.intro (@List.flatten_cons.{0}) (And.intro (@List.flatten_nil.{0}) (And.intro (@List.getElem?_toArray.{0}) (And.intro (@List.toList_toArray.{0}) (And.intro (@rR) (And.intro (@tX) (And.intro (@List.any_cons.{0}) (And.intro (@List.any_nil.{0}) (And.intro Bool.or_true (And.intro Bool.true_or (And.intro Bool.or_false (And.intro Bool.false_or (And.intro Bool.and_true (And.intro Bool.true_and (And.intro Bool.and_false (And.intro Bool.false_and (And.intro true_and (And.intro and_true (and_self)))))))))))))))))))))))))))))))))))))))))))):=
 And.intro (@List.take_succ_cons.{0}) (And.intro (@List.take_zero.{0}) (And.intro (@List.drop_succ_cons.{0}) (And.intro (@List.drop_zero.{0}) (And.intro (@List.map_cons.{0,0}) (And.intro (@List.map_nil.{0,0}) (And.intro (@List.cons_append.{0}) (And.intro (@List.nil_append.{0}) (And.intro (@List.append_nil.{0}) (And.intro (@List.length_cons.{0}) (And.intro (@List.length_nil.{0}) (And.intro (@List.getElem?_cons_zero.{0}) (And.intro (@List.getElem?_cons_succ.{0}) (And.intro (@List.tail_cons.{0}) (And.intro (@List.tail_nil.{0}) (And.intro (@Option.isSome_some.{0}) (And.intro (@Option.isSome_none.{0}) (And.intro (@List.take_nil.{0}) (And.intro (@List.drop_nil.{0}) (And.intro (@List.getElem?_map.{0,0}) (And.intro (@Option.map_some.{0,0}) (And.intro (@Option.bind_some.{0,0}) (And.intro (@List.length_map.{0,0}) (And.intro (@List.replicate_succ.{0}) (And.intro (@List.replicate_zero.{0}) (And.intro (@List.flatten_cons.{0}) (And.intro (@List.flatten_nil.{0}) (And.intro (@List.getElem?_toArray.{0}) (And.intro (@List.toList_toArray.{0}) (And.intro (@rR) (And.intro (@tX) (And.intro (@List.any_cons.{0}) (And.intro (@List.any_nil.{0}) (And.intro Bool.or_true (And.intro Bool.true_or (And.intro Bool.or_false (And.intro Bool.false_or (And.intro Bool.and_true (And.intro Bool.true_and (And.intro Bool.and_false (And.intro Bool.false_and (And.intro true_and (And.intro and_true (and_self)))))))))))))))))))))))))))))))))))))))))))
theorem F:type_of% (And.intro (@List.set_cons_zero.{0}) (And.intro (@List.set_cons_succ.{0}) (And.intro (@St.jV) (And.intro (@St.rF) (And.intro (@St.qP) (And.intro (@St.lR) (And.intro (@qJ) (And.intro (@qS) (And.intro (@List.map_append.{0,0}) (And.intro (@List.map_cons.{0,0}) (And.intro (@List.map_nil.{0,0}) (And.intro (@List.map_set.{0,0}) (And.intro (@List.map_replicate.{0,0}) (And.intro (@List.append_nil.{0}) (And.intro (@List.nil_append.{0}) (And.intro (@List.cons_append.{0}) (And.intro (@List.getElem?_cons_zero.{0}) (And.intro (@List.getElem?_cons_succ.{0}) (And.intro Bool.and_true (Bool.true_and)))))))))))))))))))):=
 And.intro (@List.set_cons_zero.{0}) (And.intro (@List.set_cons_succ.{0}) (And.intro (@St.jV) (And.intro (@St.rF) (And.intro (@St.qP) (And.intro (@St.lR) (And.intro (@qJ) (And.intro (@qS) (And.intro (@List.map_append.{0,0}) (And.intro (@List.map_cons.{0,0}) (And.intro (@List.map_nil.{0,0}) (And.intro (@List.map_set.{0,0}) (And.intro (@List.map_replicate.{0,0}) (And.intro (@List.append_nil.{0}) (And.intro (@List.nil_append.{0}) (And.intro (@List.cons_append.{0}) (And.intro (@List.getElem?_cons_zero.{0}) (And.intro (@List.getElem?_cons_succ.{0}) (And.intro Bool.and_true (Bool.true_and)))))))))))))))))))
end Go.Sh
namespace Go.Sh
set_option linter.unusedVariables false
set_option linter.unusedSimpArgs false
open Go.RowKit
def Gho (P:Program) (base:Nat) (w0:W0) (N:Nat) (s s':St):Prop:=∀a w,Rel P base w0 N s a w→Rel P base w0 N s' a w
section
variable {P:Program} {base N:Nat} {w0:W0} {Z:St→Prop} {k:List Fr} {s s' s'':St}
theorem Gho.refl (s:St):Gho P base w0 N s s:=fun _ _ h=>h
theorem Gho.trans (h:Gho P base w0 N s s') (h':Gho P base w0 N s' s''):Gho P base w0 N s s'':=fun a w R=>h' a w (h a w R)
theorem tZ {c:Code} {Q:Exit→St→Prop} (hg:Gho P base w0 N s s') (h:SW P base w0 N c s' Q):SW P base w0 N c s Q:=fun a w R=>h a w (hg a w R)
theorem mL {c:Code} (I:Nat→St→Prop) (n:Nat) (h0:I n s) (h : ∀m s,I m s→SW P base w0 N c s (aft P base w0 N Z (.inv (fun s'=>∃s'',Gho P base w0 N s' s'' ∧ ∃m',m'<m∧I m' s'')::k))):SW P base w0 N (.loop c) s (aft P base w0 N Z k):=by
 intro a w R
 refine wp_loop_ghost (fun m a w=>∃s,I m s∧Rel P base w0 N s a w) n ⟨s,h0,R⟩ ?_
 rintro m a w ⟨s,h1,R⟩
 refine wp_mono (h m s h1 a w R) ?_
 rintro e a' w' ⟨s',h2,h3⟩
 cases e with
 | normal=>obtain ⟨s'',hg,m',h4,h5⟩:=h2;exact ⟨m',h4,s'',h5,hg _ _ h3⟩
 | _=>exact ⟨s',h2,h3⟩
theorem tP {g:Gh} {a:Act} {w:World} {j K vj:Nat} {e:TypeId} {sz:Nat} {xs:List (List D)} {dp:Bool} (R:bY P base w0 N g s a w []) (h2:s.h j=(vj,.row e sz xs dp)) :
  ∃g',bY P base w0 N g' ((s.bL j (vj,.none)).bL K ((s.h K).1+1,.row e sz xs dp)) a w []∧bU g g' s.h ((s.bL j (vj,.none)).bL K ((s.h K).1+1,.row e sz xs dp)).h w w ∧
   ∀v,fW g s.h w (.row j vj) v→fW g' ((s.bL j (vj,.none)).bL K ((s.h K).1+1,.row e sz xs dp)).h w (.row K ((s.h K).1+1)) v:=by
 have hj1:(s.h j).1=vj:=by rw [h2]
 have hj2:(s.h j).2 = .row e sz xs dp:=by rw [h2]
 have hob:=R.inv.obj j
 rw [hj2] at hob
 obtain ⟨cells,p1,p2,p3,p4,p5⟩:=hob
 obtain ⟨I1,hfr⟩:=R.inv.gX hj2
 rw [hj1] at I1 hfr
 have T1:bU g g s.h (dN s.h j (vj,.none)) w w:=by have:=bU.drop (g:=g) (h:=s.h) (w:=w) j g.S fun _ x=>x;rw [hj1] at this;exact this
 have hver:(dN s.h j (vj,.none) K).1=(s.h K).1:=by
  by_cases hk:K=j
  ·subst hk;rw [aJ,hj1]
  ·rw [bG _ _ _ _ hk]
 have I2:=I1.iD (i:=K) (v:=g.val j) (e:=e) (sz:=sz) (xs:=xs) (dp:=dp) (cells:=cells) (F:=g.fp j) (pool':=[]) p1 p2 p3 p4 hfr (by simp) List.nodup_nil (fun hd=>by
  subst hd
  simp only [if_true,List.nil_append]
  exact ⟨(p5 rfl).1,fun b hb=>⟨hb,by simp⟩⟩)
 have T2:=bU.create (g:=g) (h:=dN s.h j (vj,.none)) (w:=w) K (g.val j) (g.fp j) (.row e sz xs dp)
 rw [hver] at I2 T2
 refine ⟨_,R.cU (T1.trans T2) rfl R.below I2,T1.trans T2,?_⟩
 rintro v ⟨h0,_,hv⟩
 refine ⟨h0,?_,?_⟩
 ·show _≤(dN _ K _ K).1
  rw [aJ];exact Nat.le_refl _
 ·intro _ e' sz' xs' dp' _
  show v=kH g.val K (g.val j) K
  rw [bC]
  exact hv hj1 e sz xs dp hj2
theorem wB {g:Gh} {a:Act} {w:World} {K:Nat} (e:TypeId) (sz:Nat) (R:bY P base w0 N g s a w []) :
  ∃g',bY P base w0 N g' (s.bL K ((s.h K).1+1,.row e sz [] true)) a w []∧bU g g' s.h (s.bL K ((s.h K).1+1,.row e sz [] true)).h w w ∧
   ∀v,fW g s.h w .nil v→fW g' (s.bL K ((s.h K).1+1,.row e sz [] true)).h w (.row K ((s.h K).1+1)) v:=by
 have I2:=R.inv.iD (i:=K) (v:=.slice none 0 0) (e:=e) (sz:=sz) (xs:=[]) (dp:=true) (cells:=[]) (F:=[]) (pool':=[]) (World.ownsRow_nil w base e sz) (by simp) aR.nil (by simp) (by intro b hb;cases hb) (by simp) List.nodup_nil (fun _=>⟨List.nodup_nil,by simp⟩)
 have T2:=bU.create (g:=g) (h:=s.h) (w:=w) K (.slice none 0 0) [] (.row e sz [] true)
 refine ⟨_,R.cU T2 rfl R.below I2,T2,?_⟩
 intro v hv
 have hv:v = .slice none 0 0:=hv
 subst hv
 refine ⟨rfl,?_,?_⟩
 ·show _≤(dN _ K _ K).1
  rw [aJ];exact Nat.le_refl _
 ·intro _ e' sz' xs' dp' _
  show _=kH g.val K _ K
  rw [bC]
theorem uB {g:Gh} {a:Act} {w:World} {i:Nat} {sv:SV} (R:bY P base w0 N g s a w []) (hv:dW g s.h w sv (a.tmps.getD i undef)):bY P base w0 N g (s.kD i sv) a w []:=by
 refine ⟨R.defers,R.size,R.below,R.q,R.eU,R.inv,fun t => ?_,R.lab,R.frm⟩
 rw [St.jV]
 by_cases ht:t=i
 ·subst ht;simp only [if_true];exact hv
 ·simp only [ht,if_false];exact R.tmp t
theorem Gho.aA2 {i j K vj:Nat} {e:TypeId} {sz:Nat} {xs:List (List D)} {dp:Bool} (h1:s.t i = .v false [.row j vj]) (h2:s.h j=(vj,.row e sz xs dp)) :
  Gho P base w0 N s (((s.bL j (vj,.none)).bL K ((s.h K).1+1,.row e sz xs dp)).kD i (.v false [.row K ((s.h K).1+1)])):=by
 rintro a w ⟨g,R⟩
 have ht:=R.tmp i
 rw [h1] at ht
 obtain ⟨g',R',T,hc⟩:=tP (K:=K) R h2
 exact ⟨g',uB R' ⟨_,[],rfl,hc _ (aV ht),rfl⟩⟩
theorem Gho.aA4 {i K:Nat} (e:TypeId) (sz:Nat) (h1:s.t i = .v false [.nil]) :
  Gho P base w0 N s ((s.bL K ((s.h K).1+1,.row e sz [] true)).kD i (.v false [.row K ((s.h K).1+1)])):=by
 rintro a w ⟨g,R⟩
 have ht:=R.tmp i
 rw [h1] at ht
 obtain ⟨g',R',T,hc⟩:=wB (K:=K) e sz R
 exact ⟨g',uB R' ⟨_,[],rfl,hc _ (aV ht),rfl⟩⟩
theorem aD.set {g:Gh} {h:eS} {w:World} : ∀ {cs:List SC} {vs:List Value} (c:Nat) (x y:SC),aD g h w cs vs→cs[c]? = some x→(∀v,fW g h w x v→fW g h w y v)→aD g h w (cs.set c y) vs
 | [],vs,c,x,y,hc,hx,_=>by simp at hx
 | z::cs,vs,0,x,y,hc,hx,hxy=>by
  obtain ⟨v,vs',rfl,h1,h2⟩:=hc
  simp at hx
  subst hx
  exact ⟨v,vs',rfl,hxy v h1,h2⟩
 | z::cs,vs,c+1,x,y,hc,hx,hxy=>by
  obtain ⟨v,vs',rfl,h1,h2⟩:=hc
  exact ⟨v,vs',rfl,h1,aD.set c x y h2 (by simpa using hx) hxy⟩
theorem aAx {g:Gh} {a:Act} {w:World} {b vb b':Nat} {t:TypeId} {cells cells':List SC} {vals:Array Value} (R:bY P base w0 N g s a w []) (hb:s.h b=(vb,.box t cells)) (h3:g.val b = .pointer (some ⟨b',0,none⟩)) (h5:w.heap[b']? = some (.cells vals t (0,0))) (hc:aD g s.h w cells' vals.toList) :
  ∃g',bY P base w0 N g' (s.bL b (vb,.box t cells')) a w []:=by
 have hb1:(s.h b).1=vb:=by rw [hb]
 have hb2:(s.h b).2 = .box t cells:=by rw [hb]
 have hlive:live s.h b:=by unfold live;rw [hb2];simp
 have hown:fS (g.val b)=some b':=by rw [h3];rfl
 have hnS:=R.inv.mtb b b' hlive hown
 have T:bU g { g with fp:=kH g.fp b (g.fp b) } s.h (dN s.h b ((s.h b).1,.box t cells')) w w:=
  bU.jG hnS (fun _ _=>rfl) (by intro e sz xs dp hh';cases hh') (by intro t0 cs0 hh';cases hh';exact ⟨_,hb2⟩)
 have I':=R.inv.jG (i:=b) (b:=b') (F:=g.fp b) (pool':=[]) (w':=w) hlive hown rfl (fun _ _=>rfl) T
  ⟨b',vals,h3,(R.inv.iO hlive hown).1,h5,hc.cU T⟩ (by simp) List.nodup_nil (by rintro ⟨_,_,_,hh'⟩;cases hh')
 rw [hb1] at T I'
 exact ⟨_,R.cU T rfl R.below I'⟩
theorem nP {g g':Gh} {a:Act} {w:World} {b vb c:Nat} {t:TypeId} {cells:List SC} {x y:SC} (R:bY P base w0 N g s a w []) (R':bY P base w0 N g' s' a w []) (T:bU g g' s.h s'.h w w) (h0:s.h b=(vb,.box t cells)) (h0':s'.h b=(vb,.box t cells)) (h1:cells[c]? = some x)
  (hc : ∀v,fW g s.h w x v→fW g' s'.h w y v):Rel P base w0 N (s'.bL b (vb,.box t (cells.set c y))) a w:=by
 have hob:=R.inv.obj b
 rw [show (s.h b).2 = .box t cells from by rw [h0]] at hob
 obtain ⟨b',vals,h3,h4,h5,h6⟩:=hob
 have hv:g'.val b=g.val b:=(T.box b t cells (by rw [h0',h0]) (by rw [h0'])).1
 have hnew : ∀ {cs:List SC} {vs:List Value} (c:Nat),aD g s.h w cs vs→cs[c]? = some x→aD g' s'.h w (cs.set c y) vs:=by
  intro cs
  induction cs with
  | nil=>intro vs c _ hx;simp at hx
  | cons z cs ih =>
   intro vs c hA hx
   obtain ⟨v,vs',rfl,k1,k2⟩:=hA
   cases c with
   | zero=>simp at hx;subst hx;exact ⟨v,vs',rfl,hc v k1,k2.cU T⟩
   | succ c=>exact ⟨v,vs',rfl,k1.cU T,ih c k2 (by simpa using hx)⟩
 exact aAx R' h0' (hv.trans h3) h5 (hnew c h6 h1)
theorem Gho.kP {b vb c j K vj:Nat} {t:TypeId} {cells:List SC} {e:TypeId} {sz:Nat} {xs:List (List D)} {dp:Bool} (h0:s.h b=(vb,.box t cells)) (h1:cells[c]? = some (.row j vj)) (h2:s.h j=(vj,.row e sz xs dp)) (hk:b≠K) :
  Gho P base w0 N s (((s.bL j (vj,.none)).bL K ((s.h K).1+1,.row e sz xs dp)).bL b (vb,.box t (cells.set c (.row K ((s.h K).1+1))))):=by
 rintro a w ⟨g,R⟩
 have hjb:b≠j:=fun e=>by rw [e,h2] at h0;cases h0
 obtain ⟨g',R',T,hc⟩:=tP (K:=K) R h2
 refine nP R R' T h0 ?_ h1 hc
 show dN (dN s.h j _) K _ b=_
 rw [bG _ _ _ _ hk,bG _ _ _ _ hjb,h0]
theorem Gho.aAs {b vb c K:Nat} {t:TypeId} {cells:List SC} (e:TypeId) (sz:Nat) (h0:s.h b=(vb,.box t cells)) (h1:cells[c]? = some .nil) (hk:b≠K) :
  Gho P base w0 N s ((s.bL K ((s.h K).1+1,.row e sz [] true)).bL b (vb,.box t (cells.set c (.row K ((s.h K).1+1))))):=by
 rintro a w ⟨g,R⟩
 obtain ⟨g',R',T,hc⟩:=wB (K:=K) e sz R
 refine nP R R' T h0 ?_ h1 hc
 show dN s.h K _ b=_
 rw [bG _ _ _ _ hk,h0]
theorem sq {x y:Code} (h:SW P base w0 N x s (aft P base w0 N Z (.code y::k))):SW P base w0 N (.seq x y) s (aft P base w0 N Z k):=aAw h
theorem bk {id:Nat} {c:Code} (h:SW P base w0 N c s (aft P base w0 N Z (.block id::k))):SW P base w0 N (.block id c) s (aft P base w0 N Z k):=yT h
theorem sk (h:aft P base w0 N Z k .normal s):SW P base w0 N .skip s (aft P base w0 N Z k):=aAX h
theorem xt {id:Nat} (h:aft P base w0 N Z k (.exit id) s):SW P base w0 N (.exit id) s (aft P base w0 N Z k):=aAT h
theorem rt (h:Z s):SW P base w0 N .ret s (aft P base w0 N Z k):=aAl h
theorem an {c:Code} (h:SW P base w0 N c s (aft P base w0 N Z k)):aft P base w0 N Z (.code c::k) .normal s:=h
theorem ab {id:Nat} (h:aft P base w0 N Z k .normal s):aft P base w0 N Z (.block id::k) .normal s:=h
end
end Go.Sh
namespace Go.Sh
set_option linter.unusedVariables false
set_option linter.unusedSimpArgs false
open Go.RowKit
section
variable {P:Program} {base N:Nat} {w0:W0} {Z:St→Prop} {k:List Fr} {s s':St}
theorem aD.swap {g g':Gh} {h h':eS} {w:World} {x y:SC} (T:bU g g' h h' w w) (hc : ∀v,fW g h w x v→fW g' h' w y v) : ∀ {cs:List SC} {vs:List Value} (c:Nat),aD g h w cs vs→cs[c]? = some x→aD g' h' w (cs.set c y) vs
 | [],_,c,_,hx=>by simp at hx
 | z::cs,vs,0,hA,hx=>by
  obtain ⟨v,vs',rfl,k1,k2⟩:=hA
  simp at hx
  subst hx
  exact ⟨v,vs',rfl,hc v k1,k2.cU T⟩
 | z::cs,vs,c+1,hA,hx=>by
  obtain ⟨v,vs',rfl,k1,k2⟩:=hA
  exact ⟨v,vs',rfl,k1.cU T,aD.swap T hc c k2 (by simpa using hx)⟩
end
end Go.Sh
namespace Go.Sh
set_option linter.unusedVariables false
set_option linter.unusedSimpArgs false
open Go.RowKit
def wO (e:TypeId) (sz:Nat) (xs:List (List D)) (g:FuncId) (caps:List D):St:=
 { t:=fun i=>if i=0 then .v false [.row 7059000 1] else if i=1 then .v false [.dat (.fn g caps)] else .undef,h:=fun i=>if i=7059000 then (1,.row e sz xs true) else (0,.none) }
theorem sJ (e:TypeId) (sz:Nat) (xs:List (List D)) (g:FuncId) (caps:List D) (i:Nat):(wO e sz xs g caps).t i=if i=0 then .v false [.row 7059000 1] else if i=1 then .v false [.dat (.fn g caps)] else .undef:=rfl
theorem mN (e:TypeId) (sz:Nat) (xs:List (List D)) (g:FuncId) (caps:List D) (i:Nat):(wO e sz xs g caps).h i=if i=7059000 then (1,.row e sz xs true) else (0,.none):=rfl
def aBO (T:sC) (vars:List ResultVar) (e:TypeId) (sz:Nat) (ys:List (List D)) (s:St):Prop:=
 ∃ver zs dp,s.h 7059000=(ver,.row e sz zs dp)∧((fQ T s vars=some [(false,[.row 7059000 ver])]∧zs=ys) ∨ ∃n,fQ T s vars=some [(false,[.part 7059000 ver 0 n])]∧n≤zs.length∧zs.take n=ys)
theorem aAV {P : Program} {f : FuncId} {fn : Func} {c : Code} {e : TypeId} {sz : Nat} {xs ys : List (List D)} {gf : FuncId} {caps : List D} {N : Nat} {vars : List ResultVar} (hf : P.funcs[f]? = some fn) (hb : fn.body = some c) (hN : fn.ntmps = N) (hv : fn.results.toList = vars) (hnm : (fn.name == "runtime.NumGoroutine") = false) (hn : 2 ≤ N)
  (hxf:(xs.all fun y=>y.all D.flat)=true) (hyf:(ys.all fun y=>y.all D.flat)=true) (hyl : ∀y∈ys,y.length=sz)
  (h : ∀(base:Nat) (w0:W0),SW P base w0 N c (wO e sz xs gf caps) (aft P base w0 N (aBO (dA P) vars e sz ys) [])):dO P f [(false,[.sl xs]),(false,[.fn gf caps])] [(false,[.edit (.cU e sz ys)])]:=by
 subst hN hv
 refine .inr (.inl ⟨.cU e sz ys,rfl,⟨fn,c,hf,hb,hnm⟩,xs,gf,caps,rfl,List.all_eq_true.1 hxf,⟨hyl,List.all_eq_true.1 hyf⟩,fun base w v fv cells F2 hbase hown hxl hrows hfn hF2 => ?_⟩)
 refine calls_of_wp hf hb ?_
 have hob:fS v=v.ownBlock:=bZ hown
 have hone:v.oneCell'=true:=by rcases hown.2 with ⟨rfl,_⟩ | ⟨_,_,_,rfl,_⟩<;>rfl
 let S:Nat→Prop:=fun b=>b<w.heap.size∧some b≠v.ownBlock
 let g:Gh:={ val:=fun _=>v,fp:=fun _=>[],S:=S,Q:=⟨fun b=>b<w.heap.size,base,none,slP P⟩ }
 have hlv : ∀i,live (wO e sz xs gf caps).h i→i=7059000:=fun i hl=>by
  unfold live at hl
  rw [mN] at hl
  by_cases hi:i=7059000
  ·exact hi
  ·rw [if_neg hi] at hl;exact absurd rfl hl
 have R:Rel P base ⟨w,⟨fun b=>b<w.heap.size,base,none,slP P⟩,S,zX⟩ fn.ntmps (wO e sz xs gf caps) { tmps := #[v,fv]++Array.replicate (fn.ntmps-2) undef,defers:=[] } w:=by
  refine ⟨g,rfl,by simp;omega,Below.refl _ _,⟨fun _ x=>x,rfl,fun _ hx=>by cases hx⟩,fun b hb=>⟨hb,rfl⟩,⟨hbase,fun b hb _=>hb.1,fun b hb=>hb.1,fun i => ?_,fun i b hl hb hS=>hS.2 (by rw [←hob];exact hb.symm),fun i j b hne hi hj=>absurd ((hlv i hi).trans (hlv j hj).symm) hne,fun i j _ _ _ b hb=>by simp [g] at hb,fI.nil _ _,by simp,fun i _ b hb=>by simp [g] at hb,Nat.le_refl _⟩,fun t => ?_,⟨rfl,.inl rfl⟩,fun _=>trivial⟩
  ·rw [mN]
   by_cases hi:i=7059000
   ·rw [if_pos hi]
    exact ⟨cells,hown,hxl,aR.flat hrows (List.all_eq_true.1 hxf),by simp [g],fun _=>fI.nil _ _⟩
   ·rw [if_neg hi];trivial
  ·rw [sJ]
   by_cases h0:t=0
   ·subst h0
    rw [if_pos rfl]
    have:({ tmps := #[v,fv]++Array.replicate (fn.ntmps-2) undef,defers:=[] }:Act).tmps.getD 0 undef=v:=by
     rw [Array.getD_eq_getD_getElem?,Array.getElem?_append_left (by simp)];rfl
    rw [this]
    exact ⟨v,[],rfl,⟨hone,by rw [mN,if_pos rfl];exact Nat.le_refl _,fun _ _ _ _ _ _=>rfl⟩,rfl⟩
   ·rw [if_neg h0]
    by_cases h1:t=1
    ·subst h1
     rw [if_pos rfl]
     have:({ tmps := #[v,fv]++Array.replicate (fn.ntmps-2) undef,defers:=[] }:Act).tmps.getD 1 undef=fv:=by
      rw [Array.getD_eq_getD_getElem?,Array.getElem?_append_left (by simp)];rfl
     rw [this]
     exact ⟨fv,[],rfl,⟨F2,hfn,fun b hb=>⟨Rep.lt _ _ _ hfn b hb,fun hh=>hF2 b hh.symm hb⟩⟩,rfl⟩
    ·rw [if_neg h1]
     show _=undef
     simp only [Array.getD_eq_getD_getElem?,Array.getElem?_append]
     rw [if_neg (by simp;omega)]
     by_cases h2:t-2<fn.ntmps-2
     ·simp [h2]
     ·rw [Array.getElem?_eq_none (by simp;omega)];rfl
 refine wp_mono (h base ⟨w,⟨fun b=>b<w.heap.size,base,none,slP P⟩,S,zX⟩ _ w R) ?_
 rintro en a' w' ⟨s',h1,g',R'⟩
 have fin:aBO (dA P) fn.results.toList e sz ys s'→a'.defers=[] ∧ ∃u,(results fn a'.tmps).run P w' = .ok u w' ∧ ∃v' cells',Ending.returned u = .returned v'∧w'.ownsRow base e sz v' ys.length cells'∧aC w' ys cells' []∧w.grownBy w' v.ownBlock∧(v'.ownBlock=v.ownBlock∨v'.ownBlock=none ∨ ∃b,w.heap.size≤b∧v'.ownBlock=some b):=by
  rintro ⟨ver,zs,dp,hh,hr⟩
  have hlive:live s'.h 7059000:=by unfold live;rw [hh];simp
  have hobj:=R'.inv.obj 7059000
  rw [show (s'.h 7059000).2 = .row e sz zs dp from by rw [hh]] at hobj
  obtain ⟨cells1,p1,p2,p3,p4,p5⟩:=hobj
  have hyfl:=List.all_eq_true.1 hyf
  have hgrow:w.grownBy w' v.ownBlock:=⟨R'.below.os,R'.below.tape,R'.below.output,R'.below.size,fun k hk hne=>(R'.eU k ⟨hk,hne⟩).2⟩
  have hblk : ∀b,fS (g'.val 7059000)=some b→some b=v.ownBlock∨w.heap.size≤b:=fun b hb=>by
   rcases Nat.lt_or_ge b w.heap.size with hlt | hge
   ·by_cases he:some b=v.ownBlock
    ·exact .inl he
    ·exact absurd (R'.eU b ⟨hlt,he⟩).1 (R'.inv.mtb _ b hlive hb)
   ·exact .inr hge
  have hblk' : ∀u:Value,u.ownBlock=(g'.val 7059000).ownBlock→(u.ownBlock=v.ownBlock∨u.ownBlock=none ∨ ∃b,w.heap.size≤b∧u.ownBlock=some b):=fun u hu=>by
   have e1:fS (g'.val 7059000)=(g'.val 7059000).ownBlock:=bZ p1
   cases hc:(g'.val 7059000).ownBlock with
   | none=>exact .inr (.inl (hu.trans hc))
   | some b =>
    rcases hblk b (e1.trans hc) with h2 | h2
    ·exact .inl ((hu.trans hc).trans h2)
    ·exact .inr (.inr ⟨b,h2,hu.trans hc⟩)
  have one : ∀ {cc:SC},fQ (dA P) s' fn.results.toList=some [(false,[cc])] → ∃u,fW g' s'.h w' cc u∧(results fn a'.tmps).run P w' = .ok u w':=by
   intro cc hg
   obtain ⟨vs,k1,k2,k3⟩:=hU R' hg
   have hrun:=mI (P:=P) (w:=w') (fun x=>match x with | .tmp t=>(pure (a'.tmps.getD t undef):Sem Value) | .cell p t=>(do loadVar t (←asAddr (a'.tmps.getD p undef)):Sem Value)) fn.results.toList vs (by rw [k1]) k3
   have hrun':(results fn a'.tmps).run P w' = .ok (if h:vs.toArray.size=1 then vs.toArray[0] else .tuple vs.toArray) w':=by
    unfold results
    rw [←Array.toArray_toList (xs:=fn.results)]
    rw [List.mapM_toArray]
    simp only [Sem.run_bind,Sem.run_map,Sem.run_pure]
    exact (congrArg (fun r:Result (List Value)=>(r.andThen fun a w'=>Result.ok a.toArray w').andThen fun a w'=>Result.ok (if h:a.size=1 then a[0] else Value.tuple a) w') hrun).trans rfl
   obtain ⟨u,vs',rfl,⟨u',us,e1,m1,m2⟩,m3⟩:=k2
   have m3':vs'=[]:=m3
   subst m3'
   simp only [List.cons.injEq] at e1
   obtain ⟨rfl,_⟩:=e1
   exact ⟨u,m1,hrun'⟩
  rcases hr with ⟨hg,rfl⟩ | ⟨n,hg,hnl,hys⟩
  ·obtain ⟨u,⟨_,_,m⟩,hrun⟩:=one hg
   have hu:u=g'.val 7059000:=m (by rw [hh]) e sz zs dp (by rw [hh])
   subst hu
   have hG:g'.fp 7059000=[]:=kW p3.rep hyfl
   exact ⟨R'.defers,_,hrun,_,cells1,rfl,p1,by rw [←hG];exact p3.rep,hgrow,hblk' _ rfl⟩
  ·obtain ⟨u,⟨_,_,m⟩,hrun⟩:=one hg
   obtain ⟨ad,cap,hu,hnc,_,m2⟩:=m (by rw [hh]) e sz zs dp (by rw [hh])
   obtain ⟨mm,hval,hnm'⟩:=m2 rfl
   have hsp:aC w' (zs.take n++zs.drop n) cells1 (g'.fp 7059000):=by rw [List.take_append_drop];exact p3.rep
   obtain ⟨v1,v2,G1,G2,hcs,hG,m3,m4⟩:=aC.split hsp
   rw [hys] at m3
   have hG1:G1=[]:=kW m3 hyfl
   subst hG1
   have hyln:ys.length=n:=by rw [←hys,List.length_take,Nat.min_eq_left hnl]
   have hv1:v1.length=n*sz:=by rw [aC.length m3 hyl,hyln]
   refine ⟨R'.defers,_,hrun,u,v1,rfl,?_,m3,hgrow,hblk' u (by rw [hu,hval];cases ad<;>rfl)⟩
   rw [hyln]
   rcases p1.2 with ⟨q1,q2⟩ | ⟨b,c2,cur,q1,q2,q3,q4,q5,q6,q7⟩
   ·rw [hval] at q1
    simp only [Value.slice.injEq] at q1
    obtain ⟨r1,r2,r3⟩:=q1
    have hn0:n=0:=by omega
    subst hn0
    have:v1=[]:=List.length_eq_zero_iff.1 (by rw [hv1];simp)
    subst this
    rw [hu,r1,r3]
    exact World.ownsRow_nil w' base e sz
   ·rw [hval] at q1
    simp only [Value.slice.injEq] at q1
    obtain ⟨r1,r2,r3⟩:=q1
    rw [hu,r1,r3]
    refine ⟨hv1,.inr ⟨b,c2,cur,rfl,q2,q3,by omega,q5,q6,?_⟩⟩
    have hle:n*sz≤zs.length*sz:=Nat.mul_le_mul_right _ hnl
    have:cur.toList.take (n*sz)=cells1.take (n*sz):=by rw [←q7,List.take_take,Nat.min_eq_left hle]
    rw [this,hcs,←hv1,List.take_left]
 cases en with
 | normal=>exact fin h1
 | ret=>exact fin h1
 | exit id=>exact h1.elim
 | goto l=>exact h1.elim
 | panic c=>exact h1.elim
 | outgrown=>exact h1.elim
theorem sS {α:Type} {xs z:List α} {i:Int} (h:oF xs i=some z):0≤i∧i.toNat≤xs.length:=by
 unfold oF at h
 split at h
 ·assumption
 ·cases h
theorem pP {α:Type} {xs z:List α} {i:Int} (h:oF xs i=some z):i.toNat+(xs.length-i.toNat)=xs.length:=by have:=sS h;omega
theorem qT {α:Type} {f:α→List D} {xs z:List α} {i:Int} {r:List D} (h:oF xs i=some z):0≤i∧i.toNat≤(List.map f (List.take i.toNat xs)++List.replicate (xs.length-i.toNat) r).length:=by
 have:=sS h
 refine ⟨this.1,?_⟩
 rw [List.length_append,List.length_map,List.length_take,List.length_replicate]
 omega
theorem zG {α:Type} {f:α→List D} {xs z:List α} {i:Int} {n:Nat} {r:List D} (h:oF xs i=some z):(List.map f (List.take i.toNat xs)++List.replicate n r).take i.toNat=List.map f (List.take i.toNat xs):=by
 have:=sS h
 exact List.take_left' (by rw [List.length_map,List.length_take];omega)
theorem LQ:type_of% (And.intro @sJ @mN):=And.intro @sJ @mN
end Go.Sh
namespace Go.Sh
set_option linter.unusedVariables false
set_option linter.unusedSimpArgs false
open Go.RowKit
end Go.Sh
namespace Go.Sh
set_option linter.unusedVariables false
set_option linter.unusedSimpArgs false
open Go.RowKit
def vW (t:TypeId) (B:Nat) (v0:Value) (d0:D) (ds:List D) (rest:List (Bool×List D)):St:=
 { t:=fun i=>match i with | 0=>.v false [.bp 7059000 1 0] | i+1=>(match rest[i]? with | some (ag,ds)=>.v ag (ds.map .dat) | none=>.undef),h:=fun i=>if i=7059000 then (1,.box t (.old B d0 (some v0)::ds.map .dat)) else (0,.none) }
theorem sE (t:TypeId) (B:Nat) (v0:Value) (d0:D) (ds:List D) (rest:List (Bool×List D)) (i:Nat):(vW t B v0 d0 ds rest).t i=match i with | 0=>.v false [.bp 7059000 1 0] | i+1=>(match rest[i]? with | some (ag,ds)=>.v ag (ds.map .dat) | none=>.undef):=rfl
theorem kI (t:TypeId) (B:Nat) (v0:Value) (d0:D) (ds:List D) (rest:List (Bool×List D)) (i:Nat):(vW t B v0 d0 ds rest).h i=if i=7059000 then (1,.box t (.old B d0 (some v0)::ds.map .dat)) else (0,.none):=rfl
def lA (T:sC) (vars:List ResultVar) (t:TypeId) (B:Nat) (v0:Value) (d0:D) (es:List D) (rs:List (Bool×List RC)) (s:St):Prop:=
 Ret T vars rs s∧s.h 7059000=(1,.box t (.old B d0 (some v0)::es.map .dat))
theorem tT {g:Gh} {h:eS} {w:World} : ∀ {es:List D} {us:List Value},aD g h w (es.map .dat) us→es.all D.flat=true→aA w es us []
 | [],us,hc,_=>by simp only [aA];exact ⟨hc,trivial⟩
 | d::es,us,hc,hf=>by
  obtain ⟨v,vs',rfl,⟨F,h1,_⟩,h3⟩:=hc
  simp only [List.all_cons,Bool.and_eq_true] at hf
  have e:F=[]:=nH h1 hf.1
  subst e
  simp only [aA]
  exact ⟨v,vs',[],[],rfl,rfl,h1,tT h3 hf.2⟩
theorem aAR {P : Program} {f : FuncId} {fn : Func} {c : Code} {t : TypeId} {d0 : D} {ds es : List D} {rest : List (Bool × List D)} {rs : List (Bool × List RC)} {N : Nat} {vars : List ResultVar} (hf : P.funcs[f]? = some fn) (hb : fn.body = some c) (hN : fn.ntmps = N) (hv : fn.results.toList = vars) (hnm : (fn.name == "runtime.NumGoroutine") = false) (hn : rest.length + 1 ≤ N)
  (hrs:eI rs=false) (hds:ds.all D.flat=true) (hes:es.all D.flat=true) (hl:es.length=ds.length)
  (h : ∀(base:Nat) (w0:W0) (B:Nat) (v0:Value),(B≤base∧w0.Q.L=slP P ∧ ∀b,w0.K b→b<base)→SW P base w0 N c (vW t B v0 d0 ds rest) (aft P base w0 N (lA (dA P) vars t B v0 d0 es rs) [])):dO P f ((false,[.ptr (d0::ds)])::rest) ((false,[.edit (.lend t es)])::rs):=by
 subst hN hv
 refine .inr (.inr ⟨t,es,rs,rfl,⟨fn,c,hf,hb,hnm⟩,hrs,hes,d0,ds,rest,rfl,hds,hl,fun w b vals v0 vs0 vs Fb F hw hvals r0 r1 hbF ha hbF2 => ?_⟩)
 refine calls_of_wp hf hb ?_
 have hbl:b<w.heap.size:=(Array.getElem?_eq_some_iff.1 hw).1
 obtain ⟨hlen,hat⟩:=args_at ha
 have hFlt:=mY ha
 have hFb:=Rep.lt _ _ _ r0
 let K:Nat→Prop:=fun x=>x<w.heap.size∧x≠b
 let q:QF:=⟨fun x=>x<w.heap.size,b,some b,slP P⟩
 let g:Gh:={ val:=fun _=>.pointer (some ⟨b,0,none⟩),fp:=fun _=>[],S:=K,Q:=q }
 let s0:=vW t w.heap.size v0 d0 ds rest
 have hlv : ∀i,live s0.h i→i=7059000:=fun i hl=>by
  unfold live at hl
  rw [kI] at hl
  by_cases hi:i=7059000
  ·exact hi
  ·rw [if_neg hi] at hl;exact absurd rfl hl
 have R:Rel P w.heap.size ⟨w,q,K,zX⟩ fn.ntmps s0 { tmps:=(.pointer (some ⟨b,0,none⟩)::vs).toArray++Array.replicate (fn.ntmps-(.pointer (some ⟨b,0,none⟩)::vs).toArray.size) undef,defers:=[] } w:=by
  have hsz:(Value.pointer (some ⟨b,0,none⟩)::vs).toArray.size=rest.length+1:=by simp [hlen]
  have hnd : ∀i,¬bT s0.h i:=by
   rintro i ⟨_,_,_,hd⟩
   rw [kI] at hd
   split at hd<;>cases hd
  have hmt : ∀i x,live s0.h i→fS (g.val i)=some x → ¬g.S x:=by
   intro i x hl hx hS
   have:some b=some x:=hx
   exact hS.2 (Option.some.inj this).symm
  have hlt:qV (some b) s0.h g:=by
   intro b' hb'
   cases hb'
   exact ⟨by rw [kI,if_pos rfl];exact Nat.le_refl _,fun _ _ _=>rfl⟩
  refine ⟨g,rfl,by simp only [Array.size_append,Array.size_replicate];omega,Below.refl _ _,⟨fun _ x=>x,rfl,hlt⟩,fun x hx=>⟨hx,rfl⟩,⟨Nat.le_refl _,fun x hx _=>hx.1,fun x hx=>hx.1,fun i => ?_,hmt,fun i j x hne hi hj=>absurd ((hlv i hi).trans (hlv j hj).symm) hne,fun i j _ hi _=>absurd hi (hnd i),fI.nil _ _,fun _ hx=>absurd hx List.not_mem_nil,fun i hi=>absurd hi (hnd i),Nat.le_of_lt hbl⟩,fun i => ?_,⟨rfl,.inl rfl⟩,fun _=>trivial⟩
  ·rw [kI]
   by_cases hi:i=7059000
   ·rw [if_pos hi]
    refine ⟨b,vals,rfl,Nat.le_refl _,hw,?_⟩
    rw [hvals]
    refine ⟨v0,vs0,rfl,⟨Fb,r0,fun x hx=>⟨⟨hFb x hx,fun e=>hbF (e ▸ hx)⟩,hFb x hx⟩,fun x hx=>by cases hx;rfl⟩,aD.lC r1 (by simp)⟩
   ·rw [if_neg hi];trivial
  ·rw [sE]
   cases i with
   | zero =>
    have:({ tmps:=(Value.pointer (some ⟨b,0,none⟩)::vs).toArray++Array.replicate (fn.ntmps-(Value.pointer (some ⟨b,0,none⟩)::vs).toArray.size) undef,defers:=[] }:Act).tmps.getD 0 undef = .pointer (some ⟨b,0,none⟩):=by
     rw [Array.getD_eq_getD_getElem?,Array.getElem?_append_left (by simp)];simp
    rw [this]
    refine ⟨_,[],rfl,⟨rfl,?_,fun _ t' cs _=>⟨b,rfl,rfl⟩⟩,rfl⟩
    show 1≤(s0.h 7059000).1
    rw [kI,if_pos rfl]
    exact Nat.le_refl _
   | succ i =>
    show dW g _ w (match rest[i]? with | some (ag,ds)=>.v ag (ds.map .dat) | none=>.undef) _
    cases ht:rest[i]? with
    | none =>
     have hge:rest.length≤i:=List.getElem?_eq_none_iff.1 ht
     show _=undef
     simp only [Array.getD_eq_getD_getElem?,Array.getElem?_append]
     rw [if_neg (by omega)]
     by_cases h2:i+1-(Value.pointer (some ⟨b,0,none⟩)::vs).toArray.size<fn.ntmps-(Value.pointer (some ⟨b,0,none⟩)::vs).toArray.size
     ·rw [Array.getElem?_replicate,if_pos h2];rfl
     ·rw [Array.getElem?_replicate,if_neg h2];rfl
    | some x =>
     obtain ⟨v,Fi,h1,h2,hFi⟩:=hat i x ht
     have hlt:i<vs.length:=by have:=(List.getElem?_eq_some_iff.1 ht).1;omega
     have hv:({ tmps:=(Value.pointer (some ⟨b,0,none⟩)::vs).toArray++Array.replicate (fn.ntmps-(Value.pointer (some ⟨b,0,none⟩)::vs).toArray.size) undef,defers:=[] }:Act).tmps.getD (i+1) undef=v:=by
      simp only [Array.getD_eq_getD_getElem?,Array.getElem?_append]
      rw [if_pos (by omega)]
      simp [h1]
     rw [hv]
     have hK : ∀x∈Fi,K x:=fun x hx=>⟨hFlt x (hFi x hx),fun e=>hbF2 (e ▸ hFi x hx)⟩
     obtain ⟨ag,ds'⟩:=x
     cases ag with
     | false =>
      obtain ⟨d,rfl,hr⟩:=h2
      exact ⟨v,[],rfl,⟨Fi,hr,hK⟩,rfl⟩
     | true =>
      obtain ⟨cs,rfl,hr⟩:=h2
      exact ⟨cs,rfl,aD.lC hr hK⟩
 refine wp_mono (h w.heap.size ⟨w,q,K,zX⟩ w.heap.size v0 ⟨Nat.le_refl _,rfl,fun b hb=>hb.1⟩ _ w R) ?_
 rintro e a' w' ⟨s',h1,R'⟩
 have fin:lA (dA P) fn.results.toList t w.heap.size v0 d0 es rs s'→a'.defers=[] ∧ ∃v,(results fn a'.tmps).run P w' = .ok v w' ∧ ∃v' us,Ending.returned v = .returned v'∧qO (slP P) w.heap.size w' v' rs (fun x=>x<w.heap.size)∧w.grownBy w' (some b) ∧
    w'.heap[b]? = some (.cells (v0::us).toArray t (0,0))∧aA w' es us []:=by
  rintro ⟨hr,hh⟩
  obtain ⟨v,k1,k2⟩:=vZ R' hr
  obtain ⟨g',R''⟩:=R'
  have hobj:=R''.inv.obj 7059000
  rw [show (s'.h 7059000).2 = .box t (.old w.heap.size d0 (some v0)::es.map .dat) from by rw [hh]] at hobj
  obtain ⟨b',vals',p1,p2,p3,p4⟩:=hobj
  obtain ⟨u0,us,e1,⟨F0,_,_,hu0⟩,p5⟩:=p4
  have hu0':u0=v0:=hu0 v0 rfl
  subst hu0'
  have hlive:live s'.h 7059000:=by unfold live;rw [hh];simp
  have hbb:b'=b:=by
   have:=(R''.q.2.2 b rfl).2 _ _ hh
   rw [p1] at this
   simpa using this
  subst hbb
  refine ⟨R''.defers,v,k1,v,us,rfl,k2,⟨R''.below.os,R''.below.tape,R''.below.output,R''.below.size,fun k hk hne=>(R''.eU k ⟨hk,fun e=>hne (by rw [e])⟩).2⟩,?_,tT p5 hes⟩
  rw [p3,←e1]
 cases e with
 | normal=>exact fin h1
 | ret=>exact fin h1
 | exit id=>exact h1.elim
 | goto l=>exact h1.elim
 | panic c=>exact h1.elim
 | outgrown=>exact h1.elim
def aBB (T:sC) (vars:List ResultVar) (t:TypeId) (es:List D) (s:St):Prop:=
 ∃i ver,fQ T s vars=some [(false,[.bp i ver 0])]∧s.h i=(ver,.box t (es.map .dat))
theorem rH {g:Gh} {h:eS} {w:World} : ∀ {es:List D} {us:List Value},aD g h w (es.map .dat) us → ∃G,aA w es us G ∧ ∀b∈G,g.S b
 | [],us,hc=>⟨[],by simp only [aA];exact ⟨hc,trivial⟩,by simp⟩
 | d::es,us,hc=>by
  obtain ⟨v,vs',rfl,⟨F,h1,h2⟩,h3⟩:=hc
  obtain ⟨G,h4,h5⟩:=rH h3
  refine ⟨F++G,by simp only [aA];exact ⟨v,vs',F,G,rfl,rfl,h1,h4⟩,fun b hb => ?_⟩
  rcases List.mem_append.1 hb with hb | hb
  ·exact h2 b hb
  ·exact h5 b hb
theorem aAP {P : Program} {f : FuncId} {fn : Func} {c : Code} {t : TypeId} {es : List D} {args : List (Bool × List D)} {N : Nat} {vars : List ResultVar} (hf : P.funcs[f]? = some fn) (hb : fn.body = some c) (hN : fn.ntmps = N) (hv : fn.results.toList = vars) (hnm : (fn.name == "runtime.NumGoroutine") = false) (hn : args.length ≤ N)
  (h : ∀(base:Nat) (w0:W0),SW P base w0 N c (init args) (aft P base w0 N (aBB (dA P) vars t es) [])):dO P f args [(false,[.edit (.newb t es)])]:=by
 subst hN hv
 refine .inr (.inl ⟨.newb t es,rfl,⟨fn,c,hf,hb,hnm⟩,fun w vs Fa ha => ?_⟩)
 obtain ⟨hlen,hat⟩:=args_at ha
 have hlen':vs.size=args.length:=by simpa using hlen
 refine calls_of_wp hf hb ?_
 have hFlt:=mY ha
 have R:=tL (P:=P) (fn:=fn) ha hn
 refine wp_mono (h w.heap.size ⟨w,⟨fun b=>b∈Fa,w.heap.size,none,slP P⟩,noK,zX⟩ _ w R) ?_
 rintro e a' w' ⟨s',h1,g',R'⟩
 have fin:aBB (dA P) fn.results.toList t es s'→a'.defers=[] ∧ ∃v,(results fn a'.tmps).run P w' = .ok v w'∧Below w.heap.size w w' ∧ ∃b vals G,Ending.returned v = .returned (.pointer (some ⟨b,0,none⟩))∧w.heap.size≤b ∧
   w'.heap[b]? = some (.cells vals t (0,0))∧aA w' es vals.toList G∧b∉G ∧ ∀x∈G,(x∈Fa∨w.heap.size≤x)∧x<w'.heap.size:=by
  rintro ⟨i,ver,hg,hh⟩
  have hobj:=R'.inv.obj i
  rw [show (s'.h i).2 = .box t (es.map .dat) from by rw [hh]] at hobj
  obtain ⟨b,vals,p1,p2,p3,p4⟩:=hobj
  obtain ⟨G,p5,p6⟩:=rH p4
  have hlive:live s'.h i:=by unfold live;rw [hh];simp
  have hfb:w.heap.size≤b:=by have h1:=R'.q.2.1;have h2:(⟨w,⟨fun b=>b∈Fa,w.heap.size,none,slP P⟩,noK,zX⟩:W0).Q.fb=w.heap.size:=rfl;omega
  obtain ⟨vs,k1,k2,k3⟩:=hU R' hg
  have hrun:=mI (P:=P) (w:=w') (fun x=>match x with | .tmp t=>(pure (a'.tmps.getD t undef):Sem Value) | .cell p t=>(do loadVar t (←asAddr (a'.tmps.getD p undef)):Sem Value)) fn.results.toList vs (by rw [k1]) k3
  have hrun':(results fn a'.tmps).run P w' = .ok (if h:vs.toArray.size=1 then vs.toArray[0] else .tuple vs.toArray) w':=by
   unfold results
   rw [←Array.toArray_toList (xs:=fn.results)]
   rw [List.mapM_toArray]
   simp only [Sem.run_bind,Sem.run_map,Sem.run_pure]
   exact (congrArg (fun r:Result (List Value)=>(r.andThen fun a w'=>Result.ok a.toArray w').andThen fun a w'=>Result.ok (if h:a.size=1 then a[0] else Value.tuple a) w') hrun).trans rfl
  obtain ⟨u,vs',rfl,⟨u',us,e1,m1,m2⟩,m3⟩:=k2
  have m3':vs'=[]:=m3
  subst m3'
  simp only [List.cons.injEq] at e1
  obtain ⟨rfl,_⟩:=e1
  obtain ⟨b2,q1,q2⟩:=m1.2.2 (by rw [hh]) t (es.map .dat) (by rw [hh])
  have hbb:b2=b:=by rw [p1] at q1;simp at q1;exact q1.symm
  subst hbb
  refine ⟨R'.defers,u,hrun',R'.below,b2,vals,G,by rw [q2],hfb,p3,p5,fun hx=>R'.inv.mtb i b2 hlive (by rw [p1];rfl) (p6 _ hx),fun x hx=>⟨?_,R'.inv.S_lt x (p6 x hx)⟩⟩
  rcases Nat.lt_or_ge x w.heap.size with hlt | hge
  ·exact .inl (R'.q.1 x (R'.inv.S_old x (p6 x hx) hlt))
  ·exact .inr hge
 cases e with
 | normal=>exact fin h1
 | ret=>exact fin h1
 | exit id=>exact h1.elim
 | goto l=>exact h1.elim
 | panic c=>exact h1.elim
 | outgrown=>exact h1.elim
end Go.Sh
namespace Go.Sh
set_option linter.unusedVariables false
set_option linter.unusedSimpArgs false
open Go.RowKit
section
variable {P:Program} {base N:Nat} {w0:W0} {w:World} {g:Gh} {s:St} {a:Act}
def aBM (s:St) (d:Nat) (sv:SV):St:=
 { t:=fun i=>if i=d then sv else if i<10000 then s.fr i else .unk,h:=s.h,fr:=fun i=>s.fr (i+10000) }
def aAo:List (Bool×List SC)→SV
 | [(ag,cs)]=>.v ag cs
 | l=>.tup l
def aBH (P:Program) (T:sC) (vars:List ResultVar) (N:Nat) (ops:Array Oper) (n d:Nat) (K:St→Prop) (s:St):Prop:=
 ∃l,fQ T s vars=some l∧gS P T N ops (ops.toList.drop (n+1)) (aBM s d (aAo l)) K
set_option maxRecDepth 20000 in
end
end Go.Sh
namespace Go.Sh
set_option linter.unusedVariables false
set_option linter.unusedSimpArgs false
open Go.RowKit
def aA7 (h:eS) (kh:List Nat) (i ver:Nat) (e:TypeId) (sz:Nat) (xs:List (List D)) (j:Nat) (x:List D) (off K:Nat) (e':TypeId) (sz':Nat) (ys:List (List D)) (u:Value):eS:=fun l =>
 if l=i then (ver,.row e sz (xs.set j (x.set off (.val u))) true) else if l=K then ((h K).1+1,.row e' sz' ys true) else if l=7058000 then ((h 7058000).1+1,.pin K ((h K).1+1) u) else if l∈kh then h l else ((h l).1,.none)
def aAA (s:St) (kt kh:List Nat) (i ver:Nat) (e:TypeId) (sz:Nat) (xs:List (List D)) (j:Nat) (x:List D) (off K:Nat) (e':TypeId) (sz':Nat) (ys:List (List D)) (u:Value):St:=
 { t:=fun t=>if t∈kt then s.t t else .unk,h:=aA7 s.h kh i ver e sz xs j x off K e' sz' ys u }
theorem tR (s:St) (kt kh:List Nat) (i ver:Nat) (e:TypeId) (sz:Nat) (xs:List (List D)) (j:Nat) (x:List D) (off K:Nat) (e':TypeId) (sz':Nat) (ys:List (List D)) (u:Value) (t:Nat):(aAA s kt kh i ver e sz xs j x off K e' sz' ys u).t t=if t∈kt then s.t t else .unk:=rfl
theorem tC (s:St) (kt kh:List Nat) (i ver:Nat) (e:TypeId) (sz:Nat) (xs:List (List D)) (j:Nat) (x:List D) (off K:Nat) (e':TypeId) (sz':Nat) (ys:List (List D)) (u:Value) (l:Nat):(aAA s kt kh i ver e sz xs j x off K e' sz' ys u).h l =
  if l=i then (ver,.row e sz (xs.set j (x.set off (.val u))) true) else if l=K then ((s.h K).1+1,.row e' sz' ys true) else if l=7058000 then ((s.h 7058000).1+1,.pin K ((s.h K).1+1) u) else if l∈kh then s.h l else ((s.h l).1,.none):=rfl
section
variable {P:Program} {base N:Nat} {w0:W0} {w:World} {g:Gh} {s:St} {a:Act}
theorem aK.at_ {L:TL} {ds:List D} {ts:Lb} {vs:List Value} {F:List Nat} (h:aK L w ds ts vs F) {off:Nat} {d:D} (hd:ds[off]? = some d) :
  ∃v1 v v3 F1 F2 F3,vs=v1++v::v3∧v1.length=off∧F=F1++(F2++F3)∧gI L w d (Sh.lab (ts.drop off)) v F2 ∧ ∀(d':D) (v':Value) (F':List Nat),gI L w d' (Sh.lab (ts.drop off)) v' F'→aK L w (ds.set off d') ts (v1++v'::v3) (F1++(F'++F3)):=by
 induction ds generalizing ts vs F off with
 | nil=>simp at hd
 | cons d0 ds ih =>
  simp only [aK] at h
  obtain ⟨v,vs',F1,F2,rfl,rfl,h3,h4⟩:=h
  cases off with
  | zero =>
   simp at hd
   subst hd
   refine ⟨[],v,vs',[],F1,F2,rfl,rfl,rfl,by simpa using h3,fun d' v' F' h' => ?_⟩
   simp only [List.set_cons_zero,aK,List.nil_append]
   exact ⟨v',vs',F',F2,rfl,rfl,by simpa using h',h4⟩
  | succ off =>
   obtain ⟨v1,v2,v3,G1,G2,G3,rfl,hl,rfl,k1,k2⟩:=ih h4 (by simpa using hd)
   rw [List.drop_tail] at k1 k2
   refine ⟨v::v1,v2,v3,F1++G1,G2,G3,rfl,by simp [hl],by simp,k1,fun d' v' F' h' => ?_⟩
   simp only [List.set_cons_succ,aK]
   exact ⟨v,v1++v'::v3,F1,G1++(F'++G3),by simp,by simp,h3,k2 d' v' F' h'⟩
end
end Go.Sh
namespace Go.Sh
set_option linter.unusedVariables false
set_option linter.unusedSimpArgs false
open Go.RowKit
def aAe (B:Nat) (d:D):SC:=if d.flat=true then .dat d else .old B d none
def aAk (B:Nat) (args:List (Bool×List D)):St:=
 { t:=fun i=>match args[i]? with | some (ag,ds)=>.v ag (ds.map (aAe B)) | none=>.undef,h:=fun _=>(0,.none) }
theorem xM (B:Nat) (args:List (Bool×List D)) (i:Nat):(aAk B args).t i=match args[i]? with | some (ag,ds)=>.v ag (ds.map (aAe B)) | none=>.undef:=rfl
theorem xF (B:Nat) (args:List (Bool×List D)) (i:Nat):(aAk B args).h i=(0,.none):=rfl
theorem tH (B:Nat) (k:IntKind) (n:Int):aAe B (.int k n) = .dat (.int k n):=rfl
theorem qZ (B:Nat) (b:Bool):aAe B (.bool b) = .dat (.bool b):=rfl
theorem uL (B:Nat) (b:ByteArray):aAe B (.str b) = .dat (.str b):=rfl
theorem xD (B:Nat) (xs:List (List D)):aAe B (.sl xs) = .old B (.sl xs) none:=rfl
theorem qI (B:Nat) (d:D) (u:Option Value) (cs:List SC) (k:List D→Prog):eF (.old B d u::cs) k=eF cs fun ds=>k (d::ds):=rfl
theorem exI {P:Program} {T:sC} {N:Nat} {ops:Array Oper} {l:List Oper} {s s3:St} {K:St→Prop} (h:gS P T N ops l s (Is s3)) (hk:K s3):gS P T N ops l s K:=
 lE l (fun τ hτ=>by rw [show τ=s3 from hτ];exact hk) h
theorem LN:type_of% (And.intro (@sE) (And.intro (@kI) (And.intro (@xM) (And.intro (@xF) (And.intro (@tH) (And.intro (@qZ) (And.intro (@uL) (And.intro (@xD) (And.intro (@qI) (And.intro (@tR) (And.intro (@tC) (And.intro (@List.set_set.{0}) (@List.length_set.{0}))))))))))))):=
 And.intro (@sE) (And.intro (@kI) (And.intro (@xM) (And.intro (@xF) (And.intro (@tH) (And.intro (@qZ) (And.intro (@uL) (And.intro (@xD) (And.intro (@qI) (And.intro (@tR) (And.intro (@tC) (And.intro (@List.set_set.{0}) (@List.length_set.{0}))))))))))))
end Go.Sh
namespace Go.Sh
set_option linter.unusedVariables false
set_option linter.unusedSimpArgs false
open Go.RowKit
section
variable {P:Program} {base N:Nat} {w0:W0} {s:St}
theorem aBH.mk {P:Program} {T:sC} {vars:List ResultVar} {ops:Array Oper} {n d:Nat} {K:St→Prop} {l:List (Bool×List SC)} {s s1:St} (h1:fQ T s vars=some l) (h2:gS P T N ops (ops.toList.drop (n+1)) (aBM s d (aAo l)) (Is s1)) (h3:K s1):aBH P T vars N ops n d K s:=⟨l,h1,exI h2 h3⟩
end
end Go.Sh
namespace Go.Sh
set_option linter.unusedVariables false
set_option linter.unusedSimpArgs false
open Go.RowKit
section
variable {P:Program} {base N:Nat} {w0:W0} {Z:St→Prop} {k:List Fr} {s:St}
theorem kE {x y:Code} (J:St→Prop) (h1:SW P base w0 N x s (aft P base w0 N Z (.inv J::k))) (h2 : ∀s',J s'→SW P base w0 N y s' (aft P base w0 N Z k)):SW P base w0 N (.seq x y) s (aft P base w0 N Z k):=by
 refine sq fun a w R=>wp_mono (h1 a w R) ?_
 rintro e a' w' ⟨s',k1,k2⟩
 refine ⟨s',?_,k2⟩
 cases e with
 | normal=>exact h2 s' k1
 | _=>exact k1
end
end Go.Sh
