/-
  Helper text. No conditions.
-/
import Derived.Test.YtimblbmbfdopgaaGreatShC
import Derived.ProofKit
import Derived.OpenShut
import Derived.ShutString
import Derived.Deep.Slices
import Derived.Carry
set_option linter.unusedVariables false
set_option linter.unusedSimpArgs false
namespace Go.Sh
open Go.RowKit
theorem aOa (args:List (Bool×List D)) (i:Nat):(init args).t i=match args[i]? with | some (ag,ds)=>.v ag (ds.map .dat) | none=>.undef:=rfl
theorem aOs (args:List (Bool×List D)) (i:Nat):(init args).h i=(0,.none):=rfl
def aRV (v:SV) (A B:Prop):Prop:=match v with
 | .v false [.dat (.bool b)]=>(b=true→A)∧(b=false→B)
 | _=>False
theorem aLw (b:Bool) (A B:Prop):aRV (.v false [.dat (.bool b)]) A B=((b=true→A)∧(b=false→B)):=rfl
theorem eX {n:Int} (h1 : -9223372036854775808≤n) (h2:n≤9223372036854775807):IntKind.i64.wrap n=n:=by rw [IntKind.wrap_i64];omega
attribute [simp] aBY aKk aMW aLD aH6 aGm aIZ aCh aDA evG xX vOp aRR put ex exF cst one aft St.aDN St.aNt St.aOc St.aJb aBg aDs aEx aDQ aCJ aD9 sR aCz aCP aCd rows oM aFK lenOf aIY aIL aG4 aBL aCT aD3 aJl D.flat rid TI.agg aOa aOs aEK aC0 aJ5 aF8 aEm aLw
end Go.Sh
namespace Go.Sh
open Go.RowKit Go.ChangeShapes Go.WideShapes Go.Deep
inductive Shp where
 | int (k:IntKind)
 | bool
 | str
 | sl (es:List Shp)
def aFr (P:Program) (f:TypeId→Option (List Shp)):Nat→List Field→Option (List Shp)
 | _,[]=>some []
 | off,x::xs=>if x.offset=off then (match f x.type,aFr P f (off+P.cellsOf x.type) xs with
   | some a,some b=>if a.length=P.cellsOf x.type then some (a++b) else none
   | _,_=>none) else none
def aOk (P:Program):Nat→TypeId→Option (List Shp)
 | 0,_=>none
 | n+1,t=>match P.underlying t with
  | some (.int k)=>some [.int k]
  | some .bool=>some [.bool]
  | some .string=>some [.str]
  | some (.slice e)=>match aOk P n e with
   | some es=>if es.length=P.cellsOf e∧0<es.length then some [.sl es] else none
   | none=>none
  | some (.struct fs)=>match aFr P (aOk P n) 0 fs.toList with
   | some es=>if es.length=P.cellsOf t then some es else none
   | none=>none
  | _=>none
mutual
def Has:Shp→D→Prop
 | .int k,d=>∃n,d = .int k n∧(Lit.int k n).wf=true
 | .bool,d=>∃b,d = .bool b
 | .str,d=>∃s,d = .str s∧s.size≤maxLen
 | .sl es,d=>∃xs,d = .sl xs∧xs.length≤maxLen ∧ ∀x∈xs,nR es x
def nR:List Shp→List D→Prop
 | [],ds=>ds=[]
 | e::es,ds=>∃d ds',ds=d::ds'∧Has e d∧nR es ds'
end
theorem nR.append : ∀ {a b:List Shp} {x y:List D},nR a x→nR b y→nR (a++b) (x++y)
 | [],b,x,y,h,k=>by simp only [nR] at h;subst h;exact k
 | e::a,b,x,y,h,k=>by
  simp only [nR] at h
  obtain ⟨d,ds',rfl,h1,h2⟩:=h
  simp only [List.cons_append,nR]
  exact ⟨d,ds'++y,rfl,h1,nR.append h2 k⟩
theorem nR.length : ∀ {a:List Shp} {x:List D},nR a x→x.length=a.length
 | [],x,h=>by simp only [nR] at h;subst h;rfl
 | e::a,x,h=>by
  simp only [nR] at h
  obtain ⟨d,ds',rfl,h1,h2⟩:=h
  simp [nR.length h2]
section
variable {H:Type} {enc:TypeId×Value→H} {P:Program} {w:World} {base:Nat} {spare:Nat→Bool} {held:Bool}
theorem aBQ {w:World} {d:D} {v:Value} {F:List Nat} (h:Rep w d v F):aG w [d] [v] F:=by
 simp only [aG]
 exact ⟨v,[],F,[],rfl,by simp,h,rfl,rfl⟩
theorem aE5 {e:Shp} {d:D} (h:Has e d):nR [e] [d]:=by
 simp only [nR]
 exact ⟨d,[],rfl,h,rfl⟩
theorem aJg {n m:Nat} (ih : ∀(t:TypeId) (shs:List Shp) (cs:List Value) (x:DataW H×List MemPlace),aOk P n t=some shs→DataW.trod enc P w base spare held m t cs=some x → ∃ds F,aG w ds cs F∧nR shs ds) :
  ∀(fs:List Field) (off:Nat) (shs:List Shp) (cs:List Value),aFr P (aOk P n) off fs=some shs→off+shs.length=cs.length →
   (∀f∈fs,∃x,DataW.trod enc P w base spare held m f.type ((cs.drop f.offset).take (P.cellsOf f.type))=some x) → ∃ds F,aG w ds (cs.drop off) F∧nR shs ds
 | [],off,shs,cs,h,hl,_=>by
  simp [aFr] at h
  subst h
  refine ⟨[],[],?_,by simp [nR]⟩
  rw [List.drop_of_length_le (by simpa using Nat.le_of_eq hl.symm)]
  simp [aG]
 | f::fs,off,shs,cs,h,hl,hf=>by
  simp only [aFr] at h
  split at h
  ·rename_i ho
   split at h
   ·rename_i a b ha hb
    split at h
    ·rename_i hlen
     cases h
     obtain ⟨x,hx⟩:=hf f (by simp)
     obtain ⟨d1,F1,k1,k2⟩:=ih _ _ _ _ ha hx
     obtain ⟨d2,F2,k3,k4⟩:=aJg ih fs _ b cs hb (by rw [qE,hlen] at hl;omega) fun y hy=>hf y (by simp [hy])
     refine ⟨d1++d2,F1++F2,?_,k2.append k4⟩
     have:cs.drop off=(cs.drop f.offset).take (P.cellsOf f.type)++cs.drop (off+P.cellsOf f.type):=by
      rw [ho,←List.drop_drop,List.take_append_drop]
     rw [this]
     exact k1.append k3
    ·cases h
   ·cases h
  ·cases h
theorem aNm {a:Addr} {v:Value} (h:w.cell? a=some v):a=⟨a.block,a.off,none⟩:=by
 obtain ⟨b,o,s⟩:=a
 unfold World.cell? at h
 cases s with
 | none=>rfl
 | some s =>
  split at h
  ·simp at h
  ·cases h
theorem aKb {es:List Shp} {C:Nat} (hC:es.length=C) {a:Addr} : ∀(len:Nat),(∀i,i<len → ∃cs' ds F,cs'.length=C∧(∀j,j<C→w.cell? (a.add (i*C+j))=cs'[j]?)∧aG w ds cs' F∧nR es ds) →
  ∃xs cells G,xs.length=len∧(∀x∈xs,nR es x)∧aU w xs cells G∧cells.length=len*C ∧ ∀j,j<len*C→w.cell? (a.add j)=cells[j]?
 | 0,_=>⟨[],[],[],rfl,by simp,by simp [aU],by simp,by simp⟩
 | len+1,h=>by
  obtain ⟨xs,cells,G,h1,h2,h3,h4,h5⟩:=aKb hC len fun i hi=>h i (by omega)
  obtain ⟨cs',ds,F,k1,k2,k3,k4⟩:=h len (by omega)
  refine ⟨xs++[ds],cells++cs',G++F,by simp [h1],?_,?_,by rw [qE,h4,k1,Nat.add_mul];omega,?_⟩
  ·intro x hx
   rcases List.mem_append.1 hx with hx | hx
   ·exact h2 x hx
   ·simp at hx;subst hx;exact k4
  ·refine h3.append ?_
   simp only [aU]
   exact ⟨cs',[],F,[],by simp,by simp,k3,rfl,rfl⟩
  ·intro j hj
   rw [Nat.add_mul,Nat.one_mul] at hj
   by_cases hjl:j<len*C
   ·rw [h5 j hjl,List.getElem?_append_left (by omega)]
   ·have:=k2 (j-len*C) (by omega)
    rw [show len*C+(j-len*C)=j from by omega] at this
    rw [this,List.getElem?_append_right (by omega),h4]
theorem aKN : ∀(n:Nat) (m:Nat) (t:TypeId) (shs:List Shp) (cs:List Value) (x:DataW H×List MemPlace),aOk P n t=some shs→DataW.trod enc P w base spare held m t cs=some x → ∃ds F,aG w ds cs F∧nR shs ds
 | 0,_,_,_,_,_,h,_=>by simp [aOk] at h
 | n+1,m,t,shs,cs,x,h,hx=>by
  simp only [aOk] at h
  split at h
  ·rename_i k hu
   cases h
   obtain ⟨v,rfl,_,hw⟩:=DataW.trod_int hu hx
   exact ⟨[.int k v],[],aBQ (by simp [Rep]),aE5 (by simp [Has,hw])⟩
  ·rename_i hu
   cases h
   obtain ⟨v,rfl,_⟩:=DataW.trod_bool hu hx
   exact ⟨[.bool v],[],aBQ (by simp [Rep]),aE5 (by simp [Has])⟩
  ·rename_i hu
   cases h
   obtain ⟨v,rfl,_,hw⟩:=DataW.trod_string hu hx
   exact ⟨[.str v],[],aBQ (by simp [Rep]),aE5 (by simp [Has,hw])⟩
  ·rename_i e hu
   split at h
   ·rename_i es hes
    split at h
    ·rename_i hc
     cases h
     rcases open_slice hu hx with ⟨rfl,_⟩ | ⟨a,len,cap,mm,fu,Dd,Pl,rfl,h1,h2,h3,h4,_,h6⟩
     ·refine ⟨[.sl []],[],?_,?_⟩
      ·refine aBQ ?_
       simp only [Rep]
       exact ⟨none,0,0,rfl,rfl,Nat.le_refl _,.inl (by simp)⟩
      ·refine aE5 ?_
       simp only [Has]
       exact ⟨[],rfl,by simp,by simp⟩
     ·have hle:len≤mm:=by rw [h4];split<;>omega
      obtain ⟨xs,cells,G,k1,k2,k3,k4,k5⟩:=aKb (w:=w) hc.1 (a:=a) len fun i hi=>by
       obtain ⟨cs',q1,q2⟩:=h6 i (by omega)
       obtain ⟨_,q3,q4⟩:=World.cells?_some q1
       obtain ⟨ds,F,q5,q6⟩:=aKN n fu e es cs' _ hes q2
       exact ⟨cs',ds,F,q3,fun j hj=>by rw [←Go.Deep.add_add];exact q4 j hj,q5,q6⟩
      rcases Nat.eq_zero_or_pos len with h0 | h0
      ·have hxs:xs=[]:=List.eq_nil_of_length_eq_zero (by omega)
       subst hxs
       refine ⟨[.sl []],[],?_,?_⟩
       ·refine aBQ ?_
        simp only [Rep]
        exact ⟨some a,len,cap,rfl,by simpa using h0,h2,.inl ⟨h0,trivial⟩⟩
       ·refine aE5 ?_
        simp only [Has]
        exact ⟨[],rfl,by simp,by simp⟩
      ·have hpos:0<len*P.cellsOf e:=Nat.mul_pos h0 (by omega)
       have hc0:=k5 0 hpos
       have hc0':cells[0]? = some (cells[0]'(by omega)):=qF (by omega)
       have hadd0:a.add 0=a:=by simp [Addr.add]
       rw [hadd0,hc0'] at hc0
       have ha:=aNm hc0
       refine ⟨[.sl xs],a.block::G,?_,?_⟩
       ·refine aBQ ?_
        simp only [Rep]
        refine ⟨some a,len,cap,rfl,k1.symm,h2,.inr ⟨a.block,a.off,cells,P.cellsOf e,G,by rw [←ha],World.block_lt_of_cell? w a hc0,rfl,?_,k4,?_,k3⟩⟩
        ·intro j u hu'
         have hj:j<len*P.cellsOf e:=by rw [←k4];exact (List.getElem?_eq_some_iff.1 hu').1
         have:=k5 j hj
         rw [ha,Addr.add_lit] at this
         rw [this];exact hu'
        ·intro x hx'
         rw [(k2 x hx').length,hc.1]
       ·refine aE5 ?_
        simp only [Has]
        exact ⟨xs,rfl,by omega,k2⟩
    ·cases h
   ·cases h
  ·rename_i fs hu
   split at h
   ·rename_i es hes
    split at h
    ·rename_i hc
     cases h
     obtain ⟨xs,mm,rfl,_,q1,q2,q3⟩:=DataW.trod_struct hu hx
     have:=aJg (m:=mm) (fun t shs cs x=>aKN n mm t shs cs x) fs.toList 0 shs cs hes (by omega) (fun f hf=>by
      obtain ⟨i,hi⟩:=List.getElem?_of_mem hf
      have hi':fs[i]? = some f:=by simpa using hi
      have hlt:i<xs.length:=by rw [q2];exact (Array.getElem?_eq_some_iff.1 hi').1
      exact ⟨xs[i],by rw [q3 i f hi',qF hlt]⟩)
     simpa using this
    ·cases h
   ·cases h
  ·cases h
theorem aRH {n:Nat} {t:TypeId} {shs:List Shp} {v:Value} {d:DataW H} {p:List MemPlace} {b:Nat} (h:aOk P n t=some shs) (hv:Value.okWide P w .any b t v) (ht:DataW.Trod enc P w base spare held t v d p) :
  ∃ds F,nR shs ds∧aMM w v (aHO P t,ds) F:=by
 obtain ⟨fuel,hf⟩:=id ht
 obtain ⟨ds,F,h1,h2⟩:=aKN n fuel t shs _ _ h hf
 refine ⟨ds,F,h2,?_⟩
 have one:v.cells.toList=[v] → ∃d,ds=[d]∧Rep w d v F:=by
  intro hc
  rw [hc] at h1
  have hl:=h1.length
  match ds,h1,hl with
  | [d],h1,_ =>
   simp only [aG] at h1
   obtain ⟨u,us,F1,F2,e1,e2,e3,_,e5⟩:=h1
   simp at e1
   rw [e5,qV] at e2
   exact ⟨d,rfl,e2 ▸ e1.1 ▸ e3⟩
 cases n with
 | zero=>simp [aOk] at h
 | succ n =>
  simp only [aOk] at h
  unfold aHO
  split at h
  ·rename_i k hu
   obtain ⟨x,rfl,_⟩:=open_int hu hv ht
   rw [hu]
   exact one rfl
  ·rename_i hu
   obtain ⟨x,rfl,_⟩:=open_bool hu hv ht
   rw [hu]
   exact one rfl
  ·rename_i hu
   obtain ⟨x,rfl,_⟩:=Go.ChangeMaps.open_string hu hv ht
   rw [hu]
   exact one rfl
  ·rename_i e hu
   obtain ⟨x,y,z,rfl⟩:=okWide_slice hu hv
   rw [hu]
   exact one rfl
  ·rename_i fs hu
   obtain ⟨cs,rfl,_⟩:=okWide_struct hu hv
   rw [hu]
   exact ⟨cs,rfl,h1⟩
  ·cases h
theorem aNH {f:Func} {s:ChangeSpec} {apart fresh handsOn again:Bool} {W W':World} {args:Array Value} {v:Value} {ds gs:List (DataW H)} {before pa pv:List MemPlace}
  (hW:DataW.Whole enc P f.params.toList s.vars apart W args.toList ds gs before)
  (hres : ∀(b:Nat) (sp:Nat→Bool) (hd:Bool),DataW.TrodAll enc P W' b sp hd f.resultTypes.toList (v.resultList f.resultTypes.size) (s.fn H (ds++gs)).results [])
  (hargs : ∀sp:Nat→Bool,(∀p∈before,sp p.block=true)→DataW.TrodAll enc P W' 0 sp true f.params.toList args.toList (s.fn H (ds++gs)).args pa)
  (hvars : ∀sp:Nat→Bool,(∀p∈before,sp p.block=true)→DataW.TrodVars enc P W' sp s.vars (s.fn H (ds++gs)).vars pv)
  (hps:before=pa++pv) (hb:Below W.heap.size W W')
  (hok : ∀(j:Nat) (t:TypeId) (r:Value),f.resultTypes[j]? = some t→(v.resultList f.resultTypes.size)[j]? = some r→Value.okWide P W' .any 0 t r) :
  s.post enc P f apart fresh handsOn again W args v W':=by
 have hlt : ∀p∈before,p.block<W.heap.size:=fun p hp=>hW.lt p hp
 have hold : ∀p∈before,(fun b=>decide (b<W.heap.size)) p.block=true:=fun p hp=>by simpa using hlt p hp
 refine ⟨ds,gs,before,[],pa,pv,hW,hres _ _ _,hargs _ hold,hvars _ hold,World.keptBut_mono (fun p hp=>⟨hp,?_⟩) (hb.frame (· ∈ before)),fun _ => ?_⟩
 ·rw [hps,qO] at hp
  exact Or.inr hp
 ·obtain ⟨_,_,_,_,_,hz,hn⟩:=hW
  refine ⟨hok,_,_,([]++pa)++pv,⟨[]++pa,pv,trodAll_append (hargs _ (fun _ _=>rfl)) (hres _ _ _),hvars _ (fun _ _=>rfl),rfl,?_,?_⟩,?_⟩
  ·intro b off hp
   have hin:MemPlace.cell b off∈before:=by rw [hps];simpa using hp
   rw [hb.frozen (hlt _ hin)]
   exact hz b off hin
  ·intro ha
   have:=hn ha
   rw [hps] at this
   simpa using this
  ·intro p hp _
   rw [hps]
   simpa using hp
theorem aGQ (hl:laidOutB P=true) {W W':World} (hb:Below W.heap.size W W') {sp:Nat→Bool} : ∀ {ts:List TypeId} {vs:List Value} {ds:List (DataW H)} {ps:List MemPlace},DataW.TrodAll enc P W 0 (fun _=>true) true ts vs ds ps →
  (∀t∈ts,P.readableRec t=true∧t<P.types.size)→(∀x∈ps,x.block<W.heap.size)→(∀x∈ps,sp x.block=true)→DataW.TrodAll enc P W' 0 sp true ts vs ds ps
 | [],vs,ds,ps,h,_,_,_=>by
  obtain ⟨rfl,rfl,rfl⟩:=trodAll_nil h
  rfl
 | t::ts,vs,ds,ps,h,ht,hlt,hsp=>by
  obtain ⟨v,vs',d,ds',p,q,rfl,rfl,rfl,h1,h2⟩:=trodAll_cons h
  refine ⟨p,q,?_,?_,rfl⟩
  ·exact WideElems.Trod_stays hl (ht t (by simp)).1 (ht t (by simp)).2 h1 (fun x hx=>hb.same (hlt x (by simp [hx]))) (fun x hx=>hsp x (by simp [hx]))
  ·exact aGQ hl hb h2 (fun u hu=>ht u (by simp [hu])) (fun x hx=>hlt x (by simp [hx])) (fun x hx=>hsp x (by simp [hx]))
def aRD (P:Program) (n:Nat):List TypeId→List (List Shp)→Prop
 | [],shs=>shs=[]
 | t::ts,shs=>∃s ss,shs=s::ss∧aOk P n t=some s∧aRD P n ts ss
def aOT:List (List Shp)→List (List D)→Prop
 | [],ds=>ds=[]
 | s::ss,ds=>∃d ds',ds=d::ds'∧nR s d∧aOT ss ds'
def aOH (P:Program):List TypeId→List (List D)→List (Bool×List D)
 | t::ts,d::ds=>(aHO P t,d)::aOH P ts ds
 | _,_=>[]
theorem aMZ {n:Nat} {W:World} {b:Nat} : ∀ {ts:List TypeId} {vs:List Value} {ds:List (DataW H)} {ps:List MemPlace} {shs:List (List Shp)},aRD P n ts shs→DataW.TrodAll enc P W 0 (fun _=>true) true ts vs ds ps →
  (∀(j:Nat) t v,ts[j]? = some t→vs[j]? = some v→Value.okWide P W .any b t v) → ∃dss F,aOT shs dss∧tD W vs (aOH P ts dss) F
 | [],vs,ds,ps,shs,hs,h,hv=>by
  obtain ⟨rfl,rfl,rfl⟩:=trodAll_nil h
  have:shs=[]:=hs
  subst this
  exact ⟨[],[],rfl,rfl⟩
 | t::ts,vs,ds,ps,shs,hs,h,hv=>by
  obtain ⟨s,ss,rfl,hs1,hs2⟩:=hs
  obtain ⟨v,vs',d,ds',p,q,rfl,rfl,rfl,h1,h2⟩:=trodAll_cons h
  obtain ⟨d1,F1,k1,k2⟩:=aRH hs1 (hv 0 t v rfl rfl) h1
  obtain ⟨dss,F2,k3,k4⟩:=aMZ hs2 h2 fun j t' v' ht hv'=>hv (j+1) t' v' (by simpa using ht) (by simpa using hv')
  exact ⟨d1::dss,F1++F2,⟨d1,dss,rfl,k1,k3⟩,F1,F2,rfl,k2,k4⟩
theorem aO2 {f:FuncId} {fn:Func} {s:ChangeSpec} {n tb:Nat} {shs:List (List Shp)} (hl:laidOutB P=true) (hvars:s.vars=[]) (hres:fn.resultTypes = #[tb]) (htb:P.underlying tb=some .bool) (hsh:aRD P n fn.params.toList shs)
  (hread : ∀t∈fn.params.toList,P.readableRec t=true∧t<P.types.size)
  (hfn : ∀(ds:List (DataW H)),ds.length=fn.params.toList.length→s.fn H (ds++[])={ results:=[.lit (.bool true)],args:=ds })
  (hc : ∀dss,aOT shs dss→mY P f (aOH P fn.params.toList dss) [(false,[.ro (.bool true)])])
  {W:World} {b:Nat} {args:Array Value} {ds gs:List (DataW H)} {before:List MemPlace} (hval : ∀(j:Nat) t v,fn.params[j]? = some t→args[j]? = some v→Value.okWide P W .any b t v)
  (hW:DataW.Whole enc P fn.params.toList s.vars false W args.toList ds gs before) :
  Calls P f args W fun e W'=>∃v,e = .returned v∧s.post enc P fn false true false false W args v W':=by
 have hW':=hW
 obtain ⟨p,q,hA,hV,rfl,hfz,hnd⟩:=hW
 rw [hvars] at hV
 obtain ⟨rfl,rfl⟩:=trodVars_none hV
 obtain ⟨dss,Fa,k1,k2⟩:=aMZ hsh hA fun j t v ht hv=>hval j t v (by simpa using ht) (by simpa using hv)
 refine (((hc dss k1).old rfl).2 W args Fa k2).mono fun e W' hh => ?_
 obtain ⟨v,rfl,⟨F,X,_,_,_,hr⟩,hb⟩:=hh
 have hv:v = .bool true:=by
  have h1:Rep W' (.bool true) v []:=hr.1
  simp only [Rep] at h1
  exact h1.1
 subst hv
 have hdl:ds.length=fn.params.toList.length:=by
  have : ∀ {ts:List TypeId} {vs:List Value} {ds:List (DataW H)} {ps:List MemPlace},DataW.TrodAll enc P W 0 (fun _=>true) true ts vs ds ps→ds.length=ts.length:=by
   intro ts
   induction ts with
   | nil=>intro vs ds ps h;obtain ⟨_,rfl,_⟩:=trodAll_nil h;rfl
   | cons t ts ih=>intro vs ds ps h;obtain ⟨v,vs',d,ds',p,q,rfl,rfl,rfl,h1,h2⟩:=trodAll_cons h;simp [ih h2]
  exact this hA
 have hfn':=hfn ds hdl
 refine ⟨_,rfl,aNH (pa:=p) (pv:=[]) hW' ?_ ?_ ?_ (by simp) hb (ok_one hres rfl (okWide_bool_mk htb _))⟩
 ·intro b sp hd
  rw [hfn',hres]
  exact trodAll_cons_mk (shut_bool htb _) trodAll_mk0
 ·intro sp hsp
  rw [hfn']
  exact aGQ hl hb hA hread (fun x hx=>hW'.lt x (by simpa using hx)) (fun x hx=>hsp x (by simpa using hx))
 ·intro sp hsp
  rw [hfn',hvars]
  rfl
end
end Go.Sh
namespace Go.Sh
open Go.RowKit
def Is (s t:St):Prop:=t=s
theorem Is.mk (t:St):Is t t:=rfl
theorem aGg {P:Program} {T:aGe} {N:Nat} {ops:Array Oper} : ∀(l:List Oper) {s:St} {K K':St→Prop},(∀s,K s→K' s)→aCh P T N ops l s K→aCh P T N ops l s K'
 | [],_,_,_,h,hh=>h _ hh
 | o::l,s,_,_,h,hh=>aFm (evG T N ops o) (fun s' h'=>aGg l h h') hh
theorem aEC {P:Program} : ∀(p:Prog) {s:St} {R W:List Loc} {K K':St→List Loc→List Loc→Prop},(∀s R W,K s R W→K' s R W)→exF P p s R W K→exF P p s R W K'
 | .done,_,_,_,_,_,h,hh=>h _ _ _ hh
 | .fail,_,_,_,_,_,_,hh=>hh
 | .getT t k,s,_,_,_,_,h,hh=>aEC (k (s.t t)) h hh
 | .aEV t v k,s,_,_,_,_,h,hh=>aEC k h hh
 | .getH i k,s,_,_,_,_,h,hh=>aEC (k (s.h i)) h hh
 | .gZ i x k,s,_,_,_,_,h,hh=>aEC k h hh
 | .call f args k,s,_,_,_,_,h,⟨rs,hc,hh⟩=>⟨rs,hc,aEC (k rs) h hh⟩
 | .must p k,s,_,_,_,_,h,⟨hp,hh⟩=>⟨hp,aEC k h hh⟩
theorem aIu {P:Program} {T:aGe} {N:Nat} {ops:Array Oper} : ∀(l:List Oper) {s:St} {acc:List Fp} {K K':St→List Fp→Prop},(∀s a,K s a→K' s a)→aDA P T N ops l s acc K→aDA P T N ops l s acc K'
 | [],_,_,_,_,h,hh=>h _ _ hh
 | o::l,s,_,_,_,h,hh=>aEC (evG T N ops o) (fun s' R W h'=>aIu l h h') hh
section
variable {P:Program} {base N:Nat} {w0:W0} {Z:St→Prop} {k:List Fr} {s s':St}
theorem aBR {id:Nat} {ops:Array Oper} (h:aCh P (dK P) N ops ops.toList s (Is s')) (hk:aft P base w0 N Z k .normal s'):SW P base w0 N (.region id ops false) s (aft P base w0 N Z k):=
 aK4 (aGg ops.toList (fun t ht=>by rw [show t=s' from ht];exact hk) h)
def aKh (ops:Array Oper) (fps:List Fp):Prop:=aFe ops fps=true
theorem aKh.mk {ops:Array Oper} {fps:List Fp} (h:aFe ops fps=true):aKh ops fps:=h
theorem aJo (hm:P.follows .mixedOrders=true) {id:Nat} {ops:Array Oper} (h:aDA P (dK P) N ops ops.toList s [] fun t fps=>aKh ops fps∧Is s' t) (hk:aft P base w0 N Z k .normal s'):SW P base w0 N (.region id ops true) s (aft P base w0 N Z k):=
 aOC hm (aIu ops.toList (fun t fps ht=>⟨ht.1,by rw [show t=s' from ht.2];exact hk⟩) h)
theorem aIT {id:Nat} (h:aft P base w0 N Z k .normal s):aft P base w0 N Z (.block id::k) (.exit id) s:=by
 simp only [aft,if_true];exact h
theorem aTB {id id':Nat} (hne:id'≠id) (h:aft P base w0 N Z k (.exit id') s):aft P base w0 N Z (.block id::k) (.exit id') s:=by
 simp only [aft,hne,if_false];exact h
theorem aEz {c:Code} {id:Nat} (h:aft P base w0 N Z k (.exit id) s):aft P base w0 N Z (.code c::k) (.exit id) s:=h
theorem mG {J:St→Prop} (h:J s):aft P base w0 N Z (.inv J::k) .normal s:=h
theorem aEh {J:St→Prop} {id:Nat} (h:aft P base w0 N Z k (.exit id) s):aft P base w0 N Z (.inv J::k) (.exit id) s:=h
theorem aPg {t:Nat} {x y:Code} (hb:s.t t = .v false [.dat (.bool true)]) (h:SW P base w0 N x s (aft P base w0 N Z k)):SW P base w0 N (.cond (.tmp t) x y) s (aft P base w0 N Z k):=
 aLg hb (fun _=>h) (fun e=>by cases e)
theorem aQC {t:Nat} {x y:Code} (hb:s.t t = .v false [.dat (.bool false)]) (h:SW P base w0 N y s (aft P base w0 N Z k)):SW P base w0 N (.cond (.tmp t) x y) s (aft P base w0 N Z k):=
 aLg hb (fun e=>by cases e) (fun _=>h)
end
def fuel:Nat:=18446744073709551616
theorem bS (b:Bool):b=true∨b=false:=by cases b<;>simp
theorem aEW (b:Bool):b=false∨b=true:=by cases b<;>simp
theorem bJ {α:Type} {b:Bool} {x y z:α} (hb:b=true) (h:(if b=true then x else y)=z):x=z:=by rw [if_pos hb] at h;exact h
theorem bI {α:Type} {b:Bool} {x y z:α} (hb:b=false) (h:(if b=true then x else y)=z):y=z:=by rw [hb] at h;simpa using h
theorem bind_some {α β:Type} {o:Option α} {f:α→Option β} {r:β} (h:o.bind f=some r) : ∃x,o=some x∧f x=some r:=by
 cases o with
 | none=>cases h
 | some x=>exact ⟨x,rfl,h⟩
def idx {α:Type} (xs:List α) (i:Int):Option α:=if 0≤i then xs[i.toNat]? else none
theorem aV {α:Type} {xs:List α} {i:Int} {x:α} (h:idx xs i=some x):0≤i∧xs[i.toNat]? = some x∧i.toNat<xs.length:=by
 unfold idx at h
 split at h
 ·rename_i hi;exact ⟨hi,h,(List.getElem?_eq_some_iff.1 h).1⟩
 ·cases h
def aP6 (s:ByteArray) (i:Int):Option UInt8:=if 0≤i then s[i.toNat]? else none
theorem aNj {s:ByteArray} {i:Int} {x:UInt8} (h:aP6 s i=some x):0≤i∧s[i.toNat]? = some x:=by
 unfold aP6 at h
 split at h
 ·rename_i hi;exact ⟨hi,h⟩
 ·cases h
def app {α:Type} (b:Nat) (xs ys:List α):Option (List α):=if (xs.length+ys.length)*b≤140737488355328 then some (xs++ys) else none
theorem vF {α:Type} {b:Nat} {xs ys zs:List α} (h:app b xs ys=some zs):(xs.length+ys.length)*b≤140737488355328:=by
 unfold app at h
 split at h
 ·assumption
 ·cases h
def aX8 {α:Type} (b:Nat) (ys:List α):Option (List α):=if ys.length*b≤140737488355328 then some ys else none
theorem nS {α:Type} {b:Nat} {ys zs:List α} (h:aX8 b ys=some zs):ys.length*b≤140737488355328:=by
 unfold aX8 at h
 split at h
 ·assumption
 ·cases h
def mkL {α:Type} (b:Nat) (n:Int) (z:α):Option (List α):=if 0≤n∧n.toNat*b≤140737488355328∧n≤9223372036854775807 then some (List.replicate n.toNat z) else none
theorem aP1 {α:Type} {b:Nat} {n:Int} {z:α} {x:List α} (h:mkL b n z=some x):0≤n∧n.toNat*b≤140737488355328∧n≤9223372036854775807:=by
 unfold mkL at h
 split at h
 ·assumption
 ·cases h
def cat (x y:ByteArray):Option ByteArray:=if x.size+y.size≤9223372036854775807 then some (x++y) else none
theorem aPO {x y z:ByteArray} (h:cat x y=some z):x.size+y.size≤9223372036854775807:=by
 unfold cat at h
 split at h
 ·assumption
 ·cases h
def enI (n:Int):List D:=[.int .i64 n]
def enB (n:Int):List D:=[.int .u8 n]
def enS (s:ByteArray):List D:=[.str s]
def enT (b:Bool):List D:=[.bool b]
def enL {α:Type} (f:α→List D) (xs:List α):List D:=[.sl (xs.map f)]
def fD (s:ByteArray):List Int:=s.data.toList.map fun b=>(b.toNat:Int)
theorem aOy (s:ByteArray):aCc s.data.toList=(fD s).map enB:=by
 unfold aCc fD enB
 rw [List.map_map]
 rfl
def aDL (l:List Int):ByteArray:=⟨(l.map fun n=>UInt8.ofNat n.toNat).toArray⟩
def toStr (l:List Int):Option ByteArray:=if l.all (fun n=>decide (0≤n∧n<256))=true then some (aDL l) else none
theorem aPI (l:List Int):strOf (l.map enB)=aDL l:=by
 unfold strOf aDL enB
 rw [List.map_map]
 rfl
theorem aM2 {l:List Int} {z:ByteArray} (h:toStr l=some z) : ∀x∈l.map enB,∃b:UInt8,x=[.int .u8 (b.toNat:Int)]:=by
 unfold toStr at h
 split at h
 ·rename_i ha
  intro x hx
  obtain ⟨n,hn,rfl⟩:=List.mem_map.1 hx
  have:=List.all_eq_true.1 ha n hn
  simp only [qL] at this
  refine ⟨UInt8.ofNat n.toNat,?_⟩
  unfold enB
  have h1:(UInt8.ofNat n.toNat).toNat=n.toNat:=by simp;omega
  rw [h1,Int.toNat_of_nonneg this.1]
 ·cases h
def aQB {α:Type} (xs:List α) (i:Int):Option (List α):=if 0≤i∧i.toNat≤xs.length then some (xs.drop i.toNat) else none
def aHz {α:Type} (xs:List α) (j:Int):Option (List α):=if 0≤j∧j.toNat≤xs.length then some (xs.take j.toNat) else none
def aRf {α:Type} (xs:List α) (i j:Int):Option (List α):=if 0≤i∧i≤j∧j.toNat≤xs.length then some ((xs.take j.toNat).drop i.toNat) else none
theorem aJY {α:Type} {xs z:List α} {i:Int} {f:α→List D} {n:Nat} (hf : ∀x,(f x).length=n) (h:aQB xs i=some z):0≤i∧i.toNat≤xs.length ∧ ∀x∈xs.map f,x.length=n:=by
 unfold aQB at h
 split at h
 ·rename_i hh
  refine ⟨hh.1,hh.2,fun x hx => ?_⟩
  obtain ⟨y,_,rfl⟩:=List.mem_map.1 hx
  exact hf y
 ·cases h
theorem aJS {α:Type} {xs z:List α} {i:Int} {f:α→List D} {n:Nat} (hf : ∀x,(f x).length=n) (h:aHz xs i=some z):0≤i∧i.toNat≤xs.length ∧ ∀x∈xs.map f,x.length=n:=by
 unfold aHz at h
 split at h
 ·rename_i hh
  refine ⟨hh.1,hh.2,fun x hx => ?_⟩
  obtain ⟨y,_,rfl⟩:=List.mem_map.1 hx
  exact hf y
 ·cases h
theorem aGl {α:Type} {xs z:List α} {i j:Int} {f:α→List D} {n:Nat} (hf : ∀x,(f x).length=n) (h:aRf xs i j=some z):0≤i∧i≤j∧j.toNat≤xs.length ∧ ∀x∈xs.map f,x.length=n:=by
 unfold aRf at h
 split at h
 ·rename_i hh
  refine ⟨hh.1,hh.2.1,hh.2.2,fun x hx => ?_⟩
  obtain ⟨y,_,rfl⟩:=List.mem_map.1 hx
  exact hf y
 ·cases h
theorem aFv {α:Type} {f:α→List D} (hf : ∀x,(f x).all D.flat=true) (xs:List α):(xs.map f).all (fun y=>y.all D.flat)=true:=by
 rw [qP]
 intro y hy
 obtain ⟨x,_,rfl⟩:=List.mem_map.1 hy
 exact hf x
theorem enI.fl (l:List Int):(List.map enI l).all (fun y=>y.all D.flat)=true:=aFv (fun _=>rfl) l
theorem enB.fl (l:List Int):(List.map enB l).all (fun y=>y.all D.flat)=true:=aFv (fun _=>rfl) l
theorem enS.fl (l:List ByteArray):(List.map enS l).all (fun y=>y.all D.flat)=true:=aFv (fun _=>rfl) l
theorem enT.fl (l:List Bool):(List.map enT l).all (fun y=>y.all D.flat)=true:=aFv (fun _=>rfl) l
theorem aJ4 {P : Program} {f : FuncId} {fn : Func} {c : Code} {args : List (Bool × List D)} {rs : List (Bool × List RC)} {N : Nat} {vars : List ResultVar} (hf : P.funcs[f]? = some fn) (hb : fn.body = some c) (hN : fn.ntmps = N) (hv : fn.results.toList = vars) (hnm : (fn.name == "runtime.NumGoroutine") = false) (hn : args.length ≤ N)
  (h : ∀(base:Nat) (w0:W0),SW P base w0 N c (init args) (aft P base w0 N (Ret (dK P) vars rs) [])):mY P f args rs:=by
 subst hN hv
 exact aOt hf hb hnm hn h
end Go.Sh
namespace Go.Sh
theorem aL0 (N d:Nat) (a b:Bool×List RC) (rs:List (Bool×List RC)):aCP N (some d) (a::b::rs)=aCz d 0 (a::b::rs) fun vs=>put N (some d) (.tup vs):=rfl
theorem aLm (N d:Nat):aCP N (some d) []=aCz d 0 [] fun vs=>put N (some d) (.tup vs):=rfl
theorem aME (sz k:Nat) (xs:List (List D)):(aKy sz 0 k xs).drop k=xs.drop k:=by
 unfold aKy
 rw [List.take_zero,List.nil_append,Nat.zero_add]
 exact List.drop_left' (by simp)
theorem aO5 (sz k:Nat) (xs:List (List D)):(aKy sz 0 k xs).length-k=xs.length-k:=by
 unfold aKy
 simp
theorem aPY {α:Type} (xs:List α) (k:Nat):(xs.drop k).take (xs.length-k)=xs.drop k:=List.take_of_length_le (by simp)
theorem aQT {sz:Nat} {i:Int} {xs:List (List D)} (h:0≤i):0≤i∧i.toNat≤(aKy sz 0 i.toNat xs).length:=⟨h,by unfold aKy;simp⟩
theorem aO3 {α:Type} (a:α) (as bs:List α):List.append (a::as) bs=a::List.append as bs:=rfl
theorem aQK {α:Type} (bs:List α):List.append [] bs=bs:=rfl
theorem aQr (xs:List (List D)):D.flat (.sl xs)=false:=rfl
theorem aPi (xs:List D):D.flat (.ptr xs)=false:=rfl
theorem aPC (u:Value):D.flat (.val u)=false:=rfl
def Ez9:=PLift.up (qI @aCh.eq_1 (qI @aCh.eq_2 (qI @aDA.eq_1 (qI @aDA.eq_2 (qI @evG.eq_1 (qI @xX.eq_1 (qI @vOp.eq_1 (qI @vOp.eq_2 (qI @vOp.eq_3 (qI @vOp.eq_4 (qI @aRR.eq_1 (qI @aRR.eq_2 (qI @put.eq_1 (qI @put.eq_2 (qI @ex.eq_1 (qI @ex.eq_2 (qI @ex.eq_3 (qI @ex.eq_4 (qI @ex.eq_5 (qI @ex.eq_6 (qI @ex.eq_7 (qI @ex.eq_8 (qI @exF.eq_1 (qI @exF.eq_2 (qI @exF.eq_3 (qI @exF.eq_4 (qI @exF.eq_5 (qI @exF.eq_6 (qI @exF.eq_7 (qI @exF.eq_8 (qI @cst.eq_1 (qI @cst.eq_2 (qI @cst.eq_3 (qI @cst.eq_4 (qI @one.eq_1 (qI @aBg.eq_1 (qI @aBg.eq_2 (qI @aBg.eq_3 (qI @aBg.eq_4 (qI @lab.eq_1 (qI @lab.eq_2 (qI @aHf.eq_1 (qI @aHf.eq_2 (qI @aHf.eq_3 (qI @aHf.eq_4 (qI @aHf.eq_5 (qI @aHf.eq_6 (qI @aHf.eq_7 (qI @aHf.eq_8 (qI @aHf.eq_9 (qI @aDs.eq_1 (qI @aDs.eq_2 (qI @aDs.eq_3 (qI @aDs.eq_4 (qI @aDs.eq_5 (qI @aEx.eq_1 (qI @aDQ.eq_1 (qI @aDQ.eq_2 (qI @aCJ.eq_1 (qI @aCJ.eq_2 (qI @aCJ.eq_3 (qI @aCJ.eq_4 (qI @aCJ.eq_5 (qI @aCJ.eq_6 (qI @aCJ.eq_7 (qI @aCJ.eq_8 (qI @aCJ.eq_9 (qI @aD9.eq_1 (qI @aD9.eq_2 (qI @sR.eq_1 (qI @sR.eq_2 (qI @sR.eq_3 (qI @sR.eq_4 (qI @sR.eq_5 (qI @aCz.eq_1 (qI @aCz.eq_2 (qI @aCP.eq_1 (qI @aCP.eq_2 (qI @aH6.eq_1 (qI @yW.eq_1 (qI @yW.eq_2 (qI @yW.eq_3 (qI @yW.eq_4 (qI @yW.eq_5 (qI @yW.eq_6 (qI @yW.eq_7 (qI @aLB.eq_1 (qI @aLB.eq_2 (qI @aKX.eq_1 (qI @aKX.eq_2 (qI @aEG.eq_1 (qI @aEG.eq_2 (qI @aEG.eq_3 (qI @aEG.eq_4 (qI @aEG.eq_5 (qI @aEG.eq_6 (qI @aEG.eq_7 (qI @aEG.eq_8 (qI @RC.ed.eq_1 (qI @RC.ed.eq_2 (qI @RC.ed.eq_3 (qI @RC.ed.eq_4 (qI @aLR.eq_1 (qI @aLR.eq_2 (qI @aLR.eq_3 (qI @aJW.eq_1 (qI @aGm.eq_1 (qI @aGm.eq_2 (qI @aGm.eq_3 (qI @aGm.eq_4 (qI @aGm.eq_5 (qI @aIZ.eq_1 (qI @aIZ.eq_2 (qI @aCd.eq_1 (qI @aCd.eq_2 (qI @rows.eq_1 (qI @rows.eq_2 (qI @oM.eq_1 (qI @oM.eq_2 (qI @oM.eq_3 (qI @oM.eq_4 (qI @oM.eq_5 (qI @oM.eq_6 (qI @oM.eq_7 (qI @oM.eq_8 (qI @oM.eq_9 (qI @oM.eq_10 (qI @oM.eq_11 (qI @oM.eq_12 (qI @oM.eq_13 (qI @oM.eq_14 (qI @oM.eq_15 (qI @oM.eq_16 (qI @oM.eq_17 (qI @aFK.eq_1 (qI @aFK.eq_2 (qI @aFK.eq_3 (qI @aFK.eq_4 (qI @aFK.eq_5 (qI @aFK.eq_6 (qI @lenOf.eq_1 (qI @lenOf.eq_2 (qI @lenOf.eq_3 (qI @lenOf.eq_4 (qI @lenOf.eq_5 (qI @aIY.eq_1 (qI @aIY.eq_2 (qI @aIY.eq_3 (qI @aIY.eq_4 (qI @aIL.eq_1 (qI @aIL.eq_2 (qI @aG4.eq_1 (qI @aG4.eq_2 (qI @aG4.eq_3 (qI @aBL.eq_1 (qI @aBL.eq_2 (qI @aBL.eq_3 (qI @aBL.eq_4 (qI @aCT.eq_1 (qI @aCT.eq_2 (qI @aCT.eq_3 (qI @aCT.eq_4 (qI @aD3.eq_1 (qI @aD3.eq_2 (qI @aD3.eq_3 (qI @aD3.eq_4 (qI @aL2.eq_1 (qI @aJl.eq_1 (qI @aJl.eq_2 (qI @aBM.eq_1 (qI @aBM.eq_2 (qI @aBM.eq_3 (qI @aBM.eq_4 (qI @aKM.eq_1 (qI @D.flat.eq_1 (qI @D.flat.eq_2 (qI @D.flat.eq_3 (qI @D.flat.eq_4 (qI @rid.eq_1 (qI @TI.agg.eq_1 (qI @aKk (qI @aMW (qI @aLD (qI @aM5 (qI @aNF (qI @aME (qI @aO5 (qI @aPY (qI @aBY.eq_1 (qI @aL0 (qI @aLm (qI @aQr (qI @aPi (qI @aPC (qI @St.aDN (qI @St.aNt (qI @St.aOc (qI @St.aJb (qI @aOa @aOs)))))))))))))))))))))))))))))))))))))))))))))))))))))))))))))))))))))))))))))))))))))))))))))))))))))))))))))))))))))))))))))))))))))))))))))))))))))))))))))))))))))))))))))))))))))))))))))))))))))))
theorem E:type_of% Ez9.down:=Ez9.down
def Lz9:=PLift.up (qI @List.take_succ_cons.{0} (qI @List.take_zero.{0} (qI @List.drop_succ_cons.{0} (qI @List.drop_zero.{0} (qI @List.map_cons.{0,0} (qI @List.map_nil.{0,0} (qI @List.cons_append.{0} (qI @List.nil_append.{0} (qI @List.append_nil.{0} (qI @List.length_cons.{0} (qI @List.length_nil.{0} (qI (@List.getElem?_cons_zero.{0}) (qI (@List.getElem?_cons_succ.{0}) (qI @List.tail_cons.{0} (qI @List.tail_nil.{0} (qI @Option.isSome_some.{0} (qI @Option.isSome_none.{0} (qI @List.take_nil.{0} (qI @List.drop_nil.{0} (qI (@List.getElem?_map.{0,0}) (qI @Option.map_some.{0,0} (qI @Option.bind_some.{0,0} (qI @List.length_map.{0,0} (qI @List.replicate_succ.{0} (qI @List.replicate_zero.{0} (qI @List.flatten_cons.{0} (qI @List.flatten_nil.{0} (qI (@List.getElem?_toArray.{0}) (qI @List.toList_toArray.{0} (qI @aO3 (qI @aQK (qI @List.any_cons.{0} (qI @List.any_nil.{0} (qI Bool.or_true (qI Bool.true_or (qI Bool.or_false (qI Bool.false_or (qI Bool.and_true (qI Bool.true_and (qI Bool.and_false (qI Bool.false_and (qI true_and (qI and_true and_self)))))))))))))))))))))))))))))))))))))))))))
theorem L:type_of% Lz9.down:=Lz9.down
def Fz9:=PLift.up (qI @List.set_cons_zero.{0} (qI @List.set_cons_succ.{0} (qI @St.aDN (qI @St.aNt (qI @St.aOc (qI @St.aJb (qI @aOa (qI @aOs (qI @List.map_append.{0,0} (qI @List.map_cons.{0,0} (qI @List.map_nil.{0,0} (qI @List.map_set.{0,0} (qI @List.map_replicate.{0,0} (qI @List.append_nil.{0} (qI @List.nil_append.{0} (qI @List.cons_append.{0} (qI (@List.getElem?_cons_zero.{0}) (qI (@List.getElem?_cons_succ.{0}) (qI Bool.and_true Bool.true_and)))))))))))))))))))
theorem F:type_of% Fz9.down:=Fz9.down
end Go.Sh
namespace Go.Sh
open Go.RowKit
def Gho (P:Program) (base:Nat) (w0:W0) (N:Nat) (s s':St):Prop:=∀a w,Rel P base w0 N s a w→Rel P base w0 N s' a w
section
variable {P:Program} {base N:Nat} {w0:W0} {Z:St→Prop} {k:List Fr} {s s' s'':St}
theorem Gho.refl (s:St):Gho P base w0 N s s:=fun _ _ h=>h
theorem Gho.trans (h:Gho P base w0 N s s') (h':Gho P base w0 N s' s''):Gho P base w0 N s s'':=fun a w R=>h' a w (h a w R)
theorem aRd {c:Code} {Q:Exit→St→Prop} (hg:Gho P base w0 N s s') (h:SW P base w0 N c s' Q):SW P base w0 N c s Q:=fun a w R=>h a w (hg a w R)
theorem aPp {c:Code} (I:Nat→St→Prop) (n:Nat) (h0:I n s) (h : ∀m s,I m s→SW P base w0 N c s (aft P base w0 N Z (.inv (fun s'=>∃s'',Gho P base w0 N s' s'' ∧ ∃m',m'<m∧I m' s'')::k))):SW P base w0 N (.loop c) s (aft P base w0 N Z k):=by
 intro a w R
 refine wp_loop_ghost (fun m a w=>∃s,I m s∧Rel P base w0 N s a w) n ⟨s,h0,R⟩ ?_
 rintro m a w ⟨s,h1,R⟩
 refine wp_mono (h m s h1 a w R) ?_
 rintro e a' w' ⟨s',h2,h3⟩
 cases e with
 | normal=>obtain ⟨s'',hg,m',h4,h5⟩:=h2;exact ⟨m',h4,s'',h5,hg _ _ h3⟩
 | _=>exact ⟨s',h2,h3⟩
theorem aMO {g:Gh} {a:Act} {w:World} {j K vj:Nat} {e:TypeId} {sz:Nat} {xs:List (List D)} {dp:Bool} (R:jI P base w0 N g s a w []) (h2:s.h j=(vj,.row e sz xs dp)) :
  ∃g',jI P base w0 N g' ((s.gZ j (vj,.none)).gZ K ((s.h K).1+1,.row e sz xs dp)) a w []∧jG g g' s.h ((s.gZ j (vj,.none)).gZ K ((s.h K).1+1,.row e sz xs dp)).h w w ∧
   ∀v,aAH g s.h w (.row j vj) v→aAH g' ((s.gZ j (vj,.none)).gZ K ((s.h K).1+1,.row e sz xs dp)).h w (.row K ((s.h K).1+1)) v:=by
 have hj1:(s.h j).1=vj:=by rw [h2]
 have hj2:(s.h j).2 = .row e sz xs dp:=by rw [h2]
 have hob:=R.inv.obj j
 rw [hj2] at hob
 obtain ⟨cells,p1,p2,p3,p4,p5⟩:=hob
 obtain ⟨I1,hfr⟩:=R.inv.aDT hj2
 rw [hj1] at I1 hfr
 have T1:jG g g s.h (rN s.h j (vj,.none)) w w:=by have:=jG.drop (g:=g) (h:=s.h) (w:=w) j g.S fun _ x=>x;rw [hj1] at this;exact this
 have hver:(rN s.h j (vj,.none) K).1=(s.h K).1:=by
  by_cases hk:K=j
  ·subst hk;rw [bK,hj1]
  ·rw [fX _ _ _ _ hk]
 have I2:=I1.aDi (i:=K) (v:=g.val j) (e:=e) (sz:=sz) (xs:=xs) (dp:=dp) (cells:=cells) (F:=g.fp j) (pool':=[]) p1 p2 p3 p4 hfr (by simp) List.nodup_nil (fun hd=>by
  subst hd
  simp only [if_true,List.nil_append]
  exact ⟨(p5 rfl).1,fun b hb=>⟨hb,by simp⟩⟩)
 have T2:=jG.create (g:=g) (h:=rN s.h j (vj,.none)) (w:=w) K (g.val j) (g.fp j) (.row e sz xs dp)
 rw [hver] at I2 T2
 refine ⟨_,R.lD (T1.trans T2) rfl R.below I2,T1.trans T2,?_⟩
 rintro v ⟨h0,_,hv⟩
 refine ⟨h0,?_,?_⟩
 ·show _≤(rN _ K _ K).1
  rw [bK];exact Nat.le_refl _
 ·intro _ e' sz' xs' dp' _
  show v=aFZ g.val K (g.val j) K
  rw [fB]
  exact hv hj1 e sz xs dp hj2
theorem aOq {g:Gh} {a:Act} {w:World} {K:Nat} (e:TypeId) (sz:Nat) (R:jI P base w0 N g s a w []) :
  ∃g',jI P base w0 N g' (s.gZ K ((s.h K).1+1,.row e sz [] true)) a w []∧jG g g' s.h (s.gZ K ((s.h K).1+1,.row e sz [] true)).h w w ∧
   ∀v,aAH g s.h w .nil v→aAH g' (s.gZ K ((s.h K).1+1,.row e sz [] true)).h w (.row K ((s.h K).1+1)) v:=by
 have I2:=R.inv.aDi (i:=K) (v:=.slice none 0 0) (e:=e) (sz:=sz) (xs:=[]) (dp:=true) (cells:=[]) (F:=[]) (pool':=[]) (World.ownsRow_nil w base e sz) (by simp) cX.nil (by simp) (by intro b hb;cases hb) (by simp) List.nodup_nil (fun _=>⟨List.nodup_nil,by simp⟩)
 have T2:=jG.create (g:=g) (h:=s.h) (w:=w) K (.slice none 0 0) [] (.row e sz [] true)
 refine ⟨_,R.lD T2 rfl R.below I2,T2,?_⟩
 intro v hv
 have hv:v = .slice none 0 0:=hv
 subst hv
 refine ⟨rfl,?_,?_⟩
 ·show _≤(rN _ K _ K).1
  rw [bK];exact Nat.le_refl _
 ·intro _ e' sz' xs' dp' _
  show _=aFZ g.val K _ K
  rw [fB]
theorem aMk {g:Gh} {a:Act} {w:World} {i:Nat} {sv:SV} (R:jI P base w0 N g s a w []) (hv:lB g s.h w sv (a.tmps.getD i undef)):jI P base w0 N g (s.aEV i sv) a w []:=by
 refine ⟨R.defers,R.size,R.below,R.q,R.lC,R.inv,fun t => ?_,R.lab,R.frm⟩
 rw [St.aDN]
 by_cases ht:t=i
 ·subst ht;simp only [if_true];exact hv
 ·simp only [ht,if_false];exact R.tmp t
theorem Gho.aSa {i j K vj:Nat} {e:TypeId} {sz:Nat} {xs:List (List D)} {dp:Bool} (h1:s.t i = .v false [.row j vj]) (h2:s.h j=(vj,.row e sz xs dp)) :
  Gho P base w0 N s (((s.gZ j (vj,.none)).gZ K ((s.h K).1+1,.row e sz xs dp)).aEV i (.v false [.row K ((s.h K).1+1)])):=by
 rintro a w ⟨g,R⟩
 have ht:=R.tmp i
 rw [h1] at ht
 obtain ⟨g',R',T,hc⟩:=aMO (K:=K) R h2
 exact ⟨g',aMk R' ⟨_,[],rfl,hc _ (dZ ht),rfl⟩⟩
theorem Gho.aS3 {i K:Nat} (e:TypeId) (sz:Nat) (h1:s.t i = .v false [.nil]) :
  Gho P base w0 N s ((s.gZ K ((s.h K).1+1,.row e sz [] true)).aEV i (.v false [.row K ((s.h K).1+1)])):=by
 rintro a w ⟨g,R⟩
 have ht:=R.tmp i
 rw [h1] at ht
 obtain ⟨g',R',T,hc⟩:=aOq (K:=K) e sz R
 exact ⟨g',aMk R' ⟨_,[],rfl,hc _ (dZ ht),rfl⟩⟩
theorem aT.set {g:Gh} {h:Heap} {w:World} : ∀ {cs:List SC} {vs:List Value} (c:Nat) (x y:SC),aT g h w cs vs→cs[c]? = some x→(∀v,aAH g h w x v→aAH g h w y v)→aT g h w (cs.set c y) vs
 | [],vs,c,x,y,hc,hx,_=>by simp at hx
 | z::cs,vs,0,x,y,hc,hx,hxy=>by
  obtain ⟨v,vs',rfl,h1,h2⟩:=hc
  simp at hx
  subst hx
  exact ⟨v,vs',rfl,hxy v h1,h2⟩
 | z::cs,vs,c+1,x,y,hc,hx,hxy=>by
  obtain ⟨v,vs',rfl,h1,h2⟩:=hc
  exact ⟨v,vs',rfl,h1,aT.set c x y h2 (by simpa using hx) hxy⟩
theorem aRg {g:Gh} {a:Act} {w:World} {b vb b':Nat} {t:TypeId} {cells cells':List SC} {vals:Array Value} (R:jI P base w0 N g s a w []) (hb:s.h b=(vb,.box t cells)) (h3:g.val b = .pointer (some ⟨b',0,none⟩)) (h5:w.heap[b']? = some (.cells vals t (0,0))) (hc:aT g s.h w cells' vals.toList) :
  ∃g',jI P base w0 N g' (s.gZ b (vb,.box t cells')) a w []:=by
 have hb1:(s.h b).1=vb:=by rw [hb]
 have hb2:(s.h b).2 = .box t cells:=by rw [hb]
 have hlive:live s.h b:=by unfold live;rw [hb2];simp
 have hown:aCK (g.val b)=some b':=by rw [h3];rfl
 have hnS:=R.inv.mtb b b' hlive hown
 have T:jG g { g with fp:=aFZ g.fp b (g.fp b) } s.h (rN s.h b ((s.h b).1,.box t cells')) w w:=
  jG.aEe hnS (fun _ _=>rfl) (by intro e sz xs dp hh';cases hh') (by intro t0 cs0 hh';cases hh';exact ⟨_,hb2⟩)
 have I':=R.inv.aEe (i:=b) (b:=b') (F:=g.fp b) (pool':=[]) (w':=w) hlive hown rfl (fun _ _=>rfl) T
  ⟨b',vals,h3,(R.inv.aEH hlive hown).1,h5,hc.lD T⟩ (by simp) List.nodup_nil (by rintro ⟨_,_,_,hh'⟩;cases hh')
 rw [hb1] at T I'
 exact ⟨_,R.lD T rfl R.below I'⟩
theorem aID {g g':Gh} {a:Act} {w:World} {b vb c:Nat} {t:TypeId} {cells:List SC} {x y:SC} (R:jI P base w0 N g s a w []) (R':jI P base w0 N g' s' a w []) (T:jG g g' s.h s'.h w w) (h0:s.h b=(vb,.box t cells)) (h0':s'.h b=(vb,.box t cells)) (h1:cells[c]? = some x)
  (hc : ∀v,aAH g s.h w x v→aAH g' s'.h w y v):Rel P base w0 N (s'.gZ b (vb,.box t (cells.set c y))) a w:=by
 have hob:=R.inv.obj b
 rw [show (s.h b).2 = .box t cells from by rw [h0]] at hob
 obtain ⟨b',vals,h3,h4,h5,h6⟩:=hob
 have hv:g'.val b=g.val b:=(T.box b t cells (by rw [h0',h0]) (by rw [h0'])).1
 have hnew : ∀ {cs:List SC} {vs:List Value} (c:Nat),aT g s.h w cs vs→cs[c]? = some x→aT g' s'.h w (cs.set c y) vs:=by
  intro cs
  induction cs with
  | nil=>intro vs c _ hx;simp at hx
  | cons z cs ih =>
   intro vs c hA hx
   obtain ⟨v,vs',rfl,k1,k2⟩:=hA
   cases c with
   | zero=>simp at hx;subst hx;exact ⟨v,vs',rfl,hc v k1,k2.lD T⟩
   | succ c=>exact ⟨v,vs',rfl,k1.lD T,ih c k2 (by simpa using hx)⟩
 exact aRg R' h0' (hv.trans h3) h5 (hnew c h6 h1)
theorem Gho.aTI {b vb c j K vj:Nat} {t:TypeId} {cells:List SC} {e:TypeId} {sz:Nat} {xs:List (List D)} {dp:Bool} (h0:s.h b=(vb,.box t cells)) (h1:cells[c]? = some (.row j vj)) (h2:s.h j=(vj,.row e sz xs dp)) (hk:b≠K) :
  Gho P base w0 N s (((s.gZ j (vj,.none)).gZ K ((s.h K).1+1,.row e sz xs dp)).gZ b (vb,.box t (cells.set c (.row K ((s.h K).1+1))))):=by
 rintro a w ⟨g,R⟩
 have hjb:b≠j:=fun e=>by rw [e,h2] at h0;cases h0
 obtain ⟨g',R',T,hc⟩:=aMO (K:=K) R h2
 refine aID R R' T h0 ?_ h1 hc
 show rN (rN s.h j _) K _ b=_
 rw [fX _ _ _ _ hk,fX _ _ _ _ hjb,h0]
theorem Gho.aSq {b vb c K:Nat} {t:TypeId} {cells:List SC} (e:TypeId) (sz:Nat) (h0:s.h b=(vb,.box t cells)) (h1:cells[c]? = some .nil) (hk:b≠K) :
  Gho P base w0 N s ((s.gZ K ((s.h K).1+1,.row e sz [] true)).gZ b (vb,.box t (cells.set c (.row K ((s.h K).1+1))))):=by
 rintro a w ⟨g,R⟩
 obtain ⟨g',R',T,hc⟩:=aOq (K:=K) e sz R
 refine aID R R' T h0 ?_ h1 hc
 show rN s.h K _ b=_
 rw [fX _ _ _ _ hk,h0]
theorem sq {x y:Code} (h:SW P base w0 N x s (aft P base w0 N Z (.code y::k))):SW P base w0 N (.seq x y) s (aft P base w0 N Z k):=aRW h
theorem bk {id:Nat} {c:Code} (h:SW P base w0 N c s (aft P base w0 N Z (.block id::k))):SW P base w0 N (.block id c) s (aft P base w0 N Z k):=aQG h
theorem sk (h:aft P base w0 N Z k .normal s):SW P base w0 N .skip s (aft P base w0 N Z k):=aQn h
theorem xt {id:Nat} (h:aft P base w0 N Z k (.exit id) s):SW P base w0 N (.exit id) s (aft P base w0 N Z k):=aQz h
theorem rt (h:Z s):SW P base w0 N .ret s (aft P base w0 N Z k):=aRY h
theorem an {c:Code} (h:SW P base w0 N c s (aft P base w0 N Z k)):aft P base w0 N Z (.code c::k) .normal s:=h
theorem ab {id:Nat} (h:aft P base w0 N Z k .normal s):aft P base w0 N Z (.block id::k) .normal s:=h
end
end Go.Sh
namespace Go.Sh
open Go.RowKit
section
variable {P:Program} {base N:Nat} {w0:W0} {Z:St→Prop} {k:List Fr} {s s':St}
theorem aT.swap {g g':Gh} {h h':Heap} {w:World} {x y:SC} (T:jG g g' h h' w w) (hc : ∀v,aAH g h w x v→aAH g' h' w y v) : ∀ {cs:List SC} {vs:List Value} (c:Nat),aT g h w cs vs→cs[c]? = some x→aT g' h' w (cs.set c y) vs
 | [],_,c,_,hx=>by simp at hx
 | z::cs,vs,0,hA,hx=>by
  obtain ⟨v,vs',rfl,k1,k2⟩:=hA
  simp at hx
  subst hx
  exact ⟨v,vs',rfl,hc v k1,k2.lD T⟩
 | z::cs,vs,c+1,hA,hx=>by
  obtain ⟨v,vs',rfl,k1,k2⟩:=hA
  exact ⟨v,vs',rfl,k1.lD T,aT.swap T hc c k2 (by simpa using hx)⟩
end
end Go.Sh
namespace Go.Sh
open Go.RowKit
end Go.Sh
namespace Go.Sh
open Go.RowKit
theorem aHW {w:World} : ∀ {ds:List D} {vs:List Value} {F:List Nat} {i:Nat} {d:D},aG w ds vs F→ds[i]? = some d → ∃v G,vs[i]? = some v∧Rep w d v G ∧ ∀b∈G,b∈F
 | [],_,_,_,_,_,h=>by simp at h
 | d::ds,vs,F,i,d',hr,h=>by
  simp only [aG] at hr
  obtain ⟨v,vs',F1,F2,rfl,rfl,h3,h4⟩:=hr
  cases i with
  | zero=>simp at h;subst h;exact ⟨v,F1,rfl,h3,fun b hb=>by simp [hb]⟩
  | succ i =>
   obtain ⟨u,G,k1,k2,k3⟩:=aHW h4 (by simpa using h)
   exact ⟨u,G,by simpa using k1,k2,fun b hb=>by simp [k3 b hb]⟩
theorem aT.aVm {g:Gh} {h:Heap} {w:World} : ∀ {cs:List SC} {vs:List Value} {i:Nat} {c:SC} {v:Value},aT g h w cs vs→vs[i]? = some v→aAH g h w c v→aT g h w (cs.set i c) vs
 | [],vs,i,c,v,hc,_,_=>hc
 | c0::cs,vs,i,c,v,hc,hv,hr=>by
  obtain ⟨v',vs',rfl,h1,h2⟩:=hc
  cases i with
  | zero=>simp at hv;subst hv;exact ⟨v',vs',rfl,hr,h2⟩
  | succ i=>exact ⟨v',vs',rfl,h1,aT.aVm h2 (by simpa using hv) hr⟩
theorem aPU (W:World) (p:Value) (j:Nat):aP5 W p j []=[]:=rfl
theorem aK1 (W:World) (p:Value) (j:Nat) (d:D) (ds:List D):aP5 W p j (d::ds) = .exa W d (cellAt W p j)::aP5 W p (j+1) ds:=rfl
theorem aMe (W:World) (p:Value) : ∀(j:Nat) (ds:List D),(aP5 W p j ds).length=ds.length
 | _,[]=>rfl
 | j,d::ds=>by rw [aK1,qJ,aMe W p (j+1) ds,qJ]
theorem aMh {g:Gh} {h:Heap} {w W:World} {p:Value} : ∀ {ds:List D} {vs:List Value} (j:Nat),aT g h w (aP5 W p j ds) vs → ∀i v,vs[i]? = some v→v=cellAt W p (j+i)
 | [],vs,j,hr=>by
  rw [show vs=[] from hr]
  intro i v hv;simp at hv
 | d::ds,vs,j,hr=>by
  obtain ⟨v,vs',rfl,⟨h1,_⟩,h4⟩:=hr
  intro i u hu
  cases i with
  | zero=>simp at hu;rw [←hu];exact h1
  | succ i =>
   rw [aMh (j+1) h4 i u (by simpa using hu)]
   congr 1
   omega
def aPv (W:World) (c:Nat) (u:Value) (d:D) (x:List D) (rest:List (Bool×List D)):St:=
 { t:=fun i=>if i=0 then .v true ((x.map .dat).set c (.exa W d u)) else (init ((true,x)::rest)).t i,h:=fun _=>(0,.none) }
theorem aQv (W:World) (c:Nat) (u:Value) (d:D) (x:List D) (rest:List (Bool×List D)) (i:Nat):(aPv W c u d x rest).t i=if i=0 then .v true ((x.map .dat).set c (.exa W d u)) else (init ((true,x)::rest)).t i:=rfl
theorem aQg (W:World) (c:Nat) (u:Value) (d:D) (x:List D) (rest:List (Bool×List D)) (i:Nat):(aPv W c u d x rest).h i=(0,.none):=rfl
def aS1 (T:aGe) (vars:List ResultVar) (W:World) (u:Value) (k sz:Nat) (y:List D) (s:St):Prop:=aEK T s vars=some [(true,aP5 W (aQh u k sz) 0 y),(false,[.dat (.bool true)])]
theorem aRa {P : Program} {f : FuncId} {fn : Func} {c : Code} {x : List D} {rest : List (Bool × List D)} {cc k sz : Nat} {xs : List (List D)} {y : List D} {N : Nat} {vars : List ResultVar} (hf : P.funcs[f]? = some fn) (hb : fn.body = some c) (hN : fn.ntmps = N) (hv : fn.results.toList = vars) (hnm : (fn.name == "runtime.NumGoroutine") = false) (hn : rest.length + 1 ≤ N)
  (hx:x[cc]? = some (.sl xs)) (hy:xs[k]? = some y) (hyl:y.length=sz)
  (h : ∀(base:Nat) (w0:W0) (u:Value),SW P base w0 N c (aPv w0.w cc u (.sl xs) x rest) (aft P base w0 N (aS1 (dK P) vars w0.w u k sz y) [])):mY P f ((true,x)::rest) [(false,[.edit (.sel cc k sz)])]:=by
 subst hN hv
 refine .inr (.inl ⟨.sel cc k sz,rfl,⟨fn,c,hf,hb,hnm⟩,fun w vs Fa ha => ?_⟩)
 obtain ⟨hlen,hat⟩:=args_at ha
 have hlen':vs.size=rest.length+1:=by simpa using hlen
 have hFlt:=aIk ha
 obtain ⟨v0,F0,e0,⟨c0,rfl,r0⟩,hF0⟩:=hat 0 _ rfl
 obtain ⟨u,Fu,hu,hru,hFu⟩:=aHW r0 hx
 refine calls_of_wp hf hb ?_
 let g:Gh:={ val:=fun _=>undef,fp:=fun _=>[],S:=fun b=>b∈Fa,Q:=⟨fun b=>b∈Fa,w.heap.size,none,slP P⟩ }
 have R:Rel P w.heap.size ⟨w,⟨fun b=>b∈Fa,w.heap.size,none,slP P⟩,noK,aO9⟩ fn.ntmps (aPv w cc u (.sl xs) x rest) { tmps:=vs++Array.replicate (fn.ntmps-vs.size) undef,defers:=[] } w:=by
  refine ⟨g,rfl,by simp;omega,Below.refl _ _,⟨fun _ x=>x,rfl,fun _ hx=>(by cases hx)⟩,fun _ x=>x.elim,⟨Nat.le_refl _,fun _ x _=>x,hFlt,fun i=>trivial,fun i b hl=>absurd rfl hl,fun i j b _ hl=>absurd rfl hl,?_,aAQ.nil _ _,by simp,fun i hd=>(by obtain ⟨_,_,_,hd⟩:=hd;cases hd),Nat.le_refl _⟩,fun t => ?_,⟨rfl,.inl rfl⟩,fun _=>trivial⟩
  ·rintro i j _ ⟨_,_,_,hd⟩;cases hd
  ·show lB g _ w (if t=0 then .v true ((x.map .dat).set cc (.exa w (.sl xs) u)) else match ((true,x)::rest)[t]? with | some (ag,ds)=>.v ag (ds.map .dat) | none=>.undef) _
   by_cases h0:t=0
   ·subst h0
    rw [if_pos rfl]
    have hv:(vs++Array.replicate (fn.ntmps-vs.size) undef).getD 0 undef = .agg c0:=by
     simp only [Array.getD_eq_getD_getElem?,Array.getElem?_append]
     rw [if_pos (by omega)]
     have:vs[0]? = some (.agg c0):=by simpa using e0
     rw [this];rfl
    show ∃us,(vs++Array.replicate (fn.ntmps-vs.size) undef).getD 0 undef = .agg us∧_
    rw [hv]
    exact ⟨c0,rfl,(aT.aF1 r0 hF0).aVm hu ⟨rfl,Fu,hru,fun b hb=>⟨hF0 b (hFu b hb),rfl⟩⟩⟩
   ·rw [if_neg h0]
    cases ht:((true,x)::rest)[t]? with
    | none =>
     have hge:rest.length+1≤t:=by simpa using List.getElem?_eq_none_iff.1 ht
     show _=undef
     simp only [Array.getD_eq_getD_getElem?,Array.getElem?_append]
     rw [if_neg (by omega)]
     by_cases h2:t-vs.size<fn.ntmps-vs.size
     ·simp [h2]
     ·rw [Array.getElem?_eq_none (by simp;omega)];rfl
    | some z =>
     obtain ⟨v,Fi,h1,h2,hFi⟩:=hat t z ht
     have hlt:t<vs.size:=by have:=(List.getElem?_eq_some_iff.1 ht).1;simp at this;omega
     have hv:(vs++Array.replicate (fn.ntmps-vs.size) undef).getD t undef=v:=by
      simp only [Array.getD_eq_getD_getElem?,Array.getElem?_append]
      rw [if_pos hlt]
      have:vs[t]? = some v:=by simpa using h1
      rw [this];rfl
     rw [hv]
     obtain ⟨ag,ds⟩:=z
     cases ag with
     | false =>
      obtain ⟨d,rfl,hr⟩:=h2
      exact ⟨v,[],rfl,⟨Fi,hr,hFi⟩,rfl⟩
     | true =>
      obtain ⟨cs,rfl,hr⟩:=h2
      exact ⟨cs,rfl,aT.aF1 hr hFi⟩
 refine wp_mono (h w.heap.size ⟨w,⟨fun b=>b∈Fa,w.heap.size,none,slP P⟩,noK,aO9⟩ u _ w R) ?_
 rintro e a' w' ⟨s',h1,g',R'⟩
 have fin:aS1 (dK P) fn.results.toList w u k sz y s'→a'.defers=[] ∧ ∃v,(results fn a'.tmps).run P w' = .ok v w'∧(Below w.heap.size w w' ∧ ∃us:Array Value,us.size=sz∧Ending.returned v = .returned (.tuple #[.agg us,.bool true]) ∧
   ∃cs rest b o n cap,vs.toList = .agg cs::rest∧cs.toList[cc]? = some (.slice (some ⟨b,o,none⟩) n cap)∧aBI w b (o+k*sz) us.toList):=by
  intro hr
  obtain ⟨vs',k1,k2,k3⟩:=aE8 R' hr
  have hrun:=aKK (P:=P) (w:=w') (fun x=>match x with | .tmp t=>(pure (a'.tmps.getD t undef):Sem Value) | .cell p t=>(do loadVar t (←asAddr (a'.tmps.getD p undef)):Sem Value)) fn.results.toList vs' (by rw [k1]) k3
  have hrun':(results fn a'.tmps).run P w' = .ok (if h:vs'.toArray.size=1 then vs'.toArray[0] else .tuple vs'.toArray) w':=by
   unfold results
   rw [←Array.toArray_toList (xs:=fn.results)]
   rw [List.mapM_toArray]
   simp only [Sem.run_bind,Sem.run_map,Sem.run_pure]
   exact (congrArg (fun r:Result (List Value)=>(r.andThen fun a w'=>Result.ok a.toArray w').andThen fun a w'=>Result.ok (if h:a.size=1 then a[0] else Value.tuple a) w') hrun).trans rfl
  obtain ⟨u1,vs1,rfl,⟨d2,rfl,m1⟩,u2,vs2,rfl,m2,m3⟩:=k2
  have m3':vs2=[]:=m3
  subst m3'
  have e2:u2 = .bool true:=aCv (g:=g') (s:=s') (w:=w') (b:=true) m2
  subst e2
  have hl2:d2.toList.length=sz:=by rw [aT.length m1,aMe,hyl]
  have hvals:=aMh 0 m1
  simp only [Rep] at hru
  obtain ⟨ad,n,cap,rfl,kn,kc,k4⟩:=hru
  have hk:k<xs.length:=(List.getElem?_eq_some_iff.1 hy).1
  rcases k4 with k4 | ⟨b,off,cells,sz',G,rfl,q2,rfl,q4,q5,q6,q7⟩
  ·omega
  ·have hsz:sz'=sz:=by rw [←hyl];exact (q6 y (List.mem_of_getElem? hy)).symm
   subst hsz
   refine ⟨R'.defers,_,hrun',R'.below,d2,by simpa using hl2,rfl,c0,vs.toList.tail,b,off,n,cap,?_,hu,fun j v hj => ?_⟩
   ·cases hvl:vs.toList with
    | nil=>rw [hvl] at e0;simp at e0
    | cons a l=>rw [hvl] at e0;simp at e0;simp [e0]
   ·have hjl:j<sz':=by have:=(List.getElem?_eq_some_iff.1 hj).1;omega
    have hc:k*sz'+j<cells.length:=by
     rw [q5,kn]
     have:(k+1)*sz'≤xs.length*sz':=Nat.mul_le_mul_right _ hk
     rw [Nat.succ_mul] at this
     omega
    have hcell:=q4 _ _ (qF hc)
    rw [hvals j v hj]
    simp only [aQh,cellAt,Nat.zero_add]
    rw [show off+k*sz'+j=off+(k*sz'+j) by omega,hcell]
    rfl
 cases e with
 | normal=>exact fin h1
 | ret=>exact fin h1
 | exit id=>exact h1.elim
 | goto l=>exact h1.elim
 | panic c=>exact h1.elim
 | outgrown=>exact h1.elim
def aYW:=PLift.up (qI @aQv (qI @aQg (qI @aPU @aK1)))
theorem LS:type_of% aYW.down:=aYW.down
end Go.Sh
namespace Go.Sh
open Go.RowKit
end Go.Sh
namespace Go.Sh
open Go.RowKit
def SC.clean (base:Nat):SC→Prop
 | .dat d=>d.flat=true
 | .old B _ _=>B≤base
 | .exa _ _ _=>False
 | _=>True
def SV.clean (base:Nat):SV→Prop
 | .v _ cs=>∀c∈cs,SC.clean base c
 | .tup xs=>∀x∈xs,∀c∈x.2,SC.clean base c
 | _=>True
def aC6.clean (base:Nat):aC6→Prop
 | .none=>True
 | .box _ cs=>∀c∈cs,SC.clean base c
 | .row _ _ _ dp=>dp=true
 | .pin _ _ _=>False
section
variable {P:Program} {base N:Nat} {w0:W0} {w:World} {g:Gh} {s:St} {a:Act}
theorem aNz {Q:Exit→Act→World→Prop} {ops:Array Oper} {K:St→Prop} (m:Nat) : ∀(l:List Oper) (i:Nat) {s:St} {a:Act} {w:World},(ops.toList.drop i).take l.length=l→Rel P base w0 N s a w→aCh P (dK P) N ops l s K →
  (∀s' a' w',K s'→Rel P base w0 N s' a' w'→wpOps P ops Q (List.range' (i+l.length) m) a' w')→wpOps P ops Q (List.range' i (l.length+m)) a w
 | [],i,s,a,w,hl,R,h,hq=>by simpa using hq s a w h R
 | o::l,i,s,a,w,hl,R,h,hq=>by
  rw [show (o::l).length+m=(l.length+m)+1 from by simp;omega,List.range'_succ,wpOps_cons]
  have hi:ops[i]? = some o:=by
   have:((ops.toList.drop i).take (o::l).length)[0]? = some o:=by rw [hl];rfl
   rw [List.getElem?_take] at this
   simp at this
   exact this
  have hl':(ops.toList.drop (i+1)).take l.length=l:=by
   have h1:(ops.toList.drop i)=o::ops.toList.drop (i+1):=by
    have hlt:i<ops.toList.length:=by simpa using (Array.getElem?_eq_some_iff.1 hi).1
    rw [qU hlt]
    have:ops.toList[i]? = some o:=by simpa using hi
    rw [qF hlt] at this
    simp at this
    simp [this]
   rw [h1] at hl
   simpa using hl
  refine wpOp_mono ?_ (aLe hi R h)
  rintro a' w' ⟨s',k1,k2⟩
  refine aNz m l (i+1) hl' k2 k1 fun s2 a2 w2 h2 R2 => ?_
  have:=hq s2 a2 w2 h2 R2
  rwa [show i+(o::l).length=i+1+l.length from by simp;omega] at this
def aXo (s:St) (d:Nat) (sv:SV):St:=
 { t:=fun i=>if i=d then sv else if i<10000 then s.fr i else .unk,h:=s.h,fr:=fun i=>s.fr (i+10000) }
def aRZ:List (Bool×List SC)→SV
 | [(ag,cs)]=>.v ag cs
 | l=>.tup l
def aXP (P:Program) (T:aGe) (vars:List ResultVar) (N:Nat) (ops:Array Oper) (n d:Nat) (K:St→Prop) (s:St):Prop:=
 ∃l,aEK T s vars=some l∧aCh P T N ops (ops.toList.drop (n+1)) (aXo s d (aRZ l)) K
set_option maxRecDepth 20000 in
end
end Go.Sh
namespace Go.Sh
open Go.RowKit
section
variable {P:Program} {base N:Nat} {w0:W0} {w:World} {g:Gh} {s:St} {a:Act}
theorem bM.at_ {L:TL} {ds:List D} {ts:Lb} {vs:List Value} {F:List Nat} (h:bM L w ds ts vs F) {off:Nat} {d:D} (hd:ds[off]? = some d) :
  ∃v1 v v3 F1 F2 F3,vs=v1++v::v3∧v1.length=off∧F=F1++(F2++F3)∧aCy L w d (Sh.lab (ts.drop off)) v F2 ∧ ∀(d':D) (v':Value) (F':List Nat),aCy L w d' (Sh.lab (ts.drop off)) v' F'→bM L w (ds.set off d') ts (v1++v'::v3) (F1++(F'++F3)):=by
 induction ds generalizing ts vs F off with
 | nil=>simp at hd
 | cons d0 ds ih =>
  simp only [bM] at h
  obtain ⟨v,vs',F1,F2,rfl,rfl,h3,h4⟩:=h
  cases off with
  | zero =>
   simp at hd
   subst hd
   refine ⟨[],v,vs',[],F1,F2,rfl,rfl,rfl,by simpa using h3,fun d' v' F' h' => ?_⟩
   simp only [List.set_cons_zero,bM,List.nil_append]
   exact ⟨v',vs',F',F2,rfl,rfl,by simpa using h',h4⟩
  | succ off =>
   obtain ⟨v1,v2,v3,G1,G2,G3,rfl,hl,rfl,k1,k2⟩:=ih h4 (by simpa using hd)
   rw [List.drop_tail] at k1 k2
   refine ⟨v::v1,v2,v3,F1++G1,G2,G3,rfl,by simp [hl],by simp,k1,fun d' v' F' h' => ?_⟩
   simp only [List.set_cons_succ,bM]
   exact ⟨v,v1++v'::v3,F1,G1++(F'++G3),by simp,by simp,h3,k2 d' v' F' h'⟩
end
end Go.Sh
namespace Go.Sh
open Go.RowKit
def aPz (B:Nat) (d:D):SC:=if d.flat=true then .dat d else .old B d none
def aOD (B:Nat) (args:List (Bool×List D)):St:=
 { t:=fun i=>match args[i]? with | some (ag,ds)=>.v ag (ds.map (aPz B)) | none=>.undef,h:=fun _=>(0,.none) }
theorem aRM (B:Nat) (args:List (Bool×List D)) (i:Nat):(aOD B args).t i=match args[i]? with | some (ag,ds)=>.v ag (ds.map (aPz B)) | none=>.undef:=rfl
theorem aQy (B:Nat) (args:List (Bool×List D)) (i:Nat):(aOD B args).h i=(0,.none):=rfl
theorem aPe (B:Nat) (k:IntKind) (n:Int):aPz B (.int k n) = .dat (.int k n):=rfl
theorem aOg (B:Nat) (b:Bool):aPz B (.bool b) = .dat (.bool b):=rfl
theorem aQP (B:Nat) (b:ByteArray):aPz B (.str b) = .dat (.str b):=rfl
theorem aQx (B:Nat) (xs:List (List D)):aPz B (.sl xs) = .old B (.sl xs) none:=rfl
theorem aT.aNZ {g:Gh} {h:Heap} {w:World} {B:Nat} : ∀ {ds:List D} {vs:List Value} {F:List Nat},aG w ds vs F→(∀b∈F,g.S b∧b<B)→aT g h w (ds.map (aPz B)) vs
 | [],vs,F,hr,_=>by simp only [aG] at hr;exact hr.1
 | d::ds,vs,F,hr,hF=>by
  simp only [aG] at hr
  obtain ⟨v,vs',F1,F2,rfl,rfl,h3,h4⟩:=hr
  refine ⟨v,vs',rfl,?_,aT.aNZ h4 fun b hb=>hF b (by simp [hb])⟩
  unfold aPz
  split
  ·exact ⟨F1,h3,fun b hb=>(hF b (by simp [hb])).1⟩
  ·exact ⟨F1,h3,fun b hb=>hF b (by simp [hb]),fun _ e=>by cases e⟩
def aMy (rs:List (Bool×List RC)):Bool:=rs.all fun r=>r.2.all fun c=>match c with | .own _ _ _=>false | _=>true
theorem aE9 {L L':TL} {base:Nat} {w:World} {X:Nat→Prop} : ∀ {vs:List Value} {rs:List RC} {F:List Nat},(rs.all fun c=>match c with | .own _ _ _=>false | _=>true)=true→lP L base w X vs rs F→lP L' base w X vs rs F
 | [],[],F,_,h=>h
 | v::vs,.any d::rs,F,hn,h=>by
  simp only [List.all_cons,Bool.true_and] at hn
  exact ⟨h.1,aE9 hn h.2⟩
 | v::vs,.ro d::rs,F,hn,h=>by
  simp only [List.all_cons,Bool.true_and] at hn
  exact ⟨h.1,aE9 hn h.2⟩
 | v::vs,.own e sz xs::rs,F,hn,h=>by simp at hn
 | v::vs,.edit q::rs,F,_,h=>h.elim
 | [],_::_,F,_,h=>h.elim
 | _::_,[],F,_,h=>h.elim
theorem aMT {L L':TL} {base:Nat} {w:World} {X:Nat→Prop} {v:Value} {r:Bool×List RC} {F:List Nat} (hn:(r.2.all fun c=>match c with | .own _ _ _=>false | _=>true)=true) (h:aIh L base w X v r F):aIh L' base w X v r F:=by
 obtain ⟨ag,rs⟩:=r
 cases ag with
 | true=>obtain ⟨cs,rfl,h⟩:=h;exact ⟨cs,rfl,aE9 hn h⟩
 | false=>exact aE9 hn h
theorem aIf {L L':TL} {base:Nat} {w:World} {X:Nat→Prop} : ∀ {vs:List Value} {rs:List (Bool×List RC)} {F:List Nat},aMy rs=true→aCo L base w X vs rs F→aCo L' base w X vs rs F
 | [],[],F,_,h=>h
 | v::vs,r::rs,F,hn,⟨F1,F2,h0,h1,h2⟩=>by
  simp only [aMy,List.all_cons,qM] at hn
  exact ⟨F1,F2,h0,aMT hn.1 h1,aIf hn.2 h2⟩
 | [],_::_,F,_,h=>h.elim
 | _::_,[],F,_,h=>h.elim
theorem aPH {L L':TL} {base:Nat} {w:World} {v:Value} {rs:List (Bool×List RC)} {Q:Nat→Prop} (hn:aMy rs=true) (h:aIO L base w v rs Q):aIO L' base w v rs Q:=by
 obtain ⟨F,X,h1,h2,h3,h4⟩:=h
 refine ⟨F,X,h1,h2,h3,?_⟩
 match rs,hn,h4 with
 | [r],hn,h4 =>
  simp only [aMy,List.all_cons,List.all_nil,Bool.and_true] at hn
  exact aMT hn h4
 | [],hn,h4=>obtain ⟨vs,e,h⟩:=h4;exact ⟨vs,e,aIf hn h⟩
 | a::b::rs,hn,h4=>obtain ⟨vs,e,h⟩:=h4;exact ⟨vs,e,aIf hn h⟩
theorem aQ9 {P : Program} (L : TL) {f : FuncId} {fn : Func} {c : Code} {args : List (Bool × List D)} {rs : List (Bool × List RC)} {N : Nat} {vars : List ResultVar} (hf : P.funcs[f]? = some fn) (hb : fn.body = some c) (hN : fn.ntmps = N) (hv : fn.results.toList = vars) (hnm : (fn.name == "runtime.NumGoroutine") = false) (hn : args.length ≤ N) (hL : L = slP P ∨ (L = aGG ∧ aMy rs = true))
  (h : ∀(base:Nat) (wd:World×(Nat→Prop)),SW P base ⟨wd.1,⟨wd.2,base,none,L⟩,noK,aO9⟩ N c (aOD base args) (aft P base ⟨wd.1,⟨wd.2,base,none,L⟩,noK,aO9⟩ N (Ret (dK P) vars rs) [])):mY P f args rs:=by
 subst hN hv
 refine .inl ⟨⟨fn,c,hf,hb,hnm⟩,fun w vs Fa ha => ?_⟩
 obtain ⟨hlen,hat⟩:=args_at ha
 have hlen':vs.size=args.length:=by simpa using hlen
 refine calls_of_wp hf hb ?_
 have hFlt:=aIk ha
 let g:Gh:={ val:=fun _=>undef,fp:=fun _=>[],S:=fun b=>b∈Fa,Q:=⟨fun b=>b∈Fa,w.heap.size,none,L⟩ }
 have R:Rel P w.heap.size ⟨w,⟨fun b=>b∈Fa,w.heap.size,none,L⟩,noK,aO9⟩ fn.ntmps (aOD w.heap.size args) { tmps:=vs++Array.replicate (fn.ntmps-vs.size) undef,defers:=[] } w:=by
  refine ⟨g,rfl,by simp;omega,Below.refl _ _,⟨fun _ x=>x,rfl,fun _ hx=>(by cases hx)⟩,fun _ x=>x.elim,⟨Nat.le_refl _,fun _ x _=>x,hFlt,fun i=>trivial,fun i b hl=>absurd rfl hl,fun i j b _ hl=>absurd rfl hl,?_,aAQ.nil _ _,by simp,fun i hd=>(by obtain ⟨_,_,_,hd⟩:=hd;cases hd),Nat.le_refl _⟩,fun t => ?_,⟨rfl,hL.imp id And.left⟩,fun _=>trivial⟩
  ·rintro i j _ ⟨_,_,_,hd⟩;cases hd
  ·show lB g _ w (match args[t]? with | some (ag,ds)=>.v ag (ds.map (aPz w.heap.size)) | none=>.undef) _
   cases ht:args[t]? with
   | none =>
    have hge:args.length≤t:=List.getElem?_eq_none_iff.1 ht
    show _=undef
    simp only [Array.getD_eq_getD_getElem?,Array.getElem?_append]
    rw [if_neg (by omega)]
    by_cases h2:t-vs.size<fn.ntmps-vs.size
    ·simp [h2]
    ·rw [Array.getElem?_eq_none (by simp;omega)];rfl
   | some x =>
    obtain ⟨v,Fi,h1,h2,hFi⟩:=hat t x ht
    have hlt:t<vs.size:=by have:=(List.getElem?_eq_some_iff.1 ht).1;omega
    have hv:(vs++Array.replicate (fn.ntmps-vs.size) undef).getD t undef=v:=by
     simp only [Array.getD_eq_getD_getElem?,Array.getElem?_append]
     rw [if_pos hlt]
     have:vs[t]? = some v:=by simpa using h1
     rw [this];rfl
    rw [hv]
    obtain ⟨ag,ds⟩:=x
    cases ag with
    | false =>
     obtain ⟨d,rfl,hr⟩:=h2
     have hcs:aG w [d] [v] Fi:=by simp only [aG];exact ⟨v,[],Fi,[],rfl,by simp,hr,by simp⟩
     exact aT.aNZ hcs fun b hb=>⟨hFi b hb,hFlt b (hFi b hb)⟩
    | true =>
     obtain ⟨cs,rfl,hr⟩:=h2
     exact ⟨cs,rfl,aT.aNZ hr fun b hb=>⟨hFi b hb,hFlt b (hFi b hb)⟩⟩
 refine wp_mono (h w.heap.size (w,fun b=>b∈Fa) _ w R) ?_
 rintro e a' w' ⟨s',h1,R'⟩
 have fin:Ret (dK P) fn.results.toList rs s'→a'.defers=[] ∧ ∃v,(results fn a'.tmps).run P w' = .ok v w' ∧ ∃v',Ending.returned v = .returned v'∧aIO (slP P) w.heap.size w' v' rs (fun b=>b∈Fa)∧Below w.heap.size w w':=by
  intro hr
  obtain ⟨v,k1,k2⟩:=aOp R' hr
  obtain ⟨g',R''⟩:=R'
  refine ⟨R''.defers,v,k1,v,rfl,?_,R''.below⟩
  rcases hL with rfl | ⟨_,hno⟩
  ·exact k2
  ·exact aPH hno k2
 cases e with
 | normal=>exact fin h1
 | ret=>exact fin h1
 | exit id=>exact h1.elim
 | goto l=>exact h1.elim
 | panic c=>exact h1.elim
 | outgrown=>exact h1.elim
theorem aQ3 {P : Program} {f : FuncId} {fn : Func} {c : Code} {args : List (Bool × List D)} {rs : List (Bool × List RC)} {N : Nat} {vars : List ResultVar} (hf : P.funcs[f]? = some fn) (hb : fn.body = some c) (hN : fn.ntmps = N) (hv : fn.results.toList = vars) (hnm : (fn.name == "runtime.NumGoroutine") = false) (hn : args.length ≤ N)
  (h : ∀(base:Nat) (wd:World×(Nat→Prop)),SW P base ⟨wd.1,⟨wd.2,base,none,aGG⟩,noK,aO9⟩ N c (aOD base args) (aft P base ⟨wd.1,⟨wd.2,base,none,aGG⟩,noK,aO9⟩ N (Ret (dK P) vars rs) [])) (hno:aMy rs=true:=by exact rfl):mY P f args rs:=aQ9 aGG hf hb hN hv hnm hn (.inr ⟨rfl,hno⟩) h
theorem aOZ (B:Nat) (d:D) (u:Option Value) (cs:List SC) (k:List D→Prog):aCJ (.old B d u::cs) k=aCJ cs fun ds=>k (d::ds):=rfl
theorem aO1 (b:Nat) (d:D):SC.clean b (.dat d)=(d.flat=true):=rfl
theorem aO0 (b B:Nat) (d:D) (u:Option Value):SC.clean b (.old B d u)=(B≤b):=rfl
theorem aOf (b:Nat):SC.clean b .nil=True:=rfl
theorem aNq (b i v:Nat):SC.clean b (.row i v)=True:=rfl
theorem aP7 (b i v o:Nat):SC.clean b (.bp i v o)=True:=rfl
theorem aQu (b:Nat) (ag:Bool) (cs:List SC):SV.clean b (.v ag cs) = ∀c∈cs,SC.clean b c:=rfl
theorem aOQ (b:Nat) (xs:List (Bool×List SC)):SV.clean b (.tup xs) = ∀x∈xs,∀c∈x.2,SC.clean b c:=rfl
theorem aNk (b:Nat):SV.clean b .unk=True:=rfl
theorem aLc (b:Nat):SV.clean b .undef=True:=rfl
theorem aMx (b:Nat):aC6.clean b .none=True:=rfl
theorem aOn (b:Nat) (t:TypeId) (cs:List SC):aC6.clean b (.box t cs) = ∀c∈cs,SC.clean b c:=rfl
theorem aMr (b:Nat) (e:TypeId) (sz:Nat) (xs:List (List D)) (dp:Bool):aC6.clean b (.row e sz xs dp)=(dp=true):=rfl
theorem aZG {α:Type} {p:α→Prop} {a:α} {l:List α}:(∀x∈a::l,p x)=(p a ∧ ∀x∈l,p x):=by simp
theorem aZH {α:Type} {p:α→Prop}:(∀x∈([]:List α),p x)=True:=by simp
theorem aPf (k:IntKind) (n:Int):D.flat (.int k n)=true:=rfl
theorem aOM (b:Bool):D.flat (.bool b)=true:=rfl
theorem aPo (b:ByteArray):D.flat (.str b)=true:=rfl
theorem aQo (b:Nat):(b≤b)=True:=by simp
theorem exI {P:Program} {T:aGe} {N:Nat} {ops:Array Oper} {l:List Oper} {s s3:St} {K:St→Prop} (h:aCh P T N ops l s (Is s3)) (hk:K s3):aCh P T N ops l s K:=
 aGg l (fun τ hτ=>by rw [show τ=s3 from hτ];exact hk) h
theorem aPV (b i v j o:Nat):SC.clean b (.rp i v j o)=True:=rfl
def aTn:=PLift.up (qI @aO1 (qI @aO0 (qI @aOf (qI @aNq (qI @aP7 (qI @aPV (qI @aQu (qI @aOQ (qI @aNk (qI @aLc (qI @aMx (qI @aOn (qI @aMr (qI @aZG (qI @aZH (qI @aPf (qI @aOM (qI @aPo (qI @aQo (qI and_true (qI true_and and_self)))))))))))))))))))))
theorem LC:type_of% aTn.down:=aTn.down
end Go.Sh
namespace Go.Sh
open Go.RowKit
section
variable {P:Program} {base N:Nat} {w0:W0} {s:St}
theorem aXP.mk {P:Program} {T:aGe} {vars:List ResultVar} {ops:Array Oper} {n d:Nat} {K:St→Prop} {l:List (Bool×List SC)} {s s1:St} (h1:aEK T s vars=some l) (h2:aCh P T N ops (ops.toList.drop (n+1)) (aXo s d (aRZ l)) (Is s1)) (h3:K s1):aXP P T vars N ops n d K s:=⟨l,h1,exI h2 h3⟩
end
end Go.Sh
namespace Go.Sh
open Go.RowKit
section
variable {P:Program} {base N:Nat} {w0:W0} {Z:St→Prop} {k:List Fr} {s:St}
theorem aCn {x y:Code} (J:St→Prop) (h1:SW P base w0 N x s (aft P base w0 N Z (.inv J::k))) (h2 : ∀s',J s'→SW P base w0 N y s' (aft P base w0 N Z k)):SW P base w0 N (.seq x y) s (aft P base w0 N Z k):=by
 refine sq fun a w R=>wp_mono (h1 a w R) ?_
 rintro e a' w' ⟨s',k1,k2⟩
 refine ⟨s',?_,k2⟩
 cases e with
 | normal=>exact h2 s' k1
 | _=>exact k1
end
end Go.Sh
