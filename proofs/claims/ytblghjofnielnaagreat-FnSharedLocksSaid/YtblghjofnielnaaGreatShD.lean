/-
  Helper text. No conditions.
-/
import Derived.Test.YtblghjofnielnaaGreatShC
import Derived.ProofKit
import Derived.OpenShut
import Derived.ShutString
import Derived.Deep.Slices
import Derived.Carry
namespace Go.Sh
set_option linter.unusedVariables false
set_option linter.unusedSimpArgs false
open Go.RowKit
theorem yP (args:List (Bool×List D)) (i:Nat):(init args).t i=match args[i]? with | some (ag,ds)=>.v ag (ds.map .dat) | none=>.undef:=rfl
theorem zC (args:List (Bool×List D)) (i:Nat):(init args).h i=(0,.none):=rfl
def aCu (v:SV) (A B:Prop):Prop:=match v with
 | .v false [.dat (.bool b)]=>(b=true→A)∧(b=false→B)
 | _=>False
theorem zW (b:Bool) (A B:Prop):aCu (.v false [.dat (.bool b)]) A B=((b=true→A)∧(b=false→B)):=rfl
theorem uL {n:Int} (h1 : -9223372036854775808≤n) (h2:n≤9223372036854775807):IntKind.i64.wrap n=n:=by rw [IntKind.wrap_i64];omega
attribute [simp] kH vT xO wL tW rX tX pR oS evG jV vOp aCF put ex exF cst one aft St.sW St.yF St.yQ St.uT iX oM rN nT jD oY cY mB lL kG rows bT oR lenOf sG tC rL eI iQ lP uX D.flat rid TI.agg yP zC nV pA xM tU sH zW
end Go.Sh
namespace Go.Sh
set_option linter.unusedVariables false
set_option linter.unusedSimpArgs false
open Go.RowKit Go.ChangeShapes Go.WideShapes Go.Deep
inductive Shp where
 | int (k:IntKind)
 | bool
 | str
 | sl (es:List Shp)
def tP (P:Program) (f:TypeId→Option (List Shp)):Nat→List Field→Option (List Shp)
 | _,[]=>some []
 | off,x::xs=>if x.offset=off then (match f x.type,tP P f (off+P.cellsOf x.type) xs with
   | some a,some b=>if a.length=P.cellsOf x.type then some (a++b) else none
   | _,_=>none) else none
def aBY (P:Program):Nat→TypeId→Option (List Shp)
 | 0,_=>none
 | n+1,t=>match P.underlying t with
  | some (.int k)=>some [.int k]
  | some .bool=>some [.bool]
  | some .string=>some [.str]
  | some (.slice e)=>match aBY P n e with
   | some es=>if es.length=P.cellsOf e∧0<es.length then some [.sl es] else none
   | none=>none
  | some (.struct fs)=>match tP P (aBY P n) 0 fs.toList with
   | some es=>if es.length=P.cellsOf t then some es else none
   | none=>none
  | _=>none
mutual
def Has:Shp→D→Prop
 | .int k,d=>∃n,d = .int k n∧(Lit.int k n).wf=true
 | .bool,d=>∃b,d = .bool b
 | .str,d=>∃s,d = .str s∧s.size≤maxLen
 | .sl es,d=>∃xs,d = .sl xs∧xs.length≤maxLen ∧ ∀x∈xs,tM es x
def tM:List Shp→List D→Prop
 | [],ds=>ds=[]
 | e::es,ds=>∃d ds',ds=d::ds'∧Has e d∧tM es ds'
end
theorem tM.append : ∀ {a b:List Shp} {x y:List D},tM a x→tM b y→tM (a++b) (x++y)
 | [],b,x,y,h,k=>by simp only [tM] at h;subst h;exact k
 | e::a,b,x,y,h,k=>by
  simp only [tM] at h
  obtain ⟨d,ds',rfl,h1,h2⟩:=h
  simp only [List.cons_append,tM]
  exact ⟨d,ds'++y,rfl,h1,tM.append h2 k⟩
theorem tM.length : ∀ {a:List Shp} {x:List D},tM a x→x.length=a.length
 | [],x,h=>by simp only [tM] at h;subst h;rfl
 | e::a,x,h=>by
  simp only [tM] at h
  obtain ⟨d,ds',rfl,h1,h2⟩:=h
  simp [tM.length h2]
section
variable {H:Type} {enc:TypeId×Value→H} {P:Program} {w:World} {base:Nat} {spare:Nat→Bool} {held:Bool}
theorem lM {w:World} {d:D} {v:Value} {F:List Nat} (h:Rep w d v F):aA w [d] [v] F:=by
 simp only [aA]
 exact ⟨v,[],F,[],rfl,by simp,h,rfl,rfl⟩
theorem sO {e:Shp} {d:D} (h:Has e d):tM [e] [d]:=by
 simp only [tM]
 exact ⟨d,[],rfl,h,rfl⟩
theorem xB {n m:Nat} (ih : ∀(t:TypeId) (shs:List Shp) (cs:List Value) (x:DataW H×List MemPlace),aBY P n t=some shs→DataW.trod enc P w base spare held m t cs=some x → ∃ds F,aA w ds cs F∧tM shs ds) :
  ∀(fs:List Field) (off:Nat) (shs:List Shp) (cs:List Value),tP P (aBY P n) off fs=some shs→off+shs.length=cs.length →
   (∀f∈fs,∃x,DataW.trod enc P w base spare held m f.type ((cs.drop f.offset).take (P.cellsOf f.type))=some x) → ∃ds F,aA w ds (cs.drop off) F∧tM shs ds
 | [],off,shs,cs,h,hl,_=>by
  simp [tP] at h
  subst h
  refine ⟨[],[],?_,by simp [tM]⟩
  rw [List.drop_of_length_le (by simpa using Nat.le_of_eq hl.symm)]
  simp [aA]
 | f::fs,off,shs,cs,h,hl,hf=>by
  simp only [tP] at h
  split at h
  ·rename_i ho
   split at h
   ·rename_i a b ha hb
    split at h
    ·rename_i hlen
     cases h
     obtain ⟨x,hx⟩:=hf f (by simp)
     obtain ⟨d1,F1,k1,k2⟩:=ih _ _ _ _ ha hx
     obtain ⟨d2,F2,k3,k4⟩:=xB ih fs _ b cs hb (by rw [List.length_append,hlen] at hl;omega) fun y hy=>hf y (by simp [hy])
     refine ⟨d1++d2,F1++F2,?_,k2.append k4⟩
     have:cs.drop off=(cs.drop f.offset).take (P.cellsOf f.type)++cs.drop (off+P.cellsOf f.type):=by
      rw [ho,←List.drop_drop,List.take_append_drop]
     rw [this]
     exact k1.append k3
    ·cases h
   ·cases h
  ·cases h
theorem aA9 {a:Addr} {v:Value} (h:w.cell? a=some v):a=⟨a.block,a.off,none⟩:=by
 obtain ⟨b,o,s⟩:=a
 unfold World.cell? at h
 cases s with
 | none=>rfl
 | some s =>
  split at h
  ·simp at h
  ·cases h
theorem yC {es:List Shp} {C:Nat} (hC:es.length=C) {a:Addr} : ∀(len:Nat),(∀i,i<len → ∃cs' ds F,cs'.length=C∧(∀j,j<C→w.cell? (a.add (i*C+j))=cs'[j]?)∧aA w ds cs' F∧tM es ds) →
  ∃xs cells G,xs.length=len∧(∀x∈xs,tM es x)∧aC w xs cells G∧cells.length=len*C ∧ ∀j,j<len*C→w.cell? (a.add j)=cells[j]?
 | 0,_=>⟨[],[],[],rfl,by simp,by simp [aC],by simp,by simp⟩
 | len+1,h=>by
  obtain ⟨xs,cells,G,h1,h2,h3,h4,h5⟩:=yC hC len fun i hi=>h i (by omega)
  obtain ⟨cs',ds,F,k1,k2,k3,k4⟩:=h len (by omega)
  refine ⟨xs++[ds],cells++cs',G++F,by simp [h1],?_,?_,by rw [List.length_append,h4,k1,Nat.add_mul];omega,?_⟩
  ·intro x hx
   rcases List.mem_append.1 hx with hx | hx
   ·exact h2 x hx
   ·simp at hx;subst hx;exact k4
  ·refine h3.append ?_
   simp only [aC]
   exact ⟨cs',[],F,[],by simp,by simp,k3,rfl,rfl⟩
  ·intro j hj
   rw [Nat.add_mul,Nat.one_mul] at hj
   by_cases hjl:j<len*C
   ·rw [h5 j hjl,List.getElem?_append_left (by omega)]
   ·have:=k2 (j-len*C) (by omega)
    rw [show len*C+(j-len*C)=j from by omega] at this
    rw [this,List.getElem?_append_right (by omega),h4]
theorem xX : ∀(n:Nat) (m:Nat) (t:TypeId) (shs:List Shp) (cs:List Value) (x:DataW H×List MemPlace),aBY P n t=some shs→DataW.trod enc P w base spare held m t cs=some x → ∃ds F,aA w ds cs F∧tM shs ds
 | 0,_,_,_,_,_,h,_=>by simp [aBY] at h
 | n+1,m,t,shs,cs,x,h,hx=>by
  simp only [aBY] at h
  split at h
  ·rename_i k hu
   cases h
   obtain ⟨v,rfl,_,hw⟩:=DataW.trod_int hu hx
   exact ⟨[.int k v],[],lM (by simp [Rep]),sO (by simp [Has,hw])⟩
  ·rename_i hu
   cases h
   obtain ⟨v,rfl,_⟩:=DataW.trod_bool hu hx
   exact ⟨[.bool v],[],lM (by simp [Rep]),sO (by simp [Has])⟩
  ·rename_i hu
   cases h
   obtain ⟨v,rfl,_,hw⟩:=DataW.trod_string hu hx
   exact ⟨[.str v],[],lM (by simp [Rep]),sO (by simp [Has,hw])⟩
  ·rename_i e hu
   split at h
   ·rename_i es hes
    split at h
    ·rename_i hc
     cases h
     rcases open_slice hu hx with ⟨rfl,_⟩ | ⟨a,len,cap,mm,fu,Dd,Pl,rfl,h1,h2,h3,h4,_,h6⟩
     ·refine ⟨[.sl []],[],?_,?_⟩
      ·refine lM ?_
       simp only [Rep]
       exact ⟨none,0,0,rfl,rfl,Nat.le_refl _,.inl (by simp)⟩
      ·refine sO ?_
       simp only [Has]
       exact ⟨[],rfl,by simp,by simp⟩
     ·have hle:len≤mm:=by rw [h4];split<;>omega
      obtain ⟨xs,cells,G,k1,k2,k3,k4,k5⟩:=yC (w:=w) hc.1 (a:=a) len fun i hi=>by
       obtain ⟨cs',q1,q2⟩:=h6 i (by omega)
       obtain ⟨_,q3,q4⟩:=World.cells?_some q1
       obtain ⟨ds,F,q5,q6⟩:=xX n fu e es cs' _ hes q2
       exact ⟨cs',ds,F,q3,fun j hj=>by rw [←Go.Deep.add_add];exact q4 j hj,q5,q6⟩
      rcases Nat.eq_zero_or_pos len with h0 | h0
      ·have hxs:xs=[]:=List.eq_nil_of_length_eq_zero (by omega)
       subst hxs
       refine ⟨[.sl []],[],?_,?_⟩
       ·refine lM ?_
        simp only [Rep]
        exact ⟨some a,len,cap,rfl,by simpa using h0,h2,.inl ⟨h0,trivial⟩⟩
       ·refine sO ?_
        simp only [Has]
        exact ⟨[],rfl,by simp,by simp⟩
      ·have hpos:0<len*P.cellsOf e:=Nat.mul_pos h0 (by omega)
       have hc0:=k5 0 hpos
       have hc0':cells[0]? = some (cells[0]'(by omega)):=List.getElem?_eq_getElem (by omega)
       have hadd0:a.add 0=a:=by simp [Addr.add]
       rw [hadd0,hc0'] at hc0
       have ha:=aA9 hc0
       refine ⟨[.sl xs],a.block::G,?_,?_⟩
       ·refine lM ?_
        simp only [Rep]
        refine ⟨some a,len,cap,rfl,k1.symm,h2,.inr ⟨a.block,a.off,cells,P.cellsOf e,G,by rw [←ha],World.block_lt_of_cell? w a hc0,rfl,?_,k4,?_,k3⟩⟩
        ·intro j u hu'
         have hj:j<len*P.cellsOf e:=by rw [←k4];exact (List.getElem?_eq_some_iff.1 hu').1
         have:=k5 j hj
         rw [ha,Addr.add_lit] at this
         rw [this];exact hu'
        ·intro x hx'
         rw [(k2 x hx').length,hc.1]
       ·refine sO ?_
        simp only [Has]
        exact ⟨xs,rfl,by omega,k2⟩
    ·cases h
   ·cases h
  ·rename_i fs hu
   split at h
   ·rename_i es hes
    split at h
    ·rename_i hc
     cases h
     obtain ⟨xs,mm,rfl,_,q1,q2,q3⟩:=DataW.trod_struct hu hx
     have:=xB (m:=mm) (fun t shs cs x=>xX n mm t shs cs x) fs.toList 0 shs cs hes (by omega) (fun f hf=>by
      obtain ⟨i,hi⟩:=List.getElem?_of_mem hf
      have hi':fs[i]? = some f:=by simpa using hi
      have hlt:i<xs.length:=by rw [q2];exact (Array.getElem?_eq_some_iff.1 hi').1
      exact ⟨xs[i],by rw [q3 i f hi',List.getElem?_eq_getElem hlt]⟩)
     simpa using this
    ·cases h
   ·cases h
  ·cases h
theorem aCe {n:Nat} {t:TypeId} {shs:List Shp} {v:Value} {d:DataW H} {p:List MemPlace} {b:Nat} (h:aBY P n t=some shs) (hv:Value.okWide P w .any b t v) (ht:DataW.Trod enc P w base spare held t v d p) :
  ∃ds F,tM shs ds∧aAM w v (uN P t,ds) F:=by
 obtain ⟨fuel,hf⟩:=id ht
 obtain ⟨ds,F,h1,h2⟩:=xX n fuel t shs _ _ h hf
 refine ⟨ds,F,h2,?_⟩
 have one:v.cells.toList=[v] → ∃d,ds=[d]∧Rep w d v F:=by
  intro hc
  rw [hc] at h1
  have hl:=h1.length
  match ds,h1,hl with
  | [d],h1,_ =>
   simp only [aA] at h1
   obtain ⟨u,us,F1,F2,e1,e2,e3,_,e5⟩:=h1
   simp at e1
   rw [e5,List.append_nil] at e2
   exact ⟨d,rfl,e2 ▸ e1.1 ▸ e3⟩
 cases n with
 | zero=>simp [aBY] at h
 | succ n =>
  simp only [aBY] at h
  unfold uN
  split at h
  ·rename_i k hu
   obtain ⟨x,rfl,_⟩:=open_int hu hv ht
   rw [hu]
   exact one rfl
  ·rename_i hu
   obtain ⟨x,rfl,_⟩:=open_bool hu hv ht
   rw [hu]
   exact one rfl
  ·rename_i hu
   obtain ⟨x,rfl,_⟩:=Go.ChangeMaps.open_string hu hv ht
   rw [hu]
   exact one rfl
  ·rename_i e hu
   obtain ⟨x,y,z,rfl⟩:=okWide_slice hu hv
   rw [hu]
   exact one rfl
  ·rename_i fs hu
   obtain ⟨cs,rfl,_⟩:=okWide_struct hu hv
   rw [hu]
   exact ⟨cs,rfl,h1⟩
  ·cases h
theorem aAx {f:Func} {s:ChangeSpec} {apart fresh handsOn again:Bool} {W W':World} {args:Array Value} {v:Value} {ds gs:List (DataW H)} {before pa pv:List MemPlace}
  (hW:DataW.Whole enc P f.params.toList s.vars apart W args.toList ds gs before)
  (hres : ∀(b:Nat) (sp:Nat→Bool) (hd:Bool),DataW.TrodAll enc P W' b sp hd f.resultTypes.toList (v.resultList f.resultTypes.size) (s.fn H (ds++gs)).results [])
  (hargs : ∀sp:Nat→Bool,(∀p∈before,sp p.block=true)→DataW.TrodAll enc P W' 0 sp true f.params.toList args.toList (s.fn H (ds++gs)).args pa)
  (hvars : ∀sp:Nat→Bool,(∀p∈before,sp p.block=true)→DataW.TrodVars enc P W' sp s.vars (s.fn H (ds++gs)).vars pv)
  (hps:before=pa++pv) (hb:Below W.heap.size W W')
  (hok : ∀(j:Nat) (t:TypeId) (r:Value),f.resultTypes[j]? = some t→(v.resultList f.resultTypes.size)[j]? = some r→Value.okWide P W' .any 0 t r) :
  s.post enc P f apart fresh handsOn again W args v W':=by
 have hlt : ∀p∈before,p.block<W.heap.size:=fun p hp=>hW.lt p hp
 have hold : ∀p∈before,(fun b=>decide (b<W.heap.size)) p.block=true:=fun p hp=>by simpa using hlt p hp
 refine ⟨ds,gs,before,[],pa,pv,hW,hres _ _ _,hargs _ hold,hvars _ hold,World.keptBut_mono (fun p hp=>⟨hp,?_⟩) (hb.frame (· ∈ before)),fun _ => ?_⟩
 ·rw [hps,List.mem_append] at hp
  exact Or.inr hp
 ·obtain ⟨_,_,_,_,_,hz,hn⟩:=hW
  refine ⟨hok,_,_,([]++pa)++pv,⟨[]++pa,pv,trodAll_append (hargs _ (fun _ _=>rfl)) (hres _ _ _),hvars _ (fun _ _=>rfl),rfl,?_,?_⟩,?_⟩
  ·intro b off hp
   have hin:MemPlace.cell b off∈before:=by rw [hps];simpa using hp
   rw [hb.frozen (hlt _ hin)]
   exact hz b off hin
  ·intro ha
   have:=hn ha
   rw [hps] at this
   simpa using this
  ·intro p hp _
   rw [hps]
   simpa using hp
theorem uA (hl:laidOutB P=true) {W W':World} (hb:Below W.heap.size W W') {sp:Nat→Bool} : ∀ {ts:List TypeId} {vs:List Value} {ds:List (DataW H)} {ps:List MemPlace},DataW.TrodAll enc P W 0 (fun _=>true) true ts vs ds ps →
  (∀t∈ts,P.readableRec t=true∧t<P.types.size)→(∀x∈ps,x.block<W.heap.size)→(∀x∈ps,sp x.block=true)→DataW.TrodAll enc P W' 0 sp true ts vs ds ps
 | [],vs,ds,ps,h,_,_,_=>by
  obtain ⟨rfl,rfl,rfl⟩:=trodAll_nil h
  rfl
 | t::ts,vs,ds,ps,h,ht,hlt,hsp=>by
  obtain ⟨v,vs',d,ds',p,q,rfl,rfl,rfl,h1,h2⟩:=trodAll_cons h
  refine ⟨p,q,?_,?_,rfl⟩
  ·exact WideElems.Trod_stays hl (ht t (by simp)).1 (ht t (by simp)).2 h1 (fun x hx=>hb.same (hlt x (by simp [hx]))) (fun x hx=>hsp x (by simp [hx]))
  ·exact uA hl hb h2 (fun u hu=>ht u (by simp [hu])) (fun x hx=>hlt x (by simp [hx])) (fun x hx=>hsp x (by simp [hx]))
def aCc (P:Program) (n:Nat):List TypeId→List (List Shp)→Prop
 | [],shs=>shs=[]
 | t::ts,shs=>∃s ss,shs=s::ss∧aBY P n t=some s∧aCc P n ts ss
def aBP:List (List Shp)→List (List D)→Prop
 | [],ds=>ds=[]
 | s::ss,ds=>∃d ds',ds=d::ds'∧tM s d∧aBP ss ds'
def aBH (P:Program):List TypeId→List (List D)→List (Bool×List D)
 | t::ts,d::ds=>(uN P t,d)::aBH P ts ds
 | _,_=>[]
theorem aAZ {n:Nat} {W:World} {b:Nat} : ∀ {ts:List TypeId} {vs:List Value} {ds:List (DataW H)} {ps:List MemPlace} {shs:List (List Shp)},aCc P n ts shs→DataW.TrodAll enc P W 0 (fun _=>true) true ts vs ds ps →
  (∀(j:Nat) t v,ts[j]? = some t→vs[j]? = some v→Value.okWide P W .any b t v) → ∃dss F,aBP shs dss∧gJ W vs (aBH P ts dss) F
 | [],vs,ds,ps,shs,hs,h,hv=>by
  obtain ⟨rfl,rfl,rfl⟩:=trodAll_nil h
  have:shs=[]:=hs
  subst this
  exact ⟨[],[],rfl,rfl⟩
 | t::ts,vs,ds,ps,shs,hs,h,hv=>by
  obtain ⟨s,ss,rfl,hs1,hs2⟩:=hs
  obtain ⟨v,vs',d,ds',p,q,rfl,rfl,rfl,h1,h2⟩:=trodAll_cons h
  obtain ⟨d1,F1,k1,k2⟩:=aCe hs1 (hv 0 t v rfl rfl) h1
  obtain ⟨dss,F2,k3,k4⟩:=aAZ hs2 h2 fun j t' v' ht hv'=>hv (j+1) t' v' (by simpa using ht) (by simpa using hv')
  exact ⟨d1::dss,F1++F2,⟨d1,dss,rfl,k1,k3⟩,F1,F2,rfl,k2,k4⟩
theorem aBe {f:FuncId} {fn:Func} {s:ChangeSpec} {n tb:Nat} {shs:List (List Shp)} (hl:laidOutB P=true) (hvars:s.vars=[]) (hres:fn.resultTypes = #[tb]) (htb:P.underlying tb=some .bool) (hsh:aCc P n fn.params.toList shs)
  (hread : ∀t∈fn.params.toList,P.readableRec t=true∧t<P.types.size)
  (hfn : ∀(ds:List (DataW H)),ds.length=fn.params.toList.length→s.fn H (ds++[])={ results:=[.lit (.bool true)],args:=ds })
  (hc : ∀dss,aBP shs dss→dS P f (aBH P fn.params.toList dss) [(false,[.ro (.bool true)])])
  {W:World} {b:Nat} {args:Array Value} {ds gs:List (DataW H)} {before:List MemPlace} (hval : ∀(j:Nat) t v,fn.params[j]? = some t→args[j]? = some v→Value.okWide P W .any b t v)
  (hW:DataW.Whole enc P fn.params.toList s.vars false W args.toList ds gs before) :
  Calls P f args W fun e W'=>∃v,e = .returned v∧s.post enc P fn false true false false W args v W':=by
 have hW':=hW
 obtain ⟨p,q,hA,hV,rfl,hfz,hnd⟩:=hW
 rw [hvars] at hV
 obtain ⟨rfl,rfl⟩:=trodVars_none hV
 obtain ⟨dss,Fa,k1,k2⟩:=aAZ hsh hA fun j t v ht hv=>hval j t v (by simpa using ht) (by simpa using hv)
 refine (((hc dss k1).old rfl).2 W args Fa k2).mono fun e W' hh => ?_
 obtain ⟨v,rfl,⟨F,X,_,_,_,hr⟩,hb⟩:=hh
 have hv:v = .bool true:=by
  have h1:Rep W' (.bool true) v []:=hr.1
  simp only [Rep] at h1
  exact h1.1
 subst hv
 have hdl:ds.length=fn.params.toList.length:=by
  have : ∀ {ts:List TypeId} {vs:List Value} {ds:List (DataW H)} {ps:List MemPlace},DataW.TrodAll enc P W 0 (fun _=>true) true ts vs ds ps→ds.length=ts.length:=by
   intro ts
   induction ts with
   | nil=>intro vs ds ps h;obtain ⟨_,rfl,_⟩:=trodAll_nil h;rfl
   | cons t ts ih=>intro vs ds ps h;obtain ⟨v,vs',d,ds',p,q,rfl,rfl,rfl,h1,h2⟩:=trodAll_cons h;simp [ih h2]
  exact this hA
 have hfn':=hfn ds hdl
 refine ⟨_,rfl,aAx (pa:=p) (pv:=[]) hW' ?_ ?_ ?_ (by simp) hb (ok_one hres rfl (okWide_bool_mk htb _))⟩
 ·intro b sp hd
  rw [hfn',hres]
  exact trodAll_cons_mk (shut_bool htb _) trodAll_mk0
 ·intro sp hsp
  rw [hfn']
  exact uA hl hb hA hread (fun x hx=>hW'.lt x (by simpa using hx)) (fun x hx=>hsp x (by simpa using hx))
 ·intro sp hsp
  rw [hfn',hvars]
  rfl
end
end Go.Sh
namespace Go.Sh
set_option linter.unusedVariables false
set_option linter.unusedSimpArgs false
open Go.RowKit
def Is (s t:St):Prop:=t=s
theorem Is.mk (t:St):Is t t:=rfl
theorem uD {P:Program} {T:aAB} {N:Nat} {ops:Array Oper} : ∀(l:List Oper) {s:St} {K K':St→Prop},(∀s,K s→K' s)→pR P T N ops l s K→pR P T N ops l s K'
 | [],_,_,_,h,hh=>h _ hh
 | o::l,s,_,_,h,hh=>tK (evG T N ops o) (fun s' h'=>uD l h h') hh
theorem rM {P:Program} : ∀(p:Prog) {s:St} {R W:List Loc} {K K':St→List Loc→List Loc→Prop},(∀s R W,K s R W→K' s R W)→exF P p s R W K→exF P p s R W K'
 | .done,_,_,_,_,_,h,hh=>h _ _ _ hh
 | .fail,_,_,_,_,_,_,hh=>hh
 | .getT t k,s,_,_,_,_,h,hh=>rM (k (s.t t)) h hh
 | .tI t v k,s,_,_,_,_,h,hh=>rM k h hh
 | .getH i k,s,_,_,_,_,h,hh=>rM (k (s.h i)) h hh
 | .bZ i x k,s,_,_,_,_,h,hh=>rM k h hh
 | .call f args k,s,_,_,_,_,h,⟨rs,hc,hh⟩=>⟨rs,hc,rM (k rs) h hh⟩
 | .must p k,s,_,_,_,_,h,⟨hp,hh⟩=>⟨hp,rM k h hh⟩
theorem wM {P:Program} {T:aAB} {N:Nat} {ops:Array Oper} : ∀(l:List Oper) {s:St} {acc:List Fp} {K K':St→List Fp→Prop},(∀s a,K s a→K' s a)→oS P T N ops l s acc K→oS P T N ops l s acc K'
 | [],_,_,_,_,h,hh=>h _ _ hh
 | o::l,s,_,_,_,h,hh=>rM (evG T N ops o) (fun s' R W h'=>wM l h h') hh
section
variable {P:Program} {base N:Nat} {w0:W0} {Z:St→Prop} {k:List Fr} {s s':St}
theorem bC {id:Nat} {ops:Array Oper} (h:pR P (cO P) N ops ops.toList s (Is s')) (hk:aft P base w0 N Z k .normal s'):SW P base w0 N (.region id ops false) s (aft P base w0 N Z k):=
 yU (uD ops.toList (fun t ht=>by rw [show t=s' from ht];exact hk) h)
def zP (ops:Array Oper) (fps:List Fp):Prop:=tG ops fps=true
theorem zP.mk {ops:Array Oper} {fps:List Fp} (h:tG ops fps=true):zP ops fps:=h
theorem uF (hm:P.follows .mixedOrders=true) {id:Nat} {ops:Array Oper} (h:oS P (cO P) N ops ops.toList s [] fun t fps=>zP ops fps∧Is s' t) (hk:aft P base w0 N Z k .normal s'):SW P base w0 N (.region id ops true) s (aft P base w0 N Z k):=
 aBG hm (wM ops.toList (fun t fps ht=>⟨ht.1,by rw [show t=s' from ht.2];exact hk⟩) h)
theorem kB {id:Nat} (h:aft P base w0 N Z k .normal s):aft P base w0 N Z (.block id::k) (.exit id) s:=by
 simp only [aft,if_true];exact h
theorem aDy {id id':Nat} (hne:id'≠id) (h:aft P base w0 N Z k (.exit id') s):aft P base w0 N Z (.block id::k) (.exit id') s:=by
 simp only [aft,hne,if_false];exact h
theorem eA {c:Code} {id:Nat} (h:aft P base w0 N Z k (.exit id) s):aft P base w0 N Z (.code c::k) (.exit id) s:=h
theorem cN {J:St→Prop} (h:J s):aft P base w0 N Z (.inv J::k) .normal s:=h
theorem eX {J:St→Prop} {id:Nat} (h:aft P base w0 N Z k (.exit id) s):aft P base w0 N Z (.inv J::k) (.exit id) s:=h
theorem xL {t:Nat} {x y:Code} (hb:s.t t = .v false [.dat (.bool true)]) (h:SW P base w0 N x s (aft P base w0 N Z k)):SW P base w0 N (.cond (.tmp t) x y) s (aft P base w0 N Z k):=
 zQ hb (fun _=>h) (fun e=>by cases e)
theorem yX {t:Nat} {x y:Code} (hb:s.t t = .v false [.dat (.bool false)]) (h:SW P base w0 N y s (aft P base w0 N Z k)):SW P base w0 N (.cond (.tmp t) x y) s (aft P base w0 N Z k):=
 zQ hb (fun e=>by cases e) (fun _=>h)
theorem aAX {c:Code} {Q:Exit→St→Prop} {J:St→Prop} (hj:J s) (h : ∀s,J s→SW P base w0 N c s Q):SW P base w0 N c s Q:=h s hj
end
def fuel:Nat:=18446744073709551616
theorem cF (b:Bool):b=true∨b=false:=by cases b<;>simp
theorem nX (b:Bool):b=false∨b=true:=by cases b<;>simp
theorem aT {α:Type} {b:Bool} {x y z:α} (hb:b=true) (h:(if b=true then x else y)=z):x=z:=by rw [if_pos hb] at h;exact h
theorem aR {α:Type} {b:Bool} {x y z:α} (hb:b=false) (h:(if b=true then x else y)=z):y=z:=by rw [hb] at h;simpa using h
theorem bind_some {α β:Type} {o:Option α} {f:α→Option β} {r:β} (h:o.bind f=some r) : ∃x,o=some x∧f x=some r:=by
 cases o with
 | none=>cases h
 | some x=>exact ⟨x,rfl,h⟩
def idx {α:Type} (xs:List α) (i:Int):Option α:=if 0≤i then xs[i.toNat]? else none
theorem bK {α:Type} {xs:List α} {i:Int} {x:α} (h:idx xs i=some x):0≤i∧xs[i.toNat]? = some x∧i.toNat<xs.length:=by
 unfold idx at h
 split at h
 ·rename_i hi;exact ⟨hi,h,(List.getElem?_eq_some_iff.1 h).1⟩
 ·cases h
def aCa (s:ByteArray) (i:Int):Option UInt8:=if 0≤i then s[i.toNat]? else none
theorem aA7 {s:ByteArray} {i:Int} {x:UInt8} (h:aCa s i=some x):0≤i∧s[i.toNat]? = some x:=by
 unfold aCa at h
 split at h
 ·rename_i hi;exact ⟨hi,h⟩
 ·cases h
def app {α:Type} (b:Nat) (xs ys:List α):Option (List α):=if (xs.length+ys.length)*b≤140737488355328 then some (xs++ys) else none
theorem bU {α:Type} {b:Nat} {xs ys zs:List α} (h:app b xs ys=some zs):(xs.length+ys.length)*b≤140737488355328:=by
 unfold app at h
 split at h
 ·assumption
 ·cases h
def aF1 {α:Type} (b:Nat) (ys:List α):Option (List α):=if ys.length*b≤140737488355328 then some ys else none
theorem fF {α:Type} {b:Nat} {ys zs:List α} (h:aF1 b ys=some zs):ys.length*b≤140737488355328:=by
 unfold aF1 at h
 split at h
 ·assumption
 ·cases h
def mkL {α:Type} (b:Nat) (n:Int) (z:α):Option (List α):=if 0≤n∧n.toNat*b≤140737488355328∧n≤9223372036854775807 then some (List.replicate n.toNat z) else none
theorem aB6 {α:Type} {b:Nat} {n:Int} {z:α} {x:List α} (h:mkL b n z=some x):0≤n∧n.toNat*b≤140737488355328∧n≤9223372036854775807:=by
 unfold mkL at h
 split at h
 ·assumption
 ·cases h
def cat (x y:ByteArray):Option ByteArray:=if x.size+y.size≤9223372036854775807 then some (x++y) else none
theorem aBp {x y z:ByteArray} (h:cat x y=some z):x.size+y.size≤9223372036854775807:=by
 unfold cat at h
 split at h
 ·assumption
 ·cases h
def enI (n:Int):List D:=[.int .i64 n]
def enB (n:Int):List D:=[.int .u8 n]
def enS (s:ByteArray):List D:=[.str s]
def enT (b:Bool):List D:=[.bool b]
def enL {α:Type} (f:α→List D) (xs:List α):List D:=[.sl (xs.map f)]
def gZ (s:ByteArray):List Int:=s.data.toList.map fun b=>(b.toNat:Int)
theorem zE (s:ByteArray):nW s.data.toList=(gZ s).map enB:=by
 unfold nW gZ enB
 rw [List.map_map]
 rfl
def vA (l:List Int):ByteArray:=⟨(l.map fun n=>UInt8.ofNat n.toNat).toArray⟩
def toStr (l:List Int):Option ByteArray:=if l.all (fun n=>decide (0≤n∧n<256))=true then some (vA l) else none
theorem aAG (l:List Int):strOf (l.map enB)=vA l:=by
 unfold strOf vA enB
 rw [List.map_map]
 rfl
theorem aAm {l:List Int} {z:ByteArray} (h:toStr l=some z) : ∀x∈l.map enB,∃b:UInt8,x=[.int .u8 (b.toNat:Int)]:=by
 unfold toStr at h
 split at h
 ·rename_i ha
  intro x hx
  obtain ⟨n,hn,rfl⟩:=List.mem_map.1 hx
  have:=List.all_eq_true.1 ha n hn
  simp only [decide_eq_true_eq] at this
  refine ⟨UInt8.ofNat n.toNat,?_⟩
  unfold enB
  have h1:(UInt8.ofNat n.toNat).toNat=n.toNat:=by simp;omega
  rw [h1,Int.toNat_of_nonneg this.1]
 ·cases h
def uY {α:Type} (xs:List α) (i:Int):Option (List α):=if 0≤i∧i.toNat≤xs.length then some (xs.drop i.toNat) else none
def uK {α:Type} (xs:List α) (j:Int):Option (List α):=if 0≤j∧j.toNat≤xs.length then some (xs.take j.toNat) else none
theorem jM {α:Type} {xs z:List α} {i:Int} {f:α→List D} {n:Nat} (hf : ∀x,(f x).length=n) (h:uK xs i=some z):0≤i∧i.toNat≤xs.length ∧ ∀x∈xs.map f,x.length=n:=by
 unfold uK at h
 split at h
 ·rename_i hh
  refine ⟨hh.1,hh.2,fun x hx => ?_⟩
  obtain ⟨y,_,rfl⟩:=List.mem_map.1 hx
  exact hf y
 ·cases h
theorem tQ {α:Type} {f:α→List D} (hf : ∀x,(f x).all D.flat=true) (xs:List α):(xs.map f).all (fun y=>y.all D.flat)=true:=by
 rw [List.all_eq_true]
 intro y hy
 obtain ⟨x,_,rfl⟩:=List.mem_map.1 hy
 exact hf x
theorem enI.fl (l:List Int):(List.map enI l).all (fun y=>y.all D.flat)=true:=tQ (fun _=>rfl) l
theorem enB.fl (l:List Int):(List.map enB l).all (fun y=>y.all D.flat)=true:=tQ (fun _=>rfl) l
theorem enS.fl (l:List ByteArray):(List.map enS l).all (fun y=>y.all D.flat)=true:=tQ (fun _=>rfl) l
theorem enT.fl (l:List Bool):(List.map enT l).all (fun y=>y.all D.flat)=true:=tQ (fun _=>rfl) l
theorem aAU {P : Program} {f : FuncId} {fn : Func} {c : Code} {args : List (Bool × List D)} {rs : List (Bool × List RC)} {N : Nat} {vars : List ResultVar} (hf : P.funcs[f]? = some fn) (hb : fn.body = some c) (hN : fn.ntmps = N) (hv : fn.results.toList = vars) (hnm : (fn.name == "runtime.NumGoroutine") = false) (hn : args.length ≤ N)
  (h : ∀(base:Nat) (w0:W0),SW P base w0 N c (init args) (aft P base w0 N (Ret (cO P) vars rs) [])):dS P f args rs:=by
 subst hN hv
 exact aBc hf hb hnm hn h
end Go.Sh
namespace Go.Sh
set_option linter.unusedVariables false
set_option linter.unusedSimpArgs false
theorem wJ (N d:Nat) (a b:Bool×List RC) (rs:List (Bool×List RC)):lL N (some d) (a::b::rs)=mB d 0 (a::b::rs) fun vs=>put N (some d) (.tup vs):=rfl
theorem wA (N d:Nat):lL N (some d) []=mB d 0 [] fun vs=>put N (some d) (.tup vs):=rfl
theorem aAI (sz k:Nat) (xs:List (List D)):(rY sz 0 k xs).drop k=xs.drop k:=by
 unfold rY
 rw [List.take_zero,List.nil_append,Nat.zero_add]
 exact List.drop_left' (by simp)
theorem aBf (sz k:Nat) (xs:List (List D)):(rY sz 0 k xs).length-k=xs.length-k:=by
 unfold rY
 simp
theorem aAK {α:Type} (xs:List α) (k:Nat):(xs.drop k).take (xs.length-k)=xs.drop k:=List.take_of_length_le (by simp)
theorem rU {sz:Nat} {i:Int} {xs:List (List D)} (h:0≤i):0≤i∧i.toNat≤(rY sz 0 i.toNat xs).length:=⟨h,by unfold rY;simp⟩
theorem zG {α:Type} (a:α) (as bs:List α):List.append (a::as) bs=a::List.append as bs:=rfl
theorem aAg {α:Type} (bs:List α):List.append [] bs=bs:=rfl
theorem aBE (xs:List (List D)):D.flat (.sl xs)=false:=rfl
theorem aAR (xs:List D):D.flat (.ptr xs)=false:=rfl
theorem aAC (u:Value):D.flat (.val u)=false:=rfl
theorem E:type_of% (And.intro (@pR.eq_1) (And.intro (@pR.eq_2) (And.intro (@oS.eq_1) (And.intro (@oS.eq_2) (And.intro (@evG.eq_1) (And.intro (@jV.eq_1) (And.intro (@vOp.eq_1) (And.intro (@vOp.eq_2) (And.intro (@vOp.eq_3) (And.intro (@vOp.eq_4) (And.intro (@aCF.eq_1) (And.intro (@aCF.eq_2) (And.intro (@put.eq_1) (And.intro (@put.eq_2) (And.intro (@ex.eq_1) (And.intro (@ex.eq_2) (And.intro (@ex.eq_3) (And.intro (@ex.eq_4) (And.intro (@ex.eq_5) (And.intro (@ex.eq_6) (And.intro (@ex.eq_7) (And.intro (@ex.eq_8) (And.intro (@exF.eq_1) (And.intro (@exF.eq_2) (And.intro (@exF.eq_3) (And.intro (@exF.eq_4) (And.intro (@exF.eq_5) (And.intro (@exF.eq_6) (And.intro (@exF.eq_7) (And.intro (@exF.eq_8) (And.intro (@cst.eq_1) (And.intro (@cst.eq_2) (And.intro (@cst.eq_3) (And.intro (@cst.eq_4) (And.intro (@one.eq_1) (And.intro (@iX.eq_1) (And.intro (@iX.eq_2) (And.intro (@iX.eq_3) (And.intro (@iX.eq_4) (And.intro (@lab.eq_1) (And.intro (@lab.eq_2) (And.intro (@qA.eq_1) (And.intro (@qA.eq_2) (And.intro (@qA.eq_3) (And.intro (@qA.eq_4) (And.intro (@qA.eq_5) (And.intro (@qA.eq_6) (And.intro (@qA.eq_7) (And.intro (@qA.eq_8) (And.intro (@qA.eq_9) (And.intro (@oM.eq_1) (And.intro (@oM.eq_2) (And.intro (@oM.eq_3) (And.intro (@oM.eq_4) (And.intro (@oM.eq_5) (And.intro (@rN.eq_1) (And.intro (@nT.eq_1) (And.intro (@nT.eq_2) (And.intro (@jD.eq_1) (And.intro (@jD.eq_2) (And.intro (@jD.eq_3) (And.intro (@jD.eq_4) (And.intro (@jD.eq_5) (And.intro (@jD.eq_6) (And.intro (@jD.eq_7) (And.intro (@jD.eq_8) (And.intro (@jD.eq_9) (And.intro (@oY.eq_1) (And.intro (@oY.eq_2) (And.intro (@cY.eq_1) (And.intro (@cY.eq_2) (And.intro (@cY.eq_3) (And.intro (@cY.eq_4) (And.intro (@cY.eq_5) (And.intro (@mB.eq_1) (And.intro (@mB.eq_2) (And.intro (@lL.eq_1) (And.intro (@lL.eq_2) (And.intro (@tW.eq_1) (And.intro (@eW.eq_1) (And.intro (@eW.eq_2) (And.intro (@eW.eq_3) (And.intro (@eW.eq_4) (And.intro (@eW.eq_5) (And.intro (@eW.eq_6) (And.intro (@eW.eq_7) (And.intro (@wG.eq_1) (And.intro (@wG.eq_2) (And.intro (@vD.eq_1) (And.intro (@vD.eq_2) (And.intro (@jG.eq_1) (And.intro (@jG.eq_2) (And.intro (@jG.eq_3) (And.intro (@jG.eq_4) (And.intro (@jG.eq_5) (And.intro (@jG.eq_6) (And.intro (@jG.eq_7) (And.intro (@jG.eq_8) (And.intro (@RC.ed.eq_1) (And.intro (@RC.ed.eq_2) (And.intro (@RC.ed.eq_3) (And.intro (@RC.ed.eq_4) (And.intro (@xS.eq_1) (And.intro (@xS.eq_2) (And.intro (@xS.eq_3) (And.intro (@vW.eq_1) (And.intro (@rX.eq_1) (And.intro (@rX.eq_2) (And.intro (@rX.eq_3) (And.intro (@rX.eq_4) (And.intro (@rX.eq_5) (And.intro (@tX.eq_1) (And.intro (@tX.eq_2) (And.intro (@kG.eq_1) (And.intro (@kG.eq_2) (And.intro (@rows.eq_1) (And.intro (@rows.eq_2) (And.intro (@bT.eq_1) (And.intro (@bT.eq_2) (And.intro (@bT.eq_3) (And.intro (@bT.eq_4) (And.intro (@bT.eq_5) (And.intro (@bT.eq_6) (And.intro (@bT.eq_7) (And.intro (@bT.eq_8) (And.intro (@bT.eq_9) (And.intro (@bT.eq_10) (And.intro (@bT.eq_11) (And.intro (@bT.eq_12) (And.intro (@bT.eq_13) (And.intro (@bT.eq_14) (And.intro (@bT.eq_15) (And.intro (@bT.eq_16) (And.intro (@bT.eq_17) (And.intro (@oR.eq_1) (And.intro (@oR.eq_2) (And.intro (@oR.eq_3) (And.intro (@oR.eq_4) (And.intro (@oR.eq_5) (And.intro (@oR.eq_6) (And.intro (@lenOf.eq_1) (And.intro (@lenOf.eq_2) (And.intro (@lenOf.eq_3) (And.intro (@lenOf.eq_4) (And.intro (@lenOf.eq_5) (And.intro (@sG.eq_1) (And.intro (@sG.eq_2) (And.intro (@sG.eq_3) (And.intro (@sG.eq_4) (And.intro (@tC.eq_1) (And.intro (@tC.eq_2) (And.intro (@rL.eq_1) (And.intro (@rL.eq_2) (And.intro (@rL.eq_3) (And.intro (@eI.eq_1) (And.intro (@eI.eq_2) (And.intro (@eI.eq_3) (And.intro (@eI.eq_4) (And.intro (@iQ.eq_1) (And.intro (@iQ.eq_2) (And.intro (@iQ.eq_3) (And.intro (@iQ.eq_4) (And.intro (@lP.eq_1) (And.intro (@lP.eq_2) (And.intro (@lP.eq_3) (And.intro (@lP.eq_4) (And.intro (@xY.eq_1) (And.intro (@uX.eq_1) (And.intro (@uX.eq_2) (And.intro (@gY.eq_1) (And.intro (@gY.eq_2) (And.intro (@gY.eq_3) (And.intro (@gY.eq_4) (And.intro (@vC.eq_1) (And.intro (@D.flat.eq_1) (And.intro (@D.flat.eq_2) (And.intro (@D.flat.eq_3) (And.intro (@D.flat.eq_4) (And.intro (@rid.eq_1) (And.intro (@TI.agg.eq_1) (And.intro (@vT) (And.intro (@xO) (And.intro (@wL) (And.intro (@wU) (And.intro (@wW) (And.intro (@aAI) (And.intro (@aBf) (And.intro (@aAK) (And.intro (@kH.eq_1) (And.intro (@wJ) (And.intro (@wA) (And.intro (@aBE) (And.intro (@aAR) (And.intro (@aAC) (And.intro (@St.sW) (And.intro (@St.yF) (And.intro (@St.yQ) (And.intro (@St.uT) (And.intro (@yP) (@zC)))))))))))))))))))))))))))))))))))))))))))))))))))))))))))))))))))))))))))))))))))))))))))))))))))))))))))))))))))))))))))))))))))))))))))))))))))))))))))))))))))))))))))))))))))))))))))))))))))))))):=
 And.intro (@pR.eq_1) (And.intro (@pR.eq_2) (And.intro (@oS.eq_1) (And.intro (@oS.eq_2) (And.intro (@evG.eq_1) (And.intro (@jV.eq_1) (And.intro (@vOp.eq_1) (And.intro (@vOp.eq_2) (And.intro (@vOp.eq_3) (And.intro (@vOp.eq_4) (And.intro (@aCF.eq_1) (And.intro (@aCF.eq_2) (And.intro (@put.eq_1) (And.intro (@put.eq_2) (And.intro (@ex.eq_1) (And.intro (@ex.eq_2) (And.intro (@ex.eq_3) (And.intro (@ex.eq_4) (And.intro (@ex.eq_5) (And.intro (@ex.eq_6) (And.intro (@ex.eq_7) (And.intro (@ex.eq_8) (And.intro (@exF.eq_1) (And.intro (@exF.eq_2) (And.intro (@exF.eq_3) (And.intro (@exF.eq_4) (And.intro (@exF.eq_5) (And.intro (@exF.eq_6) (And.intro (@exF.eq_7) (And.intro (@exF.eq_8) (And.intro (@cst.eq_1) (And.intro (@cst.eq_2) (And.intro (@cst.eq_3) (And.intro (@cst.eq_4) (And.intro (@one.eq_1) (And.intro (@iX.eq_1) (And.intro (@iX.eq_2) (And.intro (@iX.eq_3) (And.intro (@iX.eq_4) (And.intro (@lab.eq_1) (And.intro (@lab.eq_2) (And.intro (@qA.eq_1) (And.intro (@qA.eq_2) (And.intro (@qA.eq_3) (And.intro (@qA.eq_4) (And.intro (@qA.eq_5) (And.intro (@qA.eq_6) (And.intro (@qA.eq_7) (And.intro (@qA.eq_8) (And.intro (@qA.eq_9) (And.intro (@oM.eq_1) (And.intro (@oM.eq_2) (And.intro (@oM.eq_3) (And.intro (@oM.eq_4) (And.intro (@oM.eq_5) (And.intro (@rN.eq_1) (And.intro (@nT.eq_1) (And.intro (@nT.eq_2) (And.intro (@jD.eq_1) (And.intro (@jD.eq_2) (And.intro (@jD.eq_3) (And.intro (@jD.eq_4) (And.intro (@jD.eq_5) (And.intro (@jD.eq_6) (And.intro (@jD.eq_7) (And.intro (@jD.eq_8) (And.intro (@jD.eq_9) (And.intro (@oY.eq_1) (And.intro (@oY.eq_2) (And.intro (@cY.eq_1) (And.intro (@cY.eq_2) (And.intro (@cY.eq_3) (And.intro (@cY.eq_4) (And.intro (@cY.eq_5) (And.intro (@mB.eq_1) (And.intro (@mB.eq_2) (And.intro (@lL.eq_1) (And.intro (@lL.eq_2) (And.intro (@tW.eq_1) (And.intro (@eW.eq_1) (And.intro (@eW.eq_2) (And.intro (@eW.eq_3) (And.intro (@eW.eq_4) (And.intro (@eW.eq_5) (And.intro (@eW.eq_6) (And.intro (@eW.eq_7) (And.intro (@wG.eq_1) (And.intro (@wG.eq_2) (And.intro (@vD.eq_1) (And.intro (@vD.eq_2) (And.intro (@jG.eq_1) (And.intro (@jG.eq_2) (And.intro (@jG.eq_3) (And.intro (@jG.eq_4) (And.intro (@jG.eq_5) (And.intro (@jG.eq_6) (And.intro (@jG.eq_7) (And.intro (@jG.eq_8) (And.intro (@RC.ed.eq_1) (And.intro (@RC.ed.eq_2) (And.intro (@RC.ed.eq_3) (And.intro (@RC.ed.eq_4) (And.intro (@xS.eq_1) (And.intro (@xS.eq_2) (And.intro (@xS.eq_3) (And.intro (@vW.eq_1) (And.intro (@rX.eq_1) (And.intro (@rX.eq_2) (And.intro (@rX.eq_3) (And.intro (@rX.eq_4) (And.intro (@rX.eq_5) (And.intro (@tX.eq_1) (And.intro (@tX.eq_2) (And.intro (@kG.eq_1) (And.intro (@kG.eq_2) (And.intro (@rows.eq_1) (And.intro (@rows.eq_2) (And.intro (@bT.eq_1) (And.intro (@bT.eq_2) (And.intro (@bT.eq_3) (And.intro (@bT.eq_4) (And.intro (@bT.eq_5) (And.intro (@bT.eq_6) (And.intro (@bT.eq_7) (And.intro (@bT.eq_8) (And.intro (@bT.eq_9) (And.intro (@bT.eq_10) (And.intro (@bT.eq_11) (And.intro (@bT.eq_12) (And.intro (@bT.eq_13) (And.intro (@bT.eq_14) (And.intro (@bT.eq_15) (And.intro (@bT.eq_16) (And.intro (@bT.eq_17) (And.intro (@oR.eq_1) (And.intro (@oR.eq_2) (And.intro (@oR.eq_3) (And.intro (@oR.eq_4) (And.intro (@oR.eq_5) (And.intro (@oR.eq_6) (And.intro (@lenOf.eq_1) (And.intro (@lenOf.eq_2) (And.intro (@lenOf.eq_3) (And.intro (@lenOf.eq_4) (And.intro (@lenOf.eq_5) (And.intro (@sG.eq_1) (And.intro (@sG.eq_2) (And.intro (@sG.eq_3) (And.intro (@sG.eq_4) (And.intro (@tC.eq_1) (And.intro (@tC.eq_2) (And.intro (@rL.eq_1) (And.intro (@rL.eq_2) (And.intro (@rL.eq_3) (And.intro (@eI.eq_1) (And.intro (@eI.eq_2) (And.intro (@eI.eq_3) (And.intro (@eI.eq_4) (And.intro (@iQ.eq_1) (And.intro (@iQ.eq_2) (And.intro (@iQ.eq_3) (And.intro (@iQ.eq_4) (And.intro (@lP.eq_1) (And.intro (@lP.eq_2) (And.intro (@lP.eq_3) (And.intro (@lP.eq_4) (And.intro (@xY.eq_1) (And.intro (@uX.eq_1) (And.intro (@uX.eq_2) (And.intro (@gY.eq_1) (And.intro (@gY.eq_2) (And.intro (@gY.eq_3) (And.intro (@gY.eq_4) (And.intro (@vC.eq_1) (And.intro (@D.flat.eq_1) (And.intro (@D.flat.eq_2) (And.intro (@D.flat.eq_3) (And.intro (@D.flat.eq_4) (And.intro (@rid.eq_1) (And.intro (@TI.agg.eq_1) (And.intro (@vT) (And.intro (@xO) (And.intro (@wL) (And.intro (@wU) (And.intro (@wW) (And.intro (@aAI) (And.intro (@aBf) (And.intro (@aAK) (And.intro (@kH.eq_1) (And.intro (@wJ) (And.intro (@wA) (And.intro (@aBE) (And.intro (@aAR) (And.intro (@aAC) (And.intro (@St.sW) (And.intro (@St.yF) (And.intro (@St.yQ) (And.intro (@St.uT) (And.intro (@yP) (@zC)))))))))))))))))))))))))))))))))))))))))))))))))))))))))))))))))))))))))))))))))))))))))))))))))))))))))))))))))))))))))))))))))))))))))))))))))))))))))))))))))))))))))))))))))))))))))))))))))))))))
theorem L:type_of% (And.intro (@List.take_succ_cons.{0}) (And.intro (@List.take_zero.{0}) (And.intro (@List.drop_succ_cons.{0}) (And.intro (@List.drop_zero.{0}) (And.intro (@List.map_cons.{0,0}) (And.intro (@List.map_nil.{0,0}) (And.intro (@List.cons_append.{0}) (And.intro (@List.nil_append.{0}) (And.intro (@List.append_nil.{0}) (And.intro (@List.length_cons.{0}) (And.intro (@List.length_nil.{0}) (And.intro (@List.getElem?_cons_zero.{0}) (And.intro (@List.getElem?_cons_succ.{0}) (And.intro (@List.tail_cons.{0}) (And.intro (@List.tail_nil.{0}) (And.intro (@Option.isSome_some.{0}) (And.intro (@Option.isSome_none.{0}) (And.intro (@List.take_nil.{0}) (And.intro (@List.drop_nil.{0}) (And.intro (@List.getElem?_map.{0,0}) (And.intro (@Option.map_some.{0,0}) (And.intro (@Option.bind_some.{0,0}) (And.intro (@List.length_map.{0,0}) (And.intro (@List.replicate_succ.{0}) (And.intro (@List.replicate_zero.{0}) (And.intro (@List.flatten_cons.{0}) (And.intro (@List.flatten_nil.{0}) (And.intro (@List.getElem?_toArray.{0}) (And.intro (@List.toList_toArray.{0}) (And.intro (@zG) (And.intro (@aAg) (And.intro (@List.any_cons.{0}) (And.intro (@List.any_nil.{0}) (And.intro Bool.or_true (And.intro Bool.true_or (And.intro Bool.or_false (And.intro Bool.false_or (And.intro Bool.and_true (And.intro Bool.true_and (And.intro Bool.and_false (And.intro Bool.false_and (And.intro true_and (And.intro and_true (and_self)))))))))))))))))))))))))))))))))))))))))))):=
 And.intro (@List.take_succ_cons.{0}) (And.intro (@List.take_zero.{0}) (And.intro (@List.drop_succ_cons.{0}) (And.intro (@List.drop_zero.{0}) (And.intro (@List.map_cons.{0,0}) (And.intro (@List.map_nil.{0,0}) (And.intro (@List.cons_append.{0}) (And.intro (@List.nil_append.{0}) (And.intro (@List.append_nil.{0}) (And.intro (@List.length_cons.{0}) (And.intro (@List.length_nil.{0}) (And.intro (@List.getElem?_cons_zero.{0}) (And.intro (@List.getElem?_cons_succ.{0}) (And.intro (@List.tail_cons.{0}) (And.intro (@List.tail_nil.{0}) (And.intro (@Option.isSome_some.{0}) (And.intro (@Option.isSome_none.{0}) (And.intro (@List.take_nil.{0}) (And.intro (@List.drop_nil.{0}) (And.intro (@List.getElem?_map.{0,0}) (And.intro (@Option.map_some.{0,0}) (And.intro (@Option.bind_some.{0,0}) (And.intro (@List.length_map.{0,0}) (And.intro (@List.replicate_succ.{0}) (And.intro (@List.replicate_zero.{0}) (And.intro (@List.flatten_cons.{0}) (And.intro (@List.flatten_nil.{0}) (And.intro (@List.getElem?_toArray.{0}) (And.intro (@List.toList_toArray.{0}) (And.intro (@zG) (And.intro (@aAg) (And.intro (@List.any_cons.{0}) (And.intro (@List.any_nil.{0}) (And.intro Bool.or_true (And.intro Bool.true_or (And.intro Bool.or_false (And.intro Bool.false_or (And.intro Bool.and_true (And.intro Bool.true_and (And.intro Bool.and_false (And.intro Bool.false_and (And.intro true_and (And.intro and_true (and_self)))))))))))))))))))))))))))))))))))))))))))
theorem F:type_of% (And.intro (@List.set_cons_zero.{0}) (And.intro (@List.set_cons_succ.{0}) (And.intro (@St.sW) (And.intro (@St.yF) (And.intro (@St.yQ) (And.intro (@St.uT) (And.intro (@yP) (And.intro (@zC) (And.intro (@List.map_append.{0,0}) (And.intro (@List.map_cons.{0,0}) (And.intro (@List.map_nil.{0,0}) (And.intro (@List.map_set.{0,0}) (And.intro (@List.map_replicate.{0,0}) (And.intro (@List.append_nil.{0}) (And.intro (@List.nil_append.{0}) (And.intro (@List.cons_append.{0}) (And.intro (@List.getElem?_cons_zero.{0}) (And.intro (@List.getElem?_cons_succ.{0}) (And.intro Bool.and_true (Bool.true_and)))))))))))))))))))):=
 And.intro (@List.set_cons_zero.{0}) (And.intro (@List.set_cons_succ.{0}) (And.intro (@St.sW) (And.intro (@St.yF) (And.intro (@St.yQ) (And.intro (@St.uT) (And.intro (@yP) (And.intro (@zC) (And.intro (@List.map_append.{0,0}) (And.intro (@List.map_cons.{0,0}) (And.intro (@List.map_nil.{0,0}) (And.intro (@List.map_set.{0,0}) (And.intro (@List.map_replicate.{0,0}) (And.intro (@List.append_nil.{0}) (And.intro (@List.nil_append.{0}) (And.intro (@List.cons_append.{0}) (And.intro (@List.getElem?_cons_zero.{0}) (And.intro (@List.getElem?_cons_succ.{0}) (And.intro Bool.and_true (Bool.true_and)))))))))))))))))))
end Go.Sh
namespace Go.Sh
set_option linter.unusedVariables false
set_option linter.unusedSimpArgs false
open Go.RowKit
def Gho (P:Program) (base:Nat) (w0:W0) (N:Nat) (s s':St):Prop:=∀a w,Rel P base w0 N s a w→Rel P base w0 N s' a w
theorem aDl {α β:Type} {f:α→β} {K:α} {r:β} (h:f K=r) : ∃kk,kk=K∧f kk=r:=⟨K,rfl,h⟩
section
variable {P:Program} {base N:Nat} {w0:W0} {Z:St→Prop} {k:List Fr} {s s' s'':St}
theorem Gho.refl (s:St):Gho P base w0 N s s:=fun _ _ h=>h
theorem Gho.trans (h:Gho P base w0 N s s') (h':Gho P base w0 N s' s''):Gho P base w0 N s s'':=fun a w R=>h' a w (h a w R)
theorem aCE {c:Code} {Q:Exit→St→Prop} (hg:Gho P base w0 N s s') (h:SW P base w0 N c s' Q):SW P base w0 N c s Q:=fun a w R=>h a w (hg a w R)
theorem aAW {c:Code} (I:Nat→St→Prop) (n:Nat) (h0:I n s) (h : ∀m s,I m s→SW P base w0 N c s (aft P base w0 N Z (.inv (fun s'=>∃s'',Gho P base w0 N s' s'' ∧ ∃m',m'<m∧I m' s'')::k))):SW P base w0 N (.loop c) s (aft P base w0 N Z k):=by
 intro a w R
 refine wp_loop_ghost (fun m a w=>∃s,I m s∧Rel P base w0 N s a w) n ⟨s,h0,R⟩ ?_
 rintro m a w ⟨s,h1,R⟩
 refine wp_mono (h m s h1 a w R) ?_
 rintro e a' w' ⟨s',h2,h3⟩
 cases e with
 | normal=>obtain ⟨s'',hg,m',h4,h5⟩:=h2;exact ⟨m',h4,s'',h5,hg _ _ h3⟩
 | _=>exact ⟨s',h2,h3⟩
theorem aAQ {g:Gh} {a:Act} {w:World} {j K vj:Nat} {e:TypeId} {sz:Nat} {xs:List (List D)} {dp:Bool} (R:cU P base w0 N g s a w []) (h2:s.h j=(vj,.row e sz xs dp)) :
  ∃g',cU P base w0 N g' ((s.bZ j (vj,.none)).bZ K ((s.h K).1+1,.row e sz xs dp)) a w []∧cJ g g' s.h ((s.bZ j (vj,.none)).bZ K ((s.h K).1+1,.row e sz xs dp)).h w w ∧
   ∀v,nB g s.h w (.row j vj) v→nB g' ((s.bZ j (vj,.none)).bZ K ((s.h K).1+1,.row e sz xs dp)).h w (.row K ((s.h K).1+1)) v:=by
 have hj1:(s.h j).1=vj:=by rw [h2]
 have hj2:(s.h j).2 = .row e sz xs dp:=by rw [h2]
 have hob:=R.inv.obj j
 rw [hj2] at hob
 obtain ⟨cells,p1,p2,p3,p4,p5⟩:=hob
 obtain ⟨I1,hfr⟩:=R.inv.pX hj2
 rw [hj1] at I1 hfr
 have T1:cJ g g s.h (fT s.h j (vj,.none)) w w:=by have:=cJ.drop (g:=g) (h:=s.h) (w:=w) j g.S fun _ x=>x;rw [hj1] at this;exact this
 have hver:(fT s.h j (vj,.none) K).1=(s.h K).1:=by
  by_cases hk:K=j
  ·subst hk;rw [aN,hj1]
  ·rw [bM _ _ _ _ hk]
 have I2:=I1.qV (i:=K) (v:=g.val j) (e:=e) (sz:=sz) (xs:=xs) (dp:=dp) (cells:=cells) (F:=g.fp j) (pool':=[]) p1 p2 p3 p4 hfr (by simp) List.nodup_nil (fun hd=>by
  subst hd
  simp only [if_true,List.nil_append]
  exact ⟨(p5 rfl).1,fun b hb=>⟨hb,by simp⟩⟩)
 have T2:=cJ.create (g:=g) (h:=fT s.h j (vj,.none)) (w:=w) K (g.val j) (g.fp j) (.row e sz xs dp)
 rw [hver] at I2 T2
 refine ⟨_,R.dV (T1.trans T2) rfl R.below I2,T1.trans T2,?_⟩
 rintro v ⟨h0,_,hv⟩
 refine ⟨h0,?_,?_⟩
 ·show _≤(fT _ K _ K).1
  rw [aN];exact Nat.le_refl _
 ·intro _ e' sz' xs' dp' _
  show v=tB g.val K (g.val j) K
  rw [bJ]
  exact hv hj1 e sz xs dp hj2
theorem aBa {g:Gh} {a:Act} {w:World} {K:Nat} (e:TypeId) (sz:Nat) (R:cU P base w0 N g s a w []) :
  ∃g',cU P base w0 N g' (s.bZ K ((s.h K).1+1,.row e sz [] true)) a w []∧cJ g g' s.h (s.bZ K ((s.h K).1+1,.row e sz [] true)).h w w ∧
   ∀v,nB g s.h w .nil v→nB g' (s.bZ K ((s.h K).1+1,.row e sz [] true)).h w (.row K ((s.h K).1+1)) v:=by
 have I2:=R.inv.qV (i:=K) (v:=.slice none 0 0) (e:=e) (sz:=sz) (xs:=[]) (dp:=true) (cells:=[]) (F:=[]) (pool':=[]) (World.ownsRow_nil w base e sz) (by simp) aY.nil (by simp) (by intro b hb;cases hb) (by simp) List.nodup_nil (fun _=>⟨List.nodup_nil,by simp⟩)
 have T2:=cJ.create (g:=g) (h:=s.h) (w:=w) K (.slice none 0 0) [] (.row e sz [] true)
 refine ⟨_,R.dV T2 rfl R.below I2,T2,?_⟩
 intro v hv
 have hv:v = .slice none 0 0:=hv
 subst hv
 refine ⟨rfl,?_,?_⟩
 ·show _≤(fT _ K _ K).1
  rw [aN];exact Nat.le_refl _
 ·intro _ e' sz' xs' dp' _
  show _=tB g.val K _ K
  rw [bJ]
theorem aAh {g:Gh} {a:Act} {w:World} {i:Nat} {sv:SV} (R:cU P base w0 N g s a w []) (hv:hP g s.h w sv (a.tmps.getD i undef)):cU P base w0 N g (s.tI i sv) a w []:=by
 refine ⟨R.defers,R.size,R.below,R.q,R.kA,R.inv,fun t => ?_,R.lab,R.frm⟩
 rw [St.sW]
 by_cases ht:t=i
 ·subst ht;simp only [if_true];exact hv
 ·simp only [ht,if_false];exact R.tmp t
theorem Gho.aBF {i j K vj:Nat} {e:TypeId} {sz:Nat} {xs:List (List D)} {dp:Bool} (h1:s.t i = .v false [.row j vj]) (h2:s.h j=(vj,.row e sz xs dp)) :
  Gho P base w0 N s (((s.bZ j (vj,.none)).bZ K ((s.h K).1+1,.row e sz xs dp)).tI i (.v false [.row K ((s.h K).1+1)])):=by
 rintro a w ⟨g,R⟩
 have ht:=R.tmp i
 rw [h1] at ht
 obtain ⟨g',R',T,hc⟩:=aAQ (K:=K) R h2
 exact ⟨g',aAh R' ⟨_,[],rfl,hc _ (bD ht),rfl⟩⟩
theorem Gho.aDs {i K:Nat} (e:TypeId) (sz:Nat) (h1:s.t i = .v false [.nil]) :
  Gho P base w0 N s ((s.bZ K ((s.h K).1+1,.row e sz [] true)).tI i (.v false [.row K ((s.h K).1+1)])):=by
 rintro a w ⟨g,R⟩
 have ht:=R.tmp i
 rw [h1] at ht
 obtain ⟨g',R',T,hc⟩:=aBa (K:=K) e sz R
 exact ⟨g',aAh R' ⟨_,[],rfl,hc _ (bD ht),rfl⟩⟩
theorem aE.set {g:Gh} {h:kM} {w:World} : ∀ {cs:List SC} {vs:List Value} (c:Nat) (x y:SC),aE g h w cs vs→cs[c]? = some x→(∀v,nB g h w x v→nB g h w y v)→aE g h w (cs.set c y) vs
 | [],vs,c,x,y,hc,hx,_=>by simp at hx
 | z::cs,vs,0,x,y,hc,hx,hxy=>by
  obtain ⟨v,vs',rfl,h1,h2⟩:=hc
  simp at hx
  subst hx
  exact ⟨v,vs',rfl,hxy v h1,h2⟩
 | z::cs,vs,c+1,x,y,hc,hx,hxy=>by
  obtain ⟨v,vs',rfl,h1,h2⟩:=hc
  exact ⟨v,vs',rfl,h1,aE.set c x y h2 (by simpa using hx) hxy⟩
theorem aC5 {g:Gh} {a:Act} {w:World} {b vb b':Nat} {t:TypeId} {cells cells':List SC} {vals:Array Value} (R:cU P base w0 N g s a w []) (hb:s.h b=(vb,.box t cells)) (h3:g.val b = .pointer (some ⟨b',0,none⟩)) (h5:w.heap[b']? = some (.cells vals t (0,0))) (hc:aE g s.h w cells' vals.toList) :
  ∃g',cU P base w0 N g' (s.bZ b (vb,.box t cells')) a w []:=by
 have hb1:(s.h b).1=vb:=by rw [hb]
 have hb2:(s.h b).2 = .box t cells:=by rw [hb]
 have hlive:live s.h b:=by unfold live;rw [hb2];simp
 have hown:nQ (g.val b)=some b':=by rw [h3];rfl
 have hnS:=R.inv.mtb b b' hlive hown
 have T:cJ g { g with fp:=tB g.fp b (g.fp b) } s.h (fT s.h b ((s.h b).1,.box t cells')) w w:=
  cJ.sC hnS (fun _ _=>rfl) (by intro e sz xs dp hh';cases hh') (by intro t0 cs0 hh';cases hh';exact ⟨_,hb2⟩)
 have I':=R.inv.sC (i:=b) (b:=b') (F:=g.fp b) (pool':=[]) (w':=w) hlive hown rfl (fun _ _=>rfl) T
  ⟨b',vals,h3,(R.inv.rR hlive hown).1,h5,hc.dV T⟩ (by simp) List.nodup_nil (by rintro ⟨_,_,_,hh'⟩;cases hh')
 rw [hb1] at T I'
 exact ⟨_,R.dV T rfl R.below I'⟩
theorem vG {g g':Gh} {a:Act} {w:World} {b vb c:Nat} {t:TypeId} {cells:List SC} {x y:SC} (R:cU P base w0 N g s a w []) (R':cU P base w0 N g' s' a w []) (T:cJ g g' s.h s'.h w w) (h0:s.h b=(vb,.box t cells)) (h0':s'.h b=(vb,.box t cells)) (h1:cells[c]? = some x)
  (hc : ∀v,nB g s.h w x v→nB g' s'.h w y v):Rel P base w0 N (s'.bZ b (vb,.box t (cells.set c y))) a w:=by
 have hob:=R.inv.obj b
 rw [show (s.h b).2 = .box t cells from by rw [h0]] at hob
 obtain ⟨b',vals,h3,h4,h5,h6⟩:=hob
 have hv:g'.val b=g.val b:=(T.box b t cells (by rw [h0',h0]) (by rw [h0'])).1
 have hnew : ∀ {cs:List SC} {vs:List Value} (c:Nat),aE g s.h w cs vs→cs[c]? = some x→aE g' s'.h w (cs.set c y) vs:=by
  intro cs
  induction cs with
  | nil=>intro vs c _ hx;simp at hx
  | cons z cs ih =>
   intro vs c hA hx
   obtain ⟨v,vs',rfl,k1,k2⟩:=hA
   cases c with
   | zero=>simp at hx;subst hx;exact ⟨v,vs',rfl,hc v k1,k2.dV T⟩
   | succ c=>exact ⟨v,vs',rfl,k1.dV T,ih c k2 (by simpa using hx)⟩
 exact aC5 R' h0' (hv.trans h3) h5 (hnew c h6 h1)
theorem Gho.aD2 {b vb c j K vj:Nat} {t:TypeId} {cells:List SC} {e:TypeId} {sz:Nat} {xs:List (List D)} {dp:Bool} (h0:s.h b=(vb,.box t cells)) (h1:cells[c]? = some (.row j vj)) (h2:s.h j=(vj,.row e sz xs dp)) (hk:b≠K) :
  Gho P base w0 N s (((s.bZ j (vj,.none)).bZ K ((s.h K).1+1,.row e sz xs dp)).bZ b (vb,.box t (cells.set c (.row K ((s.h K).1+1))))):=by
 rintro a w ⟨g,R⟩
 have hjb:b≠j:=fun e=>by rw [e,h2] at h0;cases h0
 obtain ⟨g',R',T,hc⟩:=aAQ (K:=K) R h2
 refine vG R R' T h0 ?_ h1 hc
 show fT (fT s.h j _) K _ b=_
 rw [bM _ _ _ _ hk,bM _ _ _ _ hjb,h0]
theorem Gho.aDp {b vb c K:Nat} {t:TypeId} {cells:List SC} (e:TypeId) (sz:Nat) (h0:s.h b=(vb,.box t cells)) (h1:cells[c]? = some .nil) (hk:b≠K) :
  Gho P base w0 N s ((s.bZ K ((s.h K).1+1,.row e sz [] true)).bZ b (vb,.box t (cells.set c (.row K ((s.h K).1+1))))):=by
 rintro a w ⟨g,R⟩
 obtain ⟨g',R',T,hc⟩:=aBa (K:=K) e sz R
 refine vG R R' T h0 ?_ h1 hc
 show fT s.h K _ b=_
 rw [bM _ _ _ _ hk,h0]
theorem sq {x y:Code} (h:SW P base w0 N x s (aft P base w0 N Z (.code y::k))):SW P base w0 N (.seq x y) s (aft P base w0 N Z k):=aCy h
theorem bk {id:Nat} {c:Code} (h:SW P base w0 N c s (aft P base w0 N Z (.block id::k))):SW P base w0 N (.block id c) s (aft P base w0 N Z k):=aB7 h
theorem sk (h:aft P base w0 N Z k .normal s):SW P base w0 N .skip s (aft P base w0 N Z k):=aCN h
theorem xt {id:Nat} (h:aft P base w0 N Z k (.exit id) s):SW P base w0 N (.exit id) s (aft P base w0 N Z k):=aCS h
theorem rt (h:Z s):SW P base w0 N .ret s (aft P base w0 N Z k):=aC0 h
theorem an {c:Code} (h:SW P base w0 N c s (aft P base w0 N Z k)):aft P base w0 N Z (.code c::k) .normal s:=h
theorem ab {id:Nat} (h:aft P base w0 N Z k .normal s):aft P base w0 N Z (.block id::k) .normal s:=h
end
end Go.Sh
namespace Go.Sh
set_option linter.unusedVariables false
set_option linter.unusedSimpArgs false
open Go.RowKit
section
variable {P:Program} {base N:Nat} {w0:W0} {Z:St→Prop} {k:List Fr} {s s':St}
theorem aE.swap {g g':Gh} {h h':kM} {w:World} {x y:SC} (T:cJ g g' h h' w w) (hc : ∀v,nB g h w x v→nB g' h' w y v) : ∀ {cs:List SC} {vs:List Value} (c:Nat),aE g h w cs vs→cs[c]? = some x→aE g' h' w (cs.set c y) vs
 | [],_,c,_,hx=>by simp at hx
 | z::cs,vs,0,hA,hx=>by
  obtain ⟨v,vs',rfl,k1,k2⟩:=hA
  simp at hx
  subst hx
  exact ⟨v,vs',rfl,hc v k1,k2.dV T⟩
 | z::cs,vs,c+1,hA,hx=>by
  obtain ⟨v,vs',rfl,k1,k2⟩:=hA
  exact ⟨v,vs',rfl,k1.dV T,aE.swap T hc c k2 (by simpa using hx)⟩
end
end Go.Sh
namespace Go.Sh
set_option linter.unusedVariables false
set_option linter.unusedSimpArgs false
open Go.RowKit
theorem yT {α:Type} {f:α→List D} {sz b:Nat} {xs z w1 w2:List α} {k:Int} (hf : ∀x,(f x).length=sz) (hb:0<b) (h1:uK xs k=some w1) (h2:uY xs (IntKind.i64.wrap (k+1))=some w2) (h:app b (List.take k.toNat xs) (List.drop (IntKind.i64.wrap (k+1)).toNat xs)=some z) :
  List.take k.toNat (rY sz (IntKind.i64.wrap (k+1)).toNat (xs.length-(IntKind.i64.wrap (k+1)).toNat) (xs.map f))=List.take k.toNat (xs.map f)∧(∀y∈List.drop (IntKind.i64.wrap (k+1)).toNat (xs.map f),y.length=sz) ∧
   (k.toNat+(xs.length-(IntKind.i64.wrap (k+1)).toNat))*b≤140737488355328:=by
 obtain ⟨a1,a2⟩:0≤k∧k.toNat≤xs.length:=by
  unfold uK at h1
  split at h1
  ·assumption
  ·cases h1
 obtain ⟨b1,b2⟩:0≤IntKind.i64.wrap (k+1)∧(IntKind.i64.wrap (k+1)).toNat≤xs.length:=by
  unfold uY at h2
  split at h2
  ·assumption
  ·cases h2
 have h3:=bU h
 have hl:(List.take k.toNat xs).length=k.toNat:=by rw [List.length_take];omega
 rw [hl,List.length_drop] at h3
 have h4:k.toNat≤140737488355328:=Nat.le_trans (Nat.le_trans (Nat.le_mul_of_pos_right _ hb) (Nat.mul_le_mul_right b (Nat.le_add_right _ _))) h3
 have e:IntKind.i64.wrap (k+1)=k+1:=uL (by omega) (by omega)
 rw [e] at b1 b2 h3 ⊢
 refine ⟨?_,fun y hy => ?_,?_⟩
 ·unfold rY
  rw [List.take_append_of_le_length (by simp only [List.length_take,List.length_map];omega),List.take_take,Nat.min_eq_left (by omega)]
 ·obtain ⟨x,_,rfl⟩:=List.mem_map.1 (List.mem_of_mem_drop hy)
  exact hf x
 ·exact h3
def aA6 (e:TypeId) (sz:Nat) (xs:List (List D)) (g:FuncId) (caps:List D):St:=
 { t:=fun i=>if i=0 then .v false [.row 7059000 1] else if i=1 then .v false [.dat (.fn g caps)] else .undef,h:=fun i=>if i=7059000 then (1,.row e sz xs true) else (0,.none) }
theorem zT (e:TypeId) (sz:Nat) (xs:List (List D)) (g:FuncId) (caps:List D) (i:Nat):(aA6 e sz xs g caps).t i=if i=0 then .v false [.row 7059000 1] else if i=1 then .v false [.dat (.fn g caps)] else .undef:=rfl
theorem wE (e:TypeId) (sz:Nat) (xs:List (List D)) (g:FuncId) (caps:List D) (i:Nat):(aA6 e sz xs g caps).h i=if i=7059000 then (1,.row e sz xs true) else (0,.none):=rfl
def aEE (T:aAB) (vars:List ResultVar) (e:TypeId) (sz:Nat) (ys:List (List D)) (s:St):Prop:=
 ∃ver zs dp,s.h 7059000=(ver,.row e sz zs dp)∧((nV T s vars=some [(false,[.row 7059000 ver])]∧zs=ys) ∨ ∃n,nV T s vars=some [(false,[.part 7059000 ver 0 n])]∧n≤zs.length∧zs.take n=ys)
theorem aBd {P : Program} {f : FuncId} {fn : Func} {c : Code} {e : TypeId} {sz : Nat} {xs ys : List (List D)} {gf : FuncId} {caps : List D} {N : Nat} {vars : List ResultVar} (hf : P.funcs[f]? = some fn) (hb : fn.body = some c) (hN : fn.ntmps = N) (hv : fn.results.toList = vars) (hnm : (fn.name == "runtime.NumGoroutine") = false) (hn : 2 ≤ N)
  (hxf:(xs.all fun y=>y.all D.flat)=true) (hyf:(ys.all fun y=>y.all D.flat)=true) (hyl : ∀y∈ys,y.length=sz)
  (h : ∀(base:Nat) (w0:W0),SW P base w0 N c (aA6 e sz xs gf caps) (aft P base w0 N (aEE (cO P) vars e sz ys) [])):dS P f [(false,[.sl xs]),(false,[.fn gf caps])] [(false,[.edit (.dV e sz ys)])]:=by
 subst hN hv
 refine .inr (.inl ⟨.dV e sz ys,rfl,⟨fn,c,hf,hb,hnm⟩,xs,gf,caps,rfl,List.all_eq_true.1 hxf,⟨hyl,List.all_eq_true.1 hyf⟩,fun base w v fv cells F2 hbase hown hxl hrows hfn hF2 => ?_⟩)
 refine calls_of_wp hf hb ?_
 have hob:nQ v=v.ownBlock:=cW hown
 have hone:v.oneCell'=true:=by rcases hown.2 with ⟨rfl,_⟩ | ⟨_,_,_,rfl,_⟩<;>rfl
 let S:Nat→Prop:=fun b=>b<w.heap.size∧some b≠v.ownBlock
 let g:Gh:={ val:=fun _=>v,fp:=fun _=>[],S:=S,Q:=⟨fun b=>b<w.heap.size,base,none,slP P⟩ }
 have hlv : ∀i,live (aA6 e sz xs gf caps).h i→i=7059000:=fun i hl=>by
  unfold live at hl
  rw [wE] at hl
  by_cases hi:i=7059000
  ·exact hi
  ·rw [if_neg hi] at hl;exact absurd rfl hl
 have R:Rel P base ⟨w,⟨fun b=>b<w.heap.size,base,none,slP P⟩,S,aDO⟩ fn.ntmps (aA6 e sz xs gf caps) { tmps := #[v,fv]++Array.replicate (fn.ntmps-2) undef,defers:=[] } w:=by
  refine ⟨g,rfl,by simp;omega,Below.refl _ _,⟨fun _ x=>x,rfl,fun _ hx=>by cases hx⟩,fun b hb=>⟨hb,rfl⟩,⟨hbase,fun b hb _=>hb.1,fun b hb=>hb.1,fun i => ?_,fun i b hl hb hS=>hS.2 (by rw [←hob];exact hb.symm),fun i j b hne hi hj=>absurd ((hlv i hi).trans (hlv j hj).symm) hne,fun i j _ _ _ b hb=>by simp [g] at hb,lN.nil _ _,by simp,fun i _ b hb=>by simp [g] at hb,Nat.le_refl _⟩,fun t => ?_,⟨rfl,.inl rfl⟩,fun _=>trivial⟩
  ·rw [wE]
   by_cases hi:i=7059000
   ·rw [if_pos hi]
    exact ⟨cells,hown,hxl,aY.flat hrows (List.all_eq_true.1 hxf),by simp [g],fun _=>lN.nil _ _⟩
   ·rw [if_neg hi];trivial
  ·rw [zT]
   by_cases h0:t=0
   ·subst h0
    rw [if_pos rfl]
    have:({ tmps := #[v,fv]++Array.replicate (fn.ntmps-2) undef,defers:=[] }:Act).tmps.getD 0 undef=v:=by
     rw [Array.getD_eq_getD_getElem?,Array.getElem?_append_left (by simp)];rfl
    rw [this]
    exact ⟨v,[],rfl,⟨hone,by rw [wE,if_pos rfl];exact Nat.le_refl _,fun _ _ _ _ _ _=>rfl⟩,rfl⟩
   ·rw [if_neg h0]
    by_cases h1:t=1
    ·subst h1
     rw [if_pos rfl]
     have:({ tmps := #[v,fv]++Array.replicate (fn.ntmps-2) undef,defers:=[] }:Act).tmps.getD 1 undef=fv:=by
      rw [Array.getD_eq_getD_getElem?,Array.getElem?_append_left (by simp)];rfl
     rw [this]
     exact ⟨fv,[],rfl,⟨F2,hfn,fun b hb=>⟨Rep.lt _ _ _ hfn b hb,fun hh=>hF2 b hh.symm hb⟩⟩,rfl⟩
    ·rw [if_neg h1]
     show _=undef
     simp only [Array.getD_eq_getD_getElem?,Array.getElem?_append]
     rw [if_neg (by simp;omega)]
     by_cases h2:t-2<fn.ntmps-2
     ·simp [h2]
     ·rw [Array.getElem?_eq_none (by simp;omega)];rfl
 refine wp_mono (h base ⟨w,⟨fun b=>b<w.heap.size,base,none,slP P⟩,S,aDO⟩ _ w R) ?_
 rintro en a' w' ⟨s',h1,g',R'⟩
 have fin:aEE (cO P) fn.results.toList e sz ys s'→a'.defers=[] ∧ ∃u,(results fn a'.tmps).run P w' = .ok u w' ∧ ∃v' cells',Ending.returned u = .returned v'∧w'.ownsRow base e sz v' ys.length cells'∧aC w' ys cells' []∧w.grownBy w' v.ownBlock∧(v'.ownBlock=v.ownBlock∨v'.ownBlock=none ∨ ∃b,w.heap.size≤b∧v'.ownBlock=some b):=by
  rintro ⟨ver,zs,dp,hh,hr⟩
  have hlive:live s'.h 7059000:=by unfold live;rw [hh];simp
  have hobj:=R'.inv.obj 7059000
  rw [show (s'.h 7059000).2 = .row e sz zs dp from by rw [hh]] at hobj
  obtain ⟨cells1,p1,p2,p3,p4,p5⟩:=hobj
  have hyfl:=List.all_eq_true.1 hyf
  have hgrow:w.grownBy w' v.ownBlock:=⟨R'.below.os,R'.below.tape,R'.below.output,R'.below.size,fun k hk hne=>(R'.kA k ⟨hk,hne⟩).2⟩
  have hblk : ∀b,nQ (g'.val 7059000)=some b→some b=v.ownBlock∨w.heap.size≤b:=fun b hb=>by
   rcases Nat.lt_or_ge b w.heap.size with hlt | hge
   ·by_cases he:some b=v.ownBlock
    ·exact .inl he
    ·exact absurd (R'.kA b ⟨hlt,he⟩).1 (R'.inv.mtb _ b hlive hb)
   ·exact .inr hge
  have hblk' : ∀u:Value,u.ownBlock=(g'.val 7059000).ownBlock→(u.ownBlock=v.ownBlock∨u.ownBlock=none ∨ ∃b,w.heap.size≤b∧u.ownBlock=some b):=fun u hu=>by
   have e1:nQ (g'.val 7059000)=(g'.val 7059000).ownBlock:=cW p1
   cases hc:(g'.val 7059000).ownBlock with
   | none=>exact .inr (.inl (hu.trans hc))
   | some b =>
    rcases hblk b (e1.trans hc) with h2 | h2
    ·exact .inl ((hu.trans hc).trans h2)
    ·exact .inr (.inr ⟨b,h2,hu.trans hc⟩)
  have one : ∀ {cc:SC},nV (cO P) s' fn.results.toList=some [(false,[cc])] → ∃u,nB g' s'.h w' cc u∧(results fn a'.tmps).run P w' = .ok u w':=by
   intro cc hg
   obtain ⟨vs,k1,k2,k3⟩:=sQ R' hg
   have hrun:=xV (P:=P) (w:=w') (fun x=>match x with | .tmp t=>(pure (a'.tmps.getD t undef):Sem Value) | .cell p t=>(do loadVar t (←asAddr (a'.tmps.getD p undef)):Sem Value)) fn.results.toList vs (by rw [k1]) k3
   have hrun':(results fn a'.tmps).run P w' = .ok (if h:vs.toArray.size=1 then vs.toArray[0] else .tuple vs.toArray) w':=by
    unfold results
    rw [←Array.toArray_toList (xs:=fn.results)]
    rw [List.mapM_toArray]
    simp only [Sem.run_bind,Sem.run_map,Sem.run_pure]
    exact (congrArg (fun r:Result (List Value)=>(r.andThen fun a w'=>Result.ok a.toArray w').andThen fun a w'=>Result.ok (if h:a.size=1 then a[0] else Value.tuple a) w') hrun).trans rfl
   obtain ⟨u,vs',rfl,⟨u',us,e1,m1,m2⟩,m3⟩:=k2
   have m3':vs'=[]:=m3
   subst m3'
   simp only [List.cons.injEq] at e1
   obtain ⟨rfl,_⟩:=e1
   exact ⟨u,m1,hrun'⟩
  rcases hr with ⟨hg,rfl⟩ | ⟨n,hg,hnl,hys⟩
  ·obtain ⟨u,⟨_,_,m⟩,hrun⟩:=one hg
   have hu:u=g'.val 7059000:=m (by rw [hh]) e sz zs dp (by rw [hh])
   subst hu
   have hG:g'.fp 7059000=[]:=tY p3.rep hyfl
   exact ⟨R'.defers,_,hrun,_,cells1,rfl,p1,by rw [←hG];exact p3.rep,hgrow,hblk' _ rfl⟩
  ·obtain ⟨u,⟨_,_,m⟩,hrun⟩:=one hg
   obtain ⟨ad,cap,hu,hnc,_,m2⟩:=m (by rw [hh]) e sz zs dp (by rw [hh])
   obtain ⟨mm,hval,hnm'⟩:=m2 rfl
   have hsp:aC w' (zs.take n++zs.drop n) cells1 (g'.fp 7059000):=by rw [List.take_append_drop];exact p3.rep
   obtain ⟨v1,v2,G1,G2,hcs,hG,m3,m4⟩:=aC.split hsp
   rw [hys] at m3
   have hG1:G1=[]:=tY m3 hyfl
   subst hG1
   have hyln:ys.length=n:=by rw [←hys,List.length_take,Nat.min_eq_left hnl]
   have hv1:v1.length=n*sz:=by rw [aC.length m3 hyl,hyln]
   refine ⟨R'.defers,_,hrun,u,v1,rfl,?_,m3,hgrow,hblk' u (by rw [hu,hval];cases ad<;>rfl)⟩
   rw [hyln]
   rcases p1.2 with ⟨q1,q2⟩ | ⟨b,c2,cur,q1,q2,q3,q4,q5,q6,q7⟩
   ·rw [hval] at q1
    simp only [Value.slice.injEq] at q1
    obtain ⟨r1,r2,r3⟩:=q1
    have hn0:n=0:=by omega
    subst hn0
    have:v1=[]:=List.length_eq_zero_iff.1 (by rw [hv1];simp)
    subst this
    rw [hu,r1,r3]
    exact World.ownsRow_nil w' base e sz
   ·rw [hval] at q1
    simp only [Value.slice.injEq] at q1
    obtain ⟨r1,r2,r3⟩:=q1
    rw [hu,r1,r3]
    refine ⟨hv1,.inr ⟨b,c2,cur,rfl,q2,q3,by omega,q5,q6,?_⟩⟩
    have hle:n*sz≤zs.length*sz:=Nat.mul_le_mul_right _ hnl
    have:cur.toList.take (n*sz)=cells1.take (n*sz):=by rw [←q7,List.take_take,Nat.min_eq_left hle]
    rw [this,hcs,←hv1,List.take_left]
 cases en with
 | normal=>exact fin h1
 | ret=>exact fin h1
 | exit id=>exact h1.elim
 | goto l=>exact h1.elim
 | panic c=>exact h1.elim
 | outgrown=>exact h1.elim
theorem zZ {α:Type} {xs z:List α} {i:Int} (h:uY xs i=some z):0≤i∧i.toNat≤xs.length:=by
 unfold uY at h
 split at h
 ·assumption
 ·cases h
theorem sD {α:Type} {xs z:List α} {i:Int} (h:uY xs i=some z):i.toNat+(xs.length-i.toNat)=xs.length:=by have:=zZ h;omega
theorem sZ {α:Type} {f:α→List D} {xs z:List α} {i:Int} {r:List D} (h:uY xs i=some z):0≤i∧i.toNat≤(List.map f (List.take i.toNat xs)++List.replicate (xs.length-i.toNat) r).length:=by
 have:=zZ h
 refine ⟨this.1,?_⟩
 rw [List.length_append,List.length_map,List.length_take,List.length_replicate]
 omega
theorem aAS {α:Type} {f:α→List D} {xs z:List α} {i:Int} {n:Nat} {r:List D} (h:uY xs i=some z):(List.map f (List.take i.toNat xs)++List.replicate n r).take i.toNat=List.map f (List.take i.toNat xs):=by
 have:=zZ h
 exact List.take_left' (by rw [List.length_map,List.length_take];omega)
theorem LQ:type_of% (And.intro @zT @wE):=And.intro @zT @wE
end Go.Sh
namespace Go.Sh
set_option linter.unusedVariables false
set_option linter.unusedSimpArgs false
open Go.RowKit
end Go.Sh
namespace Go.Sh
set_option linter.unusedVariables false
set_option linter.unusedSimpArgs false
open Go.RowKit
end Go.Sh
namespace Go.Sh
set_option linter.unusedVariables false
set_option linter.unusedSimpArgs false
open Go.RowKit
section
variable {P:Program} {base N:Nat} {w0:W0} {w:World} {g:Gh} {s:St} {a:Act}
def aFt (s:St) (d:Nat) (sv:SV):St:=
 { t:=fun i=>if i=d then sv else if i<10000 then s.fr i else .unk,h:=s.h,fr:=fun i=>s.fr (i+10000) }
def aC2:List (Bool×List SC)→SV
 | [(ag,cs)]=>.v ag cs
 | l=>.tup l
def aFd (P:Program) (T:aAB) (vars:List ResultVar) (N:Nat) (ops:Array Oper) (n d:Nat) (K:St→Prop) (s:St):Prop:=
 ∃l,nV T s vars=some l∧pR P T N ops (ops.toList.drop (n+1)) (aFt s d (aC2 l)) K
set_option maxRecDepth 20000 in
end
end Go.Sh
namespace Go.Sh
set_option linter.unusedVariables false
set_option linter.unusedSimpArgs false
open Go.RowKit
section
variable {P:Program} {base N:Nat} {w0:W0} {w:World} {g:Gh} {s:St} {a:Act}
theorem aO.at_ {L:TL} {ds:List D} {ts:Lb} {vs:List Value} {F:List Nat} (h:aO L w ds ts vs F) {off:Nat} {d:D} (hd:ds[off]? = some d) :
  ∃v1 v v3 F1 F2 F3,vs=v1++v::v3∧v1.length=off∧F=F1++(F2++F3)∧oZ L w d (Sh.lab (ts.drop off)) v F2 ∧ ∀(d':D) (v':Value) (F':List Nat),oZ L w d' (Sh.lab (ts.drop off)) v' F'→aO L w (ds.set off d') ts (v1++v'::v3) (F1++(F'++F3)):=by
 induction ds generalizing ts vs F off with
 | nil=>simp at hd
 | cons d0 ds ih =>
  simp only [aO] at h
  obtain ⟨v,vs',F1,F2,rfl,rfl,h3,h4⟩:=h
  cases off with
  | zero =>
   simp at hd
   subst hd
   refine ⟨[],v,vs',[],F1,F2,rfl,rfl,rfl,by simpa using h3,fun d' v' F' h' => ?_⟩
   simp only [List.set_cons_zero,aO,List.nil_append]
   exact ⟨v',vs',F',F2,rfl,rfl,by simpa using h',h4⟩
  | succ off =>
   obtain ⟨v1,v2,v3,G1,G2,G3,rfl,hl,rfl,k1,k2⟩:=ih h4 (by simpa using hd)
   rw [List.drop_tail] at k1 k2
   refine ⟨v::v1,v2,v3,F1++G1,G2,G3,rfl,by simp [hl],by simp,k1,fun d' v' F' h' => ?_⟩
   simp only [List.set_cons_succ,aO]
   exact ⟨v,v1++v'::v3,F1,G1++(F'++G3),by simp,by simp,h3,k2 d' v' F' h'⟩
end
end Go.Sh
namespace Go.Sh
set_option linter.unusedVariables false
set_option linter.unusedSimpArgs false
open Go.RowKit
theorem exI {P:Program} {T:aAB} {N:Nat} {ops:Array Oper} {l:List Oper} {s s3:St} {K:St→Prop} (h:pR P T N ops l s (Is s3)) (hk:K s3):pR P T N ops l s K:=
 uD l (fun τ hτ=>by rw [show τ=s3 from hτ];exact hk) h
end Go.Sh
namespace Go.Sh
set_option linter.unusedVariables false
set_option linter.unusedSimpArgs false
open Go.RowKit
section
variable {P:Program} {base N:Nat} {w0:W0} {s:St}
theorem aFd.mk {P:Program} {T:aAB} {vars:List ResultVar} {ops:Array Oper} {n d:Nat} {K:St→Prop} {l:List (Bool×List SC)} {s s1:St} (h1:nV T s vars=some l) (h2:pR P T N ops (ops.toList.drop (n+1)) (aFt s d (aC2 l)) (Is s1)) (h3:K s1):aFd P T vars N ops n d K s:=⟨l,h1,exI h2 h3⟩
end
end Go.Sh
namespace Go.Sh
set_option linter.unusedVariables false
set_option linter.unusedSimpArgs false
open Go.RowKit
section
variable {P:Program} {base N:Nat} {w0:W0} {Z:St→Prop} {k:List Fr} {s:St}
theorem tJ {x y:Code} (J:St→Prop) (h1:SW P base w0 N x s (aft P base w0 N Z (.inv J::k))) (h2 : ∀s',J s'→SW P base w0 N y s' (aft P base w0 N Z k)):SW P base w0 N (.seq x y) s (aft P base w0 N Z k):=by
 refine sq fun a w R=>wp_mono (h1 a w R) ?_
 rintro e a' w' ⟨s',k1,k2⟩
 refine ⟨s',?_,k2⟩
 cases e with
 | normal=>exact h2 s' k1
 | _=>exact k1
end
end Go.Sh
