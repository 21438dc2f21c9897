/-
  Helper text. No conditions.
-/
import Derived.Test.YtidhkhdnjonjfaaGreatReadNoteShC
import Derived.ProofKit
import Derived.OpenShut
import Derived.ShutString
import Derived.Deep.Slices
import Derived.Carry
set_option linter.unusedVariables false
set_option linter.unusedSimpArgs false
namespace Go.Sh
open Go.RowKit
theorem aJB (args:List (Bool×List D)) (i:Nat):(init args).t i=match args[i]? with | some (ag,ds)=>.v ag (ds.map .dat) | none=>.undef:=rfl
theorem aJW (args:List (Bool×List D)) (i:Nat):(init args).h i=(0,.none):=rfl
def aLq (v:SV) (A B:Prop):Prop:=match v with
 | .v false [.dat (.bool b)]=>(b=true→A)∧(b=false→B)
 | _=>False
theorem aGs (b:Bool) (A B:Prop):aLq (.v false [.dat (.bool b)]) A B=((b=true→A)∧(b=false→B)):=rfl
theorem bS {n:Int} (h1 : -9223372036854775808≤n) (h2:n≤9223372036854775807):IntKind.i64.wrap n=n:=by rw [IntKind.wrap_i64];omega
attribute [simp] vH aFY aHa aF6 aCo aB3 aDI yY zH evG sW vOp aLi put ex exF cst one aft St.aCR St.aIe St.aJH St.aEA vQ zV aAq zI wV aAH lX yK xJ xW rows lB aA8 lenOf aDH aC4 aCB uU xP aAB aEK D.flat rid TI.agg aJB aJW aA6 yL aEg aBg aAk aGs
end Go.Sh
namespace Go.Sh
open Go.RowKit Go.ChangeShapes Go.WideShapes Go.Deep
inductive Shp where
 | int (k:IntKind)
 | bool
 | str
 | sl (es:List Shp)
def aBV (P:Program) (f:TypeId→Option (List Shp)):Nat→List Field→Option (List Shp)
 | _,[]=>some []
 | off,x::xs=>if x.offset=off then (match f x.type,aBV P f (off+P.cellsOf x.type) xs with
   | some a,some b=>if a.length=P.cellsOf x.type then some (a++b) else none
   | _,_=>none) else none
def aJP (P:Program):Nat→TypeId→Option (List Shp)
 | 0,_=>none
 | n+1,t=>match P.underlying t with
  | some (.int k)=>some [.int k]
  | some .bool=>some [.bool]
  | some .string=>some [.str]
  | some (.slice e)=>match aJP P n e with
   | some es=>if es.length=P.cellsOf e∧0<es.length then some [.sl es] else none
   | none=>none
  | some (.struct fs)=>match aBV P (aJP P n) 0 fs.toList with
   | some es=>if es.length=P.cellsOf t then some es else none
   | none=>none
  | _=>none
mutual
def Has:Shp→D→Prop
 | .int k,d=>∃n,d = .int k n∧(Lit.int k n).wf=true
 | .bool,d=>∃b,d = .bool b
 | .str,d=>∃s,d = .str s∧s.size≤maxLen
 | .sl es,d=>∃xs,d = .sl xs∧xs.length≤maxLen ∧ ∀x∈xs,jP es x
def jP:List Shp→List D→Prop
 | [],ds=>ds=[]
 | e::es,ds=>∃d ds',ds=d::ds'∧Has e d∧jP es ds'
end
theorem jP.append : ∀ {a b:List Shp} {x y:List D},jP a x→jP b y→jP (a++b) (x++y)
 | [],b,x,y,h,k=>by simp only [jP] at h;subst h;exact k
 | e::a,b,x,y,h,k=>by
  simp only [jP] at h
  obtain ⟨d,ds',rfl,h1,h2⟩:=h
  simp only [List.cons_append,jP]
  exact ⟨d,ds'++y,rfl,h1,jP.append h2 k⟩
theorem jP.length : ∀ {a:List Shp} {x:List D},jP a x→x.length=a.length
 | [],x,h=>by simp only [jP] at h;subst h;rfl
 | e::a,x,h=>by
  simp only [jP] at h
  obtain ⟨d,ds',rfl,h1,h2⟩:=h
  simp [jP.length h2]
section
variable {H:Type} {enc:TypeId×Value→H} {P:Program} {w:World} {base:Nat} {spare:Nat→Bool} {held:Bool}
theorem vA {w:World} {d:D} {v:Value} {F:List Nat} (h:Rep w d v F):aD w [d] [v] F:=by
 simp only [aD]
 exact ⟨v,[],F,[],rfl,by simp,h,rfl,rfl⟩
theorem aAx {e:Shp} {d:D} (h:Has e d):jP [e] [d]:=by
 simp only [jP]
 exact ⟨d,[],rfl,h,rfl⟩
theorem aED {n m:Nat} (ih : ∀(t:TypeId) (shs:List Shp) (cs:List Value) (x:DataW H×List MemPlace),aJP P n t=some shs→DataW.trod enc P w base spare held m t cs=some x → ∃ds F,aD w ds cs F∧jP shs ds) :
  ∀(fs:List Field) (off:Nat) (shs:List Shp) (cs:List Value),aBV P (aJP P n) off fs=some shs→off+shs.length=cs.length →
   (∀f∈fs,∃x,DataW.trod enc P w base spare held m f.type ((cs.drop f.offset).take (P.cellsOf f.type))=some x) → ∃ds F,aD w ds (cs.drop off) F∧jP shs ds
 | [],off,shs,cs,h,hl,_=>by
  simp [aBV] at h
  subst h
  refine ⟨[],[],?_,by simp [jP]⟩
  rw [List.drop_of_length_le (by simpa using Nat.le_of_eq hl.symm)]
  simp [aD]
 | f::fs,off,shs,cs,h,hl,hf=>by
  simp only [aBV] at h
  split at h
  ·rename_i ho
   split at h
   ·rename_i a b ha hb
    split at h
    ·rename_i hlen
     cases h
     obtain ⟨x,hx⟩:=hf f (by simp)
     obtain ⟨d1,F1,k1,k2⟩:=ih _ _ _ _ ha hx
     obtain ⟨d2,F2,k3,k4⟩:=aED ih fs _ b cs hb (by rw [qE,hlen] at hl;omega) fun y hy=>hf y (by simp [hy])
     refine ⟨d1++d2,F1++F2,?_,k2.append k4⟩
     have:cs.drop off=(cs.drop f.offset).take (P.cellsOf f.type)++cs.drop (off+P.cellsOf f.type):=by
      rw [ho,←List.drop_drop,List.take_append_drop]
     rw [this]
     exact k1.append k3
    ·cases h
   ·cases h
  ·cases h
theorem aIY {a:Addr} {v:Value} (h:w.cell? a=some v):a=⟨a.block,a.off,none⟩:=by
 obtain ⟨b,o,s⟩:=a
 unfold World.cell? at h
 cases s with
 | none=>rfl
 | some s =>
  split at h
  ·simp at h
  ·cases h
theorem aFN {es:List Shp} {C:Nat} (hC:es.length=C) {a:Addr} : ∀(len:Nat),(∀i,i<len → ∃cs' ds F,cs'.length=C∧(∀j,j<C→w.cell? (a.add (i*C+j))=cs'[j]?)∧aD w ds cs' F∧jP es ds) →
  ∃xs cells G,xs.length=len∧(∀x∈xs,jP es x)∧aG w xs cells G∧cells.length=len*C ∧ ∀j,j<len*C→w.cell? (a.add j)=cells[j]?
 | 0,_=>⟨[],[],[],rfl,by simp,by simp [aG],by simp,by simp⟩
 | len+1,h=>by
  obtain ⟨xs,cells,G,h1,h2,h3,h4,h5⟩:=aFN hC len fun i hi=>h i (by omega)
  obtain ⟨cs',ds,F,k1,k2,k3,k4⟩:=h len (by omega)
  refine ⟨xs++[ds],cells++cs',G++F,by simp [h1],?_,?_,by rw [qE,h4,k1,Nat.add_mul];omega,?_⟩
  ·intro x hx
   rcases List.mem_append.1 hx with hx | hx
   ·exact h2 x hx
   ·simp at hx;subst hx;exact k4
  ·refine h3.append ?_
   simp only [aG]
   exact ⟨cs',[],F,[],by simp,by simp,k3,rfl,rfl⟩
  ·intro j hj
   rw [Nat.add_mul,Nat.one_mul] at hj
   by_cases hjl:j<len*C
   ·rw [h5 j hjl,List.getElem?_append_left (by omega)]
   ·have:=k2 (j-len*C) (by omega)
    rw [show len*C+(j-len*C)=j from by omega] at this
    rw [this,List.getElem?_append_right (by omega),h4]
theorem aFA : ∀(n:Nat) (m:Nat) (t:TypeId) (shs:List Shp) (cs:List Value) (x:DataW H×List MemPlace),aJP P n t=some shs→DataW.trod enc P w base spare held m t cs=some x → ∃ds F,aD w ds cs F∧jP shs ds
 | 0,_,_,_,_,_,h,_=>by simp [aJP] at h
 | n+1,m,t,shs,cs,x,h,hx=>by
  simp only [aJP] at h
  split at h
  ·rename_i k hu
   cases h
   obtain ⟨v,rfl,_,hw⟩:=DataW.trod_int hu hx
   exact ⟨[.int k v],[],vA (by simp [Rep]),aAx (by simp [Has,hw])⟩
  ·rename_i hu
   cases h
   obtain ⟨v,rfl,_⟩:=DataW.trod_bool hu hx
   exact ⟨[.bool v],[],vA (by simp [Rep]),aAx (by simp [Has])⟩
  ·rename_i hu
   cases h
   obtain ⟨v,rfl,_,hw⟩:=DataW.trod_string hu hx
   exact ⟨[.str v],[],vA (by simp [Rep]),aAx (by simp [Has,hw])⟩
  ·rename_i e hu
   split at h
   ·rename_i es hes
    split at h
    ·rename_i hc
     cases h
     rcases open_slice hu hx with ⟨rfl,_⟩ | ⟨a,len,cap,mm,fu,Dd,Pl,rfl,h1,h2,h3,h4,_,h6⟩
     ·refine ⟨[.sl []],[],?_,?_⟩
      ·refine vA ?_
       simp only [Rep]
       exact ⟨none,0,0,rfl,rfl,Nat.le_refl _,.inl (by simp)⟩
      ·refine aAx ?_
       simp only [Has]
       exact ⟨[],rfl,by simp,by simp⟩
     ·have hle:len≤mm:=by rw [h4];split<;>omega
      obtain ⟨xs,cells,G,k1,k2,k3,k4,k5⟩:=aFN (w:=w) hc.1 (a:=a) len fun i hi=>by
       obtain ⟨cs',q1,q2⟩:=h6 i (by omega)
       obtain ⟨_,q3,q4⟩:=World.cells?_some q1
       obtain ⟨ds,F,q5,q6⟩:=aFA n fu e es cs' _ hes q2
       exact ⟨cs',ds,F,q3,fun j hj=>by rw [←Go.Deep.add_add];exact q4 j hj,q5,q6⟩
      rcases Nat.eq_zero_or_pos len with h0 | h0
      ·have hxs:xs=[]:=List.eq_nil_of_length_eq_zero (by omega)
       subst hxs
       refine ⟨[.sl []],[],?_,?_⟩
       ·refine vA ?_
        simp only [Rep]
        exact ⟨some a,len,cap,rfl,by simpa using h0,h2,.inl ⟨h0,trivial⟩⟩
       ·refine aAx ?_
        simp only [Has]
        exact ⟨[],rfl,by simp,by simp⟩
      ·have hpos:0<len*P.cellsOf e:=Nat.mul_pos h0 (by omega)
       have hc0:=k5 0 hpos
       have hc0':cells[0]? = some (cells[0]'(by omega)):=qF (by omega)
       have hadd0:a.add 0=a:=by simp [Addr.add]
       rw [hadd0,hc0'] at hc0
       have ha:=aIY hc0
       refine ⟨[.sl xs],a.block::G,?_,?_⟩
       ·refine vA ?_
        simp only [Rep]
        refine ⟨some a,len,cap,rfl,k1.symm,h2,.inr ⟨a.block,a.off,cells,P.cellsOf e,G,by rw [←ha],World.block_lt_of_cell? w a hc0,rfl,?_,k4,?_,k3⟩⟩
        ·intro j u hu'
         have hj:j<len*P.cellsOf e:=by rw [←k4];exact (List.getElem?_eq_some_iff.1 hu').1
         have:=k5 j hj
         rw [ha,Addr.add_lit] at this
         rw [this];exact hu'
        ·intro x hx'
         rw [(k2 x hx').length,hc.1]
       ·refine aAx ?_
        simp only [Has]
        exact ⟨xs,rfl,by omega,k2⟩
    ·cases h
   ·cases h
  ·rename_i fs hu
   split at h
   ·rename_i es hes
    split at h
    ·rename_i hc
     cases h
     obtain ⟨xs,mm,rfl,_,q1,q2,q3⟩:=DataW.trod_struct hu hx
     have:=aED (m:=mm) (fun t shs cs x=>aFA n mm t shs cs x) fs.toList 0 shs cs hes (by omega) (fun f hf=>by
      obtain ⟨i,hi⟩:=List.getElem?_of_mem hf
      have hi':fs[i]? = some f:=by simpa using hi
      have hlt:i<xs.length:=by rw [q2];exact (Array.getElem?_eq_some_iff.1 hi').1
      exact ⟨xs[i],by rw [q3 i f hi',qF hlt]⟩)
     simpa using this
    ·cases h
   ·cases h
  ·cases h
theorem aLZ {n:Nat} {t:TypeId} {shs:List Shp} {v:Value} {d:DataW H} {p:List MemPlace} {b:Nat} (h:aJP P n t=some shs) (hv:Value.okWide P w .any b t v) (ht:DataW.Trod enc P w base spare held t v d p) :
  ∃ds F,jP shs ds∧aHM w v (aCJ P t,ds) F:=by
 obtain ⟨fuel,hf⟩:=id ht
 obtain ⟨ds,F,h1,h2⟩:=aFA n fuel t shs _ _ h hf
 refine ⟨ds,F,h2,?_⟩
 have one:v.cells.toList=[v] → ∃d,ds=[d]∧Rep w d v F:=by
  intro hc
  rw [hc] at h1
  have hl:=h1.length
  match ds,h1,hl with
  | [d],h1,_ =>
   simp only [aD] at h1
   obtain ⟨u,us,F1,F2,e1,e2,e3,_,e5⟩:=h1
   simp at e1
   rw [e5,qV] at e2
   exact ⟨d,rfl,e2 ▸ e1.1 ▸ e3⟩
 cases n with
 | zero=>simp [aJP] at h
 | succ n =>
  simp only [aJP] at h
  unfold aCJ
  split at h
  ·rename_i k hu
   obtain ⟨x,rfl,_⟩:=open_int hu hv ht
   rw [hu]
   exact one rfl
  ·rename_i hu
   obtain ⟨x,rfl,_⟩:=open_bool hu hv ht
   rw [hu]
   exact one rfl
  ·rename_i hu
   obtain ⟨x,rfl,_⟩:=Go.ChangeMaps.open_string hu hv ht
   rw [hu]
   exact one rfl
  ·rename_i e hu
   obtain ⟨x,y,z,rfl⟩:=okWide_slice hu hv
   rw [hu]
   exact one rfl
  ·rename_i fs hu
   obtain ⟨cs,rfl,_⟩:=okWide_struct hu hv
   rw [hu]
   exact ⟨cs,rfl,h1⟩
  ·cases h
theorem aH8 {f:Func} {s:ChangeSpec} {apart fresh handsOn again:Bool} {W W':World} {args:Array Value} {v:Value} {ds gs:List (DataW H)} {before pa pv:List MemPlace}
  (hW:DataW.Whole enc P f.params.toList s.vars apart W args.toList ds gs before)
  (hres : ∀(b:Nat) (sp:Nat→Bool) (hd:Bool),DataW.TrodAll enc P W' b sp hd f.resultTypes.toList (v.resultList f.resultTypes.size) (s.fn H (ds++gs)).results [])
  (hargs : ∀sp:Nat→Bool,(∀p∈before,sp p.block=true)→DataW.TrodAll enc P W' 0 sp true f.params.toList args.toList (s.fn H (ds++gs)).args pa)
  (hvars : ∀sp:Nat→Bool,(∀p∈before,sp p.block=true)→DataW.TrodVars enc P W' sp s.vars (s.fn H (ds++gs)).vars pv)
  (hps:before=pa++pv) (hb:Below W.heap.size W W')
  (hok : ∀(j:Nat) (t:TypeId) (r:Value),f.resultTypes[j]? = some t→(v.resultList f.resultTypes.size)[j]? = some r→Value.okWide P W' .any 0 t r) :
  s.post enc P f apart fresh handsOn again W args v W':=by
 have hlt : ∀p∈before,p.block<W.heap.size:=fun p hp=>hW.lt p hp
 have hold : ∀p∈before,(fun b=>decide (b<W.heap.size)) p.block=true:=fun p hp=>by simpa using hlt p hp
 refine ⟨ds,gs,before,[],pa,pv,hW,hres _ _ _,hargs _ hold,hvars _ hold,World.keptBut_mono (fun p hp=>⟨hp,?_⟩) (hb.frame (· ∈ before)),fun _ => ?_⟩
 ·rw [hps,qO] at hp
  exact Or.inr hp
 ·obtain ⟨_,_,_,_,_,hz,hn⟩:=hW
  refine ⟨hok,_,_,([]++pa)++pv,⟨[]++pa,pv,trodAll_append (hargs _ (fun _ _=>rfl)) (hres _ _ _),hvars _ (fun _ _=>rfl),rfl,?_,?_⟩,?_⟩
  ·intro b off hp
   have hin:MemPlace.cell b off∈before:=by rw [hps];simpa using hp
   rw [hb.frozen (hlt _ hin)]
   exact hz b off hin
  ·intro ha
   have:=hn ha
   rw [hps] at this
   simpa using this
  ·intro p hp _
   rw [hps]
   simpa using hp
theorem aBr (hl:laidOutB P=true) {W W':World} (hb:Below W.heap.size W W') {sp:Nat→Bool} : ∀ {ts:List TypeId} {vs:List Value} {ds:List (DataW H)} {ps:List MemPlace},DataW.TrodAll enc P W 0 (fun _=>true) true ts vs ds ps →
  (∀t∈ts,P.readableRec t=true∧t<P.types.size)→(∀x∈ps,x.block<W.heap.size)→(∀x∈ps,sp x.block=true)→DataW.TrodAll enc P W' 0 sp true ts vs ds ps
 | [],vs,ds,ps,h,_,_,_=>by
  obtain ⟨rfl,rfl,rfl⟩:=trodAll_nil h
  rfl
 | t::ts,vs,ds,ps,h,ht,hlt,hsp=>by
  obtain ⟨v,vs',d,ds',p,q,rfl,rfl,rfl,h1,h2⟩:=trodAll_cons h
  refine ⟨p,q,?_,?_,rfl⟩
  ·exact WideElems.Trod_stays hl (ht t (by simp)).1 (ht t (by simp)).2 h1 (fun x hx=>hb.same (hlt x (by simp [hx]))) (fun x hx=>hsp x (by simp [hx]))
  ·exact aBr hl hb h2 (fun u hu=>ht u (by simp [hu])) (fun x hx=>hlt x (by simp [hx])) (fun x hx=>hsp x (by simp [hx]))
def aLY (P:Program) (n:Nat):List TypeId→List (List Shp)→Prop
 | [],shs=>shs=[]
 | t::ts,shs=>∃s ss,shs=s::ss∧aJP P n t=some s∧aLY P n ts ss
def aI3:List (List Shp)→List (List D)→Prop
 | [],ds=>ds=[]
 | s::ss,ds=>∃d ds',ds=d::ds'∧jP s d∧aI3 ss ds'
def aIv (P:Program):List TypeId→List (List D)→List (Bool×List D)
 | t::ts,d::ds=>(aCJ P t,d)::aIv P ts ds
 | _,_=>[]
theorem aHc {n:Nat} {W:World} {b:Nat} : ∀ {ts:List TypeId} {vs:List Value} {ds:List (DataW H)} {ps:List MemPlace} {shs:List (List Shp)},aLY P n ts shs→DataW.TrodAll enc P W 0 (fun _=>true) true ts vs ds ps →
  (∀(j:Nat) t v,ts[j]? = some t→vs[j]? = some v→Value.okWide P W .any b t v) → ∃dss F,aI3 shs dss∧mA W vs (aIv P ts dss) F
 | [],vs,ds,ps,shs,hs,h,hv=>by
  obtain ⟨rfl,rfl,rfl⟩:=trodAll_nil h
  have:shs=[]:=hs
  subst this
  exact ⟨[],[],rfl,rfl⟩
 | t::ts,vs,ds,ps,shs,hs,h,hv=>by
  obtain ⟨s,ss,rfl,hs1,hs2⟩:=hs
  obtain ⟨v,vs',d,ds',p,q,rfl,rfl,rfl,h1,h2⟩:=trodAll_cons h
  obtain ⟨d1,F1,k1,k2⟩:=aLZ hs1 (hv 0 t v rfl rfl) h1
  obtain ⟨dss,F2,k3,k4⟩:=aHc hs2 h2 fun j t' v' ht hv'=>hv (j+1) t' v' (by simpa using ht) (by simpa using hv')
  exact ⟨d1::dss,F1++F2,⟨d1,dss,rfl,k1,k3⟩,F1,F2,rfl,k2,k4⟩
theorem aJb {f:FuncId} {fn:Func} {s:ChangeSpec} {n tb:Nat} {shs:List (List Shp)} (hl:laidOutB P=true) (hvars:s.vars=[]) (hres:fn.resultTypes = #[tb]) (htb:P.underlying tb=some .bool) (hsh:aLY P n fn.params.toList shs)
  (hread : ∀t∈fn.params.toList,P.readableRec t=true∧t<P.types.size)
  (hfn : ∀(ds:List (DataW H)),ds.length=fn.params.toList.length→s.fn H (ds++[])={ results:=[.lit (.bool true)],args:=ds })
  (hc : ∀dss,aI3 shs dss→oM P f (aIv P fn.params.toList dss) [(false,[.ro (.bool true)])])
  {W:World} {b:Nat} {args:Array Value} {ds gs:List (DataW H)} {before:List MemPlace} (hval : ∀(j:Nat) t v,fn.params[j]? = some t→args[j]? = some v→Value.okWide P W .any b t v)
  (hW:DataW.Whole enc P fn.params.toList s.vars false W args.toList ds gs before) :
  Calls P f args W fun e W'=>∃v,e = .returned v∧s.post enc P fn false true false false W args v W':=by
 have hW':=hW
 obtain ⟨p,q,hA,hV,rfl,hfz,hnd⟩:=hW
 rw [hvars] at hV
 obtain ⟨rfl,rfl⟩:=trodVars_none hV
 obtain ⟨dss,Fa,k1,k2⟩:=aHc hsh hA fun j t v ht hv=>hval j t v (by simpa using ht) (by simpa using hv)
 refine (((hc dss k1).old rfl).2 W args Fa k2).mono fun e W' hh => ?_
 obtain ⟨v,rfl,⟨F,X,_,_,_,hr⟩,hb⟩:=hh
 have hv:v = .bool true:=by
  have h1:Rep W' (.bool true) v []:=hr.1
  simp only [Rep] at h1
  exact h1.1
 subst hv
 have hdl:ds.length=fn.params.toList.length:=by
  have : ∀ {ts:List TypeId} {vs:List Value} {ds:List (DataW H)} {ps:List MemPlace},DataW.TrodAll enc P W 0 (fun _=>true) true ts vs ds ps→ds.length=ts.length:=by
   intro ts
   induction ts with
   | nil=>intro vs ds ps h;obtain ⟨_,rfl,_⟩:=trodAll_nil h;rfl
   | cons t ts ih=>intro vs ds ps h;obtain ⟨v,vs',d,ds',p,q,rfl,rfl,rfl,h1,h2⟩:=trodAll_cons h;simp [ih h2]
  exact this hA
 have hfn':=hfn ds hdl
 refine ⟨_,rfl,aH8 (pa:=p) (pv:=[]) hW' ?_ ?_ ?_ (by simp) hb (ok_one hres rfl (okWide_bool_mk htb _))⟩
 ·intro b sp hd
  rw [hfn',hres]
  exact trodAll_cons_mk (shut_bool htb _) trodAll_mk0
 ·intro sp hsp
  rw [hfn']
  exact aBr hl hb hA hread (fun x hx=>hW'.lt x (by simpa using hx)) (fun x hx=>hsp x (by simpa using hx))
 ·intro sp hsp
  rw [hfn',hvars]
  rfl
end
end Go.Sh
namespace Go.Sh
open Go.RowKit
def Is (s t:St):Prop:=t=s
theorem Is.mk (t:St):Is t t:=rfl
theorem aBy {P:Program} {T:aG2} {N:Nat} {ops:Array Oper} : ∀(l:List Oper) {s:St} {K K':St→Prop},(∀s,K s→K' s)→yY P T N ops l s K→yY P T N ops l s K'
 | [],_,_,_,h,hh=>h _ hh
 | o::l,s,_,_,h,hh=>aBQ (evG T N ops o) (fun s' h'=>aBy l h h') hh
theorem aAK {P:Program} : ∀(p:Prog) {s:St} {R W:List Loc} {K K':St→List Loc→List Loc→Prop},(∀s R W,K s R W→K' s R W)→exF P p s R W K→exF P p s R W K'
 | .done,_,_,_,_,_,h,hh=>h _ _ _ hh
 | .fail,_,_,_,_,_,_,hh=>hh
 | .getT t k,s,_,_,_,_,h,hh=>aAK (k (s.t t)) h hh
 | .aAr t v k,s,_,_,_,_,h,hh=>aAK k h hh
 | .getH i k,s,_,_,_,_,h,hh=>aAK (k (s.h i)) h hh
 | .dA i x k,s,_,_,_,_,h,hh=>aAK k h hh
 | .call f args k,s,_,_,_,_,h,⟨rs,hc,hh⟩=>⟨rs,hc,aAK (k rs) h hh⟩
 | .must p k,s,_,_,_,_,h,⟨hp,hh⟩=>⟨hp,aAK k h hh⟩
theorem aDf {P:Program} {T:aG2} {N:Nat} {ops:Array Oper} : ∀(l:List Oper) {s:St} {acc:List Fp} {K K':St→List Fp→Prop},(∀s a,K s a→K' s a)→zH P T N ops l s acc K→zH P T N ops l s acc K'
 | [],_,_,_,_,h,hh=>h _ _ hh
 | o::l,s,_,_,_,h,hh=>aAK (evG T N ops o) (fun s' R W h'=>aDf l h h') hh
section
variable {P:Program} {base N:Nat} {w0:W0} {Z:St→Prop} {k:List Fr} {s s':St}
theorem kU {id:Nat} {ops:Array Oper} (h:yY P (cO P) N ops ops.toList s (Is s')) (hk:aft P base w0 N Z k .normal s'):SW P base w0 N (.region id ops false) s (aft P base w0 N Z k):=
 aFq (aBy ops.toList (fun t ht=>by rw [show t=s' from ht];exact hk) h)
def aGS (ops:Array Oper) (fps:List Fp):Prop:=aBO ops fps=true
theorem aGS.mk {ops:Array Oper} {fps:List Fp} (h:aBO ops fps=true):aGS ops fps:=h
theorem aCv (hm:P.follows .mixedOrders=true) {id:Nat} {ops:Array Oper} (h:zH P (cO P) N ops ops.toList s [] fun t fps=>aGS ops fps∧Is s' t) (hk:aft P base w0 N Z k .normal s'):SW P base w0 N (.region id ops true) s (aft P base w0 N Z k):=
 aIs hm (aDf ops.toList (fun t fps ht=>⟨ht.1,by rw [show t=s' from ht.2];exact hk⟩) h)
theorem aA4 {id:Nat} (h:aft P base w0 N Z k .normal s):aft P base w0 N Z (.block id::k) (.exit id) s:=by
 simp only [aft,if_true];exact h
theorem aNY {id id':Nat} (hne:id'≠id) (h:aft P base w0 N Z k (.exit id') s):aft P base w0 N Z (.block id::k) (.exit id') s:=by
 simp only [aft,hne,if_false];exact h
theorem yD {c:Code} {id:Nat} (h:aft P base w0 N Z k (.exit id) s):aft P base w0 N Z (.code c::k) (.exit id) s:=h
theorem xS {J:St→Prop} (h:J s):aft P base w0 N Z (.inv J::k) .normal s:=h
theorem yC {J:St→Prop} {id:Nat} (h:aft P base w0 N Z k (.exit id) s):aft P base w0 N Z (.inv J::k) (.exit id) s:=h
theorem aAF {t:Nat} {x y:Code} (hb:s.t t = .v false [.dat (.bool true)]) (h:SW P base w0 N x s (aft P base w0 N Z k)):SW P base w0 N (.cond (.tmp t) x y) s (aft P base w0 N Z k):=
 aGZ hb (fun _=>h) (fun e=>by cases e)
theorem zW {t:Nat} {x y:Code} (hb:s.t t = .v false [.dat (.bool false)]) (h:SW P base w0 N y s (aft P base w0 N Z k)):SW P base w0 N (.cond (.tmp t) x y) s (aft P base w0 N Z k):=
 aGZ hb (fun e=>by cases e) (fun _=>h)
theorem vD {c:Code} {Q:Exit→St→Prop} {J:St→Prop} (hj:J s) (h : ∀s,J s→SW P base w0 N c s Q):SW P base w0 N c s Q:=h s hj
end
def fuel:Nat:=18446744073709551616
theorem wW (b:Bool):b=true∨b=false:=by cases b<;>simp
theorem aGH (b:Bool):b=false∨b=true:=by cases b<;>simp
theorem jW {α:Type} {b:Bool} {x y z:α} (hb:b=true) (h:(if b=true then x else y)=z):x=z:=by rw [if_pos hb] at h;exact h
theorem jV {α:Type} {b:Bool} {x y z:α} (hb:b=false) (h:(if b=true then x else y)=z):y=z:=by rw [hb] at h;simpa using h
theorem bind_some {α β:Type} {o:Option α} {f:α→Option β} {r:β} (h:o.bind f=some r) : ∃x,o=some x∧f x=some r:=by
 cases o with
 | none=>cases h
 | some x=>exact ⟨x,rfl,h⟩
def idx {α:Type} (xs:List α) (i:Int):Option α:=if 0≤i then xs[i.toNat]? else none
theorem mZ {α:Type} {xs:List α} {i:Int} {x:α} (h:idx xs i=some x):0≤i∧xs[i.toNat]? = some x∧i.toNat<xs.length:=by
 unfold idx at h
 split at h
 ·rename_i hi;exact ⟨hi,h,(List.getElem?_eq_some_iff.1 h).1⟩
 ·cases h
def aKt (s:ByteArray) (i:Int):Option UInt8:=if 0≤i then s[i.toNat]? else none
theorem aIT {s:ByteArray} {i:Int} {x:UInt8} (h:aKt s i=some x):0≤i∧s[i.toNat]? = some x:=by
 unfold aKt at h
 split at h
 ·rename_i hi;exact ⟨hi,h⟩
 ·cases h
def app {α:Type} (b:Nat) (xs ys:List α):Option (List α):=if (xs.length+ys.length)*b≤140737488355328 then some (xs++ys) else none
theorem aAN {α:Type} {b:Nat} {xs ys zs:List α} (h:app b xs ys=some zs):(xs.length+ys.length)*b≤140737488355328:=by
 unfold app at h
 split at h
 ·assumption
 ·cases h
def aQ9 {α:Type} (b:Nat) (ys:List α):Option (List α):=if ys.length*b≤140737488355328 then some ys else none
theorem yQ {α:Type} {b:Nat} {ys zs:List α} (h:aQ9 b ys=some zs):ys.length*b≤140737488355328:=by
 unfold aQ9 at h
 split at h
 ·assumption
 ·cases h
def mkL {α:Type} (b:Nat) (n:Int) (z:α):Option (List α):=if 0≤n∧n.toNat*b≤140737488355328∧n≤9223372036854775807 then some (List.replicate n.toNat z) else none
theorem aKR {α:Type} {b:Nat} {n:Int} {z:α} {x:List α} (h:mkL b n z=some x):0≤n∧n.toNat*b≤140737488355328∧n≤9223372036854775807:=by
 unfold mkL at h
 split at h
 ·assumption
 ·cases h
def cat (x y:ByteArray):Option ByteArray:=if x.size+y.size≤9223372036854775807 then some (x++y) else none
theorem aJv {x y z:ByteArray} (h:cat x y=some z):x.size+y.size≤9223372036854775807:=by
 unfold cat at h
 split at h
 ·assumption
 ·cases h
def enI (n:Int):List D:=[.int .i64 n]
def enB (n:Int):List D:=[.int .u8 n]
def enS (s:ByteArray):List D:=[.str s]
def enT (b:Bool):List D:=[.bool b]
def enL {α:Type} (f:α→List D) (xs:List α):List D:=[.sl (xs.map f)]
def aV (s:ByteArray):List Int:=s.data.toList.map fun b=>(b.toNat:Int)
theorem aJZ (s:ByteArray):xU s.data.toList=(aV s).map enB:=by
 unfold xU aV enB
 rw [List.map_map]
 rfl
def aN (l:List Int):ByteArray:=⟨(l.map fun n=>UInt8.ofNat n.toNat).toArray⟩
def toStr (l:List Int):Option ByteArray:=if l.all (fun n=>decide (0≤n∧n<256))=true then some (aN l) else none
theorem aBW (l:List Int):strOf (l.map enB)=aN l:=by
 unfold strOf aN enB
 rw [List.map_map]
 rfl
theorem aB5 {l:List Int} {z:ByteArray} (h:toStr l=some z) : ∀x∈l.map enB,∃b:UInt8,x=[.int .u8 (b.toNat:Int)]:=by
 unfold toStr at h
 split at h
 ·rename_i ha
  intro x hx
  obtain ⟨n,hn,rfl⟩:=List.mem_map.1 hx
  have:=List.all_eq_true.1 ha n hn
  simp only [qL] at this
  refine ⟨UInt8.ofNat n.toNat,?_⟩
  unfold enB
  have h1:(UInt8.ofNat n.toNat).toNat=n.toNat:=by simp;omega
  rw [h1,Int.toNat_of_nonneg this.1]
 ·cases h
def wK {α:Type} (xs:List α) (i:Int):Option (List α):=if 0≤i∧i.toNat≤xs.length then some (xs.drop i.toNat) else none
def aAp {α:Type} (xs:List α) (j:Int):Option (List α):=if 0≤j∧j.toNat≤xs.length then some (xs.take j.toNat) else none
def aFd {α:Type} (xs:List α) (i j:Int):Option (List α):=if 0≤i∧i≤j∧j.toNat≤xs.length then some ((xs.take j.toNat).drop i.toNat) else none
theorem aD8 {α:Type} {xs z:List α} {i:Int} {f:α→List D} {n:Nat} (hf : ∀x,(f x).length=n) (h:wK xs i=some z):0≤i∧i.toNat≤xs.length ∧ ∀x∈xs.map f,x.length=n:=by
 unfold wK at h
 split at h
 ·rename_i hh
  refine ⟨hh.1,hh.2,fun x hx => ?_⟩
  obtain ⟨y,_,rfl⟩:=List.mem_map.1 hx
  exact hf y
 ·cases h
theorem aD0 {α:Type} {xs z:List α} {i:Int} {f:α→List D} {n:Nat} (hf : ∀x,(f x).length=n) (h:aAp xs i=some z):0≤i∧i.toNat≤xs.length ∧ ∀x∈xs.map f,x.length=n:=by
 unfold aAp at h
 split at h
 ·rename_i hh
  refine ⟨hh.1,hh.2,fun x hx => ?_⟩
  obtain ⟨y,_,rfl⟩:=List.mem_map.1 hx
  exact hf y
 ·cases h
theorem aB2 {α:Type} {xs z:List α} {i j:Int} {f:α→List D} {n:Nat} (hf : ∀x,(f x).length=n) (h:aFd xs i j=some z):0≤i∧i≤j∧j.toNat≤xs.length ∧ ∀x∈xs.map f,x.length=n:=by
 unfold aFd at h
 split at h
 ·rename_i hh
  refine ⟨hh.1,hh.2.1,hh.2.2,fun x hx => ?_⟩
  obtain ⟨y,_,rfl⟩:=List.mem_map.1 hx
  exact hf y
 ·cases h
theorem aBE {α:Type} {f:α→List D} (hf : ∀x,(f x).all D.flat=true) (xs:List α):(xs.map f).all (fun y=>y.all D.flat)=true:=by
 rw [qP]
 intro y hy
 obtain ⟨x,_,rfl⟩:=List.mem_map.1 hy
 exact hf x
theorem enI.fl (l:List Int):(List.map enI l).all (fun y=>y.all D.flat)=true:=aBE (fun _=>rfl) l
theorem enB.fl (l:List Int):(List.map enB l).all (fun y=>y.all D.flat)=true:=aBE (fun _=>rfl) l
theorem enS.fl (l:List ByteArray):(List.map enS l).all (fun y=>y.all D.flat)=true:=aBE (fun _=>rfl) l
theorem enT.fl (l:List Bool):(List.map enT l).all (fun y=>y.all D.flat)=true:=aBE (fun _=>rfl) l
theorem aHU {P : Program} {f : FuncId} {fn : Func} {c : Code} {args : List (Bool × List D)} {rs : List (Bool × List RC)} {N : Nat} {vars : List ResultVar} (hf : P.funcs[f]? = some fn) (hb : fn.body = some c) (hN : fn.ntmps = N) (hv : fn.results.toList = vars) (hnm : (fn.name == "runtime.NumGoroutine") = false) (hn : args.length ≤ N)
  (h : ∀(base:Nat) (w0:W0),SW P base w0 N c (init args) (aft P base w0 N (Ret (cO P) vars rs) [])):oM P f args rs:=by
 subst hN hv
 exact aJX hf hb hnm hn h
end Go.Sh
namespace Go.Sh
theorem aGx (N d:Nat) (a b:Bool×List RC) (rs:List (Bool×List RC)):xJ N (some d) (a::b::rs)=yK d 0 (a::b::rs) fun vs=>put N (some d) (.tup vs):=rfl
theorem aGf (N d:Nat):xJ N (some d) []=yK d 0 [] fun vs=>put N (some d) (.tup vs):=rfl
theorem aHF (sz k:Nat) (xs:List (List D)):(aFk sz 0 k xs).drop k=xs.drop k:=by
 unfold aFk
 rw [List.take_zero,List.nil_append,Nat.zero_add]
 exact List.drop_left' (by simp)
theorem aJf (sz k:Nat) (xs:List (List D)):(aFk sz 0 k xs).length-k=xs.length-k:=by
 unfold aFk
 simp
theorem aJ0 {α:Type} (xs:List α) (k:Nat):(xs.drop k).take (xs.length-k)=xs.drop k:=List.take_of_length_le (by simp)
theorem aKm {sz:Nat} {i:Int} {xs:List (List D)} (h:0≤i):0≤i∧i.toNat≤(aFk sz 0 i.toNat xs).length:=⟨h,by unfold aFk;simp⟩
theorem aJc {α:Type} (a:α) (as bs:List α):List.append (a::as) bs=a::List.append as bs:=rfl
theorem aKd {α:Type} (bs:List α):List.append [] bs=bs:=rfl
theorem aLI (xs:List (List D)):D.flat (.sl xs)=false:=rfl
theorem aJ9 (xs:List D):D.flat (.ptr xs)=false:=rfl
theorem aJk (u:Value):D.flat (.val u)=false:=rfl
def Ez9:=PLift.up (qI @yY.eq_1 (qI @yY.eq_2 (qI @zH.eq_1 (qI @zH.eq_2 (qI @evG.eq_1 (qI @sW.eq_1 (qI @vOp.eq_1 (qI @vOp.eq_2 (qI @vOp.eq_3 (qI @vOp.eq_4 (qI @aLi.eq_1 (qI @aLi.eq_2 (qI @put.eq_1 (qI @put.eq_2 (qI @ex.eq_1 (qI @ex.eq_2 (qI @ex.eq_3 (qI @ex.eq_4 (qI @ex.eq_5 (qI @ex.eq_6 (qI @ex.eq_7 (qI @ex.eq_8 (qI @exF.eq_1 (qI @exF.eq_2 (qI @exF.eq_3 (qI @exF.eq_4 (qI @exF.eq_5 (qI @exF.eq_6 (qI @exF.eq_7 (qI @exF.eq_8 (qI @cst.eq_1 (qI @cst.eq_2 (qI @cst.eq_3 (qI @cst.eq_4 (qI @one.eq_1 (qI @vQ.eq_1 (qI @vQ.eq_2 (qI @vQ.eq_3 (qI @vQ.eq_4 (qI @lab.eq_1 (qI @lab.eq_2 (qI @aCY.eq_1 (qI @aCY.eq_2 (qI @aCY.eq_3 (qI @aCY.eq_4 (qI @aCY.eq_5 (qI @aCY.eq_6 (qI @aCY.eq_7 (qI @aCY.eq_8 (qI @aCY.eq_9 (qI @zV.eq_1 (qI @zV.eq_2 (qI @zV.eq_3 (qI @zV.eq_4 (qI @zV.eq_5 (qI @aAq.eq_1 (qI @zI.eq_1 (qI @zI.eq_2 (qI @wV.eq_1 (qI @wV.eq_2 (qI @wV.eq_3 (qI @wV.eq_4 (qI @wV.eq_5 (qI @wV.eq_6 (qI @wV.eq_7 (qI @wV.eq_8 (qI @wV.eq_9 (qI @aAH.eq_1 (qI @aAH.eq_2 (qI @lX.eq_1 (qI @lX.eq_2 (qI @lX.eq_3 (qI @lX.eq_4 (qI @lX.eq_5 (qI @yK.eq_1 (qI @yK.eq_2 (qI @xJ.eq_1 (qI @xJ.eq_2 (qI @aCo.eq_1 (qI @pV.eq_1 (qI @pV.eq_2 (qI @pV.eq_3 (qI @pV.eq_4 (qI @pV.eq_5 (qI @pV.eq_6 (qI @pV.eq_7 (qI @aF1.eq_1 (qI @aF1.eq_2 (qI @aFI.eq_1 (qI @aFI.eq_2 (qI @aAO.eq_1 (qI @aAO.eq_2 (qI @aAO.eq_3 (qI @aAO.eq_4 (qI @aAO.eq_5 (qI @aAO.eq_6 (qI @aAO.eq_7 (qI @aAO.eq_8 (qI @RC.ed.eq_1 (qI @RC.ed.eq_2 (qI @RC.ed.eq_3 (qI @RC.ed.eq_4 (qI @aGF.eq_1 (qI @aGF.eq_2 (qI @aGF.eq_3 (qI @aD5.eq_1 (qI @aB3.eq_1 (qI @aB3.eq_2 (qI @aB3.eq_3 (qI @aB3.eq_4 (qI @aB3.eq_5 (qI @aDI.eq_1 (qI @aDI.eq_2 (qI @xW.eq_1 (qI @xW.eq_2 (qI @rows.eq_1 (qI @rows.eq_2 (qI @lB.eq_1 (qI @lB.eq_2 (qI @lB.eq_3 (qI @lB.eq_4 (qI @lB.eq_5 (qI @lB.eq_6 (qI @lB.eq_7 (qI @lB.eq_8 (qI @lB.eq_9 (qI @lB.eq_10 (qI @lB.eq_11 (qI @lB.eq_12 (qI @lB.eq_13 (qI @lB.eq_14 (qI @lB.eq_15 (qI @lB.eq_16 (qI @lB.eq_17 (qI @aA8.eq_1 (qI @aA8.eq_2 (qI @aA8.eq_3 (qI @aA8.eq_4 (qI @aA8.eq_5 (qI @aA8.eq_6 (qI @lenOf.eq_1 (qI @lenOf.eq_2 (qI @lenOf.eq_3 (qI @lenOf.eq_4 (qI @lenOf.eq_5 (qI @aDH.eq_1 (qI @aDH.eq_2 (qI @aDH.eq_3 (qI @aDH.eq_4 (qI @aC4.eq_1 (qI @aC4.eq_2 (qI @aCB.eq_1 (qI @aCB.eq_2 (qI @aCB.eq_3 (qI @uU.eq_1 (qI @uU.eq_2 (qI @uU.eq_3 (qI @uU.eq_4 (qI @xP.eq_1 (qI @xP.eq_2 (qI @xP.eq_3 (qI @xP.eq_4 (qI @aAB.eq_1 (qI @aAB.eq_2 (qI @aAB.eq_3 (qI @aAB.eq_4 (qI @aG1.eq_1 (qI @aEK.eq_1 (qI @aEK.eq_2 (qI @uV.eq_1 (qI @uV.eq_2 (qI @uV.eq_3 (qI @uV.eq_4 (qI @aE6.eq_1 (qI @D.flat.eq_1 (qI @D.flat.eq_2 (qI @D.flat.eq_3 (qI @D.flat.eq_4 (qI @rid.eq_1 (qI @TI.agg.eq_1 (qI @aFY (qI @aHa (qI @aF6 (qI @aH0 (qI @aH6 (qI @aHF (qI @aJf (qI @aJ0 (qI @vH.eq_1 (qI @aGx (qI @aGf (qI @aLI (qI @aJ9 (qI @aJk (qI @St.aCR (qI @St.aIe (qI @St.aJH (qI @St.aEA (qI @aJB @aJW)))))))))))))))))))))))))))))))))))))))))))))))))))))))))))))))))))))))))))))))))))))))))))))))))))))))))))))))))))))))))))))))))))))))))))))))))))))))))))))))))))))))))))))))))))))))))))))))))))))))
theorem E:type_of% Ez9.down:=Ez9.down
def Lz9:=PLift.up (qI @List.take_succ_cons.{0} (qI @List.take_zero.{0} (qI @List.drop_succ_cons.{0} (qI @List.drop_zero.{0} (qI @List.map_cons.{0,0} (qI @List.map_nil.{0,0} (qI @List.cons_append.{0} (qI @List.nil_append.{0} (qI @List.append_nil.{0} (qI @List.length_cons.{0} (qI @List.length_nil.{0} (qI (@List.getElem?_cons_zero.{0}) (qI (@List.getElem?_cons_succ.{0}) (qI @List.tail_cons.{0} (qI @List.tail_nil.{0} (qI @Option.isSome_some.{0} (qI @Option.isSome_none.{0} (qI @List.take_nil.{0} (qI @List.drop_nil.{0} (qI (@List.getElem?_map.{0,0}) (qI @Option.map_some.{0,0} (qI @Option.bind_some.{0,0} (qI @List.length_map.{0,0} (qI @List.replicate_succ.{0} (qI @List.replicate_zero.{0} (qI @List.flatten_cons.{0} (qI @List.flatten_nil.{0} (qI (@List.getElem?_toArray.{0}) (qI @List.toList_toArray.{0} (qI @aJc (qI @aKd (qI @List.any_cons.{0} (qI @List.any_nil.{0} (qI Bool.or_true (qI Bool.true_or (qI Bool.or_false (qI Bool.false_or (qI Bool.and_true (qI Bool.true_and (qI Bool.and_false (qI Bool.false_and (qI true_and (qI and_true and_self)))))))))))))))))))))))))))))))))))))))))))
theorem L:type_of% Lz9.down:=Lz9.down
def Fz9:=PLift.up (qI @List.set_cons_zero.{0} (qI @List.set_cons_succ.{0} (qI @St.aCR (qI @St.aIe (qI @St.aJH (qI @St.aEA (qI @aJB (qI @aJW (qI @List.map_append.{0,0} (qI @List.map_cons.{0,0} (qI @List.map_nil.{0,0} (qI @List.map_set.{0,0} (qI @List.map_replicate.{0,0} (qI @List.append_nil.{0} (qI @List.nil_append.{0} (qI @List.cons_append.{0} (qI (@List.getElem?_cons_zero.{0}) (qI (@List.getElem?_cons_succ.{0}) (qI Bool.and_true Bool.true_and)))))))))))))))))))
theorem F:type_of% Fz9.down:=Fz9.down
end Go.Sh
namespace Go.Sh
open Go.RowKit
def Gho (P:Program) (base:Nat) (w0:W0) (N:Nat) (s s':St):Prop:=∀a w,Rel P base w0 N s a w→Rel P base w0 N s' a w
theorem aRb {α β:Type} {f:α→β} {K:α} {r:β} (h:f K=r) : ∃kk,kk=K∧f kk=r:=⟨K,rfl,h⟩
section
variable {P:Program} {base N:Nat} {w0:W0} {Z:St→Prop} {k:List Fr} {s s' s'':St}
theorem Gho.refl (s:St):Gho P base w0 N s s:=fun _ _ h=>h
theorem Gho.trans (h:Gho P base w0 N s s') (h':Gho P base w0 N s' s''):Gho P base w0 N s s'':=fun a w R=>h' a w (h a w R)
theorem aAh {c:Code} {Q:Exit→St→Prop} (hg:Gho P base w0 N s s') (h:SW P base w0 N c s' Q):SW P base w0 N c s Q:=fun a w R=>h a w (hg a w R)
theorem aEf {c:Code} (I:Nat→St→Prop) (n:Nat) (h0:I n s) (h : ∀m s,I m s→SW P base w0 N c s (aft P base w0 N Z (.inv (fun s'=>∃s'',Gho P base w0 N s' s'' ∧ ∃m',m'<m∧I m' s'')::k))):SW P base w0 N (.loop c) s (aft P base w0 N Z k):=by
 intro a w R
 refine wp_loop_ghost (fun m a w=>∃s,I m s∧Rel P base w0 N s a w) n ⟨s,h0,R⟩ ?_
 rintro m a w ⟨s,h1,R⟩
 refine wp_mono (h m s h1 a w R) ?_
 rintro e a' w' ⟨s',h2,h3⟩
 cases e with
 | normal=>obtain ⟨s'',hg,m',h4,h5⟩:=h2;exact ⟨m',h4,s'',h5,hg _ _ h3⟩
 | _=>exact ⟨s',h2,h3⟩
theorem aHR {g:Gh} {a:Act} {w:World} {j K vj:Nat} {e:TypeId} {sz:Nat} {xs:List (List D)} {dp:Bool} (R:fE P base w0 N g s a w []) (h2:s.h j=(vj,.row e sz xs dp)) :
  ∃g',fE P base w0 N g' ((s.dA j (vj,.none)).dA K ((s.h K).1+1,.row e sz xs dp)) a w []∧eO g g' s.h ((s.dA j (vj,.none)).dA K ((s.h K).1+1,.row e sz xs dp)).h w w ∧
   ∀v,sY g s.h w (.row j vj) v→sY g' ((s.dA j (vj,.none)).dA K ((s.h K).1+1,.row e sz xs dp)).h w (.row K ((s.h K).1+1)) v:=by
 have hj1:(s.h j).1=vj:=by rw [h2]
 have hj2:(s.h j).2 = .row e sz xs dp:=by rw [h2]
 have hob:=R.inv.obj j
 rw [hj2] at hob
 obtain ⟨cells,p1,p2,p3,p4,p5⟩:=hob
 obtain ⟨I1,hfr⟩:=R.inv.yN hj2
 rw [hj1] at I1 hfr
 have T1:eO g g s.h (iS s.h j (vj,.none)) w w:=by have:=eO.drop (g:=g) (h:=s.h) (w:=w) j g.S fun _ x=>x;rw [hj1] at this;exact this
 have hver:(iS s.h j (vj,.none) K).1=(s.h K).1:=by
  by_cases hk:K=j
  ·subst hk;rw [aU,hj1]
  ·rw [bY _ _ _ _ hk]
 have I2:=I1.yR (i:=K) (v:=g.val j) (e:=e) (sz:=sz) (xs:=xs) (dp:=dp) (cells:=cells) (F:=g.fp j) (pool':=[]) p1 p2 p3 p4 hfr (by simp) List.nodup_nil (fun hd=>by
  subst hd
  simp only [if_true,List.nil_append]
  exact ⟨(p5 rfl).1,fun b hb=>⟨hb,by simp⟩⟩)
 have T2:=eO.create (g:=g) (h:=iS s.h j (vj,.none)) (w:=w) K (g.val j) (g.fp j) (.row e sz xs dp)
 rw [hver] at I2 T2
 refine ⟨_,R.turn (T1.trans T2) rfl R.below I2,T1.trans T2,?_⟩
 rintro v ⟨h0,_,hv⟩
 refine ⟨h0,?_,?_⟩
 ·show _≤(iS _ K _ K).1
  rw [aU];exact Nat.le_refl _
 ·intro _ e' sz' xs' dp' _
  show v=aA5 g.val K (g.val j) K
  rw [cW]
  exact hv hj1 e sz xs dp hj2
theorem aJU {g:Gh} {a:Act} {w:World} {K:Nat} (e:TypeId) (sz:Nat) (R:fE P base w0 N g s a w []) :
  ∃g',fE P base w0 N g' (s.dA K ((s.h K).1+1,.row e sz [] true)) a w []∧eO g g' s.h (s.dA K ((s.h K).1+1,.row e sz [] true)).h w w ∧
   ∀v,sY g s.h w .nil v→sY g' (s.dA K ((s.h K).1+1,.row e sz [] true)).h w (.row K ((s.h K).1+1)) v:=by
 have I2:=R.inv.yR (i:=K) (v:=.slice none 0 0) (e:=e) (sz:=sz) (xs:=[]) (dp:=true) (cells:=[]) (F:=[]) (pool':=[]) (World.ownsRow_nil w base e sz) (by simp) bW.nil (by simp) (by intro b hb;cases hb) (by simp) List.nodup_nil (fun _=>⟨List.nodup_nil,by simp⟩)
 have T2:=eO.create (g:=g) (h:=s.h) (w:=w) K (.slice none 0 0) [] (.row e sz [] true)
 refine ⟨_,R.turn T2 rfl R.below I2,T2,?_⟩
 intro v hv
 have hv:v = .slice none 0 0:=hv
 subst hv
 refine ⟨rfl,?_,?_⟩
 ·show _≤(iS _ K _ K).1
  rw [aU];exact Nat.le_refl _
 ·intro _ e' sz' xs' dp' _
  show _=aA5 g.val K _ K
  rw [cW]
theorem aE9 {g:Gh} {a:Act} {w:World} {i:Nat} {sv:SV} (R:fE P base w0 N g s a w []) (hv:lS g s.h w sv (a.tmps.getD i undef)):fE P base w0 N g (s.aAr i sv) a w []:=by
 refine ⟨R.defers,R.size,R.below,R.q,R.tG,R.inv,fun t => ?_,R.lab,R.frm⟩
 rw [St.aCR]
 by_cases ht:t=i
 ·subst ht;simp only [if_true];exact hv
 ·simp only [ht,if_false];exact R.tmp t
theorem Gho.aLt {i j K vj:Nat} {e:TypeId} {sz:Nat} {xs:List (List D)} {dp:Bool} (h1:s.t i = .v false [.row j vj]) (h2:s.h j=(vj,.row e sz xs dp)) :
  Gho P base w0 N s (((s.dA j (vj,.none)).dA K ((s.h K).1+1,.row e sz xs dp)).aAr i (.v false [.row K ((s.h K).1+1)])):=by
 rintro a w ⟨g,R⟩
 have ht:=R.tmp i
 rw [h1] at ht
 obtain ⟨g',R',T,hc⟩:=aHR (K:=K) R h2
 exact ⟨g',aE9 R' ⟨_,[],rfl,hc _ (cM ht),rfl⟩⟩
theorem Gho.aNK {i K:Nat} (e:TypeId) (sz:Nat) (h1:s.t i = .v false [.nil]) :
  Gho P base w0 N s ((s.dA K ((s.h K).1+1,.row e sz [] true)).aAr i (.v false [.row K ((s.h K).1+1)])):=by
 rintro a w ⟨g,R⟩
 have ht:=R.tmp i
 rw [h1] at ht
 obtain ⟨g',R',T,hc⟩:=aJU (K:=K) e sz R
 exact ⟨g',aE9 R' ⟨_,[],rfl,hc _ (cM ht),rfl⟩⟩
theorem aH.set {g:Gh} {h:sU} {w:World} : ∀ {cs:List SC} {vs:List Value} (c:Nat) (x y:SC),aH g h w cs vs→cs[c]? = some x→(∀v,sY g h w x v→sY g h w y v)→aH g h w (cs.set c y) vs
 | [],vs,c,x,y,hc,hx,_=>by simp at hx
 | z::cs,vs,0,x,y,hc,hx,hxy=>by
  obtain ⟨v,vs',rfl,h1,h2⟩:=hc
  simp at hx
  subst hx
  exact ⟨v,vs',rfl,hxy v h1,h2⟩
 | z::cs,vs,c+1,x,y,hc,hx,hxy=>by
  obtain ⟨v,vs',rfl,h1,h2⟩:=hc
  exact ⟨v,vs',rfl,h1,aH.set c x y h2 (by simpa using hx) hxy⟩
theorem aKn {g:Gh} {a:Act} {w:World} {b vb b':Nat} {t:TypeId} {cells cells':List SC} {vals:Array Value} (R:fE P base w0 N g s a w []) (hb:s.h b=(vb,.box t cells)) (h3:g.val b = .pointer (some ⟨b',0,none⟩)) (h5:w.heap[b']? = some (.cells vals t (0,0))) (hc:aH g s.h w cells' vals.toList) :
  ∃g',fE P base w0 N g' (s.dA b (vb,.box t cells')) a w []:=by
 have hb1:(s.h b).1=vb:=by rw [hb]
 have hb2:(s.h b).2 = .box t cells:=by rw [hb]
 have hlive:live s.h b:=by unfold live;rw [hb2];simp
 have hown:xG (g.val b)=some b':=by rw [h3];rfl
 have hnS:=R.inv.mtb b b' hlive hown
 have T:eO g { g with fp:=aA5 g.fp b (g.fp b) } s.h (iS s.h b ((s.h b).1,.box t cells')) w w:=
  eO.aAc hnS (fun _ _=>rfl) (by intro e sz xs dp hh';cases hh') (by intro t0 cs0 hh';cases hh';exact ⟨_,hb2⟩)
 have I':=R.inv.aAc (i:=b) (b:=b') (F:=g.fp b) (pool':=[]) (w':=w) hlive hown rfl (fun _ _=>rfl) T
  ⟨b',vals,h3,(R.inv.aAR hlive hown).1,h5,hc.turn T⟩ (by simp) List.nodup_nil (by rintro ⟨_,_,_,hh'⟩;cases hh')
 rw [hb1] at T I'
 exact ⟨_,R.turn T rfl R.below I'⟩
theorem aBG {g g':Gh} {a:Act} {w:World} {b vb c:Nat} {t:TypeId} {cells:List SC} {x y:SC} (R:fE P base w0 N g s a w []) (R':fE P base w0 N g' s' a w []) (T:eO g g' s.h s'.h w w) (h0:s.h b=(vb,.box t cells)) (h0':s'.h b=(vb,.box t cells)) (h1:cells[c]? = some x)
  (hc : ∀v,sY g s.h w x v→sY g' s'.h w y v):Rel P base w0 N (s'.dA b (vb,.box t (cells.set c y))) a w:=by
 have hob:=R.inv.obj b
 rw [show (s.h b).2 = .box t cells from by rw [h0]] at hob
 obtain ⟨b',vals,h3,h4,h5,h6⟩:=hob
 have hv:g'.val b=g.val b:=(T.box b t cells (by rw [h0',h0]) (by rw [h0'])).1
 have hnew : ∀ {cs:List SC} {vs:List Value} (c:Nat),aH g s.h w cs vs→cs[c]? = some x→aH g' s'.h w (cs.set c y) vs:=by
  intro cs
  induction cs with
  | nil=>intro vs c _ hx;simp at hx
  | cons z cs ih =>
   intro vs c hA hx
   obtain ⟨v,vs',rfl,k1,k2⟩:=hA
   cases c with
   | zero=>simp at hx;subst hx;exact ⟨v,vs',rfl,hc v k1,k2.turn T⟩
   | succ c=>exact ⟨v,vs',rfl,k1.turn T,ih c k2 (by simpa using hx)⟩
 exact aKn R' h0' (hv.trans h3) h5 (hnew c h6 h1)
theorem Gho.aL8 {b vb c j K vj:Nat} {t:TypeId} {cells:List SC} {e:TypeId} {sz:Nat} {xs:List (List D)} {dp:Bool} (h0:s.h b=(vb,.box t cells)) (h1:cells[c]? = some (.row j vj)) (h2:s.h j=(vj,.row e sz xs dp)) (hk:b≠K) :
  Gho P base w0 N s (((s.dA j (vj,.none)).dA K ((s.h K).1+1,.row e sz xs dp)).dA b (vb,.box t (cells.set c (.row K ((s.h K).1+1))))):=by
 rintro a w ⟨g,R⟩
 have hjb:b≠j:=fun e=>by rw [e,h2] at h0;cases h0
 obtain ⟨g',R',T,hc⟩:=aHR (K:=K) R h2
 refine aBG R R' T h0 ?_ h1 hc
 show iS (iS s.h j _) K _ b=_
 rw [bY _ _ _ _ hk,bY _ _ _ _ hjb,h0]
theorem Gho.aM2 {b vb c K:Nat} {t:TypeId} {cells:List SC} (e:TypeId) (sz:Nat) (h0:s.h b=(vb,.box t cells)) (h1:cells[c]? = some .nil) (hk:b≠K) :
  Gho P base w0 N s ((s.dA K ((s.h K).1+1,.row e sz [] true)).dA b (vb,.box t (cells.set c (.row K ((s.h K).1+1))))):=by
 rintro a w ⟨g,R⟩
 obtain ⟨g',R',T,hc⟩:=aJU (K:=K) e sz R
 refine aBG R R' T h0 ?_ h1 hc
 show iS s.h K _ b=_
 rw [bY _ _ _ _ hk,h0]
theorem sq {x y:Code} (h:SW P base w0 N x s (aft P base w0 N Z (.code y::k))):SW P base w0 N (.seq x y) s (aft P base w0 N Z k):=aLs h
theorem bk {id:Nat} {c:Code} (h:SW P base w0 N c s (aft P base w0 N Z (.block id::k))):SW P base w0 N (.block id c) s (aft P base w0 N Z k):=aKX h
theorem sk (h:aft P base w0 N Z k .normal s):SW P base w0 N .skip s (aft P base w0 N Z k):=aLD h
theorem xt {id:Nat} (h:aft P base w0 N Z k (.exit id) s):SW P base w0 N (.exit id) s (aft P base w0 N Z k):=aLM h
theorem rt (h:Z s):SW P base w0 N .ret s (aft P base w0 N Z k):=aLw h
theorem an {c:Code} (h:SW P base w0 N c s (aft P base w0 N Z k)):aft P base w0 N Z (.code c::k) .normal s:=h
theorem ab {id:Nat} (h:aft P base w0 N Z k .normal s):aft P base w0 N Z (.block id::k) .normal s:=h
end
end Go.Sh
namespace Go.Sh
open Go.RowKit
section
variable {P:Program} {base N:Nat} {w0:W0} {Z:St→Prop} {k:List Fr} {s s':St}
theorem aIN {g:Gh} {a:Act} {w:World} {j vj:Nat} {e:TypeId} {sz:Nat} {xs:List (List D)} {dp:Bool} (R:fE P base w0 N g s a w []) (h2:s.h j=(vj,.row e sz xs dp)) :
  ∃g',fE P base w0 N g' (s.dA j (vj,.none)) a w []∧eO g g' s.h (s.dA j (vj,.none)).h w w ∧ ∀v,sY g s.h w (.row j vj) v→sY g' (s.dA j (vj,.none)).h w (.dat (.sl xs)) v:=by
 have hj1:(s.h j).1=vj:=by rw [h2]
 have hj2:(s.h j).2 = .row e sz xs dp:=by rw [h2]
 obtain ⟨S',F,hS,_,hrep,_,_,hF,_,I1⟩:=R.inv.take hj2
 have T1:=eO.drop (g:=g) (h:=s.h) (w:=w) j S' hS
 rw [hj1] at I1 T1
 refine ⟨_,R.turn T1 rfl R.below I1.forget,T1,?_⟩
 rintro v ⟨h0,_,hv⟩
 have e1:v=g.val j:=hv hj1 e sz xs dp hj2
 subst e1
 exact ⟨F,hrep,hF⟩
theorem aH.swap {g g':Gh} {h h':sU} {w:World} {x y:SC} (T:eO g g' h h' w w) (hc : ∀v,sY g h w x v→sY g' h' w y v) : ∀ {cs:List SC} {vs:List Value} (c:Nat),aH g h w cs vs→cs[c]? = some x→aH g' h' w (cs.set c y) vs
 | [],_,c,_,hx=>by simp at hx
 | z::cs,vs,0,hA,hx=>by
  obtain ⟨v,vs',rfl,k1,k2⟩:=hA
  simp at hx
  subst hx
  exact ⟨v,vs',rfl,hc v k1,k2.turn T⟩
 | z::cs,vs,c+1,hA,hx=>by
  obtain ⟨v,vs',rfl,k1,k2⟩:=hA
  exact ⟨v,vs',rfl,k1.turn T,aH.swap T hc c k2 (by simpa using hx)⟩
theorem Gho.aNX {i c j vj:Nat} {ag:Bool} {cs:List SC} {e:TypeId} {sz:Nat} {xs:List (List D)} {dp:Bool} (h1:s.t i = .v ag cs) (hc:cs[c]? = some (.row j vj)) (h2:s.h j=(vj,.row e sz xs dp)) :
  Gho P base w0 N s ((s.dA j (vj,.none)).aAr i (.v ag (cs.set c (.dat (.sl xs))))):=by
 rintro a w ⟨g,R⟩
 have ht:=R.tmp i
 rw [h1] at ht
 obtain ⟨g',R',T,hv⟩:=aIN R h2
 refine ⟨g',aE9 R' ?_⟩
 cases ag with
 | false=>exact aH.swap T hv c ht hc
 | true =>
  obtain ⟨vs,h3,h4⟩:=ht
  exact ⟨vs,h3,aH.swap T hv c h4 hc⟩
theorem Gho.aNr {b vb c j vj:Nat} {t:TypeId} {cells:List SC} {e:TypeId} {sz:Nat} {xs:List (List D)} {dp:Bool} (h0:s.h b=(vb,.box t cells)) (h1:cells[c]? = some (.row j vj)) (h2:s.h j=(vj,.row e sz xs dp)) :
  Gho P base w0 N s ((s.dA j (vj,.none)).dA b (vb,.box t (cells.set c (.dat (.sl xs))))):=by
 rintro a w ⟨g,R⟩
 have hjb:b≠j:=fun e=>by rw [e,h2] at h0;cases h0
 obtain ⟨g',R',T,hc⟩:=aIN R h2
 refine aBG R R' T h0 ?_ h1 hc
 show iS s.h j _ b=_
 rw [bY _ _ _ _ hjb,h0]
end
end Go.Sh
namespace Go.Sh
open Go.RowKit
theorem aGz {α:Type} {xs z:List α} {i:Int} (h:wK xs i=some z):0≤i∧i.toNat≤xs.length:=by
 unfold wK at h
 split at h
 ·assumption
 ·cases h
theorem aEb {α:Type} {xs z:List α} {i:Int} (h:wK xs i=some z):i.toNat+(xs.length-i.toNat)=xs.length:=by have:=aGz h;omega
theorem aF2 {α:Type} {f:α→List D} {xs z:List α} {i:Int} {r:List D} (h:wK xs i=some z):0≤i∧i.toNat≤(List.map f (List.take i.toNat xs)++List.replicate (xs.length-i.toNat) r).length:=by
 have:=aGz h
 refine ⟨this.1,?_⟩
 rw [qE,List.length_map,qS,List.length_replicate]
 omega
theorem aKE {α:Type} {f:α→List D} {xs z:List α} {i:Int} {n:Nat} {r:List D} (h:wK xs i=some z):(List.map f (List.take i.toNat xs)++List.replicate n r).take i.toNat=List.map f (List.take i.toNat xs):=by
 have:=aGz h
 exact List.take_left' (by rw [List.length_map,qS];omega)
end Go.Sh
namespace Go.Sh
open Go.RowKit
end Go.Sh
namespace Go.Sh
open Go.RowKit
def aL6 (t:TypeId) (B:Nat) (v0:Value) (d0:D) (ds:List D) (rest:List (Bool×List D)):St:=
 { t:=fun i=>match i with | 0=>.v false [.bp 7059000 1 0] | i+1=>(match rest[i]? with | some (ag,ds)=>.v ag (ds.map .dat) | none=>.undef),h:=fun i=>if i=7059000 then (1,.box t (.old B d0 (some v0)::ds.map .dat)) else (0,.none) }
theorem aK3 (t:TypeId) (B:Nat) (v0:Value) (d0:D) (ds:List D) (rest:List (Bool×List D)) (i:Nat):(aL6 t B v0 d0 ds rest).t i=match i with | 0=>.v false [.bp 7059000 1 0] | i+1=>(match rest[i]? with | some (ag,ds)=>.v ag (ds.map .dat) | none=>.undef):=rfl
theorem aLW (t:TypeId) (B:Nat) (v0:Value) (d0:D) (ds:List D) (rest:List (Bool×List D)) (i:Nat):(aL6 t B v0 d0 ds rest).h i=if i=7059000 then (1,.box t (.old B d0 (some v0)::ds.map .dat)) else (0,.none):=rfl
def aRI (T:aG2) (vars:List ResultVar) (t:TypeId) (B:Nat) (v0:Value) (d0:D) (es:List D) (rs:List (Bool×List RC)) (s:St):Prop:=
 Ret T vars rs s∧s.h 7059000=(1,.box t (.old B d0 (some v0)::es.map .dat))
end Go.Sh
namespace Go.Sh
open Go.RowKit
section
variable {P:Program} {base N:Nat} {w0:W0} {w:World} {g:Gh} {s:St} {a:Act}
theorem aIk {Q:Exit→Act→World→Prop} {ops:Array Oper} {K:St→Prop} (m:Nat) : ∀(l:List Oper) (i:Nat) {s:St} {a:Act} {w:World},(ops.toList.drop i).take l.length=l→Rel P base w0 N s a w→yY P (cO P) N ops l s K →
  (∀s' a' w',K s'→Rel P base w0 N s' a' w'→wpOps P ops Q (List.range' (i+l.length) m) a' w')→wpOps P ops Q (List.range' i (l.length+m)) a w
 | [],i,s,a,w,hl,R,h,hq=>by simpa using hq s a w h R
 | o::l,i,s,a,w,hl,R,h,hq=>by
  rw [show (o::l).length+m=(l.length+m)+1 from by simp;omega,List.range'_succ,wpOps_cons]
  have hi:ops[i]? = some o:=by
   have:((ops.toList.drop i).take (o::l).length)[0]? = some o:=by rw [hl];rfl
   rw [List.getElem?_take] at this
   simp at this
   exact this
  have hl':(ops.toList.drop (i+1)).take l.length=l:=by
   have h1:(ops.toList.drop i)=o::ops.toList.drop (i+1):=by
    have hlt:i<ops.toList.length:=by simpa using (Array.getElem?_eq_some_iff.1 hi).1
    rw [qU hlt]
    have:ops.toList[i]? = some o:=by simpa using hi
    rw [qF hlt] at this
    simp at this
    simp [this]
   rw [h1] at hl
   simpa using hl
  refine wpOp_mono ?_ (aGX hi R h)
  rintro a' w' ⟨s',k1,k2⟩
  refine aIk m l (i+1) hl' k2 k1 fun s2 a2 w2 h2 R2 => ?_
  have:=hq s2 a2 w2 h2 R2
  rwa [show i+(o::l).length=i+1+l.length from by simp;omega] at this
def aNG (s:St):Operand→SV
 | .tmp t=>s.t t
 | .const c=>cst c
 | .func f=>.v false [.dat (.fn f [])]
 | .global _=>.unk
theorem aKQ (R:fE P base w0 N g s a w []) (x:Operand):lS g s.h w (aNG s x) (a.eval x):=by
 cases x with
 | tmp t=>exact R.tmp t
 | const c=>exact aJQ c g s.h w
 | func f=>exact ⟨_,[],rfl,⟨[],by simp only [Rep];exact ⟨[],rfl,by simp [aD]⟩,by simp⟩,rfl⟩
 | global gl=>trivial
def aMF (s:St) (as:List Operand):St:=
 { t:=fun i=>match as[i]? with | some x=>aNG s x | none=>.undef,h:=s.h,fr:=fun i=>if i<10000 then s.t i else s.fr (i-10000) }
def aLR (w0:W0) (a:Act) (i:Nat):Value:=if i<10000 then a.tmps.getD i undef else w0.fv (i-10000)
def aMB (s:St) (d:Nat) (sv:SV):St:=
 { t:=fun i=>if i=d then sv else if i<10000 then s.fr i else .unk,h:=s.h,fr:=fun i=>s.fr (i+10000) }
theorem aLG (w0:W0) (a:Act) (i:Nat):aLR w0 a (i+10000)=w0.fv i:=by
 unfold aLR
 have h1 : ¬i+10000<10000:=by omega
 have h2:i+10000-10000=i:=by omega
 rw [if_neg h1,h2]
theorem aKi (s:St) (as:List Operand) (i:Nat):(aMF s as).t i=match as[i]? with | some x=>aNG s x | none=>.undef:=rfl
theorem aMI (s:St) (as:List Operand) (i:Nat):(aMF s as).h i=s.h i:=rfl
theorem aJS (s:St) (as:List Operand) (i:Nat):(aMF s as).fr i=if i<10000 then s.t i else s.fr (i-10000):=rfl
theorem aK1 (s:St) (d:Nat) (sv:SV) (i:Nat):(aMB s d sv).t i=if i=d then sv else if i<10000 then s.fr i else .unk:=rfl
theorem aLp (s:St) (d:Nat) (sv:SV) (i:Nat):(aMB s d sv).h i=s.h i:=rfl
theorem aI4 (s:St) (d:Nat) (sv:SV) (i:Nat):(aMB s d sv).fr i=s.fr (i+10000):=rfl
theorem St.aK8 (s:St) (t:Nat) (v:SV) (i:Nat):(s.aAr t v).fr i=s.fr i:=rfl
theorem St.aLC (s:St) (t:Nat) (v:Nat×aBJ) (i:Nat):(s.dA t v).fr i=s.fr i:=rfl
def aIx:List (Bool×List SC)→SV
 | [(ag,cs)]=>.v ag cs
 | l=>.tup l
def aLk (P:Program) (T:aG2) (vars:List ResultVar) (N:Nat) (ops:Array Oper) (n d:Nat) (K:St→Prop) (s:St):Prop:=
 ∃l,aA6 T s vars=some l∧yY P T N ops (ops.toList.drop (n+1)) (aMB s d (aIx l)) K
set_option maxRecDepth 20000 in
theorem aIL {Z:St→Prop} {kf:List Fr} {id n f d N':Nat} {ops:Array Oper} {o:Oper} {as:Array Operand} {ts:Array TypeId} {s1:St} {fn:Func} {c:Code} {vars:List ResultVar}
  (ho:ops.toList[n]? = some o) (hop:o.op = .call { callee:=.value (.func f),args:=as,argTypes:=ts }) (hg:o.guard=none) (hd:o.dst=some d) (hdN:d<N)
  (hf : P.funcs[f]? = some fn) (hb : fn.body = some c) (hN : fn.ntmps = N') (hv : fn.results.toList = vars) (hnm : (fn.name == "runtime.NumGoroutine") = false) (hn : as.toList.length ≤ N')
  (h1:yY P (cO P) N ops (ops.toList.take n) s (Is s1))
  (h : ∀fv,SW P base { w0 with fv:=fv } N' c (aMF s1 as.toList) (aft P base { w0 with fv:=fv } N' (aLk P (cO P) vars N ops n d (fun s3=>aft P base w0 N Z kf .normal s3)) [])) :
  SW P base w0 N (.region id ops false) s (aft P base w0 N Z kf):=by
 subst hN hv
 intro a w R
 refine wp_region ?_
 have hlt:n<ops.toList.length:=(List.getElem?_eq_some_iff.1 ho).1
 have hoi:ops[n]? = some o:=by simpa using ho
 have hsz:ops.size=ops.toList.length:=by simp
 have htl:(ops.toList.take n).length=n:=by rw [qS];omega
 rw [List.range_eq_range',hsz,show ops.toList.length=(ops.toList.take n).length+((ops.toList.drop (n+1)).length+1) from by rw [htl,qT];omega]
 refine aIk _ (ops.toList.take n) 0 (by rw [htl];simp) R h1 fun s' a' w' hs R' => ?_
 rw [show s'=s1 from hs] at R'
 rw [htl,Nat.zero_add,List.range'_succ,wpOps_cons]
 obtain ⟨g,R'⟩:=R'
 have hmid:wpOp P ops (fun e a' w'=>∃s',aft P base w0 N Z kf e s'∧Rel P base w0 N s' a' w') n (fun a2 w2=>∃s2,yY P (cO P) N ops (ops.toList.drop (n+1)) s2 (fun s3=>aft P base w0 N Z kf .normal s3)∧Rel P base w0 N s2 a2 w2) a' w':=by
  unfold wpOp
  simp only [hoi]
  rw [if_pos (by simp [Region.wanted,hg])]
  refine .inl ?_
  unfold Oper.wp
  have hrun:(execOp a'.eval o).run P w' = .ok (.enter f (as.map a'.eval)) w':=by
   simp [execOp,hop,resolve,Act.eval,Deferred.ofValue,invoke,aAW ⟨fn,c,hf,hb,hnm⟩]
  rw [hrun]
  unfold Oper.upon
  refine calls_of_wp hf hb ?_
  let fv:=aLR w0 a'
  have hvl:(as.map a'.eval).size=as.toList.length:=by simp
  have R2:fE P base { w0 with fv:=fv } fn.ntmps g (aMF s1 as.toList) { tmps:=as.map a'.eval++Array.replicate (fn.ntmps-(as.map a'.eval).size) undef,defers:=[] } w' []:=by
   refine ⟨rfl,by simp only [Array.size_append,Array.size_replicate];omega,R'.below,R'.q,R'.tG,R'.inv,fun i => ?_,R'.lab,fun i => ?_⟩
   ·rw [aKi]
    cases hx:as.toList[i]? with
    | none =>
     have hge:as.toList.length≤i:=List.getElem?_eq_none_iff.1 hx
     show _=undef
     simp only [Array.getD_eq_getD_getElem?,Array.getElem?_append]
     rw [if_neg (by omega)]
     by_cases h2:i-(as.map a'.eval).size<fn.ntmps-(as.map a'.eval).size
     ·rw [Array.getElem?_replicate,if_pos h2];rfl
     ·rw [Array.getElem?_replicate,if_neg h2];rfl
    | some x =>
     have hil:i<as.toList.length:=(List.getElem?_eq_some_iff.1 hx).1
     have hv:(as.map a'.eval++Array.replicate (fn.ntmps-(as.map a'.eval).size) undef).getD i undef=a'.eval x:=by
      simp only [Array.getD_eq_getD_getElem?,Array.getElem?_append]
      rw [if_pos (by omega),Array.getElem?_map]
      have:as[i]? = some x:=by simpa using hx
      rw [this];rfl
     rw [show ({ tmps:=as.map a'.eval++Array.replicate (fn.ntmps-(as.map a'.eval).size) undef,defers:=[] }:Act).tmps.getD i undef=a'.eval x from hv]
     exact aKQ R' x
   ·rw [aJS]
    show lS g s1.h w' _ (aLR w0 a' i)
    unfold aLR
    split
    ·exact R'.tmp i
    ·exact R'.frm _
  refine wp_mono (h fv _ w' ⟨g,R2⟩) ?_
  rintro e a2 w2 ⟨s2,k1,g2,R3⟩
  have fin:aLk P (cO P) fn.results.toList N ops n d (fun s3=>aft P base w0 N Z kf .normal s3) s2→a2.defers=[] ∧ ∃v,(results fn a2.tmps).run P w2 = .ok v w2 ∧
    ∃s2,yY P (cO P) N ops (ops.toList.drop (n+1)) s2 (fun s3=>aft P base w0 N Z kf .normal s3)∧Rel P base w0 N s2 (a'.put o.dst v) w2:=by
   rintro ⟨l,hgt,hrest⟩
   obtain ⟨vs,m1,m2,m3⟩:=aAz R3 hgt
   have hrun:=aE3 (P:=P) (w:=w2) (fun x=>match x with | .tmp t=>(pure (a2.tmps.getD t undef):Sem Value) | .cell p t=>(do loadVar t (←asAddr (a2.tmps.getD p undef)):Sem Value)) fn.results.toList vs (by rw [m1]) m3
   have hrun':(results fn a2.tmps).run P w2 = .ok (if h:vs.toArray.size=1 then vs.toArray[0] else .tuple vs.toArray) w2:=by
    unfold results
    rw [←Array.toArray_toList (xs:=fn.results)]
    rw [List.mapM_toArray]
    simp only [Sem.run_bind,Sem.run_map,Sem.run_pure]
    exact (congrArg (fun r:Result (List Value)=>(r.andThen fun a w'=>Result.ok a.toArray w').andThen fun a w'=>Result.ok (if h:a.size=1 then a[0] else Value.tuple a) w') hrun).trans rfl
   refine ⟨R3.defers,_,hrun',_,hrest,?_⟩
   have hres:lS g2 s2.h w2 (aIx l) (if h:vs.toArray.size=1 then vs.toArray[0] else .tuple vs.toArray):=by
    match l,vs,m2 with
    | [],[],m2=>exact ⟨#[],rfl,rfl⟩
    | [(ag,cs)],[v],m2 =>
     obtain ⟨v',vs',e1,e2,e3⟩:=m2
     simp only [List.cons.injEq] at e1
     obtain ⟨rfl,rfl⟩:=e1
     exact e2
    | [(ag,cs)],v::v'::vs,m2 =>
     obtain ⟨v1,vs1,e1,e2,e3⟩:=m2
     simp only [List.cons.injEq] at e1
     obtain ⟨rfl,rfl⟩:=e1
     cases e3
    | x::y::l,[v],m2 =>
     obtain ⟨v1,vs1,e1,e2,v2,vs2,e3,_⟩:=m2
     simp only [List.cons.injEq] at e1
     rw [e3] at e1
     simp at e1
    | x::y::l,v::v'::vs,m2 =>
     have hne : ¬(v::v'::vs).toArray.size=1:=by simp
     rw [dif_neg hne]
     exact ⟨_,rfl,by simpa using m2⟩
    | [],v::vs,m2=>cases m2
    | x::l,[],m2=>obtain ⟨v1,vs1,e1,_⟩:=m2;cases e1
   generalize (if h:vs.toArray.size=1 then vs.toArray[0] else Value.tuple vs.toArray)=v at hres
   refine ⟨g2,by simp [Act.put,hd,R'.defers],by simp [Act.put,hd,R'.size],R3.below,R3.q,R3.tG,R3.inv,fun i => ?_,R3.lab,fun i => ?_⟩
   ·rw [aK1,hd,aHE R'.size hdN]
    by_cases hi:i=d
    ·rw [if_pos hi,if_pos hi];exact hres
    ·rw [if_neg hi,if_neg hi]
     by_cases h1:i<10000
     ·rw [if_pos h1]
      have:=R3.frm i
      rw [show ({ w0 with fv:=fv }:W0).fv i=a'.tmps.getD i undef from by show aLR w0 a' i=_;unfold aLR;rw [if_pos h1]] at this
      exact this
     ·rw [if_neg h1];trivial
   ·rw [aI4]
    have h:=R3.frm (i+10000)
    have e:({ w0 with fv:=fv }:W0).fv (i+10000)=w0.fv i:=aLG w0 a' i
    rw [e] at h
    exact h
  cases e with
  | normal=>exact fin k1
  | ret=>exact fin k1
  | exit id=>exact k1.elim
  | goto l=>exact k1.elim
  | panic c=>exact k1.elim
  | outgrown=>exact k1.elim
 refine wpOp_mono (fun a2 w2 R2 => ?_) hmid
 obtain ⟨s2,k1,k2⟩:=R2
 exact aGo (Q:=fun e a' w'=>∃s',aft P base w0 N Z kf e s'∧Rel P base w0 N s' a' w') (ops.toList.drop (n+1)) (n+1) rfl k2 k1 fun s' a' w' h1 h2=>⟨s',h1,h2⟩
def aQK:=PLift.up (qI @aKi (qI @aMI (qI @aJS (qI @aK1 (qI @aLp (qI @aI4 (qI @St.aK8 @St.aLC)))))))
theorem LI:type_of% aQK.down:=aQK.down
end
end Go.Sh
namespace Go.Sh
open Go.RowKit
def aNP (h:sU) (kh:List Nat) (i ver:Nat) (e:TypeId) (sz:Nat) (xs:List (List D)) (j:Nat) (x:List D) (off K:Nat) (e':TypeId) (sz':Nat) (ys:List (List D)) (u:Value):sU:=fun l =>
 if l=i then (ver,.row e sz (xs.set j (x.set off (.val u))) true) else if l=K then ((h K).1+1,.row e' sz' ys true) else if l=7058000 then ((h 7058000).1+1,.pin K ((h K).1+1) u) else if l∈kh then h l else ((h l).1,.none)
def aKh (s:St) (kt kh:List Nat) (i ver:Nat) (e:TypeId) (sz:Nat) (xs:List (List D)) (j:Nat) (x:List D) (off K:Nat) (e':TypeId) (sz':Nat) (ys:List (List D)) (u:Value):St:=
 { t:=fun t=>if t∈kt then s.t t else .unk,h:=aNP s.h kh i ver e sz xs j x off K e' sz' ys u }
theorem aKZ (s:St) (kt kh:List Nat) (i ver:Nat) (e:TypeId) (sz:Nat) (xs:List (List D)) (j:Nat) (x:List D) (off K:Nat) (e':TypeId) (sz':Nat) (ys:List (List D)) (u:Value) (t:Nat):(aKh s kt kh i ver e sz xs j x off K e' sz' ys u).t t=if t∈kt then s.t t else .unk:=rfl
theorem aJ4 (s:St) (kt kh:List Nat) (i ver:Nat) (e:TypeId) (sz:Nat) (xs:List (List D)) (j:Nat) (x:List D) (off K:Nat) (e':TypeId) (sz':Nat) (ys:List (List D)) (u:Value) (l:Nat):(aKh s kt kh i ver e sz xs j x off K e' sz' ys u).h l =
  if l=i then (ver,.row e sz (xs.set j (x.set off (.val u))) true) else if l=K then ((s.h K).1+1,.row e' sz' ys true) else if l=7058000 then ((s.h 7058000).1+1,.pin K ((s.h K).1+1) u) else if l∈kh then s.h l else ((s.h l).1,.none):=rfl
section
variable {P:Program} {base N:Nat} {w0:W0} {w:World} {g:Gh} {s:St} {a:Act}
theorem bI.at_ {L:TL} {ds:List D} {ts:Lb} {vs:List Value} {F:List Nat} (h:bI L w ds ts vs F) {off:Nat} {d:D} (hd:ds[off]? = some d) :
  ∃v1 v v3 F1 F2 F3,vs=v1++v::v3∧v1.length=off∧F=F1++(F2++F3)∧yJ L w d (Sh.lab (ts.drop off)) v F2 ∧ ∀(d':D) (v':Value) (F':List Nat),yJ L w d' (Sh.lab (ts.drop off)) v' F'→bI L w (ds.set off d') ts (v1++v'::v3) (F1++(F'++F3)):=by
 induction ds generalizing ts vs F off with
 | nil=>simp at hd
 | cons d0 ds ih =>
  simp only [bI] at h
  obtain ⟨v,vs',F1,F2,rfl,rfl,h3,h4⟩:=h
  cases off with
  | zero =>
   simp at hd
   subst hd
   refine ⟨[],v,vs',[],F1,F2,rfl,rfl,rfl,by simpa using h3,fun d' v' F' h' => ?_⟩
   simp only [List.set_cons_zero,bI,List.nil_append]
   exact ⟨v',vs',F',F2,rfl,rfl,by simpa using h',h4⟩
  | succ off =>
   obtain ⟨v1,v2,v3,G1,G2,G3,rfl,hl,rfl,k1,k2⟩:=ih h4 (by simpa using hd)
   rw [List.drop_tail] at k1 k2
   refine ⟨v::v1,v2,v3,F1++G1,G2,G3,rfl,by simp [hl],by simp,k1,fun d' v' F' h' => ?_⟩
   simp only [List.set_cons_succ,bI]
   exact ⟨v,v1++v'::v3,F1,G1++(F'++G3),by simp,by simp,h3,k2 d' v' F' h'⟩
end
end Go.Sh
namespace Go.Sh
open Go.RowKit
def aLj (B:Nat) (d:D):SC:=if d.flat=true then .dat d else .old B d none
def aLu (B:Nat) (args:List (Bool×List D)):St:=
 { t:=fun i=>match args[i]? with | some (ag,ds)=>.v ag (ds.map (aLj B)) | none=>.undef,h:=fun _=>(0,.none) }
theorem aLe (B:Nat) (args:List (Bool×List D)) (i:Nat):(aLu B args).t i=match args[i]? with | some (ag,ds)=>.v ag (ds.map (aLj B)) | none=>.undef:=rfl
theorem aLL (B:Nat) (args:List (Bool×List D)) (i:Nat):(aLu B args).h i=(0,.none):=rfl
theorem aJ8 (B:Nat) (k:IntKind) (n:Int):aLj B (.int k n) = .dat (.int k n):=rfl
theorem aJL (B:Nat) (b:Bool):aLj B (.bool b) = .dat (.bool b):=rfl
theorem aKg (B:Nat) (b:ByteArray):aLj B (.str b) = .dat (.str b):=rfl
theorem aLK (B:Nat) (xs:List (List D)):aLj B (.sl xs) = .old B (.sl xs) none:=rfl
theorem aJA (B:Nat) (d:D) (u:Option Value) (cs:List SC) (k:List D→Prog):wV (.old B d u::cs) k=wV cs fun ds=>k (d::ds):=rfl
theorem Gho.shallow {P:Program} {base N:Nat} {w0:W0} {s:St} {i ver:Nat} {e:TypeId} {sz:Nat} {xs:List (List D)} (hi:s.h i=(ver,.row e sz xs true)):Gho P base w0 N s (s.dA i (ver,.row e sz xs false)):=by
 rintro a w ⟨g,R⟩
 have hi2:(s.h i).2 = .row e sz xs true:=by rw [hi]
 have T:eO g g s.h (iS s.h i (ver,.row e sz xs false)) w w:=by
  refine ⟨fun _ x=>x,fun _ _=>rfl,fun j => ?_,fun j e' sz' ys dp' _ hj=>⟨rfl,?_⟩,fun j t cs _ hj=>⟨rfl,?_⟩,rfl⟩
  ·by_cases hj:j=i
   ·subst hj;rw [aU,hi];exact Nat.le_refl _
   ·rw [bY _ _ _ _ hj];exact Nat.le_refl _
  ·by_cases hji:j=i
   ·subst hji;rw [aU] at hj;cases hj;exact ⟨xs,true,hi2⟩
   ·rw [bY _ _ _ _ hji] at hj;exact ⟨ys,dp',hj⟩
  ·by_cases hji:j=i
   ·subst hji;rw [aU] at hj;cases hj
   ·rw [bY _ _ _ _ hji] at hj;exact ⟨cs,hj⟩
 have lv : ∀j,live (iS s.h i (ver,.row e sz xs false)) j→live s.h j:=fun j hl=>by
  by_cases hj:j=i
  ·subst hj;unfold live;rw [hi2];simp
  ·unfold live at hl ⊢;rw [bY _ _ _ _ hj] at hl;exact hl
 have dv : ∀j,eQ (iS s.h i (ver,.row e sz xs false)) j→eQ s.h j:=fun j hl=>by
  obtain ⟨e',sz',ys,hh⟩:=hl
  by_cases hj:j=i
  ·subst hj;rw [aU] at hh;cases hh
  ·rw [bY _ _ _ _ hj] at hh;exact ⟨e',sz',ys,hh⟩
 have I:=R.inv
 refine ⟨g,R.turn T rfl R.below ⟨I.base_le,I.S_old,I.S_lt,fun j => ?_,fun j b hl=>I.mtb j b (lv j hl),fun j k b hne hl hk=>I.inj j k b hne (lv j hl) (lv k hk),fun j k hne hj hk=>I.dis j k hne (dv j hj) (dv k hk),I.pool_own,I.pool_S,fun j hd=>I.pool_dis j (dv j hd),I.fb⟩⟩
 show wX base g (iS s.h i (ver,.row e sz xs false)) w j (iS s.h i (ver,.row e sz xs false) j).2
 by_cases hj:j=i
 ·subst hj
  rw [aU]
  have ho:=I.obj j
  rw [hi2] at ho
  obtain ⟨cells,h1,h2,h3,h4,_⟩:=ho
  exact ⟨cells,h1,h2,h3.rep,h4,fun h=>by cases h⟩
 ·rw [bY _ _ _ _ hj]
  exact wX.turn T rfl rfl (fun _ _=>rfl) (I.obj j)
theorem exI {P:Program} {T:aG2} {N:Nat} {ops:Array Oper} {l:List Oper} {s s3:St} {K:St→Prop} (h:yY P T N ops l s (Is s3)) (hk:K s3):yY P T N ops l s K:=
 aBy l (fun τ hτ=>by rw [show τ=s3 from hτ];exact hk) h
def aOU:=PLift.up (qI @aK3 (qI @aLW (qI @aLe (qI @aLL (qI @aJ8 (qI @aJL (qI @aKg (qI @aLK (qI @aJA (qI @aKZ (qI @aJ4 (qI @List.set_set.{0} @List.length_set.{0}))))))))))))
theorem LN:type_of% aOU.down:=aOU.down
end Go.Sh
namespace Go.Sh
open Go.RowKit
section
variable {P:Program} {base N:Nat} {w0:W0} {s:St}
theorem aIO {g:Gh} {a:Act} {w:World} {j K vj n:Nat} {e:TypeId} {sz:Nat} {xs ys:List (List D)} {dp:Bool} {v:Value} (R:fE P base w0 N g s a w []) (h2:s.h j=(vj,.row e sz xs dp)) (hn:n≤xs.length) (hys:xs.take n=ys) (hv:sY g s.h w (.part j vj 0 n) v) :
  ∃g',fE P base w0 N g' ((s.dA j (vj,.none)).dA K ((s.h K).1+1,.row e sz ys dp)) a w []∧eO g g' s.h ((s.dA j (vj,.none)).dA K ((s.h K).1+1,.row e sz ys dp)).h w w ∧
   sY g' ((s.dA j (vj,.none)).dA K ((s.h K).1+1,.row e sz ys dp)).h w (.row K ((s.h K).1+1)) v:=by
 have hj1:(s.h j).1=vj:=by rw [h2]
 have hj2:(s.h j).2 = .row e sz xs dp:=by rw [h2]
 have hob:=R.inv.obj j
 rw [hj2] at hob
 obtain ⟨cells,p1,p2,p3,p4,p5⟩:=hob
 obtain ⟨I1,hfr⟩:=R.inv.yN hj2
 rw [hj1] at I1 hfr
 have T1:eO g g s.h (iS s.h j (vj,.none)) w w:=by have:=eO.drop (g:=g) (h:=s.h) (w:=w) j g.S fun _ x=>x;rw [hj1] at this;exact this
 have hver:(iS s.h j (vj,.none) K).1=(s.h K).1:=by
  by_cases hk:K=j
  ·subst hk;rw [aU,hj1]
  ·rw [bY _ _ _ _ hk]
 obtain ⟨hv0,_,hv⟩:=hv
 obtain ⟨ad,c,rfl,k2,_,k4⟩:=hv hj1 e sz xs dp hj2
 obtain ⟨m,k5,k6⟩:=k4 rfl
 have hyl:ys.length=n:=by rw [←hys,qS,Nat.min_eq_left hn]
 have hsp:bW g.Q.L dp w e (xs.take n++xs.drop n) cells (g.fp j):=by rw [List.take_append_drop];exact p3
 obtain ⟨v1,v2,F1,F2,hce,hF,q1,q2⟩:=bW.split hsp
 rw [hys] at q1
 have hxl : ∀y∈ys,y.length=sz:=fun y hy=>p2 y (List.mem_of_mem_take (hys ▸ hy))
 have hl1:v1.length=n*sz:=by rw [←hyl];exact aG.length q1.rep hxl
 have ho:w.ownsRow base e sz (.slice ad n c) ys.length v1:=by
  rw [hyl]
  refine ⟨hl1,?_⟩
  rcases p1.2 with ⟨h6,h7⟩ | ⟨gg,cap,cur,h6,h7,h8,h9,h10,h11,h12⟩
  ·rw [k5] at h6
   simp at h6
   obtain ⟨rfl,rfl,rfl⟩:=h6
   have:n=0:=by omega
   subst this
   exact .inl ⟨rfl,rfl⟩
  ·rw [k5] at h6
   simp at h6
   obtain ⟨rfl,rfl,rfl⟩:=h6
   refine .inr ⟨gg,c,cur,rfl,h7,h8,k2,h10,h11,?_⟩
   have:(cur.toList.take (xs.length*sz)).take (n*sz)=v1:=by rw [h12,hce];exact List.take_left' hl1
   rw [List.take_take,Nat.min_eq_left (Nat.mul_le_mul_right sz hn)] at this
   exact this
 have hob2 : ∀b,xG (.slice ad n c)=some b→xG (g.val j)=some b:=by
  intro b hb
  rw [k5]
  cases ad<;>first | (simp [xG] at hb;done) | simpa [xG] using hb
 have I2:=I1.yR (i:=K) (v:=.slice ad n c) (e:=e) (sz:=sz) (xs:=ys) (dp:=dp) (cells:=v1) (F:=F1) (pool':=[]) ho hxl q1 (fun b hb=>p4 b (by rw [hF];simp [hb])) (fun b hb=>hfr b (hob2 b hb)) (by simp) List.nodup_nil (fun hd=>by
  subst hd
  simp only [if_true,List.nil_append]
  have hnd:=(p5 rfl).1
  rw [hF] at hnd ⊢
  exact ⟨(List.nodup_append.1 hnd).1,fun b hb=>⟨by simp [hb],by simp⟩⟩)
 have T2:=eO.create (g:=g) (h:=iS s.h j (vj,.none)) (w:=w) K (.slice ad n c) F1 (.row e sz ys dp)
 rw [hver] at I2 T2
 refine ⟨_,R.turn (T1.trans T2) rfl R.below I2,T1.trans T2,hv0,?_,?_⟩
 ·show _≤(iS _ K _ K).1
  rw [aU];exact Nat.le_refl _
 ·intro _ e' sz' xs' dp' _
  show _=aA5 g.val K (.slice ad n c) K
  rw [cW]
theorem aH.aKk {g g':Gh} {h h':sU} {w:World} (T:eO g g' h h' w w) {y:SC} : ∀ {cs:List SC} {vs:List Value} (c:Nat) (x:SC) (v:Value),aH g h w cs vs→cs[c]? = some x→vs[c]? = some v→sY g' h' w y v→aH g' h' w (cs.set c y) vs
 | [],vs,c,x,v,hc,hx,_,_=>by simp at hx
 | z::cs,vs,0,x,v,hc,hx,hv,hy=>by
  obtain ⟨v0,vs',rfl,h1,h2⟩:=hc
  simp at hv
  subst hv
  exact ⟨v0,vs',rfl,hy,aH.turn T h2⟩
 | z::cs,vs,c+1,x,v,hc,hx,hv,hy=>by
  obtain ⟨v0,vs',rfl,h1,h2⟩:=hc
  exact ⟨v0,vs',rfl,sY.turn T h1,aH.aKk T c x v h2 (by simpa using hx) (by simpa using hv) hy⟩
theorem aH.get {g:Gh} {h:sU} {w:World} : ∀ {cs:List SC} {vs:List Value} (c:Nat) (x:SC),aH g h w cs vs→cs[c]? = some x → ∃v,vs[c]? = some v∧sY g h w x v
 | [],vs,c,x,hc,hx=>by simp at hx
 | z::cs,vs,0,x,hc,hx=>by
  obtain ⟨v0,vs',rfl,h1,h2⟩:=hc
  simp at hx
  subst hx
  exact ⟨v0,rfl,h1⟩
 | z::cs,vs,c+1,x,hc,hx=>by
  obtain ⟨v0,vs',rfl,h1,h2⟩:=hc
  exact aH.get c x h2 (by simpa using hx)
theorem Gho.aLc {b vb c j K vj n:Nat} {t:TypeId} {cells:List SC} {e:TypeId} {sz:Nat} {xs:List (List D)} {dp:Bool} (ys:List (List D)) (h0:s.h b=(vb,.box t cells)) (h1:cells[c]? = some (.part j vj 0 n)) (h2:s.h j=(vj,.row e sz xs dp)) (hk:b≠K) (hn:n≤xs.length) (hys:xs.take n=ys) :
  Gho P base w0 N s (((s.dA j (vj,.none)).dA K ((s.h K).1+1,.row e sz ys dp)).dA b (vb,.box t (cells.set c (.row K ((s.h K).1+1))))):=by
 rintro a w ⟨g,R⟩
 have hjb:b≠j:=fun e=>by rw [e,h2] at h0;cases h0
 have hob:=R.inv.obj b
 rw [show (s.h b).2 = .box t cells from by rw [h0]] at hob
 obtain ⟨b',vals,h3,h4,h5,h6⟩:=hob
 obtain ⟨v,k1,k2⟩:=aH.get c _ h6 h1
 obtain ⟨g',R',T,hc⟩:=aIO (K:=K) R h2 hn hys k2
 have h0':((s.dA j (vj,.none)).dA K ((s.h K).1+1,.row e sz ys dp)).h b=(vb,.box t cells):=by
  show iS (iS s.h j _) K _ b=_
  rw [bY _ _ _ _ hk,bY _ _ _ _ hjb,h0]
 have hv:g'.val b=g.val b:=(T.box b t cells (by rw [h0',h0]) (by rw [h0'])).1
 exact aKn R' h0' (hv.trans h3) h5 (aH.aKk T c _ v h6 h1 k1 hc)
theorem aLk.mk {P:Program} {T:aG2} {vars:List ResultVar} {ops:Array Oper} {n d:Nat} {K:St→Prop} {l:List (Bool×List SC)} {s s1:St} (h1:aA6 T s vars=some l) (h2:yY P T N ops (ops.toList.drop (n+1)) (aMB s d (aIx l)) (Is s1)) (h3:K s1):aLk P T vars N ops n d K s:=⟨l,h1,exI h2 h3⟩
end
end Go.Sh
namespace Go.Sh
open Go.RowKit
section
variable {P:Program} {base N:Nat} {w0:W0} {Z:St→Prop} {k:List Fr} {s:St}
end
end Go.Sh
