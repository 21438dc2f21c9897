/-
  Helper text. No conditions.
-/
import Derived.Test.YtidhkhdnjonjfaaGreatBucketsShC
import Derived.ProofKit
import Derived.OpenShut
import Derived.ShutString
import Derived.Deep.Slices
import Derived.Carry
set_option linter.unusedVariables false
set_option linter.unusedSimpArgs false
namespace Go.Sh
open Go.RowKit
theorem aLE (args:List (Bool×List D)) (i:Nat):(init args).t i=match args[i]? with | some (ag,ds)=>.v ag (ds.map .dat) | none=>.undef:=rfl
theorem aLn (args:List (Bool×List D)) (i:Nat):(init args).h i=(0,.none):=rfl
def aPD (v:SV) (A B:Prop):Prop:=match v with
 | .v false [.dat (.bool b)]=>(b=true→A)∧(b=false→B)
 | _=>False
theorem aIG (b:Bool) (A B:Prop):aPD (.v false [.dat (.bool b)]) A B=((b=true→A)∧(b=false→B)):=rfl
theorem bO {n:Int} (h1 : -9223372036854775808≤n) (h2:n≤9223372036854775807):IntKind.i64.wrap n=n:=by rw [IntKind.wrap_i64];omega
attribute [simp] sL aGw aI1 aHY aD0 aCg aEX aAL xQ evG sM vOp aO2 put ex exF cst one aft St.aDQ St.aKU St.aLJ St.aEd tY zE aAw yD tW zQ oG wY uV vZ rows nG aBM lenOf aEW aEM aCw tL vD zL aFk D.flat rid TI.agg aLE aLn xX wZ aF8 aCA aAn aIG
end Go.Sh
namespace Go.Sh
open Go.RowKit Go.ChangeShapes Go.WideShapes Go.Deep
inductive Shp where
 | int (k:IntKind)
 | bool
 | str
 | sl (es:List Shp)
def aBt (P:Program) (f:TypeId→Option (List Shp)):Nat→List Field→Option (List Shp)
 | _,[]=>some []
 | off,x::xs=>if x.offset=off then (match f x.type,aBt P f (off+P.cellsOf x.type) xs with
   | some a,some b=>if a.length=P.cellsOf x.type then some (a++b) else none
   | _,_=>none) else none
def aLV (P:Program):Nat→TypeId→Option (List Shp)
 | 0,_=>none
 | n+1,t=>match P.underlying t with
  | some (.int k)=>some [.int k]
  | some .bool=>some [.bool]
  | some .string=>some [.str]
  | some (.slice e)=>match aLV P n e with
   | some es=>if es.length=P.cellsOf e∧0<es.length then some [.sl es] else none
   | none=>none
  | some (.struct fs)=>match aBt P (aLV P n) 0 fs.toList with
   | some es=>if es.length=P.cellsOf t then some es else none
   | none=>none
  | _=>none
mutual
def Has:Shp→D→Prop
 | .int k,d=>∃n,d = .int k n∧(Lit.int k n).wf=true
 | .bool,d=>∃b,d = .bool b
 | .str,d=>∃s,d = .str s∧s.size≤maxLen
 | .sl es,d=>∃xs,d = .sl xs∧xs.length≤maxLen ∧ ∀x∈xs,aBp es x
def aBp:List Shp→List D→Prop
 | [],ds=>ds=[]
 | e::es,ds=>∃d ds',ds=d::ds'∧Has e d∧aBp es ds'
end
theorem aBp.append : ∀ {a b:List Shp} {x y:List D},aBp a x→aBp b y→aBp (a++b) (x++y)
 | [],b,x,y,h,k=>by simp only [aBp] at h;subst h;exact k
 | e::a,b,x,y,h,k=>by
  simp only [aBp] at h
  obtain ⟨d,ds',rfl,h1,h2⟩:=h
  simp only [List.cons_append,aBp]
  exact ⟨d,ds'++y,rfl,h1,aBp.append h2 k⟩
theorem aBp.length : ∀ {a:List Shp} {x:List D},aBp a x→x.length=a.length
 | [],x,h=>by simp only [aBp] at h;subst h;rfl
 | e::a,x,h=>by
  simp only [aBp] at h
  obtain ⟨d,ds',rfl,h1,h2⟩:=h
  simp [aBp.length h2]
section
variable {H:Type} {enc:TypeId×Value→H} {P:Program} {w:World} {base:Nat} {spare:Nat→Bool} {held:Bool}
theorem tU {w:World} {d:D} {v:Value} {F:List Nat} (h:Rep w d v F):aF w [d] [v] F:=by
 simp only [aF]
 exact ⟨v,[],F,[],rfl,by simp,h,rfl,rfl⟩
theorem aA5 {e:Shp} {d:D} (h:Has e d):aBp [e] [d]:=by
 simp only [aBp]
 exact ⟨d,[],rfl,h,rfl⟩
theorem aFd {n m:Nat} (ih : ∀(t:TypeId) (shs:List Shp) (cs:List Value) (x:DataW H×List MemPlace),aLV P n t=some shs→DataW.trod enc P w base spare held m t cs=some x → ∃ds F,aF w ds cs F∧aBp shs ds) :
  ∀(fs:List Field) (off:Nat) (shs:List Shp) (cs:List Value),aBt P (aLV P n) off fs=some shs→off+shs.length=cs.length →
   (∀f∈fs,∃x,DataW.trod enc P w base spare held m f.type ((cs.drop f.offset).take (P.cellsOf f.type))=some x) → ∃ds F,aF w ds (cs.drop off) F∧aBp shs ds
 | [],off,shs,cs,h,hl,_=>by
  simp [aBt] at h
  subst h
  refine ⟨[],[],?_,by simp [aBp]⟩
  rw [List.drop_of_length_le (by simpa using Nat.le_of_eq hl.symm)]
  simp [aF]
 | f::fs,off,shs,cs,h,hl,hf=>by
  simp only [aBt] at h
  split at h
  ·rename_i ho
   split at h
   ·rename_i a b ha hb
    split at h
    ·rename_i hlen
     cases h
     obtain ⟨x,hx⟩:=hf f (by simp)
     obtain ⟨d1,F1,k1,k2⟩:=ih _ _ _ _ ha hx
     obtain ⟨d2,F2,k3,k4⟩:=aFd ih fs _ b cs hb (by rw [qE,hlen] at hl;omega) fun y hy=>hf y (by simp [hy])
     refine ⟨d1++d2,F1++F2,?_,k2.append k4⟩
     have:cs.drop off=(cs.drop f.offset).take (P.cellsOf f.type)++cs.drop (off+P.cellsOf f.type):=by
      rw [ho,←List.drop_drop,List.take_append_drop]
     rw [this]
     exact k1.append k3
    ·cases h
   ·cases h
  ·cases h
theorem aKM {a:Addr} {v:Value} (h:w.cell? a=some v):a=⟨a.block,a.off,none⟩:=by
 obtain ⟨b,o,s⟩:=a
 unfold World.cell? at h
 cases s with
 | none=>rfl
 | some s =>
  split at h
  ·simp at h
  ·cases h
theorem aGm {es:List Shp} {C:Nat} (hC:es.length=C) {a:Addr} : ∀(len:Nat),(∀i,i<len → ∃cs' ds F,cs'.length=C∧(∀j,j<C→w.cell? (a.add (i*C+j))=cs'[j]?)∧aF w ds cs' F∧aBp es ds) →
  ∃xs cells G,xs.length=len∧(∀x∈xs,aBp es x)∧aN w xs cells G∧cells.length=len*C ∧ ∀j,j<len*C→w.cell? (a.add j)=cells[j]?
 | 0,_=>⟨[],[],[],rfl,by simp,by simp [aN],by simp,by simp⟩
 | len+1,h=>by
  obtain ⟨xs,cells,G,h1,h2,h3,h4,h5⟩:=aGm hC len fun i hi=>h i (by omega)
  obtain ⟨cs',ds,F,k1,k2,k3,k4⟩:=h len (by omega)
  refine ⟨xs++[ds],cells++cs',G++F,by simp [h1],?_,?_,by rw [qE,h4,k1,Nat.add_mul];omega,?_⟩
  ·intro x hx
   rcases List.mem_append.1 hx with hx | hx
   ·exact h2 x hx
   ·simp at hx;subst hx;exact k4
  ·refine h3.append ?_
   simp only [aN]
   exact ⟨cs',[],F,[],by simp,by simp,k3,rfl,rfl⟩
  ·intro j hj
   rw [Nat.add_mul,Nat.one_mul] at hj
   by_cases hjl:j<len*C
   ·rw [h5 j hjl,List.getElem?_append_left (by omega)]
   ·have:=k2 (j-len*C) (by omega)
    rw [show len*C+(j-len*C)=j from by omega] at this
    rw [this,List.getElem?_append_right (by omega),h4]
theorem aGZ : ∀(n:Nat) (m:Nat) (t:TypeId) (shs:List Shp) (cs:List Value) (x:DataW H×List MemPlace),aLV P n t=some shs→DataW.trod enc P w base spare held m t cs=some x → ∃ds F,aF w ds cs F∧aBp shs ds
 | 0,_,_,_,_,_,h,_=>by simp [aLV] at h
 | n+1,m,t,shs,cs,x,h,hx=>by
  simp only [aLV] at h
  split at h
  ·rename_i k hu
   cases h
   obtain ⟨v,rfl,_,hw⟩:=DataW.trod_int hu hx
   exact ⟨[.int k v],[],tU (by simp [Rep]),aA5 (by simp [Has,hw])⟩
  ·rename_i hu
   cases h
   obtain ⟨v,rfl,_⟩:=DataW.trod_bool hu hx
   exact ⟨[.bool v],[],tU (by simp [Rep]),aA5 (by simp [Has])⟩
  ·rename_i hu
   cases h
   obtain ⟨v,rfl,_,hw⟩:=DataW.trod_string hu hx
   exact ⟨[.str v],[],tU (by simp [Rep]),aA5 (by simp [Has,hw])⟩
  ·rename_i e hu
   split at h
   ·rename_i es hes
    split at h
    ·rename_i hc
     cases h
     rcases open_slice hu hx with ⟨rfl,_⟩ | ⟨a,len,cap,mm,fu,Dd,Pl,rfl,h1,h2,h3,h4,_,h6⟩
     ·refine ⟨[.sl []],[],?_,?_⟩
      ·refine tU ?_
       simp only [Rep]
       exact ⟨none,0,0,rfl,rfl,Nat.le_refl _,.inl (by simp)⟩
      ·refine aA5 ?_
       simp only [Has]
       exact ⟨[],rfl,by simp,by simp⟩
     ·have hle:len≤mm:=by rw [h4];split<;>omega
      obtain ⟨xs,cells,G,k1,k2,k3,k4,k5⟩:=aGm (w:=w) hc.1 (a:=a) len fun i hi=>by
       obtain ⟨cs',q1,q2⟩:=h6 i (by omega)
       obtain ⟨_,q3,q4⟩:=World.cells?_some q1
       obtain ⟨ds,F,q5,q6⟩:=aGZ n fu e es cs' _ hes q2
       exact ⟨cs',ds,F,q3,fun j hj=>by rw [←Go.Deep.add_add];exact q4 j hj,q5,q6⟩
      rcases Nat.eq_zero_or_pos len with h0 | h0
      ·have hxs:xs=[]:=List.eq_nil_of_length_eq_zero (by omega)
       subst hxs
       refine ⟨[.sl []],[],?_,?_⟩
       ·refine tU ?_
        simp only [Rep]
        exact ⟨some a,len,cap,rfl,by simpa using h0,h2,.inl ⟨h0,trivial⟩⟩
       ·refine aA5 ?_
        simp only [Has]
        exact ⟨[],rfl,by simp,by simp⟩
      ·have hpos:0<len*P.cellsOf e:=Nat.mul_pos h0 (by omega)
       have hc0:=k5 0 hpos
       have hc0':cells[0]? = some (cells[0]'(by omega)):=qF (by omega)
       have hadd0:a.add 0=a:=by simp [Addr.add]
       rw [hadd0,hc0'] at hc0
       have ha:=aKM hc0
       refine ⟨[.sl xs],a.block::G,?_,?_⟩
       ·refine tU ?_
        simp only [Rep]
        refine ⟨some a,len,cap,rfl,k1.symm,h2,.inr ⟨a.block,a.off,cells,P.cellsOf e,G,by rw [←ha],World.block_lt_of_cell? w a hc0,rfl,?_,k4,?_,k3⟩⟩
        ·intro j u hu'
         have hj:j<len*P.cellsOf e:=by rw [←k4];exact (List.getElem?_eq_some_iff.1 hu').1
         have:=k5 j hj
         rw [ha,Addr.add_lit] at this
         rw [this];exact hu'
        ·intro x hx'
         rw [(k2 x hx').length,hc.1]
       ·refine aA5 ?_
        simp only [Has]
        exact ⟨xs,rfl,by omega,k2⟩
    ·cases h
   ·cases h
  ·rename_i fs hu
   split at h
   ·rename_i es hes
    split at h
    ·rename_i hc
     cases h
     obtain ⟨xs,mm,rfl,_,q1,q2,q3⟩:=DataW.trod_struct hu hx
     have:=aFd (m:=mm) (fun t shs cs x=>aGZ n mm t shs cs x) fs.toList 0 shs cs hes (by omega) (fun f hf=>by
      obtain ⟨i,hi⟩:=List.getElem?_of_mem hf
      have hi':fs[i]? = some f:=by simpa using hi
      have hlt:i<xs.length:=by rw [q2];exact (Array.getElem?_eq_some_iff.1 hi').1
      exact ⟨xs[i],by rw [q3 i f hi',qF hlt]⟩)
     simpa using this
    ·cases h
   ·cases h
  ·cases h
theorem aOl {n:Nat} {t:TypeId} {shs:List Shp} {v:Value} {d:DataW H} {p:List MemPlace} {b:Nat} (h:aLV P n t=some shs) (hv:Value.okWide P w .any b t v) (ht:DataW.Trod enc P w base spare held t v d p) :
  ∃ds F,aBp shs ds∧aIn w v (aDC P t,ds) F:=by
 obtain ⟨fuel,hf⟩:=id ht
 obtain ⟨ds,F,h1,h2⟩:=aGZ n fuel t shs _ _ h hf
 refine ⟨ds,F,h2,?_⟩
 have one:v.cells.toList=[v] → ∃d,ds=[d]∧Rep w d v F:=by
  intro hc
  rw [hc] at h1
  have hl:=h1.length
  match ds,h1,hl with
  | [d],h1,_ =>
   simp only [aF] at h1
   obtain ⟨u,us,F1,F2,e1,e2,e3,_,e5⟩:=h1
   simp at e1
   rw [e5,qW] at e2
   exact ⟨d,rfl,e2 ▸ e1.1 ▸ e3⟩
 cases n with
 | zero=>simp [aLV] at h
 | succ n =>
  simp only [aLV] at h
  unfold aDC
  split at h
  ·rename_i k hu
   obtain ⟨x,rfl,_⟩:=open_int hu hv ht
   rw [hu]
   exact one rfl
  ·rename_i hu
   obtain ⟨x,rfl,_⟩:=open_bool hu hv ht
   rw [hu]
   exact one rfl
  ·rename_i hu
   obtain ⟨x,rfl,_⟩:=Go.ChangeMaps.open_string hu hv ht
   rw [hu]
   exact one rfl
  ·rename_i e hu
   obtain ⟨x,y,z,rfl⟩:=okWide_slice hu hv
   rw [hu]
   exact one rfl
  ·rename_i fs hu
   obtain ⟨cs,rfl,_⟩:=okWide_struct hu hv
   rw [hu]
   exact ⟨cs,rfl,h1⟩
  ·cases h
theorem aJo {f:Func} {s:ChangeSpec} {apart fresh handsOn again:Bool} {W W':World} {args:Array Value} {v:Value} {ds gs:List (DataW H)} {before pa pv:List MemPlace}
  (hW:DataW.Whole enc P f.params.toList s.vars apart W args.toList ds gs before)
  (hres : ∀(b:Nat) (sp:Nat→Bool) (hd:Bool),DataW.TrodAll enc P W' b sp hd f.resultTypes.toList (v.resultList f.resultTypes.size) (s.fn H (ds++gs)).results [])
  (hargs : ∀sp:Nat→Bool,(∀p∈before,sp p.block=true)→DataW.TrodAll enc P W' 0 sp true f.params.toList args.toList (s.fn H (ds++gs)).args pa)
  (hvars : ∀sp:Nat→Bool,(∀p∈before,sp p.block=true)→DataW.TrodVars enc P W' sp s.vars (s.fn H (ds++gs)).vars pv)
  (hps:before=pa++pv) (hb:Below W.heap.size W W')
  (hok : ∀(j:Nat) (t:TypeId) (r:Value),f.resultTypes[j]? = some t→(v.resultList f.resultTypes.size)[j]? = some r→Value.okWide P W' .any 0 t r) :
  s.post enc P f apart fresh handsOn again W args v W':=by
 have hlt : ∀p∈before,p.block<W.heap.size:=fun p hp=>hW.lt p hp
 have hold : ∀p∈before,(fun b=>decide (b<W.heap.size)) p.block=true:=fun p hp=>by simpa using hlt p hp
 refine ⟨ds,gs,before,[],pa,pv,hW,hres _ _ _,hargs _ hold,hvars _ hold,World.keptBut_mono (fun p hp=>⟨hp,?_⟩) (hb.frame (· ∈ before)),fun _ => ?_⟩
 ·rw [hps,qP] at hp
  exact Or.inr hp
 ·obtain ⟨_,_,_,_,_,hz,hn⟩:=hW
  refine ⟨hok,_,_,([]++pa)++pv,⟨[]++pa,pv,trodAll_append (hargs _ (fun _ _=>rfl)) (hres _ _ _),hvars _ (fun _ _=>rfl),rfl,?_,?_⟩,?_⟩
  ·intro b off hp
   have hin:MemPlace.cell b off∈before:=by rw [hps];simpa using hp
   rw [hb.frozen (hlt _ hin)]
   exact hz b off hin
  ·intro ha
   have:=hn ha
   rw [hps] at this
   simpa using this
  ·intro p hp _
   rw [hps]
   simpa using hp
theorem aCN (hl:laidOutB P=true) {W W':World} (hb:Below W.heap.size W W') {sp:Nat→Bool} : ∀ {ts:List TypeId} {vs:List Value} {ds:List (DataW H)} {ps:List MemPlace},DataW.TrodAll enc P W 0 (fun _=>true) true ts vs ds ps →
  (∀t∈ts,P.readableRec t=true∧t<P.types.size)→(∀x∈ps,x.block<W.heap.size)→(∀x∈ps,sp x.block=true)→DataW.TrodAll enc P W' 0 sp true ts vs ds ps
 | [],vs,ds,ps,h,_,_,_=>by
  obtain ⟨rfl,rfl,rfl⟩:=trodAll_nil h
  rfl
 | t::ts,vs,ds,ps,h,ht,hlt,hsp=>by
  obtain ⟨v,vs',d,ds',p,q,rfl,rfl,rfl,h1,h2⟩:=trodAll_cons h
  refine ⟨p,q,?_,?_,rfl⟩
  ·exact WideElems.Trod_stays hl (ht t (by simp)).1 (ht t (by simp)).2 h1 (fun x hx=>hb.same (hlt x (by simp [hx]))) (fun x hx=>hsp x (by simp [hx]))
  ·exact aCN hl hb h2 (fun u hu=>ht u (by simp [hu])) (fun x hx=>hlt x (by simp [hx])) (fun x hx=>hsp x (by simp [hx]))
def aOj (P:Program) (n:Nat):List TypeId→List (List Shp)→Prop
 | [],shs=>shs=[]
 | t::ts,shs=>∃s ss,shs=s::ss∧aLV P n t=some s∧aOj P n ts ss
def aK2:List (List Shp)→List (List D)→Prop
 | [],ds=>ds=[]
 | s::ss,ds=>∃d ds',ds=d::ds'∧aBp s d∧aK2 ss ds'
def aKr (P:Program):List TypeId→List (List D)→List (Bool×List D)
 | t::ts,d::ds=>(aDC P t,d)::aKr P ts ds
 | _,_=>[]
theorem aI4 {n:Nat} {W:World} {b:Nat} : ∀ {ts:List TypeId} {vs:List Value} {ds:List (DataW H)} {ps:List MemPlace} {shs:List (List Shp)},aOj P n ts shs→DataW.TrodAll enc P W 0 (fun _=>true) true ts vs ds ps →
  (∀(j:Nat) t v,ts[j]? = some t→vs[j]? = some v→Value.okWide P W .any b t v) → ∃dss F,aK2 shs dss∧oN W vs (aKr P ts dss) F
 | [],vs,ds,ps,shs,hs,h,hv=>by
  obtain ⟨rfl,rfl,rfl⟩:=trodAll_nil h
  have:shs=[]:=hs
  subst this
  exact ⟨[],[],rfl,rfl⟩
 | t::ts,vs,ds,ps,shs,hs,h,hv=>by
  obtain ⟨s,ss,rfl,hs1,hs2⟩:=hs
  obtain ⟨v,vs',d,ds',p,q,rfl,rfl,rfl,h1,h2⟩:=trodAll_cons h
  obtain ⟨d1,F1,k1,k2⟩:=aOl hs1 (hv 0 t v rfl rfl) h1
  obtain ⟨dss,F2,k3,k4⟩:=aI4 hs2 h2 fun j t' v' ht hv'=>hv (j+1) t' v' (by simpa using ht) (by simpa using hv')
  exact ⟨d1::dss,F1++F2,⟨d1,dss,rfl,k1,k3⟩,F1,F2,rfl,k2,k4⟩
theorem aL5 {f:FuncId} {fn:Func} {s:ChangeSpec} {n tb:Nat} {shs:List (List Shp)} (hl:laidOutB P=true) (hvars:s.vars=[]) (hres:fn.resultTypes = #[tb]) (htb:P.underlying tb=some .bool) (hsh:aOj P n fn.params.toList shs)
  (hread : ∀t∈fn.params.toList,P.readableRec t=true∧t<P.types.size)
  (hfn : ∀(ds:List (DataW H)),ds.length=fn.params.toList.length→s.fn H (ds++[])={ results:=[.lit (.bool true)],args:=ds })
  (hc : ∀dss,aK2 shs dss→jJ P f (aKr P fn.params.toList dss) [(false,[.ro (.bool true)])])
  {W:World} {b:Nat} {args:Array Value} {ds gs:List (DataW H)} {before:List MemPlace} (hval : ∀(j:Nat) t v,fn.params[j]? = some t→args[j]? = some v→Value.okWide P W .any b t v)
  (hW:DataW.Whole enc P fn.params.toList s.vars false W args.toList ds gs before) :
  Calls P f args W fun e W'=>∃v,e = .returned v∧s.post enc P fn false true false false W args v W':=by
 have hW':=hW
 obtain ⟨p,q,hA,hV,rfl,hfz,hnd⟩:=hW
 rw [hvars] at hV
 obtain ⟨rfl,rfl⟩:=trodVars_none hV
 obtain ⟨dss,Fa,k1,k2⟩:=aI4 hsh hA fun j t v ht hv=>hval j t v (by simpa using ht) (by simpa using hv)
 refine (((hc dss k1).old rfl).2 W args Fa k2).mono fun e W' hh => ?_
 obtain ⟨v,rfl,⟨F,X,_,_,_,hr⟩,hb⟩:=hh
 have hv:v = .bool true:=by
  have h1:Rep W' (.bool true) v []:=hr.1
  simp only [Rep] at h1
  exact h1.1
 subst hv
 have hdl:ds.length=fn.params.toList.length:=by
  have : ∀ {ts:List TypeId} {vs:List Value} {ds:List (DataW H)} {ps:List MemPlace},DataW.TrodAll enc P W 0 (fun _=>true) true ts vs ds ps→ds.length=ts.length:=by
   intro ts
   induction ts with
   | nil=>intro vs ds ps h;obtain ⟨_,rfl,_⟩:=trodAll_nil h;rfl
   | cons t ts ih=>intro vs ds ps h;obtain ⟨v,vs',d,ds',p,q,rfl,rfl,rfl,h1,h2⟩:=trodAll_cons h;simp [ih h2]
  exact this hA
 have hfn':=hfn ds hdl
 refine ⟨_,rfl,aJo (pa:=p) (pv:=[]) hW' ?_ ?_ ?_ (by simp) hb (ok_one hres rfl (okWide_bool_mk htb _))⟩
 ·intro b sp hd
  rw [hfn',hres]
  exact trodAll_cons_mk (shut_bool htb _) trodAll_mk0
 ·intro sp hsp
  rw [hfn']
  exact aCN hl hb hA hread (fun x hx=>hW'.lt x (by simpa using hx)) (fun x hx=>hsp x (by simpa using hx))
 ·intro sp hsp
  rw [hfn',hvars]
  rfl
end
end Go.Sh
namespace Go.Sh
open Go.RowKit
def Is (s t:St):Prop:=t=s
theorem Is.mk (t:St):Is t t:=rfl
theorem aCY {P:Program} {T:aHg} {N:Nat} {ops:Array Oper} : ∀(l:List Oper) {s:St} {K K':St→Prop},(∀s,K s→K' s)→aAL P T N ops l s K→aAL P T N ops l s K'
 | [],_,_,_,h,hh=>h _ hh
 | o::l,s,_,_,h,hh=>aBm (evG T N ops o) (fun s' h'=>aCY l h h') hh
theorem zU {P:Program} : ∀(p:Prog) {s:St} {R W:List Loc} {K K':St→List Loc→List Loc→Prop},(∀s R W,K s R W→K' s R W)→exF P p s R W K→exF P p s R W K'
 | .done,_,_,_,_,_,h,hh=>h _ _ _ hh
 | .fail,_,_,_,_,_,_,hh=>hh
 | .getT t k,s,_,_,_,_,h,hh=>zU (k (s.t t)) h hh
 | .aBU t v k,s,_,_,_,_,h,hh=>zU k h hh
 | .getH i k,s,_,_,_,_,h,hh=>zU (k (s.h i)) h hh
 | .eE i x k,s,_,_,_,_,h,hh=>zU k h hh
 | .call f args k,s,_,_,_,_,h,⟨rs,hc,hh⟩=>⟨rs,hc,zU (k rs) h hh⟩
 | .must p k,s,_,_,_,_,h,⟨hp,hh⟩=>⟨hp,zU k h hh⟩
theorem aEw {P:Program} {T:aHg} {N:Nat} {ops:Array Oper} : ∀(l:List Oper) {s:St} {acc:List Fp} {K K':St→List Fp→Prop},(∀s a,K s a→K' s a)→xQ P T N ops l s acc K→xQ P T N ops l s acc K'
 | [],_,_,_,_,h,hh=>h _ _ hh
 | o::l,s,_,_,_,h,hh=>zU (evG T N ops o) (fun s' R W h'=>aEw l h h') hh
section
variable {P:Program} {base N:Nat} {w0:W0} {Z:St→Prop} {k:List Fr} {s s':St}
theorem eD {id:Nat} {ops:Array Oper} (h:aAL P (jF P) N ops ops.toList s (Is s')) (hk:aft P base w0 N Z k .normal s'):SW P base w0 N (.region id ops false) s (aft P base w0 N Z k):=
 aHI (aCY ops.toList (fun t ht=>by rw [show t=s' from ht];exact hk) h)
def aGs (ops:Array Oper) (fps:List Fp):Prop:=aBh ops fps=true
theorem aGs.mk {ops:Array Oper} {fps:List Fp} (h:aBh ops fps=true):aGs ops fps:=h
theorem xG (hm:P.follows .mixedOrders=true) {id:Nat} {ops:Array Oper} (h:xQ P (jF P) N ops ops.toList s [] fun t fps=>aGs ops fps∧Is s' t) (hk:aft P base w0 N Z k .normal s'):SW P base w0 N (.region id ops true) s (aft P base w0 N Z k):=
 aKn hm (aEw ops.toList (fun t fps ht=>⟨ht.1,by rw [show t=s' from ht.2];exact hk⟩) h)
theorem aAi {id:Nat} (h:aft P base w0 N Z k .normal s):aft P base w0 N Z (.block id::k) (.exit id) s:=by
 simp only [aft,if_true];exact h
theorem aQd {id id':Nat} (hne:id'≠id) (h:aft P base w0 N Z k (.exit id') s):aft P base w0 N Z (.block id::k) (.exit id') s:=by
 simp only [aft,hne,if_false];exact h
theorem wD {c:Code} {id:Nat} (h:aft P base w0 N Z k (.exit id) s):aft P base w0 N Z (.code c::k) (.exit id) s:=h
theorem iB {J:St→Prop} (h:J s):aft P base w0 N Z (.inv J::k) .normal s:=h
theorem vT {J:St→Prop} {id:Nat} (h:aft P base w0 N Z k (.exit id) s):aft P base w0 N Z (.inv J::k) (.exit id) s:=h
theorem aBC {t:Nat} {x y:Code} (hb:s.t t = .v false [.dat (.bool true)]) (h:SW P base w0 N x s (aft P base w0 N Z k)):SW P base w0 N (.cond (.tmp t) x y) s (aft P base w0 N Z k):=
 aHz hb (fun _=>h) (fun e=>by cases e)
theorem aDp {t:Nat} {x y:Code} (hb:s.t t = .v false [.dat (.bool false)]) (h:SW P base w0 N y s (aft P base w0 N Z k)):SW P base w0 N (.cond (.tmp t) x y) s (aft P base w0 N Z k):=
 aHz hb (fun e=>by cases e) (fun _=>h)
theorem gB {c:Code} {Q:Exit→St→Prop} {J:St→Prop} (hj:J s) (h : ∀s,J s→SW P base w0 N c s Q):SW P base w0 N c s Q:=h s hj
end
def fuel:Nat:=18446744073709551616
theorem lN (b:Bool):b=true∨b=false:=by cases b<;>simp
theorem wF (b:Bool):b=false∨b=true:=by cases b<;>simp
theorem cD {α:Type} {b:Bool} {x y z:α} (hb:b=true) (h:(if b=true then x else y)=z):x=z:=by rw [if_pos hb] at h;exact h
theorem bY {α:Type} {b:Bool} {x y z:α} (hb:b=false) (h:(if b=true then x else y)=z):y=z:=by rw [hb] at h;simpa using h
theorem bind_some {α β:Type} {o:Option α} {f:α→Option β} {r:β} (h:o.bind f=some r) : ∃x,o=some x∧f x=some r:=by
 cases o with
 | none=>cases h
 | some x=>exact ⟨x,rfl,h⟩
def idx {α:Type} (xs:List α) (i:Int):Option α:=if 0≤i then xs[i.toNat]? else none
theorem jG {α:Type} {xs:List α} {i:Int} {x:α} (h:idx xs i=some x):0≤i∧xs[i.toNat]? = some x∧i.toNat<xs.length:=by
 unfold idx at h
 split at h
 ·rename_i hi;exact ⟨hi,h,(List.getElem?_eq_some_iff.1 h).1⟩
 ·cases h
def aNn (s:ByteArray) (i:Int):Option UInt8:=if 0≤i then s[i.toNat]? else none
theorem aKG {s:ByteArray} {i:Int} {x:UInt8} (h:aNn s i=some x):0≤i∧s[i.toNat]? = some x:=by
 unfold aNn at h
 split at h
 ·rename_i hi;exact ⟨hi,h⟩
 ·cases h
def app {α:Type} (b:Nat) (xs ys:List α):Option (List α):=if (xs.length+ys.length)*b≤140737488355328 then some (xs++ys) else none
theorem oA {α:Type} {b:Nat} {xs ys zs:List α} (h:app b xs ys=some zs):(xs.length+ys.length)*b≤140737488355328:=by
 unfold app at h
 split at h
 ·assumption
 ·cases h
def aPg {α:Type} (b:Nat) (ys:List α):Option (List α):=if ys.length*b≤140737488355328 then some ys else none
theorem sU {α:Type} {b:Nat} {ys zs:List α} (h:aPg b ys=some zs):ys.length*b≤140737488355328:=by
 unfold aPg at h
 split at h
 ·assumption
 ·cases h
def mkL {α:Type} (b:Nat) (n:Int) (z:α):Option (List α):=if 0≤n∧n.toNat*b≤140737488355328∧n≤9223372036854775807 then some (List.replicate n.toNat z) else none
theorem aNK {α:Type} {b:Nat} {n:Int} {z:α} {x:List α} (h:mkL b n z=some x):0≤n∧n.toNat*b≤140737488355328∧n≤9223372036854775807:=by
 unfold mkL at h
 split at h
 ·assumption
 ·cases h
def cat (x y:ByteArray):Option ByteArray:=if x.size+y.size≤9223372036854775807 then some (x++y) else none
theorem aMW {x y z:ByteArray} (h:cat x y=some z):x.size+y.size≤9223372036854775807:=by
 unfold cat at h
 split at h
 ·assumption
 ·cases h
def enI (n:Int):List D:=[.int .i64 n]
def enB (n:Int):List D:=[.int .u8 n]
def enS (s:ByteArray):List D:=[.str s]
def enT (b:Bool):List D:=[.bool b]
def enL {α:Type} (f:α→List D) (xs:List α):List D:=[.sl (xs.map f)]
def cH (s:ByteArray):List Int:=s.data.toList.map fun b=>(b.toNat:Int)
theorem aL1 (s:ByteArray):vW s.data.toList=(cH s).map enB:=by
 unfold vW cH enB
 rw [List.map_map]
 rfl
def cK (l:List Int):ByteArray:=⟨(l.map fun n=>UInt8.ofNat n.toNat).toArray⟩
def toStr (l:List Int):Option ByteArray:=if l.all (fun n=>decide (0≤n∧n<256))=true then some (cK l) else none
theorem aMO (l:List Int):strOf (l.map enB)=cK l:=by
 unfold strOf cK enB
 rw [List.map_map]
 rfl
theorem aJa {l:List Int} {z:ByteArray} (h:toStr l=some z) : ∀x∈l.map enB,∃b:UInt8,x=[.int .u8 (b.toNat:Int)]:=by
 unfold toStr at h
 split at h
 ·rename_i ha
  intro x hx
  obtain ⟨n,hn,rfl⟩:=List.mem_map.1 hx
  have:=List.all_eq_true.1 ha n hn
  simp only [qL] at this
  refine ⟨UInt8.ofNat n.toNat,?_⟩
  unfold enB
  have h1:(UInt8.ofNat n.toNat).toNat=n.toNat:=by simp;omega
  rw [h1,Int.toNat_of_nonneg this.1]
 ·cases h
def wM {α:Type} (xs:List α) (i:Int):Option (List α):=if 0≤i∧i.toNat≤xs.length then some (xs.drop i.toNat) else none
def xA {α:Type} (xs:List α) (j:Int):Option (List α):=if 0≤j∧j.toNat≤xs.length then some (xs.take j.toNat) else none
def aK3 {α:Type} (xs:List α) (i j:Int):Option (List α):=if 0≤i∧i≤j∧j.toNat≤xs.length then some ((xs.take j.toNat).drop i.toNat) else none
theorem aFX {α:Type} {xs z:List α} {i:Int} {f:α→List D} {n:Nat} (hf : ∀x,(f x).length=n) (h:wM xs i=some z):0≤i∧i.toNat≤xs.length ∧ ∀x∈xs.map f,x.length=n:=by
 unfold wM at h
 split at h
 ·rename_i hh
  refine ⟨hh.1,hh.2,fun x hx => ?_⟩
  obtain ⟨y,_,rfl⟩:=List.mem_map.1 hx
  exact hf y
 ·cases h
theorem aFO {α:Type} {xs z:List α} {i:Int} {f:α→List D} {n:Nat} (hf : ∀x,(f x).length=n) (h:xA xs i=some z):0≤i∧i.toNat≤xs.length ∧ ∀x∈xs.map f,x.length=n:=by
 unfold xA at h
 split at h
 ·rename_i hh
  refine ⟨hh.1,hh.2,fun x hx => ?_⟩
  obtain ⟨y,_,rfl⟩:=List.mem_map.1 hx
  exact hf y
 ·cases h
theorem aCf {α:Type} {xs z:List α} {i j:Int} {f:α→List D} {n:Nat} (hf : ∀x,(f x).length=n) (h:aK3 xs i j=some z):0≤i∧i≤j∧j.toNat≤xs.length ∧ ∀x∈xs.map f,x.length=n:=by
 unfold aK3 at h
 split at h
 ·rename_i hh
  refine ⟨hh.1,hh.2.1,hh.2.2,fun x hx => ?_⟩
  obtain ⟨y,_,rfl⟩:=List.mem_map.1 hx
  exact hf y
 ·cases h
theorem aDa {α:Type} {f:α→List D} (hf : ∀x,(f x).all D.flat=true) (xs:List α):(xs.map f).all (fun y=>y.all D.flat)=true:=by
 rw [qQ]
 intro y hy
 obtain ⟨x,_,rfl⟩:=List.mem_map.1 hy
 exact hf x
theorem enI.fl (l:List Int):(List.map enI l).all (fun y=>y.all D.flat)=true:=aDa (fun _=>rfl) l
theorem enB.fl (l:List Int):(List.map enB l).all (fun y=>y.all D.flat)=true:=aDa (fun _=>rfl) l
theorem enS.fl (l:List ByteArray):(List.map enS l).all (fun y=>y.all D.flat)=true:=aDa (fun _=>rfl) l
theorem enT.fl (l:List Bool):(List.map enT l).all (fun y=>y.all D.flat)=true:=aDa (fun _=>rfl) l
theorem aF4 {P : Program} {f : FuncId} {fn : Func} {c : Code} {args : List (Bool × List D)} {rs : List (Bool × List RC)} {N : Nat} {vars : List ResultVar} (hf : P.funcs[f]? = some fn) (hb : fn.body = some c) (hN : fn.ntmps = N) (hv : fn.results.toList = vars) (hnm : (fn.name == "runtime.NumGoroutine") = false) (hn : args.length ≤ N)
  (h : ∀(base:Nat) (w0:W0),SW P base w0 N c (init args) (aft P base w0 N (Ret (jF P) vars rs) [])):jJ P f args rs:=by
 subst hN hv
 exact aLo hf hb hnm hn h
end Go.Sh
namespace Go.Sh
theorem aIM (N d:Nat) (a b:Bool×List RC) (rs:List (Bool×List RC)):uV N (some d) (a::b::rs)=wY d 0 (a::b::rs) fun vs=>put N (some d) (.tup vs):=rfl
theorem aH5 (N d:Nat):uV N (some d) []=wY d 0 [] fun vs=>put N (some d) (.tup vs):=rfl
theorem aIg (sz k:Nat) (xs:List (List D)):(aDn sz 0 k xs).drop k=xs.drop k:=by
 unfold aDn
 rw [List.take_zero,List.nil_append,Nat.zero_add]
 exact List.drop_left' (by simp)
theorem aL9 (sz k:Nat) (xs:List (List D)):(aDn sz 0 k xs).length-k=xs.length-k:=by
 unfold aDn
 simp
theorem aMd {α:Type} (xs:List α) (k:Nat):(xs.drop k).take (xs.length-k)=xs.drop k:=List.take_of_length_le (by simp)
theorem aG3 {sz:Nat} {i:Int} {xs:List (List D)} (h:0≤i):0≤i∧i.toNat≤(aDn sz 0 i.toNat xs).length:=⟨h,by unfold aDn;simp⟩
theorem aL7 {α:Type} (a:α) (as bs:List α):List.append (a::as) bs=a::List.append as bs:=rfl
theorem aNV {α:Type} (bs:List α):List.append [] bs=bs:=rfl
theorem aN7 (xs:List (List D)):D.flat (.sl xs)=false:=rfl
theorem aMt (xs:List D):D.flat (.ptr xs)=false:=rfl
theorem aME (u:Value):D.flat (.val u)=false:=rfl
def Ez9:=PLift.up (qI @aAL.eq_1 (qI @aAL.eq_2 (qI @xQ.eq_1 (qI @xQ.eq_2 (qI @evG.eq_1 (qI @sM.eq_1 (qI @vOp.eq_1 (qI @vOp.eq_2 (qI @vOp.eq_3 (qI @vOp.eq_4 (qI @aO2.eq_1 (qI @aO2.eq_2 (qI @put.eq_1 (qI @put.eq_2 (qI @ex.eq_1 (qI @ex.eq_2 (qI @ex.eq_3 (qI @ex.eq_4 (qI @ex.eq_5 (qI @ex.eq_6 (qI @ex.eq_7 (qI @ex.eq_8 (qI @exF.eq_1 (qI @exF.eq_2 (qI @exF.eq_3 (qI @exF.eq_4 (qI @exF.eq_5 (qI @exF.eq_6 (qI @exF.eq_7 (qI @exF.eq_8 (qI @cst.eq_1 (qI @cst.eq_2 (qI @cst.eq_3 (qI @cst.eq_4 (qI @one.eq_1 (qI @tY.eq_1 (qI @tY.eq_2 (qI @tY.eq_3 (qI @tY.eq_4 (qI @lab.eq_1 (qI @lab.eq_2 (qI @aDZ.eq_1 (qI @aDZ.eq_2 (qI @aDZ.eq_3 (qI @aDZ.eq_4 (qI @aDZ.eq_5 (qI @aDZ.eq_6 (qI @aDZ.eq_7 (qI @aDZ.eq_8 (qI @aDZ.eq_9 (qI @zE.eq_1 (qI @zE.eq_2 (qI @zE.eq_3 (qI @zE.eq_4 (qI @zE.eq_5 (qI @aAw.eq_1 (qI @yD.eq_1 (qI @yD.eq_2 (qI @tW.eq_1 (qI @tW.eq_2 (qI @tW.eq_3 (qI @tW.eq_4 (qI @tW.eq_5 (qI @tW.eq_6 (qI @tW.eq_7 (qI @tW.eq_8 (qI @tW.eq_9 (qI @zQ.eq_1 (qI @zQ.eq_2 (qI @oG.eq_1 (qI @oG.eq_2 (qI @oG.eq_3 (qI @oG.eq_4 (qI @oG.eq_5 (qI @wY.eq_1 (qI @wY.eq_2 (qI @uV.eq_1 (qI @uV.eq_2 (qI @aD0.eq_1 (qI @rL.eq_1 (qI @rL.eq_2 (qI @rL.eq_3 (qI @rL.eq_4 (qI @rL.eq_5 (qI @rL.eq_6 (qI @rL.eq_7 (qI @aHT.eq_1 (qI @aHT.eq_2 (qI @aGi.eq_1 (qI @aGi.eq_2 (qI @zX.eq_1 (qI @zX.eq_2 (qI @zX.eq_3 (qI @zX.eq_4 (qI @zX.eq_5 (qI @zX.eq_6 (qI @zX.eq_7 (qI @zX.eq_8 (qI @RC.ed.eq_1 (qI @RC.ed.eq_2 (qI @RC.ed.eq_3 (qI @RC.ed.eq_4 (qI @aHh.eq_1 (qI @aHh.eq_2 (qI @aHh.eq_3 (qI @aFT.eq_1 (qI @aCg.eq_1 (qI @aCg.eq_2 (qI @aCg.eq_3 (qI @aCg.eq_4 (qI @aCg.eq_5 (qI @aEX.eq_1 (qI @aEX.eq_2 (qI @vZ.eq_1 (qI @vZ.eq_2 (qI @rows.eq_1 (qI @rows.eq_2 (qI @nG.eq_1 (qI @nG.eq_2 (qI @nG.eq_3 (qI @nG.eq_4 (qI @nG.eq_5 (qI @nG.eq_6 (qI @nG.eq_7 (qI @nG.eq_8 (qI @nG.eq_9 (qI @nG.eq_10 (qI @nG.eq_11 (qI @nG.eq_12 (qI @nG.eq_13 (qI @nG.eq_14 (qI @nG.eq_15 (qI @nG.eq_16 (qI @nG.eq_17 (qI @aBM.eq_1 (qI @aBM.eq_2 (qI @aBM.eq_3 (qI @aBM.eq_4 (qI @aBM.eq_5 (qI @aBM.eq_6 (qI @lenOf.eq_1 (qI @lenOf.eq_2 (qI @lenOf.eq_3 (qI @lenOf.eq_4 (qI @lenOf.eq_5 (qI @aEW.eq_1 (qI @aEW.eq_2 (qI @aEW.eq_3 (qI @aEW.eq_4 (qI @aEM.eq_1 (qI @aEM.eq_2 (qI @aCw.eq_1 (qI @aCw.eq_2 (qI @aCw.eq_3 (qI @tL.eq_1 (qI @tL.eq_2 (qI @tL.eq_3 (qI @tL.eq_4 (qI @vD.eq_1 (qI @vD.eq_2 (qI @vD.eq_3 (qI @vD.eq_4 (qI @zL.eq_1 (qI @zL.eq_2 (qI @zL.eq_3 (qI @zL.eq_4 (qI @aIQ.eq_1 (qI @aFk.eq_1 (qI @aFk.eq_2 (qI @tM.eq_1 (qI @tM.eq_2 (qI @tM.eq_3 (qI @tM.eq_4 (qI @aGW.eq_1 (qI @D.flat.eq_1 (qI @D.flat.eq_2 (qI @D.flat.eq_3 (qI @D.flat.eq_4 (qI @rid.eq_1 (qI @TI.agg.eq_1 (qI @aGw (qI @aI1 (qI @aHY (qI @aJf (qI @aJn (qI @aIg (qI @aL9 (qI @aMd (qI @sL.eq_1 (qI @aIM (qI @aH5 (qI @aN7 (qI @aMt (qI @aME (qI @St.aDQ (qI @St.aKU (qI @St.aLJ (qI @St.aEd (qI @aLE @aLn)))))))))))))))))))))))))))))))))))))))))))))))))))))))))))))))))))))))))))))))))))))))))))))))))))))))))))))))))))))))))))))))))))))))))))))))))))))))))))))))))))))))))))))))))))))))))))))))))))))))
theorem E:type_of% Ez9.down:=Ez9.down
def Lz9:=PLift.up (qI @List.take_succ_cons.{0} (qI @List.take_zero.{0} (qI @List.drop_succ_cons.{0} (qI @List.drop_zero.{0} (qI @List.map_cons.{0,0} (qI @List.map_nil.{0,0} (qI @List.cons_append.{0} (qI @List.nil_append.{0} (qI @List.append_nil.{0} (qI @List.length_cons.{0} (qI @List.length_nil.{0} (qI (@List.getElem?_cons_zero.{0}) (qI (@List.getElem?_cons_succ.{0}) (qI @List.tail_cons.{0} (qI @List.tail_nil.{0} (qI @Option.isSome_some.{0} (qI @Option.isSome_none.{0} (qI @List.take_nil.{0} (qI @List.drop_nil.{0} (qI (@List.getElem?_map.{0,0}) (qI @Option.map_some.{0,0} (qI @Option.bind_some.{0,0} (qI @List.length_map.{0,0} (qI @List.replicate_succ.{0} (qI @List.replicate_zero.{0} (qI @List.flatten_cons.{0} (qI @List.flatten_nil.{0} (qI (@List.getElem?_toArray.{0}) (qI @List.toList_toArray.{0} (qI @aL7 (qI @aNV (qI @List.any_cons.{0} (qI @List.any_nil.{0} (qI Bool.or_true (qI Bool.true_or (qI Bool.or_false (qI Bool.false_or (qI Bool.and_true (qI Bool.true_and (qI Bool.and_false (qI Bool.false_and (qI true_and (qI and_true and_self)))))))))))))))))))))))))))))))))))))))))))
theorem L:type_of% Lz9.down:=Lz9.down
def Fz9:=PLift.up (qI @List.set_cons_zero.{0} (qI @List.set_cons_succ.{0} (qI @St.aDQ (qI @St.aKU (qI @St.aLJ (qI @St.aEd (qI @aLE (qI @aLn (qI @List.map_append.{0,0} (qI @List.map_cons.{0,0} (qI @List.map_nil.{0,0} (qI @List.map_set.{0,0} (qI @List.map_replicate.{0,0} (qI @List.append_nil.{0} (qI @List.nil_append.{0} (qI @List.cons_append.{0} (qI (@List.getElem?_cons_zero.{0}) (qI (@List.getElem?_cons_succ.{0}) (qI Bool.and_true Bool.true_and)))))))))))))))))))
theorem F:type_of% Fz9.down:=Fz9.down
end Go.Sh
namespace Go.Sh
open Go.RowKit
def Gho (P:Program) (base:Nat) (w0:W0) (N:Nat) (s s':St):Prop:=∀a w,Rel P base w0 N s a w→Rel P base w0 N s' a w
section
variable {P:Program} {base N:Nat} {w0:W0} {Z:St→Prop} {k:List Fr} {s s' s'':St}
theorem Gho.refl (s:St):Gho P base w0 N s s:=fun _ _ h=>h
theorem Gho.trans (h:Gho P base w0 N s s') (h':Gho P base w0 N s' s''):Gho P base w0 N s s'':=fun a w R=>h' a w (h a w R)
theorem aER {c:Code} {Q:Exit→St→Prop} (hg:Gho P base w0 N s s') (h:SW P base w0 N c s' Q):SW P base w0 N c s Q:=fun a w R=>h a w (hg a w R)
theorem aCC {c:Code} (I:Nat→St→Prop) (n:Nat) (h0:I n s) (h : ∀m s,I m s→SW P base w0 N c s (aft P base w0 N Z (.inv (fun s'=>∃s'',Gho P base w0 N s' s'' ∧ ∃m',m'<m∧I m' s'')::k))):SW P base w0 N (.loop c) s (aft P base w0 N Z k):=by
 intro a w R
 refine wp_loop_ghost (fun m a w=>∃s,I m s∧Rel P base w0 N s a w) n ⟨s,h0,R⟩ ?_
 rintro m a w ⟨s,h1,R⟩
 refine wp_mono (h m s h1 a w R) ?_
 rintro e a' w' ⟨s',h2,h3⟩
 cases e with
 | normal=>obtain ⟨s'',hg,m',h4,h5⟩:=h2;exact ⟨m',h4,s'',h5,hg _ _ h3⟩
 | _=>exact ⟨s',h2,h3⟩
theorem aIr {g:Gh} {a:Act} {w:World} {j K vj:Nat} {e:TypeId} {sz:Nat} {xs:List (List D)} {dp:Bool} (R:iD P base w0 N g s a w []) (h2:s.h j=(vj,.row e sz xs dp)) :
  ∃g',iD P base w0 N g' ((s.eE j (vj,.none)).eE K ((s.h K).1+1,.row e sz xs dp)) a w []∧gE g g' s.h ((s.eE j (vj,.none)).eE K ((s.h K).1+1,.row e sz xs dp)).h w w ∧
   ∀v,tA g s.h w (.row j vj) v→tA g' ((s.eE j (vj,.none)).eE K ((s.h K).1+1,.row e sz xs dp)).h w (.row K ((s.h K).1+1)) v:=by
 have hj1:(s.h j).1=vj:=by rw [h2]
 have hj2:(s.h j).2 = .row e sz xs dp:=by rw [h2]
 have hob:=R.inv.obj j
 rw [hj2] at hob
 obtain ⟨cells,p1,p2,p3,p4,p5⟩:=hob
 obtain ⟨I1,hfr⟩:=R.inv.xC hj2
 rw [hj1] at I1 hfr
 have T1:gE g g s.h (lJ s.h j (vj,.none)) w w:=by have:=gE.drop (g:=g) (h:=s.h) (w:=w) j g.S fun _ x=>x;rw [hj1] at this;exact this
 have hver:(lJ s.h j (vj,.none) K).1=(s.h K).1:=by
  by_cases hk:K=j
  ·subst hk;rw [aZ,hj1]
  ·rw [eF _ _ _ _ hk]
 have I2:=I1.xH (i:=K) (v:=g.val j) (e:=e) (sz:=sz) (xs:=xs) (dp:=dp) (cells:=cells) (F:=g.fp j) (pool':=[]) p1 p2 p3 p4 hfr (by simp) List.nodup_nil (fun hd=>by
  subst hd
  simp only [if_true,List.nil_append]
  exact ⟨(p5 rfl).1,fun b hb=>⟨hb,by simp⟩⟩)
 have T2:=gE.create (g:=g) (h:=lJ s.h j (vj,.none)) (w:=w) K (g.val j) (g.fp j) (.row e sz xs dp)
 rw [hver] at I2 T2
 refine ⟨_,R.turn (T1.trans T2) rfl R.below I2,T1.trans T2,?_⟩
 rintro v ⟨h0,_,hv⟩
 refine ⟨h0,?_,?_⟩
 ·show _≤(lJ _ K _ K).1
  rw [aZ];exact Nat.le_refl _
 ·intro _ e' sz' xs' dp' _
  show v=aAN g.val K (g.val j) K
  rw [cQ]
  exact hv hj1 e sz xs dp hj2
theorem aLh {g:Gh} {a:Act} {w:World} {K:Nat} (e:TypeId) (sz:Nat) (R:iD P base w0 N g s a w []) :
  ∃g',iD P base w0 N g' (s.eE K ((s.h K).1+1,.row e sz [] true)) a w []∧gE g g' s.h (s.eE K ((s.h K).1+1,.row e sz [] true)).h w w ∧
   ∀v,tA g s.h w .nil v→tA g' (s.eE K ((s.h K).1+1,.row e sz [] true)).h w (.row K ((s.h K).1+1)) v:=by
 have I2:=R.inv.xH (i:=K) (v:=.slice none 0 0) (e:=e) (sz:=sz) (xs:=[]) (dp:=true) (cells:=[]) (F:=[]) (pool':=[]) (World.ownsRow_nil w base e sz) (by simp) cC.nil (by simp) (by intro b hb;cases hb) (by simp) List.nodup_nil (fun _=>⟨List.nodup_nil,by simp⟩)
 have T2:=gE.create (g:=g) (h:=s.h) (w:=w) K (.slice none 0 0) [] (.row e sz [] true)
 refine ⟨_,R.turn T2 rfl R.below I2,T2,?_⟩
 intro v hv
 have hv:v = .slice none 0 0:=hv
 subst hv
 refine ⟨rfl,?_,?_⟩
 ·show _≤(lJ _ K _ K).1
  rw [aZ];exact Nat.le_refl _
 ·intro _ e' sz' xs' dp' _
  show _=aAN g.val K _ K
  rw [cQ]
theorem aGY {g:Gh} {a:Act} {w:World} {i:Nat} {sv:SV} (R:iD P base w0 N g s a w []) (hv:nX g s.h w sv (a.tmps.getD i undef)):iD P base w0 N g (s.aBU i sv) a w []:=by
 refine ⟨R.defers,R.size,R.below,R.q,R.sQ,R.inv,fun t => ?_,R.lab,R.frm⟩
 rw [St.aDQ]
 by_cases ht:t=i
 ·subst ht;simp only [if_true];exact hv
 ·simp only [ht,if_false];exact R.tmp t
theorem Gho.aQG {i j K vj:Nat} {e:TypeId} {sz:Nat} {xs:List (List D)} {dp:Bool} (h1:s.t i = .v false [.row j vj]) (h2:s.h j=(vj,.row e sz xs dp)) :
  Gho P base w0 N s (((s.eE j (vj,.none)).eE K ((s.h K).1+1,.row e sz xs dp)).aBU i (.v false [.row K ((s.h K).1+1)])):=by
 rintro a w ⟨g,R⟩
 have ht:=R.tmp i
 rw [h1] at ht
 obtain ⟨g',R',T,hc⟩:=aIr (K:=K) R h2
 exact ⟨g',aGY R' ⟨_,[],rfl,hc _ (cY ht),rfl⟩⟩
theorem Gho.aQU {i K:Nat} (e:TypeId) (sz:Nat) (h1:s.t i = .v false [.nil]) :
  Gho P base w0 N s ((s.eE K ((s.h K).1+1,.row e sz [] true)).aBU i (.v false [.row K ((s.h K).1+1)])):=by
 rintro a w ⟨g,R⟩
 have ht:=R.tmp i
 rw [h1] at ht
 obtain ⟨g',R',T,hc⟩:=aLh (K:=K) e sz R
 exact ⟨g',aGY R' ⟨_,[],rfl,hc _ (cY ht),rfl⟩⟩
theorem aM.set {g:Gh} {h:rF} {w:World} : ∀ {cs:List SC} {vs:List Value} (c:Nat) (x y:SC),aM g h w cs vs→cs[c]? = some x→(∀v,tA g h w x v→tA g h w y v)→aM g h w (cs.set c y) vs
 | [],vs,c,x,y,hc,hx,_=>by simp at hx
 | z::cs,vs,0,x,y,hc,hx,hxy=>by
  obtain ⟨v,vs',rfl,h1,h2⟩:=hc
  simp at hx
  subst hx
  exact ⟨v,vs',rfl,hxy v h1,h2⟩
 | z::cs,vs,c+1,x,y,hc,hx,hxy=>by
  obtain ⟨v,vs',rfl,h1,h2⟩:=hc
  exact ⟨v,vs',rfl,h1,aM.set c x y h2 (by simpa using hx) hxy⟩
theorem aPO {g:Gh} {a:Act} {w:World} {b vb b':Nat} {t:TypeId} {cells cells':List SC} {vals:Array Value} (R:iD P base w0 N g s a w []) (hb:s.h b=(vb,.box t cells)) (h3:g.val b = .pointer (some ⟨b',0,none⟩)) (h5:w.heap[b']? = some (.cells vals t (0,0))) (hc:aM g s.h w cells' vals.toList) :
  ∃g',iD P base w0 N g' (s.eE b (vb,.box t cells')) a w []:=by
 have hb1:(s.h b).1=vb:=by rw [hb]
 have hb2:(s.h b).2 = .box t cells:=by rw [hb]
 have hlive:live s.h b:=by unfold live;rw [hb2];simp
 have hown:tO (g.val b)=some b':=by rw [h3];rfl
 have hnS:=R.inv.mtb b b' hlive hown
 have T:gE g { g with fp:=aAN g.fp b (g.fp b) } s.h (lJ s.h b ((s.h b).1,.box t cells')) w w:=
  gE.yX hnS (fun _ _=>rfl) (by intro e sz xs dp hh';cases hh') (by intro t0 cs0 hh';cases hh';exact ⟨_,hb2⟩)
 have I':=R.inv.yX (i:=b) (b:=b') (F:=g.fp b) (pool':=[]) (w':=w) hlive hown rfl (fun _ _=>rfl) T
  ⟨b',vals,h3,(R.inv.aAA hlive hown).1,h5,hc.turn T⟩ (by simp) List.nodup_nil (by rintro ⟨_,_,_,hh'⟩;cases hh')
 rw [hb1] at T I'
 exact ⟨_,R.turn T rfl R.below I'⟩
theorem aEF {g g':Gh} {a:Act} {w:World} {b vb c:Nat} {t:TypeId} {cells:List SC} {x y:SC} (R:iD P base w0 N g s a w []) (R':iD P base w0 N g' s' a w []) (T:gE g g' s.h s'.h w w) (h0:s.h b=(vb,.box t cells)) (h0':s'.h b=(vb,.box t cells)) (h1:cells[c]? = some x)
  (hc : ∀v,tA g s.h w x v→tA g' s'.h w y v):Rel P base w0 N (s'.eE b (vb,.box t (cells.set c y))) a w:=by
 have hob:=R.inv.obj b
 rw [show (s.h b).2 = .box t cells from by rw [h0]] at hob
 obtain ⟨b',vals,h3,h4,h5,h6⟩:=hob
 have hv:g'.val b=g.val b:=(T.box b t cells (by rw [h0',h0]) (by rw [h0'])).1
 have hnew : ∀ {cs:List SC} {vs:List Value} (c:Nat),aM g s.h w cs vs→cs[c]? = some x→aM g' s'.h w (cs.set c y) vs:=by
  intro cs
  induction cs with
  | nil=>intro vs c _ hx;simp at hx
  | cons z cs ih =>
   intro vs c hA hx
   obtain ⟨v,vs',rfl,k1,k2⟩:=hA
   cases c with
   | zero=>simp at hx;subst hx;exact ⟨v,vs',rfl,hc v k1,k2.turn T⟩
   | succ c=>exact ⟨v,vs',rfl,k1.turn T,ih c k2 (by simpa using hx)⟩
 exact aPO R' h0' (hv.trans h3) h5 (hnew c h6 h1)
theorem Gho.aNP {b vb c j K vj:Nat} {t:TypeId} {cells:List SC} {e:TypeId} {sz:Nat} {xs:List (List D)} {dp:Bool} (h0:s.h b=(vb,.box t cells)) (h1:cells[c]? = some (.row j vj)) (h2:s.h j=(vj,.row e sz xs dp)) (hk:b≠K) :
  Gho P base w0 N s (((s.eE j (vj,.none)).eE K ((s.h K).1+1,.row e sz xs dp)).eE b (vb,.box t (cells.set c (.row K ((s.h K).1+1))))):=by
 rintro a w ⟨g,R⟩
 have hjb:b≠j:=fun e=>by rw [e,h2] at h0;cases h0
 obtain ⟨g',R',T,hc⟩:=aIr (K:=K) R h2
 refine aEF R R' T h0 ?_ h1 hc
 show lJ (lJ s.h j _) K _ b=_
 rw [eF _ _ _ _ hk,eF _ _ _ _ hjb,h0]
theorem Gho.aQN {b vb c K:Nat} {t:TypeId} {cells:List SC} (e:TypeId) (sz:Nat) (h0:s.h b=(vb,.box t cells)) (h1:cells[c]? = some .nil) (hk:b≠K) :
  Gho P base w0 N s ((s.eE K ((s.h K).1+1,.row e sz [] true)).eE b (vb,.box t (cells.set c (.row K ((s.h K).1+1))))):=by
 rintro a w ⟨g,R⟩
 obtain ⟨g',R',T,hc⟩:=aLh (K:=K) e sz R
 refine aEF R R' T h0 ?_ h1 hc
 show lJ s.h K _ b=_
 rw [eF _ _ _ _ hk,h0]
theorem sq {x y:Code} (h:SW P base w0 N x s (aft P base w0 N Z (.code y::k))):SW P base w0 N (.seq x y) s (aft P base w0 N Z k):=aPF h
theorem bk {id:Nat} {c:Code} (h:SW P base w0 N c s (aft P base w0 N Z (.block id::k))):SW P base w0 N (.block id c) s (aft P base w0 N Z k):=aNR h
theorem sk (h:aft P base w0 N Z k .normal s):SW P base w0 N .skip s (aft P base w0 N Z k):=aN2 h
theorem xt {id:Nat} (h:aft P base w0 N Z k (.exit id) s):SW P base w0 N (.exit id) s (aft P base w0 N Z k):=aOH h
theorem rt (h:Z s):SW P base w0 N .ret s (aft P base w0 N Z k):=aPI h
theorem an {c:Code} (h:SW P base w0 N c s (aft P base w0 N Z k)):aft P base w0 N Z (.code c::k) .normal s:=h
theorem ab {id:Nat} (h:aft P base w0 N Z k .normal s):aft P base w0 N Z (.block id::k) .normal s:=h
end
end Go.Sh
namespace Go.Sh
open Go.RowKit
section
variable {P:Program} {base N:Nat} {w0:W0} {Z:St→Prop} {k:List Fr} {s s':St}
theorem aM.swap {g g':Gh} {h h':rF} {w:World} {x y:SC} (T:gE g g' h h' w w) (hc : ∀v,tA g h w x v→tA g' h' w y v) : ∀ {cs:List SC} {vs:List Value} (c:Nat),aM g h w cs vs→cs[c]? = some x→aM g' h' w (cs.set c y) vs
 | [],_,c,_,hx=>by simp at hx
 | z::cs,vs,0,hA,hx=>by
  obtain ⟨v,vs',rfl,k1,k2⟩:=hA
  simp at hx
  subst hx
  exact ⟨v,vs',rfl,hc v k1,k2.turn T⟩
 | z::cs,vs,c+1,hA,hx=>by
  obtain ⟨v,vs',rfl,k1,k2⟩:=hA
  exact ⟨v,vs',rfl,k1.turn T,aM.swap T hc c k2 (by simpa using hx)⟩
end
end Go.Sh
namespace Go.Sh
open Go.RowKit
def aMA (B:Nat) (us:Nat→Value):Nat→List D→List SC
 | _,[]=>[]
 | k,d::ds=>.old B d (some (us k))::aMA B us (k+1) ds
theorem aNB (B:Nat) (us:Nat→Value) (k:Nat):aMA B us k []=[]:=rfl
theorem aLr (B:Nat) (us:Nat→Value) (k:Nat) (d:D) (ds:List D):aMA B us k (d::ds) = .old B d (some (us k))::aMA B us (k+1) ds:=rfl
def aNH (B:Nat) (us:Nat→Value) (x y:List D):St:=
 { t:=fun i=>if i=0 then .v true (x.map .dat) else if i=1 then .v true (aMA B us 0 y) else .undef,h:=fun _=>(0,.none) }
theorem aOg (B:Nat) (us:Nat→Value) (x y:List D) (i:Nat):(aNH B us x y).t i=if i=0 then .v true (x.map .dat) else if i=1 then .v true (aMA B us 0 y) else .undef:=rfl
theorem aNx (B:Nat) (us:Nat→Value) (x y:List D) (i:Nat):(aNH B us x y).h i=(0,.none):=rfl
theorem aJT (B:Nat) (d:D) (u:Option Value) (cs:List SC) (k:List D→Prog):tW (.old B d u::cs) k=tW cs fun ds=>k (d::ds):=rfl
def aQl (T:aHg) (vars:List ResultVar) (B:Nat) (us:Nat→Value) (y:List D) (s:St):Prop:=xX T s vars=some [(true,aMA B us 0 y),(false,[.dat (.bool true)])]
theorem aLj {g:Gh} {h:rF} {w:World} {B:Nat} {us:Nat→Value} : ∀ {ds:List D} {vs:List Value} {F:List Nat} (k:Nat),aF w ds vs F→(∀b∈F,g.S b∧b<B)→(∀i v,vs[i]? = some v→v=us (k+i))→aM g h w (aMA B us k ds) vs
 | [],vs,F,k,hr,_,_=>by simp only [aF] at hr;exact hr.1
 | d::ds,vs,F,k,hr,hF,hu=>by
  simp only [aF] at hr
  obtain ⟨v,vs',F1,F2,rfl,rfl,h3,h4⟩:=hr
  refine ⟨v,vs',rfl,⟨F1,h3,fun b hb=>hF b (by simp [hb]),fun x hx => ?_⟩,aLj (k+1) h4 (fun b hb=>hF b (by simp [hb])) fun i u hi => ?_⟩
  ·cases hx
   exact hu 0 v rfl
  ·rw [hu (i+1) u (by simpa using hi)]
   congr 1
   omega
theorem aLX {g:Gh} {h:rF} {w:World} {B:Nat} {us:Nat→Value} : ∀ {ds:List D} {vs:List Value} (k:Nat),aM g h w (aMA B us k ds) vs→vs.length=ds.length ∧ ∀i v,vs[i]? = some v→v=us (k+i)
 | [],vs,k,hr=>by
  rw [show vs=[] from hr]
  exact ⟨rfl,fun i v hv=>by simp at hv⟩
 | d::ds,vs,k,hr=>by
  obtain ⟨v,vs',rfl,⟨F,_,_,h3⟩,h4⟩:=hr
  obtain ⟨k1,k2⟩:=aLX (k+1) h4
  refine ⟨by simp [k1],fun i u hu => ?_⟩
  cases i with
  | zero=>simp at hu;rw [←hu];exact h3 _ rfl
  | succ i =>
   rw [k2 i u (by simpa using hu)]
   congr 1
   omega
theorem aN6 {P : Program} {f : FuncId} {fn : Func} {c : Code} {x y : List D} {N : Nat} {vars : List ResultVar} (hf : P.funcs[f]? = some fn) (hb : fn.body = some c) (hN : fn.ntmps = N) (hv : fn.results.toList = vars) (hnm : (fn.name == "runtime.NumGoroutine") = false) (hn : 2 ≤ N)
  (h : ∀(base:Nat) (w0:W0) (us:Nat→Value),SW P base w0 N c (aNH base us x y) (aft P base w0 N (aQl (jF P) vars base us y) [])):jJ P f [(true,x),(true,y)] [(false,[.edit .pass])]:=by
 subst hN hv
 refine .inr (.inl ⟨.pass,rfl,⟨fn,c,hf,hb,hnm⟩,fun w v1 v2 Fa ha => ?_⟩)
 have hFlt:=aBk (vs:=[v1,v2]) ha
 obtain ⟨F1,F',e1,h1,F2,F3,e2,h2,h3⟩:=ha
 have e3:F3=[]:=h3
 subst e3 e2 e1
 obtain ⟨c1,rfl,r1⟩:=h1
 obtain ⟨c2,rfl,r2⟩:=h2
 refine calls_of_wp hf hb ?_
 let us:Nat→Value:=fun i=>c2.toList.getD i undef
 let g:Gh:={ val:=fun _=>undef,fp:=fun _=>[],S:=fun b=>b∈F1++(F2++[]),Q:=⟨fun b=>b∈F1++(F2++[]),w.heap.size,none,slP P⟩ }
 have R:Rel P w.heap.size ⟨w,⟨fun b=>b∈F1++(F2++[]),w.heap.size,none,slP P⟩,noK,aHu⟩ fn.ntmps (aNH w.heap.size us x y) { tmps := #[.agg c1,.agg c2]++Array.replicate (fn.ntmps-2) undef,defers:=[] } w:=by
  refine ⟨g,rfl,by simp;omega,Below.refl _ _,⟨fun _ x=>x,rfl,fun _ hx=>(by cases hx)⟩,fun _ x=>x.elim,⟨Nat.le_refl _,fun _ x _=>x,hFlt,fun i=>trivial,fun i b hl=>absurd rfl hl,fun i j b _ hl=>absurd rfl hl,?_,rP.nil _ _,by simp,fun i hd=>(by obtain ⟨_,_,_,hd⟩:=hd;cases hd),Nat.le_refl _⟩,fun t => ?_,⟨rfl,.inl rfl⟩,fun _=>trivial⟩
  ·rintro i j _ ⟨_,_,_,hd⟩;cases hd
  ·show nX g _ w (if t=0 then .v true (x.map .dat) else if t=1 then .v true (aMA w.heap.size us 0 y) else .undef) _
   by_cases h0:t=0
   ·subst h0
    rw [if_pos rfl]
    exact ⟨c1,by rw [Array.getD_eq_getD_getElem?,Array.getElem?_append_left (by simp)];rfl,aM.aBL r1 fun b hb=>by show b∈F1++(F2++[]);simp [hb]⟩
   ·rw [if_neg h0]
    by_cases h1:t=1
    ·subst h1
     rw [if_pos rfl]
     refine ⟨c2,by rw [Array.getD_eq_getD_getElem?,Array.getElem?_append_left (by simp)];rfl,aLj 0 r2 (fun b hb=>⟨by show b∈F1++(F2++[]);simp [hb],hFlt b (by simp [hb])⟩) fun i v hi => ?_⟩
     show v=c2.toList.getD (0+i) undef
     rw [Nat.zero_add,List.getD_eq_getElem?_getD,hi]
     rfl
    ·rw [if_neg h1]
     show _=undef
     simp only [Array.getD_eq_getD_getElem?,Array.getElem?_append]
     rw [if_neg (by simp;omega)]
     by_cases h2:t-2<fn.ntmps-2
     ·simp [h2]
     ·rw [Array.getElem?_eq_none (by simp;omega)];rfl
 refine wp_mono (h w.heap.size ⟨w,⟨fun b=>b∈F1++(F2++[]),w.heap.size,none,slP P⟩,noK,aHu⟩ us _ w R) ?_
 rintro e a' w' ⟨s',h1,g',R'⟩
 have fin:aQl (jF P) fn.results.toList w.heap.size us y s'→a'.defers=[] ∧ ∃v,(results fn a'.tmps).run P w' = .ok v w'∧Ending.returned v = .returned (.tuple #[.agg c2,.bool true])∧Below w.heap.size w w':=by
  intro hr
  obtain ⟨vs,k1,k2,k3⟩:=zA R' hr
  have hrun:=aD5 (P:=P) (w:=w') (fun x=>match x with | .tmp t=>(pure (a'.tmps.getD t undef):Sem Value) | .cell p t=>(do loadVar t (←asAddr (a'.tmps.getD p undef)):Sem Value)) fn.results.toList vs (by rw [k1]) k3
  have hrun':(results fn a'.tmps).run P w' = .ok (if h:vs.toArray.size=1 then vs.toArray[0] else .tuple vs.toArray) w':=by
   unfold results
   rw [←Array.toArray_toList (xs:=fn.results)]
   rw [List.mapM_toArray]
   simp only [Sem.run_bind,Sem.run_map,Sem.run_pure]
   exact (congrArg (fun r:Result (List Value)=>(r.andThen fun a w'=>Result.ok a.toArray w').andThen fun a w'=>Result.ok (if h:a.size=1 then a[0] else Value.tuple a) w') hrun).trans rfl
  obtain ⟨u1,vs1,rfl,⟨d2,rfl,m1⟩,u2,vs2,rfl,m2,m3⟩:=k2
  have m3':vs2=[]:=m3
  subst m3'
  have e2:u2 = .bool true:=wS (g:=g') (s:=s') (w:=w') (b:=true) m2
  subst e2
  obtain ⟨n1,n2⟩:=aLX 0 m1
  have n3:c2.toList.length=y.length:=r2.length
  have e1:d2=c2:=by
   apply Array.ext'
   apply List.ext_getElem?
   intro i
   rcases Nat.lt_or_ge i y.length with hi | hi
   ·have hd:i<d2.toList.length:=by rw [n1];exact hi
    have hc:i<c2.toList.length:=by rw [n3];exact hi
    rw [qF hd,qF hc]
    have:=n2 i _ (qF hd)
    rw [this]
    show some (c2.toList.getD (0+i) undef)=_
    rw [Nat.zero_add,List.getD_eq_getElem?_getD,qF hc]
    rfl
   ·rw [qX (by rw [n1];exact hi),qX (by rw [n3];exact hi)]
  subst e1
  exact ⟨R'.defers,_,hrun',rfl,R'.below⟩
 cases e with
 | normal=>exact fin h1
 | ret=>exact fin h1
 | exit id=>exact h1.elim
 | goto l=>exact h1.elim
 | panic c=>exact h1.elim
 | outgrown=>exact h1.elim
def aR9:=PLift.up (qI @aNB (qI @aLr (qI @aOg (qI @aNx @aJT))))
theorem LP:type_of% aR9.down:=aR9.down
theorem aHH {α:Type} {f:α→List D} {sz b:Nat} {xs z w1 w2:List α} {k:Int} (hf : ∀x,(f x).length=sz) (hb:0<b) (h1:xA xs k=some w1) (h2:wM xs (IntKind.i64.wrap (k+1))=some w2) (h:app b (List.take k.toNat xs) (List.drop (IntKind.i64.wrap (k+1)).toNat xs)=some z) :
  List.take k.toNat (aDn sz (IntKind.i64.wrap (k+1)).toNat (xs.length-(IntKind.i64.wrap (k+1)).toNat) (xs.map f))=List.take k.toNat (xs.map f)∧(∀y∈List.drop (IntKind.i64.wrap (k+1)).toNat (xs.map f),y.length=sz) ∧
   (k.toNat+(xs.length-(IntKind.i64.wrap (k+1)).toNat))*b≤140737488355328:=by
 obtain ⟨a1,a2⟩:0≤k∧k.toNat≤xs.length:=by
  unfold xA at h1
  split at h1
  ·assumption
  ·cases h1
 obtain ⟨b1,b2⟩:0≤IntKind.i64.wrap (k+1)∧(IntKind.i64.wrap (k+1)).toNat≤xs.length:=by
  unfold wM at h2
  split at h2
  ·assumption
  ·cases h2
 have h3:=oA h
 have hl:(List.take k.toNat xs).length=k.toNat:=by rw [qT];omega
 rw [hl,qU] at h3
 have h4:k.toNat≤140737488355328:=Nat.le_trans (Nat.le_trans (Nat.le_mul_of_pos_right _ hb) (Nat.mul_le_mul_right b (Nat.le_add_right _ _))) h3
 have e:IntKind.i64.wrap (k+1)=k+1:=bO (by omega) (by omega)
 rw [e] at b1 b2 h3 ⊢
 refine ⟨?_,fun y hy => ?_,?_⟩
 ·unfold aDn
  rw [List.take_append_of_le_length (by simp only [qT,List.length_map];omega),List.take_take,Nat.min_eq_left (by omega)]
 ·obtain ⟨x,_,rfl⟩:=List.mem_map.1 (List.mem_of_mem_drop hy)
  exact hf x
 ·exact h3
end Go.Sh
namespace Go.Sh
open Go.RowKit
end Go.Sh
namespace Go.Sh
open Go.RowKit
def aLg (t:TypeId) (B:Nat) (v0:Value) (d0:D) (ds:List D) (rest:List (Bool×List D)):St:=
 { t:=fun i=>match i with | 0=>.v false [.bp 7059000 1 0] | i+1=>(match rest[i]? with | some (ag,ds)=>.v ag (ds.map .dat) | none=>.undef),h:=fun i=>if i=7059000 then (1,.box t (.old B d0 (some v0)::ds.map .dat)) else (0,.none) }
theorem aJ7 (t:TypeId) (B:Nat) (v0:Value) (d0:D) (ds:List D) (rest:List (Bool×List D)) (i:Nat):(aLg t B v0 d0 ds rest).t i=match i with | 0=>.v false [.bp 7059000 1 0] | i+1=>(match rest[i]? with | some (ag,ds)=>.v ag (ds.map .dat) | none=>.undef):=rfl
theorem aC2 (t:TypeId) (B:Nat) (v0:Value) (d0:D) (ds:List D) (rest:List (Bool×List D)) (i:Nat):(aLg t B v0 d0 ds rest).h i=if i=7059000 then (1,.box t (.old B d0 (some v0)::ds.map .dat)) else (0,.none):=rfl
def aFF (T:aHg) (vars:List ResultVar) (t:TypeId) (B:Nat) (v0:Value) (d0:D) (es:List D) (rs:List (Bool×List RC)) (s:St):Prop:=
 Ret T vars rs s∧s.h 7059000=(1,.box t (.old B d0 (some v0)::es.map .dat))
theorem aI6 {g:Gh} {h:rF} {w:World} : ∀ {es:List D} {us:List Value},aM g h w (es.map .dat) us→es.all D.flat=true→aF w es us []
 | [],us,hc,_=>by simp only [aF];exact ⟨hc,trivial⟩
 | d::es,us,hc,hf=>by
  obtain ⟨v,vs',rfl,⟨F,h1,_⟩,h3⟩:=hc
  simp only [List.all_cons,qM] at hf
  have e:F=[]:=aCc h1 hf.1
  subst e
  simp only [aF]
  exact ⟨v,vs',[],[],rfl,rfl,h1,aI6 h3 hf.2⟩
theorem aOa {P : Program} {f : FuncId} {fn : Func} {c : Code} {t : TypeId} {d0 : D} {ds es : List D} {rest : List (Bool × List D)} {rs : List (Bool × List RC)} {N : Nat} {vars : List ResultVar} (hf : P.funcs[f]? = some fn) (hb : fn.body = some c) (hN : fn.ntmps = N) (hv : fn.results.toList = vars) (hnm : (fn.name == "runtime.NumGoroutine") = false) (hn : rest.length + 1 ≤ N)
  (hrs:sL rs=false) (hds:ds.all D.flat=true) (hes:es.all D.flat=true) (hl:es.length=ds.length)
  (h : ∀(base:Nat) (w0:W0) (B:Nat) (v0:Value),(B≤base∧w0.Q.L=slP P ∧ ∀b,w0.K b→b<base)→SW P base w0 N c (aLg t B v0 d0 ds rest) (aft P base w0 N (aFF (jF P) vars t B v0 d0 es rs) [])):jJ P f ((false,[.ptr (d0::ds)])::rest) ((false,[.edit (.lend t es)])::rs):=by
 subst hN hv
 refine .inr (.inr ⟨t,es,rs,rfl,⟨fn,c,hf,hb,hnm⟩,hrs,hes,d0,ds,rest,rfl,hds,hl,fun w b vals v0 vs0 vs Fb F hw hvals r0 r1 hbF ha hbF2 => ?_⟩)
 refine calls_of_wp hf hb ?_
 have hbl:b<w.heap.size:=(Array.getElem?_eq_some_iff.1 hw).1
 obtain ⟨hlen,hat⟩:=args_at ha
 have hFlt:=aBk ha
 have hFb:=Rep.lt _ _ _ r0
 let K:Nat→Prop:=fun x=>x<w.heap.size∧x≠b
 let q:QF:=⟨fun x=>x<w.heap.size,b,some b,slP P⟩
 let g:Gh:={ val:=fun _=>.pointer (some ⟨b,0,none⟩),fp:=fun _=>[],S:=K,Q:=q }
 let s0:=aLg t w.heap.size v0 d0 ds rest
 have hlv : ∀i,live s0.h i→i=7059000:=fun i hl=>by
  unfold live at hl
  rw [aC2] at hl
  by_cases hi:i=7059000
  ·exact hi
  ·rw [if_neg hi] at hl;exact absurd rfl hl
 have R:Rel P w.heap.size ⟨w,q,K,aHu⟩ fn.ntmps s0 { tmps:=(.pointer (some ⟨b,0,none⟩)::vs).toArray++Array.replicate (fn.ntmps-(.pointer (some ⟨b,0,none⟩)::vs).toArray.size) undef,defers:=[] } w:=by
  have hsz:(Value.pointer (some ⟨b,0,none⟩)::vs).toArray.size=rest.length+1:=by simp [hlen]
  have hnd : ∀i,¬fD s0.h i:=by
   rintro i ⟨_,_,_,hd⟩
   rw [aC2] at hd
   split at hd<;>cases hd
  have hmt : ∀i x,live s0.h i→tO (g.val i)=some x → ¬g.S x:=by
   intro i x hl hx hS
   have:some b=some x:=hx
   exact hS.2 (Option.some.inj this).symm
  have hlt:aFQ (some b) s0.h g:=by
   intro b' hb'
   cases hb'
   exact ⟨by rw [aC2,if_pos rfl];exact Nat.le_refl _,fun _ _ _=>rfl⟩
  refine ⟨g,rfl,by simp only [Array.size_append,Array.size_replicate];omega,Below.refl _ _,⟨fun _ x=>x,rfl,hlt⟩,fun x hx=>⟨hx,rfl⟩,⟨Nat.le_refl _,fun x hx _=>hx.1,fun x hx=>hx.1,fun i => ?_,hmt,fun i j x hne hi hj=>absurd ((hlv i hi).trans (hlv j hj).symm) hne,fun i j _ hi _=>absurd hi (hnd i),rP.nil _ _,fun _ hx=>absurd hx qO,fun i hi=>absurd hi (hnd i),Nat.le_of_lt hbl⟩,fun i => ?_,⟨rfl,.inl rfl⟩,fun _=>trivial⟩
  ·rw [aC2]
   by_cases hi:i=7059000
   ·rw [if_pos hi]
    refine ⟨b,vals,rfl,Nat.le_refl _,hw,?_⟩
    rw [hvals]
    refine ⟨v0,vs0,rfl,⟨Fb,r0,fun x hx=>⟨⟨hFb x hx,fun e=>hbF (e ▸ hx)⟩,hFb x hx⟩,fun x hx=>by cases hx;rfl⟩,aM.aBL r1 (by simp)⟩
   ·rw [if_neg hi];trivial
  ·rw [aJ7]
   cases i with
   | zero =>
    have:({ tmps:=(Value.pointer (some ⟨b,0,none⟩)::vs).toArray++Array.replicate (fn.ntmps-(Value.pointer (some ⟨b,0,none⟩)::vs).toArray.size) undef,defers:=[] }:Act).tmps.getD 0 undef = .pointer (some ⟨b,0,none⟩):=by
     rw [Array.getD_eq_getD_getElem?,Array.getElem?_append_left (by simp)];simp
    rw [this]
    refine ⟨_,[],rfl,⟨rfl,?_,fun _ t' cs _=>⟨b,rfl,rfl⟩⟩,rfl⟩
    show 1≤(s0.h 7059000).1
    rw [aC2,if_pos rfl]
    exact Nat.le_refl _
   | succ i =>
    show nX g _ w (match rest[i]? with | some (ag,ds)=>.v ag (ds.map .dat) | none=>.undef) _
    cases ht:rest[i]? with
    | none =>
     have hge:rest.length≤i:=List.getElem?_eq_none_iff.1 ht
     show _=undef
     simp only [Array.getD_eq_getD_getElem?,Array.getElem?_append]
     rw [if_neg (by omega)]
     by_cases h2:i+1-(Value.pointer (some ⟨b,0,none⟩)::vs).toArray.size<fn.ntmps-(Value.pointer (some ⟨b,0,none⟩)::vs).toArray.size
     ·rw [Array.getElem?_replicate,if_pos h2];rfl
     ·rw [Array.getElem?_replicate,if_neg h2];rfl
    | some x =>
     obtain ⟨v,Fi,h1,h2,hFi⟩:=hat i x ht
     have hlt:i<vs.length:=by have:=(List.getElem?_eq_some_iff.1 ht).1;omega
     have hv:({ tmps:=(Value.pointer (some ⟨b,0,none⟩)::vs).toArray++Array.replicate (fn.ntmps-(Value.pointer (some ⟨b,0,none⟩)::vs).toArray.size) undef,defers:=[] }:Act).tmps.getD (i+1) undef=v:=by
      simp only [Array.getD_eq_getD_getElem?,Array.getElem?_append]
      rw [if_pos (by omega)]
      simp [h1]
     rw [hv]
     have hK : ∀x∈Fi,K x:=fun x hx=>⟨hFlt x (hFi x hx),fun e=>hbF2 (e ▸ hFi x hx)⟩
     obtain ⟨ag,ds'⟩:=x
     cases ag with
     | false =>
      obtain ⟨d,rfl,hr⟩:=h2
      exact ⟨v,[],rfl,⟨Fi,hr,hK⟩,rfl⟩
     | true =>
      obtain ⟨cs,rfl,hr⟩:=h2
      exact ⟨cs,rfl,aM.aBL hr hK⟩
 refine wp_mono (h w.heap.size ⟨w,q,K,aHu⟩ w.heap.size v0 ⟨Nat.le_refl _,rfl,fun b hb=>hb.1⟩ _ w R) ?_
 rintro e a' w' ⟨s',h1,R'⟩
 have fin:aFF (jF P) fn.results.toList t w.heap.size v0 d0 es rs s'→a'.defers=[] ∧ ∃v,(results fn a'.tmps).run P w' = .ok v w' ∧ ∃v' us,Ending.returned v = .returned v'∧aDK (slP P) w.heap.size w' v' rs (fun x=>x<w.heap.size)∧w.grownBy w' (some b) ∧
    w'.heap[b]? = some (.cells (v0::us).toArray t (0,0))∧aF w' es us []:=by
  rintro ⟨hr,hh⟩
  obtain ⟨v,k1,k2⟩:=aIB R' hr
  obtain ⟨g',R''⟩:=R'
  have hobj:=R''.inv.obj 7059000
  rw [show (s'.h 7059000).2 = .box t (.old w.heap.size d0 (some v0)::es.map .dat) from by rw [hh]] at hobj
  obtain ⟨b',vals',p1,p2,p3,p4⟩:=hobj
  obtain ⟨u0,us,e1,⟨F0,_,_,hu0⟩,p5⟩:=p4
  have hu0':u0=v0:=hu0 v0 rfl
  subst hu0'
  have hlive:live s'.h 7059000:=by unfold live;rw [hh];simp
  have hbb:b'=b:=by
   have:=(R''.q.2.2 b rfl).2 _ _ hh
   rw [p1] at this
   simpa using this
  subst hbb
  refine ⟨R''.defers,v,k1,v,us,rfl,k2,⟨R''.below.os,R''.below.tape,R''.below.output,R''.below.size,fun k hk hne=>(R''.sQ k ⟨hk,fun e=>hne (by rw [e])⟩).2⟩,?_,aI6 p5 hes⟩
  rw [p3,←e1]
 cases e with
 | normal=>exact fin h1
 | ret=>exact fin h1
 | exit id=>exact h1.elim
 | goto l=>exact h1.elim
 | panic c=>exact h1.elim
 | outgrown=>exact h1.elim
def aQx (T:aHg) (vars:List ResultVar) (t:TypeId) (es:List D) (s:St):Prop:=
 ∃i ver,xX T s vars=some [(false,[.bp i ver 0])]∧s.h i=(ver,.box t (es.map .dat))
theorem aHa {g:Gh} {h:rF} {w:World} : ∀ {es:List D} {us:List Value},aM g h w (es.map .dat) us → ∃G,aF w es us G ∧ ∀b∈G,g.S b
 | [],us,hc=>⟨[],by simp only [aF];exact ⟨hc,trivial⟩,by simp⟩
 | d::es,us,hc=>by
  obtain ⟨v,vs',rfl,⟨F,h1,h2⟩,h3⟩:=hc
  obtain ⟨G,h4,h5⟩:=aHa h3
  refine ⟨F++G,by simp only [aF];exact ⟨v,vs',F,G,rfl,rfl,h1,h4⟩,fun b hb => ?_⟩
  rcases List.mem_append.1 hb with hb | hb
  ·exact h2 b hb
  ·exact h5 b hb
theorem aNy {P : Program} {f : FuncId} {fn : Func} {c : Code} {t : TypeId} {es : List D} {args : List (Bool × List D)} {N : Nat} {vars : List ResultVar} (hf : P.funcs[f]? = some fn) (hb : fn.body = some c) (hN : fn.ntmps = N) (hv : fn.results.toList = vars) (hnm : (fn.name == "runtime.NumGoroutine") = false) (hn : args.length ≤ N)
  (h : ∀(base:Nat) (w0:W0),SW P base w0 N c (init args) (aft P base w0 N (aQx (jF P) vars t es) [])):jJ P f args [(false,[.edit (.newb t es)])]:=by
 subst hN hv
 refine .inr (.inl ⟨.newb t es,rfl,⟨fn,c,hf,hb,hnm⟩,fun w vs Fa ha => ?_⟩)
 obtain ⟨hlen,hat⟩:=args_at ha
 have hlen':vs.size=args.length:=by simpa using hlen
 refine calls_of_wp hf hb ?_
 have hFlt:=aBk ha
 have R:=aIY (P:=P) (fn:=fn) ha hn
 refine wp_mono (h w.heap.size ⟨w,⟨fun b=>b∈Fa,w.heap.size,none,slP P⟩,noK,aHu⟩ _ w R) ?_
 rintro e a' w' ⟨s',h1,g',R'⟩
 have fin:aQx (jF P) fn.results.toList t es s'→a'.defers=[] ∧ ∃v,(results fn a'.tmps).run P w' = .ok v w'∧Below w.heap.size w w' ∧ ∃b vals G,Ending.returned v = .returned (.pointer (some ⟨b,0,none⟩))∧w.heap.size≤b ∧
   w'.heap[b]? = some (.cells vals t (0,0))∧aF w' es vals.toList G∧b∉G ∧ ∀x∈G,(x∈Fa∨w.heap.size≤x)∧x<w'.heap.size:=by
  rintro ⟨i,ver,hg,hh⟩
  have hobj:=R'.inv.obj i
  rw [show (s'.h i).2 = .box t (es.map .dat) from by rw [hh]] at hobj
  obtain ⟨b,vals,p1,p2,p3,p4⟩:=hobj
  obtain ⟨G,p5,p6⟩:=aHa p4
  have hlive:live s'.h i:=by unfold live;rw [hh];simp
  have hfb:w.heap.size≤b:=by have h1:=R'.q.2.1;have h2:(⟨w,⟨fun b=>b∈Fa,w.heap.size,none,slP P⟩,noK,aHu⟩:W0).Q.fb=w.heap.size:=rfl;omega
  obtain ⟨vs,k1,k2,k3⟩:=zA R' hg
  have hrun:=aD5 (P:=P) (w:=w') (fun x=>match x with | .tmp t=>(pure (a'.tmps.getD t undef):Sem Value) | .cell p t=>(do loadVar t (←asAddr (a'.tmps.getD p undef)):Sem Value)) fn.results.toList vs (by rw [k1]) k3
  have hrun':(results fn a'.tmps).run P w' = .ok (if h:vs.toArray.size=1 then vs.toArray[0] else .tuple vs.toArray) w':=by
   unfold results
   rw [←Array.toArray_toList (xs:=fn.results)]
   rw [List.mapM_toArray]
   simp only [Sem.run_bind,Sem.run_map,Sem.run_pure]
   exact (congrArg (fun r:Result (List Value)=>(r.andThen fun a w'=>Result.ok a.toArray w').andThen fun a w'=>Result.ok (if h:a.size=1 then a[0] else Value.tuple a) w') hrun).trans rfl
  obtain ⟨u,vs',rfl,⟨u',us,e1,m1,m2⟩,m3⟩:=k2
  have m3':vs'=[]:=m3
  subst m3'
  simp only [List.cons.injEq] at e1
  obtain ⟨rfl,_⟩:=e1
  obtain ⟨b2,q1,q2⟩:=m1.2.2 (by rw [hh]) t (es.map .dat) (by rw [hh])
  have hbb:b2=b:=by rw [p1] at q1;simp at q1;exact q1.symm
  subst hbb
  refine ⟨R'.defers,u,hrun',R'.below,b2,vals,G,by rw [q2],hfb,p3,p5,fun hx=>R'.inv.mtb i b2 hlive (by rw [p1];rfl) (p6 _ hx),fun x hx=>⟨?_,R'.inv.S_lt x (p6 x hx)⟩⟩
  rcases Nat.lt_or_ge x w.heap.size with hlt | hge
  ·exact .inl (R'.q.1 x (R'.inv.S_old x (p6 x hx) hlt))
  ·exact .inr hge
 cases e with
 | normal=>exact fin h1
 | ret=>exact fin h1
 | exit id=>exact h1.elim
 | goto l=>exact h1.elim
 | panic c=>exact h1.elim
 | outgrown=>exact h1.elim
end Go.Sh
namespace Go.Sh
open Go.RowKit
def SC.clean (base:Nat):SC→Prop
 | .dat d=>d.flat=true
 | .old B _ _=>B≤base
 | .exa _ _ _=>False
 | _=>True
def SV.clean (base:Nat):SV→Prop
 | .v _ cs=>∀c∈cs,SC.clean base c
 | .tup xs=>∀x∈xs,∀c∈x.2,SC.clean base c
 | _=>True
def yK.clean (base:Nat):yK→Prop
 | .none=>True
 | .box _ cs=>∀c∈cs,SC.clean base c
 | .row _ _ _ dp=>dp=true
 | .pin _ _ _=>False
section
variable {P:Program} {base N:Nat} {w0:W0} {w:World} {g:Gh} {s:St} {a:Act}
def aTI (s:St) (d:Nat) (sv:SV):St:=
 { t:=fun i=>if i=d then sv else if i<10000 then s.fr i else .unk,h:=s.h,fr:=fun i=>s.fr (i+10000) }
def aPJ:List (Bool×List SC)→SV
 | [(ag,cs)]=>.v ag cs
 | l=>.tup l
def aS1 (P:Program) (T:aHg) (vars:List ResultVar) (N:Nat) (ops:Array Oper) (n d:Nat) (K:St→Prop) (s:St):Prop:=
 ∃l,xX T s vars=some l∧aAL P T N ops (ops.toList.drop (n+1)) (aTI s d (aPJ l)) K
set_option maxRecDepth 20000 in
end
end Go.Sh
namespace Go.Sh
open Go.RowKit
def aPU (h:rF) (kh:List Nat) (i ver:Nat) (e:TypeId) (sz:Nat) (xs:List (List D)) (j:Nat) (x:List D) (off K:Nat) (e':TypeId) (sz':Nat) (ys:List (List D)) (u:Value):rF:=fun l =>
 if l=i then (ver,.row e sz (xs.set j (x.set off (.val u))) true) else if l=K then ((h K).1+1,.row e' sz' ys true) else if l=7058000 then ((h 7058000).1+1,.pin K ((h K).1+1) u) else if l∈kh then h l else ((h l).1,.none)
def aIf (s:St) (kt kh:List Nat) (i ver:Nat) (e:TypeId) (sz:Nat) (xs:List (List D)) (j:Nat) (x:List D) (off K:Nat) (e':TypeId) (sz':Nat) (ys:List (List D)) (u:Value):St:=
 { t:=fun t=>if t∈kt then s.t t else .unk,h:=aPU s.h kh i ver e sz xs j x off K e' sz' ys u }
theorem aJG (s:St) (kt kh:List Nat) (i ver:Nat) (e:TypeId) (sz:Nat) (xs:List (List D)) (j:Nat) (x:List D) (off K:Nat) (e':TypeId) (sz':Nat) (ys:List (List D)) (u:Value) (t:Nat):(aIf s kt kh i ver e sz xs j x off K e' sz' ys u).t t=if t∈kt then s.t t else .unk:=rfl
theorem aMi (s:St) (kt kh:List Nat) (i ver:Nat) (e:TypeId) (sz:Nat) (xs:List (List D)) (j:Nat) (x:List D) (off K:Nat) (e':TypeId) (sz':Nat) (ys:List (List D)) (u:Value) (l:Nat):(aIf s kt kh i ver e sz xs j x off K e' sz' ys u).h l =
  if l=i then (ver,.row e sz (xs.set j (x.set off (.val u))) true) else if l=K then ((s.h K).1+1,.row e' sz' ys true) else if l=7058000 then ((s.h 7058000).1+1,.pin K ((s.h K).1+1) u) else if l∈kh then s.h l else ((s.h l).1,.none):=rfl
section
variable {P:Program} {base N:Nat} {w0:W0} {w:World} {g:Gh} {s:St} {a:Act}
theorem bE.at_ {L:TL} {ds:List D} {ts:Lb} {vs:List Value} {F:List Nat} (h:bE L w ds ts vs F) {off:Nat} {d:D} (hd:ds[off]? = some d) :
  ∃v1 v v3 F1 F2 F3,vs=v1++v::v3∧v1.length=off∧F=F1++(F2++F3)∧wE L w d (Sh.lab (ts.drop off)) v F2 ∧ ∀(d':D) (v':Value) (F':List Nat),wE L w d' (Sh.lab (ts.drop off)) v' F'→bE L w (ds.set off d') ts (v1++v'::v3) (F1++(F'++F3)):=by
 induction ds generalizing ts vs F off with
 | nil=>simp at hd
 | cons d0 ds ih =>
  simp only [bE] at h
  obtain ⟨v,vs',F1,F2,rfl,rfl,h3,h4⟩:=h
  cases off with
  | zero =>
   simp at hd
   subst hd
   refine ⟨[],v,vs',[],F1,F2,rfl,rfl,rfl,by simpa using h3,fun d' v' F' h' => ?_⟩
   simp only [List.set_cons_zero,bE,List.nil_append]
   exact ⟨v',vs',F',F2,rfl,rfl,by simpa using h',h4⟩
  | succ off =>
   obtain ⟨v1,v2,v3,G1,G2,G3,rfl,hl,rfl,k1,k2⟩:=ih h4 (by simpa using hd)
   rw [List.drop_tail] at k1 k2
   refine ⟨v::v1,v2,v3,F1++G1,G2,G3,rfl,by simp [hl],by simp,k1,fun d' v' F' h' => ?_⟩
   simp only [List.set_cons_succ,bE]
   exact ⟨v,v1++v'::v3,F1,G1++(F'++G3),by simp,by simp,h3,k2 d' v' F' h'⟩
theorem aJy {g':Gh} {h h':rF} {B:Option Nat} (hB : ∀b,B=some b→base≤b) (hlt : ∀b,g.S b→some b≠B→g'.S b) (hval : ∀i,(h' i).1=(h i).1→(h' i).2 ≠ .none→g'.val i=g.val i) (hver : ∀i,(h i).1≤(h' i).1)
  (hrow : ∀i e sz xs dp,(h' i).1=(h i).1→(h' i).2 = .row e sz xs dp → ∃xs0 dp0,(h i).2 = .row e sz xs0 dp0) (hbox : ∀i t cs,(h' i).1=(h i).1→(h' i).2 = .box t cs → ∃cs0,(h i).2 = .box t cs0)
  {c:SC} {v:Value} (hc:tA g h w c v) (hcl:SC.clean base c):tA g' h' w c v:=by
 have cap : ∀ {c:Nat×Nat×Nat} {v:Value},aCR g h c v→aCR g' h' c v:=by
  rintro c v ⟨h1,h2⟩
  refine ⟨Nat.le_trans h1 (hver _),fun hv t cs hx => ?_⟩
  have e1:(h' c.1).1=(h c.1).1:=by have:=hver c.1;omega
  obtain ⟨cs0,hx0⟩:=hbox _ _ _ e1 hx
  rw [hval _ e1 (by rw [hx];simp)]
  exact h2 (by omega) t cs0 hx0
 have caps : ∀ {cs:List (Nat×Nat×Nat)} {vs:List Value},xI g h cs vs→xI g' h' cs vs:=by
  intro cs
  induction cs with
  | nil=>intro vs h;exact h
  | cons c cs ih=>rintro vs ⟨v,vs',rfl,h1,h2⟩;exact ⟨v,vs',rfl,cap h1,ih h2⟩
 have row : ∀ {i ver:Nat},ver≤(h i).1→(h' i).1=ver → ∀ {e sz xs dp},(h' i).2 = .row e sz xs dp→(h i).1=ver∧g'.val i=g.val i ∧ ∃xs0 dp0,(h i).2 = .row e sz xs0 dp0:=by
  intro i ver h1 hv e sz xs dp hr
  have e1:(h' i).1=(h i).1:=by have:=hver i;omega
  exact ⟨by omega,hval _ e1 (by rw [hr];simp),hrow _ _ _ _ _ e1 hr⟩
 cases c with
 | dat d =>
  obtain ⟨F',h1,h2⟩:=hc
  have:=aCc h1 hcl
  subst this
  exact ⟨[],h1,by simp⟩
 | nil=>exact hc
 | row i ver =>
  obtain ⟨h0,h1,h2⟩:=hc
  refine ⟨h0,Nat.le_trans h1 (hver _),fun hv e sz xs dp hr => ?_⟩
  obtain ⟨e1,e2,xs0,dp0,hr0⟩:=row h1 hv hr
  rw [e2];exact h2 e1 _ _ _ _ hr0
 | bp i ver off=>exact ⟨hc.1,cap hc.2⟩
 | rp i ver j off =>
  obtain ⟨h0,h1,h2⟩:=hc
  refine ⟨h0,Nat.le_trans h1 (hver _),fun hv e sz xs dp hr => ?_⟩
  obtain ⟨e1,e2,xs0,dp0,hr0⟩:=row h1 hv hr
  rw [e2];exact h2 e1 _ _ _ _ hr0
 | clo f cs=>obtain ⟨vs,h1,h2⟩:=hc;exact ⟨vs,h1,caps h2⟩
 | old B0 d u =>
  obtain ⟨F',h1,h2,h3⟩:=hc
  have hB0:B0≤base:=hcl
  exact ⟨F',h1,fun b hm=>⟨hlt b (h2 b hm).1 fun e=>by have:=hB b e.symm;have:=(h2 b hm).2;omega,(h2 b hm).2⟩,h3⟩
 | part i ver lo n =>
  obtain ⟨h0,h1,h2⟩:=hc
  refine ⟨h0,Nat.le_trans h1 (hver _),fun hv e sz xs dp hr => ?_⟩
  obtain ⟨e1,e2,xs0,dp0,hr0⟩:=row h1 hv hr
  rw [e2];exact h2 e1 _ _ _ _ hr0
 | exa W d x=>exact hcl.elim
theorem aNA {kt kh:List Nat} {i ver:Nat} {e:TypeId} {sz:Nat} {xs:List (List D)} {j:Nat} {x:List D} {off K:Nat} {e':TypeId} {sz':Nat} {ys:List (List D)} (R:iD P base w0 N g s a w [])
  (hi:s.h i=(ver,.row e sz xs true)) (hj:xs[j]? = some x) (ho:x[off]? = some (.sl ys)) (hl:lab ((slP P e).drop off)=some (e',sz')) (hL:w0.Q.L=slP P) (hlent:w0.Q.lent=none∨(7059000∈kh∧i≠7059000∧K≠7059000)) (hK0 : ∀b,w0.K b→b<base)
  (hiK:i≠K) (hi0:i≠7058000) (hK1:K≠7058000) (hkt : ∀t∈kt,SV.clean base (s.t t)) (hkh : ∀l∈kh,yK.clean base (s.h l).2) :
  ∃u,Rel P base w0 N (aIf s kt kh i ver e sz xs j x off K e' sz' ys u) a w:=by
 have hi2:(s.h i).2 = .row e sz xs true:=by rw [hi]
 have hob:=R.inv.obj i
 rw [hi2] at hob
 obtain ⟨cells,p1,p2,p3,p4,p5⟩:=hob
 have hof:=p5 rfl
 have hlive:live s.h i:=by unfold live;rw [hi2];simp
 have hdeep:fD s.h i:=⟨e,sz,xs,hi2⟩
 obtain ⟨v1,v2,v3,F1,F2,F3,rfl,hF,hl1,hr1,hr2,hr3⟩:=p3.at_ p2 hj
 have hgL:g.Q.L=slP P:=R.lab.1.trans hL
 obtain ⟨c1,u,c3,Fa,Fb,Fc,rfl,hc1,rfl,hu,lJ⟩:=bE.at_ (show bE g.Q.L w x (g.Q.L e) v2 F2 from hr2) ho
 rw [hgL,hl] at hu
 simp only [wE] at hu
 obtain ⟨cells',G,q1,q2,rfl,q3⟩:=hu
 have hone:u.oneCell'=true:=by rcases q1.2 with ⟨rfl,_⟩ | ⟨_,_,_,rfl,_⟩<;>rfl
 have hset':=lJ (.val u) u [] (by unfold wE;exact ⟨⟨rfl,hone⟩,rfl⟩)
 have hnd:=hof.1
 rw [hF] at hnd
 have hBin : ∀b,u.ownBlock=some b→b∈g.fp i:=fun b hb=>by rw [hF,hb];simp
 have hGin : ∀b∈G,b∈g.fp i:=fun b hb=>by rw [hF];simp [hb]
 have hBbase : ∀b,u.ownBlock=some b→base≤b:=fun b hb=>(hof.2 b (hBin b hb)).1
 let FI:=F1++((Fa++([]++Fc))++F3)
 have hFI : ∀b∈FI,b∈g.fp i:=fun b hb=>by
  rw [hF]
  simp only [FI,qP,qO,false_or] at hb ⊢
  rcases hb with hb | ((hb | hb) | hb)
  ·exact .inl hb
  ·exact .inr (.inl (.inl hb))
  ·exact .inr (.inl (.inr (.inr hb)))
  ·exact .inr (.inr hb)
 have hsub:List.Sublist FI (F1++((Fa++((u.ownBlock.toList++G)++Fc))++F3)):=
  (List.Sublist.refl _).append (((List.Sublist.refl _).append ((List.nil_sublist _).append (List.Sublist.refl _))).append (List.Sublist.refl _))
 have hBG:(u.ownBlock.toList++G).Nodup:=by
  have:=(List.nodup_append.1 (List.nodup_append.1 (List.nodup_append.1 (List.nodup_append.1 hnd).2.1).1).2.1).1
  exact this
 have hFIB : ∀b∈FI,b∉u.ownBlock.toList++G:=by
  intro b hb hb'
  simp only [List.nodup_append,qP] at hnd
  simp only [FI,qP,qO,false_or] at hb
  simp only [qP] at hb'
  grind
 have hFIB1 : ∀b∈FI,u.ownBlock≠some b:=fun b hb e0=>hFIB b hb (by rw [e0];simp)
 have hGB : ∀b∈G,u.ownBlock≠some b:=fun b hb e0=>by
  rw [e0] at hBG
  simp at hBG
  exact hBG.1 hb
 have hFIG : ∀b∈FI,b∉G:=fun b hb hb'=>hFIB b hb (by simp [hb'])
 have huB:tO u=u.ownBlock:=kE q1
 let S':Nat→Prop:=fun b=>g.S b∧u.ownBlock≠some b
 let g':Gh:={ val:=fun l=>if l=K then u else if l=7058000 then undef else g.val l,fp:=fun l=>if l=i then FI else if l=K then G else g.fp l,S:=S',Q:=g.Q }
 let h':=aPU s.h kh i ver e sz xs j x off K e' sz' ys u
 have h'i:h' i=(ver,.row e sz (xs.set j (x.set off (.val u))) true):=if_pos rfl
 have h'K:h' K=((s.h K).1+1,.row e' sz' ys true):=by show (if K=i then _ else _)=_;rw [if_neg (Ne.symm hiK),if_pos rfl]
 have h'0:h' 7058000=((s.h 7058000).1+1,.pin K ((s.h K).1+1) u):=by show (if 7058000=i then _ else _)=_;rw [if_neg (Ne.symm hi0),if_neg (Ne.symm hK1),if_pos rfl]
 have h'n : ∀l,l≠i→l≠K→l≠7058000→h' l=if l∈kh then s.h l else ((s.h l).1,.none):=fun l a1 a2 a3=>by show (if l=i then _ else _)=_;rw [if_neg a1,if_neg a2,if_neg a3]
 have vi:g'.val i=g.val i:=by show (if i=K then _ else _)=_;rw [if_neg hiK,if_neg hi0]
 have vK:g'.val K=u:=if_pos rfl
 have v0:g'.val 7058000=undef:=by show (if 7058000=K then _ else _)=_;rw [if_neg (Ne.symm hK1),if_pos rfl]
 have vn : ∀l,l≠K→l≠7058000→g'.val l=g.val l:=fun l a1 a2=>by show (if l=K then _ else _)=_;rw [if_neg a1,if_neg a2]
 have fi:g'.fp i=FI:=if_pos rfl
 have fK:g'.fp K=G:=by show (if K=i then _ else _)=_;rw [if_neg (Ne.symm hiK),if_pos rfl]
 have fn : ∀l,l≠i→l≠K→g'.fp l=g.fp l:=fun l a1 a2=>by show (if l=i then _ else _)=_;rw [if_neg a1,if_neg a2]
 have hverle : ∀l,(s.h l).1≤(h' l).1:=fun l=>by
  by_cases a1:l=i
  ·subst a1;rw [h'i,hi];exact Nat.le_refl _
  by_cases a2:l=K
  ·subst a2;rw [h'K];exact Nat.le_succ _
  by_cases a3:l=7058000
  ·subst a3;rw [h'0];exact Nat.le_succ _
  rw [h'n l a1 a2 a3]
  split<;>exact Nat.le_refl _
 have hnK : ∀l,(h' l).1=(s.h l).1→l≠K∧l≠7058000:=fun l hv=>by
  refine ⟨fun e0 => ?_,fun e0 => ?_⟩
  ·subst e0;rw [h'K] at hv;simp at hv
  ·subst e0;rw [h'0] at hv;simp at hv
 have hcl : ∀ {c:SC} {v:Value},tA g s.h w c v→SC.clean base c→tA g' h' w c v:=fun h1 h2=>by
  refine aJy (g':=g') (B:=u.ownBlock) hBbase (fun b hb hne=>⟨hb,fun e0=>hne e0.symm⟩) (fun l hv _=>vn l (hnK l hv).1 (hnK l hv).2) hverle (fun l e1 sz1 xs1 dp1 hv hr => ?_) (fun l t cs hv hx => ?_) h1 h2
  ·obtain ⟨a2,a3⟩:=hnK l hv
   by_cases a1:l=i
   ·subst a1;rw [h'i] at hr;cases hr;exact ⟨xs,true,hi2⟩
   ·rw [h'n l a1 a2 a3] at hr
    split at hr
    ·exact ⟨xs1,dp1,hr⟩
    ·cases hr
  ·obtain ⟨a2,a3⟩:=hnK l hv
   by_cases a1:l=i
   ·subst a1;rw [h'i] at hx;cases hx
   ·rw [h'n l a1 a2 a3] at hx
    split at hx
    ·exact ⟨cs,hx⟩
    ·cases hx
 have hcls : ∀ {cs0:List SC} {us:List Value},aM g s.h w cs0 us→(∀c∈cs0,SC.clean base c)→aM g' h' w cs0 us:=by
  intro cs0
  induction cs0 with
  | nil=>intro us h _;exact h
  | cons c cs0 ih =>
   rintro us ⟨v,vs',rfl,h1,h2⟩ hc0
   exact ⟨v,vs',rfl,hcl h1 (hc0 c (by simp)),ih h2 fun c' hc'=>hc0 c' (by simp [hc'])⟩
 have hlv : ∀l,live h' l→l≠K→l≠7058000→live s.h l:=fun l hl a2 a3=>by
  by_cases a1:l=i
  ·subst a1;exact hlive
  ·unfold live at hl ⊢
   rw [h'n l a1 a2 a3] at hl
   split at hl
   ·exact hl
   ·exact absurd rfl hl
 have hdp : ∀l,fD h' l→l≠K→fD s.h l:=fun l hd a2=>by
  obtain ⟨e1,sz1,xs1,hh⟩:=hd
  by_cases a1:l=i
  ·subst a1;exact hdeep
  by_cases a3:l=7058000
  ·subst a3;rw [h'0] at hh;cases hh
  rw [h'n l a1 a2 a3] at hh
  split at hh
  ·exact ⟨e1,sz1,xs1,hh⟩
  ·cases hh
 have fsub : ∀l,l≠K → ∀b∈g'.fp l,b∈g.fp l:=fun l a2 b hb=>by
  by_cases a1:l=i
  ·subst a1;rw [fi] at hb;exact hFI b hb
  ·rw [fn l a1 a2] at hb;exact hb
 have hOK:rP base w G:=⟨(List.nodup_append.1 hBG).2.1,fun b hb=>hof.2 b (hGin b hb)⟩
 have hO1:rP base w FI:=⟨hnd.sublist hsub,fun b hb=>hof.2 b (hFI b hb)⟩
 have hlent':aFQ w0.Q.lent h' g':=by
  intro b hb
  rcases hlent with hn | ⟨m1,m2,m3⟩
  ·rw [hn] at hb;cases hb
  ·have e1:h' 7059000=s.h 7059000:=by rw [h'n _ (Ne.symm m2) (Ne.symm m3) (by decide),if_pos m1]
   rw [e1,vn _ (Ne.symm m3) (by decide)]
   exact R.q.2.2 b hb
 refine ⟨u,g',R.defers,R.size,R.below,⟨R.q.1,R.q.2.1,hlent'⟩,fun b hb=>⟨⟨(R.sQ b hb).1,fun e0 => ?_⟩,(R.sQ b hb).2⟩,
  ⟨R.inv.base_le,fun b hb hlt=>R.inv.S_old b hb.1 hlt,fun b hb=>R.inv.S_lt b hb.1,fun l => ?_,fun l b hl hb => ?_,fun l k b hne hl hk hb hb' => ?_,fun l k hne hl hk b hb hb' => ?_,rP.nil _ _,fun _ hx=>absurd hx qO,fun _ _ _ _=>qO,R.inv.fb⟩,fun t => ?_,R.lab,fun _=>trivial⟩
 ·have:=hK0 b hb;have:=hBbase b e0;omega
 ·show vQ base g' h' w l (h' l).2
  by_cases a1:l=i
  ·subst a1
   rw [h'i]
   refine ⟨v1++((c1++u::c3)++v3),?_,?_,?_,?_,fun _=>by rw [fi];exact hO1⟩
   ·rw [vi,qN];exact p1
   ·intro y hy
    rcases List.mem_or_eq_of_mem_set hy with hy | rfl
    ·exact p2 y hy
    ·rw [qN];exact p2 x (List.mem_of_getElem? hj)
   ·rw [fi]
    have hjlt:j<xs.length:=(List.getElem?_eq_some_iff.1 hj).1
    rw [show xs.set j (x.set off (.val u))=xs.take j++([x.set off (.val u)]++xs.drop (j+1)) from by rw [List.set_eq_take_append_cons_drop,if_pos hjlt];rfl]
    exact hr1.append (cC.append (cC.one hset') hr3)
   ·rw [fi];exact fun b hb=>⟨p4 b (hFI b hb),hFIB1 b hb⟩
  by_cases a2:l=K
  ·subst a2
   rw [h'K]
   refine ⟨cells',?_,q2,?_,?_,fun _=>by rw [fK];exact hOK⟩
   ·rw [vK]
    refine ⟨q1.1,?_⟩
    rcases q1.2 with k | ⟨gg,cap,cur,k1,k2,k3⟩
    ·exact .inl k
    ·exact .inr ⟨gg,cap,cur,k1,hBbase gg (by rw [k1];rfl),k3⟩
   ·rw [fK];show fV g.Q.L w ys e' cells' G;rw [hgL];exact q3
   ·rw [fK];exact fun b hb=>⟨p4 b (hGin b hb),hGB b hb⟩
  by_cases a3:l=7058000
  ·subst a3
   rw [h'0]
   exact ⟨v0,by rw [h'K];exact Nat.le_refl _,fun _ _ _ _ _ _=>vK⟩
  rw [h'n l a1 a2 a3]
  by_cases a4:l∈kh
  ·rw [if_pos a4]
   have hc0:=hkh l a4
   have hob:=R.inv.obj l
   cases hh:(s.h l).2 with
   | none=>trivial
   | pin j v u=>rw [hh] at hc0;exact hc0.elim
   | box t cells0 =>
    rw [hh] at hob hc0
    obtain ⟨b,vals,k1,k2,k3,k4⟩:=hob
    exact ⟨b,vals,(vn l a2 a3).trans k1,k2,k3,hcls k4 hc0⟩
   | row e1 sz1 xs1 dp1 =>
    rw [hh] at hob hc0
    have hd1:dp1=true:=hc0
    subst hd1
    obtain ⟨cells1,k1,k2,k3,k4,k5⟩:=hob
    refine ⟨cells1,by rw [vn l a2 a3];exact k1,k2,by rw [fn l a1 a2];exact k3,by rw [fn l a1 a2];exact fun b hb=>⟨k4 b hb,fun e0=>R.inv.dis l i a1 ⟨e1,sz1,xs1,hh⟩ hdeep b hb (hBin b e0)⟩,by rw [fn l a1 a2];exact k5⟩
  ·rw [if_neg a4];trivial
 ·by_cases a2:l=K
  ·subst a2
   rw [vK,huB] at hb
   exact fun hS=>hS.2 hb
  by_cases a3:l=7058000
  ·subst a3;rw [v0] at hb;simp [undef,tO] at hb
  rw [vn l a2 a3] at hb
  exact fun hS=>R.inv.mtb l b (hlv l hl a2 a3) hb hS.1
 ·have key : ∀m,m≠K→live h' m→tO (g'.val m)=some b→u.ownBlock=some b→False:=fun m a2 hm hmb hu=>by
   by_cases a3:m=7058000
   ·subst a3;rw [v0] at hmb;simp [undef,tO] at hmb
   rw [vn m a2 a3] at hmb
   exact R.inv.mtb m b (hlv m hm a2 a3) hmb (p4 b (hBin b hu))
  by_cases a2:l=K
  ·subst a2
   rw [vK,huB] at hb
   exact key k (Ne.symm hne) hk hb' hb
  by_cases b2:k=K
  ·subst b2
   rw [vK,huB] at hb'
   exact key l a2 hl hb hb'
  by_cases a3:l=7058000
  ·subst a3;rw [v0] at hb;simp [undef,tO] at hb
  by_cases b3:k=7058000
  ·subst b3;rw [v0] at hb';simp [undef,tO] at hb'
  rw [vn l a2 a3] at hb
  rw [vn k b2 b3] at hb'
  exact R.inv.inj l k b hne (hlv l hl a2 a3) (hlv k hk b2 b3) hb hb'
 ·by_cases a2:l=K
  ·subst a2
   rw [fK] at hb
   by_cases b1:k=i
   ·subst b1;rw [fi] at hb';exact hFIG b hb' hb
   ·rw [fn k b1 (Ne.symm hne)] at hb'
    exact R.inv.dis k i b1 (hdp k hk (Ne.symm hne)) hdeep b hb' (hGin b hb)
  by_cases b2:k=K
  ·subst b2
   rw [fK] at hb'
   by_cases b1:l=i
   ·subst b1;rw [fi] at hb;exact hFIG b hb hb'
   ·rw [fn l b1 a2] at hb
    exact R.inv.dis l i b1 (hdp l hl a2) hdeep b hb (hGin b hb')
  exact R.inv.dis l k hne (hdp l hl a2) (hdp k hk b2) b (fsub l a2 b hb) (fsub k b2 b hb')
 ·rw [aJG]
  by_cases ht:t∈kt
  ·rw [if_pos ht]
   have hsv:=R.tmp t
   have hc0:=hkt t ht
   cases hx:s.t t with
   | unk=>trivial
   | undef=>rw [hx] at hsv;exact hsv
   | v ag cs0 =>
    rw [hx] at hsv hc0
    cases ag with
    | false=>exact hcls hsv hc0
    | true=>obtain ⟨us,h1,h2⟩:=hsv;exact ⟨us,h1,hcls h2 hc0⟩
   | tup xs =>
    rw [hx] at hsv hc0
    obtain ⟨us,h1,h2⟩:=hsv
    refine ⟨us,h1,?_⟩
    revert h2 hc0
    generalize us.toList=vl
    intro hc0 h2
    clear hx h1
    induction xs generalizing vl with
    | nil=>exact h2
    | cons x xs ih =>
     obtain ⟨v,vs',rfl,q1,q2⟩:=h2
     refine ⟨v,vs',rfl,?_,ih vs' (fun y hy=>hc0 y (by simp [hy])) q2⟩
     obtain ⟨ag,cs1⟩:=x
     have hcx:=hc0 (ag,cs1) (by simp)
     cases ag with
     | false=>exact hcls q1 hcx
     | true=>obtain ⟨us',r1,r2⟩:=q1;exact ⟨us',r1,hcls r2 hcx⟩
  ·rw [if_neg ht];trivial
theorem aIJ {c:Code} {Q:Exit→St→Prop} (kt kh:List Nat) {i ver:Nat} {e:TypeId} {sz:Nat} {xs:List (List D)} {j:Nat} {x:List D} {off K:Nat} {e':TypeId} {sz':Nat} {ys:List (List D)}
  (hi:s.h i=(ver,.row e sz xs true)) (hj:xs[j]? = some x) (ho:x[off]? = some (.sl ys)) (hl:lab ((slP P e).drop off)=some (e',sz')) (hL:w0.Q.L=slP P) (hlent:w0.Q.lent=none∨(7059000∈kh∧i≠7059000∧K≠7059000)) (hK0 : ∀b,w0.K b→b<base)
  (hiK:i≠K) (hi0:i≠7058000) (hK1:K≠7058000) (hkt : ∀t∈kt,SV.clean base (s.t t)) (hkh : ∀l∈kh,yK.clean base (s.h l).2)
  (h : ∀u,SW P base w0 N c (aIf s kt kh i ver e sz xs j x off K e' sz' ys u) Q):SW P base w0 N c s Q:=fun a w ⟨g,R⟩=>by
 obtain ⟨u,R'⟩:=aNA R hi hj ho hl hL hlent hK0 hiK hi0 hK1 hkt hkh
 exact h u a w R'
theorem Gho.close {i ver:Nat} {e:TypeId} {sz:Nat} {xs:List (List D)} {j:Nat} {x:List D} {off K vK pv:Nat} {e':TypeId} {sz':Nat} {ys:List (List D)} {u:Value}
  (hi:s.h i=(ver,.row e sz xs true)) (hj:xs[j]? = some x) (ho:x[off]? = some (.val u)) (hp:s.h 7058000=(pv,.pin K vK u)) (hk:s.h K=(vK,.row e' sz' ys true)) (hl:lab ((slP P e).drop off)=some (e',sz')) (hL:w0.Q.L=slP P) (hiK:i≠K) :
  Gho P base w0 N s ((s.eE K (vK,.none)).eE i (ver,.row e sz (xs.set j (x.set off (.sl ys))) true)):=by
 rintro a w ⟨g,R⟩
 have hgL:g.Q.L=slP P:=R.lab.1.trans hL
 have hk2:(s.h K).2 = .row e' sz' ys true:=by rw [hk]
 have hob0:=R.inv.obj 7058000
 rw [show (s.h 7058000).2 = .pin K vK u from by rw [hp]] at hob0
 have hval:g.val K=u:=hob0.2.2 (by rw [hk]) _ _ _ _ hk2
 obtain ⟨S',F,t1,t1b,t2,tS,tF,t3,t4,t5⟩:=R.inv.take hk2
 have T1:gE g { g with S:=S' } s.h (lJ s.h K ((s.h K).1,.none)) w w:=gE.drop K S' t1
 rw [show (s.h K).1=vK from by rw [hk]] at T1 t5
 have R1:iD P base w0 N { g with S:=S' } (s.eE K (vK,.none)) a w ([]++F):=R.turn T1 rfl R.below t5
 have hi':(s.eE K (vK,.none)).h i=(ver,.row e sz xs true):=by rw [St.aEd,if_neg hiK];exact hi
 have hi2:((s.eE K (vK,.none)).h i).2 = .row e sz xs true:=by rw [hi']
 have hob:=R1.inv.obj i
 rw [hi2] at hob
 obtain ⟨cells,p1,p2,p3,p4,p5⟩:=hob
 have hof:=p5 rfl
 have hjlt:j<xs.length:=(List.getElem?_eq_some_iff.1 hj).1
 rcases p1.2 with ⟨_,h0⟩ | ⟨gg,cap,cur,c1,c2,c3,c4⟩
 ·omega
 have hlive:live (s.eE K (vK,.none)).h i:=by unfold live;rw [hi2];simp
 have hown:tO (({ g with S:=S' }:Gh).val i)=some gg:=by rw [c1];rfl
 have hdi:fD (s.eE K (vK,.none)).h i:=⟨e,sz,xs,hi2⟩
 obtain ⟨v1,v2,v3,F1,F2,F3,rfl,hF,hl1,hr1,hr2,hr3⟩:=p3.at_ p2 hj
 obtain ⟨d1,v,d3,Fa,Fb,Fc,rfl,hd1,rfl,hu,hsetc⟩:=bE.at_ (show bE g.Q.L w x (g.Q.L e) v2 F2 from hr2) ho
 have hu':(v=u∧v.oneCell'=true)∧Fb=[]:=by unfold wE at hu;exact hu
 obtain ⟨⟨rfl,_⟩,rfl⟩:=hu'
 have hset':=hsetc (.sl ys) v F (by rw [hgL,hl,←hval,←hgL];exact tS rfl)
 have hpd:=R1.inv.pool_dis i hdi
 have hpo:=R1.inv.pool_own
 rw [List.nil_append] at hpd hpo
 have hnd:=hof.1
 rw [hF] at hnd
 have hnd2:(F1++((Fa++(F++Fc))++F3)).Nodup:=aGp hnd hpo.1 fun y hy hy'=>hpd y (by rw [hF];exact hy') hy
 have hin : ∀y∈F1++((Fa++(F++Fc))++F3),y∈F∨y∈({ g with S:=S' }:Gh).fp i:=fun y hy=>by
  rw [hF]
  simp only [qP,qO,false_or] at hy ⊢
  rcases hy with hy | ((hy | hy | hy) | hy)<;>simp [hy]
 have hnS:=R1.inv.mtb i gg hlive hown
 have T2:gE { g with S:=S' } { ({ g with S:=S' }:Gh) with fp:=aAN g.fp i (F1++((Fa++(F++Fc))++F3)) } (s.eE K (vK,.none)).h (lJ (s.eE K (vK,.none)).h i (((s.eE K (vK,.none)).h i).1,.row e sz (xs.set j (x.set off (.sl ys))) true)) w w:=
  gE.yX hnS (fun _ _=>rfl) (by intro e0 sz0 xs0 dp0 hh';cases hh';exact ⟨_,_,hi2⟩) (by intro t0 cs0 hh';cases hh')
 have hrow:cC g.Q.L true w e (xs.set j (x.set off (.sl ys))) (v1++((d1++v::d3)++v3)) (F1++((Fa++(F++Fc))++F3)):=by
  rw [show xs.set j (x.set off (.sl ys))=xs.take j++([x.set off (.sl ys)]++xs.drop (j+1)) from by rw [List.set_eq_take_append_cons_drop,if_pos hjlt];rfl]
  exact hr1.append (cC.append (cC.one hset') hr3)
 have I':=R1.inv.yX (i:=i) (b:=gg) (F:=F1++((Fa++(F++Fc))++F3)) (pool':=[]) (w':=w) hlive hown rfl (fun _ _=>rfl) T2
  ⟨_,by rw [qN];exact p1,(fun y hy=>by
   rcases List.mem_or_eq_of_mem_set hy with hy | rfl
   ·exact p2 y hy
   ·rw [qN];exact p2 x (List.mem_of_getElem? hj)),(by
   show cC _ _ _ _ _ _ (aAN g.fp i _ i)
   rw [cQ]
   exact hrow),(by
   show ∀y∈aAN g.fp i _ i,S' y
   rw [cQ]
   intro y hy
   rcases hin y hy with h | h
   ·exact t3 y h
   ·exact p4 y h),(by
   intro _
   show rP base w (aAN g.fp i _ i)
   rw [cQ]
   refine ⟨hnd2,fun y hy => ?_⟩
   rcases hin y hy with h | h
   ·exact hpo.2 y h
   ·exact hof.2 y h)⟩ (by simp) List.nodup_nil (by
   rintro _ y hy
   refine ⟨?_,qO⟩
   rcases hin y hy with h | h
   ·exact .inl (by simpa using h)
   ·exact .inr ⟨hdi,h⟩)
 rw [show ((s.eE K (vK,.none)).h i).1=ver from by rw [hi']] at T2 I'
 exact ⟨_,R1.turn T2 rfl R1.below I'⟩
end
end Go.Sh
namespace Go.Sh
open Go.RowKit
def aNE (B:Nat) (d:D):SC:=if d.flat=true then .dat d else .old B d none
def aJe (B:Nat) (args:List (Bool×List D)):St:=
 { t:=fun i=>match args[i]? with | some (ag,ds)=>.v ag (ds.map (aNE B)) | none=>.undef,h:=fun _=>(0,.none) }
theorem aOu (B:Nat) (args:List (Bool×List D)) (i:Nat):(aJe B args).t i=match args[i]? with | some (ag,ds)=>.v ag (ds.map (aNE B)) | none=>.undef:=rfl
theorem aOF (B:Nat) (args:List (Bool×List D)) (i:Nat):(aJe B args).h i=(0,.none):=rfl
theorem aMo (B:Nat) (k:IntKind) (n:Int):aNE B (.int k n) = .dat (.int k n):=rfl
theorem aLO (B:Nat) (b:Bool):aNE B (.bool b) = .dat (.bool b):=rfl
theorem aNY (B:Nat) (b:ByteArray):aNE B (.str b) = .dat (.str b):=rfl
theorem aOE (B:Nat) (xs:List (List D)):aNE B (.sl xs) = .old B (.sl xs) none:=rfl
theorem aM.aJ8 {g:Gh} {h:rF} {w:World} {B:Nat} : ∀ {ds:List D} {vs:List Value} {F:List Nat},aF w ds vs F→(∀b∈F,g.S b∧b<B)→aM g h w (ds.map (aNE B)) vs
 | [],vs,F,hr,_=>by simp only [aF] at hr;exact hr.1
 | d::ds,vs,F,hr,hF=>by
  simp only [aF] at hr
  obtain ⟨v,vs',F1,F2,rfl,rfl,h3,h4⟩:=hr
  refine ⟨v,vs',rfl,?_,aM.aJ8 h4 fun b hb=>hF b (by simp [hb])⟩
  unfold aNE
  split
  ·exact ⟨F1,h3,fun b hb=>(hF b (by simp [hb])).1⟩
  ·exact ⟨F1,h3,fun b hb=>hF b (by simp [hb]),fun _ e=>by cases e⟩
def aKV (rs:List (Bool×List RC)):Bool:=rs.all fun r=>r.2.all fun c=>match c with | .own _ _ _=>false | _=>true
theorem aA8 {L L':TL} {base:Nat} {w:World} {X:Nat→Prop} : ∀ {vs:List Value} {rs:List RC} {F:List Nat},(rs.all fun c=>match c with | .own _ _ _=>false | _=>true)=true→kK L base w X vs rs F→kK L' base w X vs rs F
 | [],[],F,_,h=>h
 | v::vs,.any d::rs,F,hn,h=>by
  simp only [List.all_cons,Bool.true_and] at hn
  exact ⟨h.1,aA8 hn h.2⟩
 | v::vs,.ro d::rs,F,hn,h=>by
  simp only [List.all_cons,Bool.true_and] at hn
  exact ⟨h.1,aA8 hn h.2⟩
 | v::vs,.own e sz xs::rs,F,hn,h=>by simp at hn
 | v::vs,.edit q::rs,F,_,h=>h.elim
 | [],_::_,F,_,h=>h.elim
 | _::_,[],F,_,h=>h.elim
theorem aIx {L L':TL} {base:Nat} {w:World} {X:Nat→Prop} {v:Value} {r:Bool×List RC} {F:List Nat} (hn:(r.2.all fun c=>match c with | .own _ _ _=>false | _=>true)=true) (h:aEk L base w X v r F):aEk L' base w X v r F:=by
 obtain ⟨ag,rs⟩:=r
 cases ag with
 | true=>obtain ⟨cs,rfl,h⟩:=h;exact ⟨cs,rfl,aA8 hn h⟩
 | false=>exact aA8 hn h
theorem aEj {L L':TL} {base:Nat} {w:World} {X:Nat→Prop} : ∀ {vs:List Value} {rs:List (Bool×List RC)} {F:List Nat},aKV rs=true→wO L base w X vs rs F→wO L' base w X vs rs F
 | [],[],F,_,h=>h
 | v::vs,r::rs,F,hn,⟨F1,F2,h0,h1,h2⟩=>by
  simp only [aKV,List.all_cons,qM] at hn
  exact ⟨F1,F2,h0,aIx hn.1 h1,aEj hn.2 h2⟩
 | [],_::_,F,_,h=>h.elim
 | _::_,[],F,_,h=>h.elim
theorem aMM {L L':TL} {base:Nat} {w:World} {v:Value} {rs:List (Bool×List RC)} {Q:Nat→Prop} (hn:aKV rs=true) (h:aDK L base w v rs Q):aDK L' base w v rs Q:=by
 obtain ⟨F,X,h1,h2,h3,h4⟩:=h
 refine ⟨F,X,h1,h2,h3,?_⟩
 match rs,hn,h4 with
 | [r],hn,h4 =>
  simp only [aKV,List.all_cons,List.all_nil,Bool.and_true] at hn
  exact aIx hn h4
 | [],hn,h4=>obtain ⟨vs,e,h⟩:=h4;exact ⟨vs,e,aEj hn h⟩
 | a::b::rs,hn,h4=>obtain ⟨vs,e,h⟩:=h4;exact ⟨vs,e,aEj hn h⟩
theorem aOZ {P : Program} (L : TL) {f : FuncId} {fn : Func} {c : Code} {args : List (Bool × List D)} {rs : List (Bool × List RC)} {N : Nat} {vars : List ResultVar} (hf : P.funcs[f]? = some fn) (hb : fn.body = some c) (hN : fn.ntmps = N) (hv : fn.results.toList = vars) (hnm : (fn.name == "runtime.NumGoroutine") = false) (hn : args.length ≤ N) (hL : L = slP P ∨ (L = aJq ∧ aKV rs = true))
  (h : ∀(base:Nat) (wd:World×(Nat→Prop)),SW P base ⟨wd.1,⟨wd.2,base,none,L⟩,noK,aHu⟩ N c (aJe base args) (aft P base ⟨wd.1,⟨wd.2,base,none,L⟩,noK,aHu⟩ N (Ret (jF P) vars rs) [])):jJ P f args rs:=by
 subst hN hv
 refine .inl ⟨⟨fn,c,hf,hb,hnm⟩,fun w vs Fa ha => ?_⟩
 obtain ⟨hlen,hat⟩:=args_at ha
 have hlen':vs.size=args.length:=by simpa using hlen
 refine calls_of_wp hf hb ?_
 have hFlt:=aBk ha
 let g:Gh:={ val:=fun _=>undef,fp:=fun _=>[],S:=fun b=>b∈Fa,Q:=⟨fun b=>b∈Fa,w.heap.size,none,L⟩ }
 have R:Rel P w.heap.size ⟨w,⟨fun b=>b∈Fa,w.heap.size,none,L⟩,noK,aHu⟩ fn.ntmps (aJe w.heap.size args) { tmps:=vs++Array.replicate (fn.ntmps-vs.size) undef,defers:=[] } w:=by
  refine ⟨g,rfl,by simp;omega,Below.refl _ _,⟨fun _ x=>x,rfl,fun _ hx=>(by cases hx)⟩,fun _ x=>x.elim,⟨Nat.le_refl _,fun _ x _=>x,hFlt,fun i=>trivial,fun i b hl=>absurd rfl hl,fun i j b _ hl=>absurd rfl hl,?_,rP.nil _ _,by simp,fun i hd=>(by obtain ⟨_,_,_,hd⟩:=hd;cases hd),Nat.le_refl _⟩,fun t => ?_,⟨rfl,hL.imp id And.left⟩,fun _=>trivial⟩
  ·rintro i j _ ⟨_,_,_,hd⟩;cases hd
  ·show nX g _ w (match args[t]? with | some (ag,ds)=>.v ag (ds.map (aNE w.heap.size)) | none=>.undef) _
   cases ht:args[t]? with
   | none =>
    have hge:args.length≤t:=List.getElem?_eq_none_iff.1 ht
    show _=undef
    simp only [Array.getD_eq_getD_getElem?,Array.getElem?_append]
    rw [if_neg (by omega)]
    by_cases h2:t-vs.size<fn.ntmps-vs.size
    ·simp [h2]
    ·rw [Array.getElem?_eq_none (by simp;omega)];rfl
   | some x =>
    obtain ⟨v,Fi,h1,h2,hFi⟩:=hat t x ht
    have hlt:t<vs.size:=by have:=(List.getElem?_eq_some_iff.1 ht).1;omega
    have hv:(vs++Array.replicate (fn.ntmps-vs.size) undef).getD t undef=v:=by
     simp only [Array.getD_eq_getD_getElem?,Array.getElem?_append]
     rw [if_pos hlt]
     have:vs[t]? = some v:=by simpa using h1
     rw [this];rfl
    rw [hv]
    obtain ⟨ag,ds⟩:=x
    cases ag with
    | false =>
     obtain ⟨d,rfl,hr⟩:=h2
     have hcs:aF w [d] [v] Fi:=by simp only [aF];exact ⟨v,[],Fi,[],rfl,by simp,hr,by simp⟩
     exact aM.aJ8 hcs fun b hb=>⟨hFi b hb,hFlt b (hFi b hb)⟩
    | true =>
     obtain ⟨cs,rfl,hr⟩:=h2
     exact ⟨cs,rfl,aM.aJ8 hr fun b hb=>⟨hFi b hb,hFlt b (hFi b hb)⟩⟩
 refine wp_mono (h w.heap.size (w,fun b=>b∈Fa) _ w R) ?_
 rintro e a' w' ⟨s',h1,R'⟩
 have fin:Ret (jF P) fn.results.toList rs s'→a'.defers=[] ∧ ∃v,(results fn a'.tmps).run P w' = .ok v w' ∧ ∃v',Ending.returned v = .returned v'∧aDK (slP P) w.heap.size w' v' rs (fun b=>b∈Fa)∧Below w.heap.size w w':=by
  intro hr
  obtain ⟨v,k1,k2⟩:=aIB R' hr
  obtain ⟨g',R''⟩:=R'
  refine ⟨R''.defers,v,k1,v,rfl,?_,R''.below⟩
  rcases hL with rfl | ⟨_,hno⟩
  ·exact k2
  ·exact aMM hno k2
 cases e with
 | normal=>exact fin h1
 | ret=>exact fin h1
 | exit id=>exact h1.elim
 | goto l=>exact h1.elim
 | panic c=>exact h1.elim
 | outgrown=>exact h1.elim
theorem aOM {P : Program} {f : FuncId} {fn : Func} {c : Code} {args : List (Bool × List D)} {rs : List (Bool × List RC)} {N : Nat} {vars : List ResultVar} (hf : P.funcs[f]? = some fn) (hb : fn.body = some c) (hN : fn.ntmps = N) (hv : fn.results.toList = vars) (hnm : (fn.name == "runtime.NumGoroutine") = false) (hn : args.length ≤ N)
  (h : ∀(base:Nat) (wd:World×(Nat→Prop)),SW P base ⟨wd.1,⟨wd.2,base,none,slP P⟩,noK,aHu⟩ N c (aJe base args) (aft P base ⟨wd.1,⟨wd.2,base,none,slP P⟩,noK,aHu⟩ N (Ret (jF P) vars rs) [])):jJ P f args rs:=aOZ (slP P) hf hb hN hv hnm hn (.inl rfl) h
theorem aLD (B:Nat) (d:D) (u:Option Value) (cs:List SC) (k:List D→Prog):tW (.old B d u::cs) k=tW cs fun ds=>k (d::ds):=rfl
theorem aL4 (b:Nat) (d:D):SC.clean b (.dat d)=(d.flat=true):=rfl
theorem aL3 (b B:Nat) (d:D) (u:Option Value):SC.clean b (.old B d u)=(B≤b):=rfl
theorem aLN (b:Nat):SC.clean b .nil=True:=rfl
theorem aKT (b i v:Nat):SC.clean b (.row i v)=True:=rfl
theorem aNM (b i v o:Nat):SC.clean b (.bp i v o)=True:=rfl
theorem aOB (b:Nat) (ag:Bool) (cs:List SC):SV.clean b (.v ag cs) = ∀c∈cs,SC.clean b c:=rfl
theorem aKx (b:Nat) (xs:List (Bool×List SC)):SV.clean b (.tup xs) = ∀x∈xs,∀c∈x.2,SC.clean b c:=rfl
theorem aKJ (b:Nat):SV.clean b .unk=True:=rfl
theorem aHv (b:Nat):SV.clean b .undef=True:=rfl
theorem aJY (b:Nat):yK.clean b .none=True:=rfl
theorem aLc (b:Nat) (t:TypeId) (cs:List SC):yK.clean b (.box t cs) = ∀c∈cs,SC.clean b c:=rfl
theorem aJR (b:Nat) (e:TypeId) (sz:Nat) (xs:List (List D)) (dp:Bool):yK.clean b (.row e sz xs dp)=(dp=true):=rfl
theorem aTn {α:Type} {p:α→Prop} {a:α} {l:List α}:(∀x∈a::l,p x)=(p a ∧ ∀x∈l,p x):=by simp
theorem aTo {α:Type} {p:α→Prop}:(∀x∈([]:List α),p x)=True:=by simp
theorem aMq (k:IntKind) (n:Int):D.flat (.int k n)=true:=rfl
theorem aKw (b:Bool):D.flat (.bool b)=true:=rfl
theorem aM0 (b:ByteArray):D.flat (.str b)=true:=rfl
theorem aN3 (b:Nat):(b≤b)=True:=by simp
theorem exI {P:Program} {T:aHg} {N:Nat} {ops:Array Oper} {l:List Oper} {s s3:St} {K:St→Prop} (h:aAL P T N ops l s (Is s3)) (hk:K s3):aAL P T N ops l s K:=
 aCY l (fun τ hτ=>by rw [show τ=s3 from hτ];exact hk) h
theorem aMa (b i v j o:Nat):SC.clean b (.rp i v j o)=True:=rfl
theorem aLq {α:Type} {l:List α} {i:Nat} {a b:α} (h:l[i]? = some b):(l.set i a)[i]? = some a:=by
 rw [List.getElem?_set_self (List.getElem?_eq_some_iff.1 h).1]
def aQ4:=PLift.up (qI @aL4 (qI @aL3 (qI @aLN (qI @aKT (qI @aNM (qI @aMa (qI @aOB (qI @aKx (qI @aKJ (qI @aHv (qI @aJY (qI @aLc (qI @aJR (qI @aTn (qI @aTo (qI @aMq (qI @aKw (qI @aM0 (qI @aN3 (qI and_true (qI true_and and_self)))))))))))))))))))))
theorem LC:type_of% aQ4.down:=aQ4.down
def aRF:=PLift.up (qI @aJ7 (qI @aC2 (qI @aOu (qI @aOF (qI @aMo (qI @aLO (qI @aNY (qI @aOE (qI @aLD (qI @aJG (qI @aMi (qI @List.set_set.{0} @List.length_set.{0}))))))))))))
theorem LN:type_of% aRF.down:=aRF.down
end Go.Sh
namespace Go.Sh
open Go.RowKit
section
variable {P:Program} {base N:Nat} {w0:W0} {s:St}
theorem aKD {g:Gh} {a:Act} {w:World} {j K vj n:Nat} {e:TypeId} {sz:Nat} {xs ys:List (List D)} {dp:Bool} {v:Value} (R:iD P base w0 N g s a w []) (h2:s.h j=(vj,.row e sz xs dp)) (hn:n≤xs.length) (hys:xs.take n=ys) (hv:tA g s.h w (.part j vj 0 n) v) :
  ∃g',iD P base w0 N g' ((s.eE j (vj,.none)).eE K ((s.h K).1+1,.row e sz ys dp)) a w []∧gE g g' s.h ((s.eE j (vj,.none)).eE K ((s.h K).1+1,.row e sz ys dp)).h w w ∧
   tA g' ((s.eE j (vj,.none)).eE K ((s.h K).1+1,.row e sz ys dp)).h w (.row K ((s.h K).1+1)) v:=by
 have hj1:(s.h j).1=vj:=by rw [h2]
 have hj2:(s.h j).2 = .row e sz xs dp:=by rw [h2]
 have hob:=R.inv.obj j
 rw [hj2] at hob
 obtain ⟨cells,p1,p2,p3,p4,p5⟩:=hob
 obtain ⟨I1,hfr⟩:=R.inv.xC hj2
 rw [hj1] at I1 hfr
 have T1:gE g g s.h (lJ s.h j (vj,.none)) w w:=by have:=gE.drop (g:=g) (h:=s.h) (w:=w) j g.S fun _ x=>x;rw [hj1] at this;exact this
 have hver:(lJ s.h j (vj,.none) K).1=(s.h K).1:=by
  by_cases hk:K=j
  ·subst hk;rw [aZ,hj1]
  ·rw [eF _ _ _ _ hk]
 obtain ⟨hv0,_,hv⟩:=hv
 obtain ⟨ad,c,rfl,k2,_,k4⟩:=hv hj1 e sz xs dp hj2
 obtain ⟨m,k5,k6⟩:=k4 rfl
 have hyl:ys.length=n:=by rw [←hys,qT,Nat.min_eq_left hn]
 have hsp:cC g.Q.L dp w e (xs.take n++xs.drop n) cells (g.fp j):=by rw [List.take_append_drop];exact p3
 obtain ⟨v1,v2,F1,F2,hce,hF,q1,q2⟩:=cC.split hsp
 rw [hys] at q1
 have hxl : ∀y∈ys,y.length=sz:=fun y hy=>p2 y (List.mem_of_mem_take (hys ▸ hy))
 have hl1:v1.length=n*sz:=by rw [←hyl];exact aN.length q1.rep hxl
 have ho:w.ownsRow base e sz (.slice ad n c) ys.length v1:=by
  rw [hyl]
  refine ⟨hl1,?_⟩
  rcases p1.2 with ⟨h6,h7⟩ | ⟨gg,cap,cur,h6,h7,h8,h9,h10,h11,h12⟩
  ·rw [k5] at h6
   simp at h6
   obtain ⟨rfl,rfl,rfl⟩:=h6
   have:n=0:=by omega
   subst this
   exact .inl ⟨rfl,rfl⟩
  ·rw [k5] at h6
   simp at h6
   obtain ⟨rfl,rfl,rfl⟩:=h6
   refine .inr ⟨gg,c,cur,rfl,h7,h8,k2,h10,h11,?_⟩
   have:(cur.toList.take (xs.length*sz)).take (n*sz)=v1:=by rw [h12,hce];exact List.take_left' hl1
   rw [List.take_take,Nat.min_eq_left (Nat.mul_le_mul_right sz hn)] at this
   exact this
 have hob2 : ∀b,tO (.slice ad n c)=some b→tO (g.val j)=some b:=by
  intro b hb
  rw [k5]
  cases ad<;>first | (simp [tO] at hb;done) | simpa [tO] using hb
 have I2:=I1.xH (i:=K) (v:=.slice ad n c) (e:=e) (sz:=sz) (xs:=ys) (dp:=dp) (cells:=v1) (F:=F1) (pool':=[]) ho hxl q1 (fun b hb=>p4 b (by rw [hF];simp [hb])) (fun b hb=>hfr b (hob2 b hb)) (by simp) List.nodup_nil (fun hd=>by
  subst hd
  simp only [if_true,List.nil_append]
  have hnd:=(p5 rfl).1
  rw [hF] at hnd ⊢
  exact ⟨(List.nodup_append.1 hnd).1,fun b hb=>⟨by simp [hb],by simp⟩⟩)
 have T2:=gE.create (g:=g) (h:=lJ s.h j (vj,.none)) (w:=w) K (.slice ad n c) F1 (.row e sz ys dp)
 rw [hver] at I2 T2
 refine ⟨_,R.turn (T1.trans T2) rfl R.below I2,T1.trans T2,hv0,?_,?_⟩
 ·show _≤(lJ _ K _ K).1
  rw [aZ];exact Nat.le_refl _
 ·intro _ e' sz' xs' dp' _
  show _=aAN g.val K (.slice ad n c) K
  rw [cQ]
theorem Gho.aOy {i j K vj n:Nat} {e:TypeId} {sz:Nat} {xs:List (List D)} {dp:Bool} (ys:List (List D)) (h1:s.t i = .v false [.part j vj 0 n]) (h2:s.h j=(vj,.row e sz xs dp)) (hn:n≤xs.length) (hys:xs.take n=ys) :
  Gho P base w0 N s (((s.eE j (vj,.none)).eE K ((s.h K).1+1,.row e sz ys dp)).aBU i (.v false [.row K ((s.h K).1+1)])):=by
 rintro a w ⟨g,R⟩
 have ht:=R.tmp i
 rw [h1] at ht
 obtain ⟨g',R',T,hc⟩:=aKD (K:=K) R h2 hn hys (cY ht)
 exact ⟨g',aGY R' ⟨_,[],rfl,hc,rfl⟩⟩
theorem aS1.mk {P:Program} {T:aHg} {vars:List ResultVar} {ops:Array Oper} {n d:Nat} {K:St→Prop} {l:List (Bool×List SC)} {s s1:St} (h1:xX T s vars=some l) (h2:aAL P T N ops (ops.toList.drop (n+1)) (aTI s d (aPJ l)) (Is s1)) (h3:K s1):aS1 P T vars N ops n d K s:=⟨l,h1,exI h2 h3⟩
end
end Go.Sh
namespace Go.Sh
open Go.RowKit
section
variable {P:Program} {base N:Nat} {w0:W0} {Z:St→Prop} {k:List Fr} {s:St}
theorem rV {x y:Code} (J:St→Prop) (h1:SW P base w0 N x s (aft P base w0 N Z (.inv J::k))) (h2 : ∀s',J s'→SW P base w0 N y s' (aft P base w0 N Z k)):SW P base w0 N (.seq x y) s (aft P base w0 N Z k):=by
 refine sq fun a w R=>wp_mono (h1 a w R) ?_
 rintro e a' w' ⟨s',k1,k2⟩
 refine ⟨s',?_,k2⟩
 cases e with
 | normal=>exact h2 s' k1
 | _=>exact k1
end
end Go.Sh
