/-
  Helper text. No conditions.
-/
import Derived.Test.YtidhkhdnjonjfaaGreatShC
import Derived.ProofKit
import Derived.OpenShut
import Derived.ShutString
import Derived.Deep.Slices
import Derived.Carry
set_option linter.unusedVariables false
set_option linter.unusedSimpArgs false
namespace Go.Sh
open Go.RowKit
theorem aO9 (args:List (Bool×List D)) (i:Nat):(init args).t i=match args[i]? with | some (ag,ds)=>.v ag (ds.map .dat) | none=>.undef:=rfl
theorem aPV (args:List (Bool×List D)) (i:Nat):(init args).h i=(0,.none):=rfl
def aR6 (v:SV) (A B:Prop):Prop:=match v with
 | .v false [.dat (.bool b)]=>(b=true→A)∧(b=false→B)
 | _=>False
theorem aMU (b:Bool) (A B:Prop):aR6 (.v false [.dat (.bool b)]) A B=((b=true→A)∧(b=false→B)):=rfl
theorem fB {n:Int} (h1 : -9223372036854775808≤n) (h2:n≤9223372036854775807):IntKind.i64.wrap n=n:=by rw [IntKind.wrap_i64];omega
attribute [simp] aBX aLG aM4 aLm aIQ aGx aI0 aDA aDr evG yG vOp aR2 put ex exF cst one aft St.aDR St.aOS St.aPB St.aI3 aBi aDu aEz aDT aBa aED tG aC1 aCV aCi rows oS aFS lenOf aIz aIj aHH aBO aCa aD5 aKJ D.flat rid TI.agg aO9 aPV aEm aC2 aKd aGI aEt aMU
end Go.Sh
namespace Go.Sh
open Go.RowKit Go.ChangeShapes Go.WideShapes Go.Deep
inductive Shp where
 | int (k:IntKind)
 | bool
 | str
 | sl (es:List Shp)
def aFz (P:Program) (f:TypeId→Option (List Shp)):Nat→List Field→Option (List Shp)
 | _,[]=>some []
 | off,x::xs=>if x.offset=off then (match f x.type,aFz P f (off+P.cellsOf x.type) xs with
   | some a,some b=>if a.length=P.cellsOf x.type then some (a++b) else none
   | _,_=>none) else none
def aPJ (P:Program):Nat→TypeId→Option (List Shp)
 | 0,_=>none
 | n+1,t=>match P.underlying t with
  | some (.int k)=>some [.int k]
  | some .bool=>some [.bool]
  | some .string=>some [.str]
  | some (.slice e)=>match aPJ P n e with
   | some es=>if es.length=P.cellsOf e∧0<es.length then some [.sl es] else none
   | none=>none
  | some (.struct fs)=>match aFz P (aPJ P n) 0 fs.toList with
   | some es=>if es.length=P.cellsOf t then some es else none
   | none=>none
  | _=>none
mutual
def Has:Shp→D→Prop
 | .int k,d=>∃n,d = .int k n∧(Lit.int k n).wf=true
 | .bool,d=>∃b,d = .bool b
 | .str,d=>∃s,d = .str s∧s.size≤maxLen
 | .sl es,d=>∃xs,d = .sl xs∧xs.length≤maxLen ∧ ∀x∈xs,oC es x
def oC:List Shp→List D→Prop
 | [],ds=>ds=[]
 | e::es,ds=>∃d ds',ds=d::ds'∧Has e d∧oC es ds'
end
theorem oC.append : ∀ {a b:List Shp} {x y:List D},oC a x→oC b y→oC (a++b) (x++y)
 | [],b,x,y,h,k=>by simp only [oC] at h;subst h;exact k
 | e::a,b,x,y,h,k=>by
  simp only [oC] at h
  obtain ⟨d,ds',rfl,h1,h2⟩:=h
  simp only [List.cons_append,oC]
  exact ⟨d,ds'++y,rfl,h1,oC.append h2 k⟩
theorem oC.length : ∀ {a:List Shp} {x:List D},oC a x→x.length=a.length
 | [],x,h=>by simp only [oC] at h;subst h;rfl
 | e::a,x,h=>by
  simp only [oC] at h
  obtain ⟨d,ds',rfl,h1,h2⟩:=h
  simp [oC.length h2]
section
variable {H:Type} {enc:TypeId×Value→H} {P:Program} {w:World} {base:Nat} {spare:Nat→Bool} {held:Bool}
theorem aBS {w:World} {d:D} {v:Value} {F:List Nat} (h:Rep w d v F):aG w [d] [v] F:=by
 simp only [aG]
 exact ⟨v,[],F,[],rfl,by simp,h,rfl,rfl⟩
theorem aE8 {e:Shp} {d:D} (h:Has e d):oC [e] [d]:=by
 simp only [oC]
 exact ⟨d,[],rfl,h,rfl⟩
theorem aKF {n m:Nat} (ih : ∀(t:TypeId) (shs:List Shp) (cs:List Value) (x:DataW H×List MemPlace),aPJ P n t=some shs→DataW.trod enc P w base spare held m t cs=some x → ∃ds F,aG w ds cs F∧oC shs ds) :
  ∀(fs:List Field) (off:Nat) (shs:List Shp) (cs:List Value),aFz P (aPJ P n) off fs=some shs→off+shs.length=cs.length →
   (∀f∈fs,∃x,DataW.trod enc P w base spare held m f.type ((cs.drop f.offset).take (P.cellsOf f.type))=some x) → ∃ds F,aG w ds (cs.drop off) F∧oC shs ds
 | [],off,shs,cs,h,hl,_=>by
  simp [aFz] at h
  subst h
  refine ⟨[],[],?_,by simp [oC]⟩
  rw [List.drop_of_length_le (by simpa using Nat.le_of_eq hl.symm)]
  simp [aG]
 | f::fs,off,shs,cs,h,hl,hf=>by
  simp only [aFz] at h
  split at h
  ·rename_i ho
   split at h
   ·rename_i a b ha hb
    split at h
    ·rename_i hlen
     cases h
     obtain ⟨x,hx⟩:=hf f (by simp)
     obtain ⟨d1,F1,k1,k2⟩:=ih _ _ _ _ ha hx
     obtain ⟨d2,F2,k3,k4⟩:=aKF ih fs _ b cs hb (by rw [qE,hlen] at hl;omega) fun y hy=>hf y (by simp [hy])
     refine ⟨d1++d2,F1++F2,?_,k2.append k4⟩
     have:cs.drop off=(cs.drop f.offset).take (P.cellsOf f.type)++cs.drop (off+P.cellsOf f.type):=by
      rw [ho,←List.drop_drop,List.take_append_drop]
     rw [this]
     exact k1.append k3
    ·cases h
   ·cases h
  ·cases h
theorem aOL {a:Addr} {v:Value} (h:w.cell? a=some v):a=⟨a.block,a.off,none⟩:=by
 obtain ⟨b,o,s⟩:=a
 unfold World.cell? at h
 cases s with
 | none=>rfl
 | some s =>
  split at h
  ·simp at h
  ·cases h
theorem aK7 {es:List Shp} {C:Nat} (hC:es.length=C) {a:Addr} : ∀(len:Nat),(∀i,i<len → ∃cs' ds F,cs'.length=C∧(∀j,j<C→w.cell? (a.add (i*C+j))=cs'[j]?)∧aG w ds cs' F∧oC es ds) →
  ∃xs cells G,xs.length=len∧(∀x∈xs,oC es x)∧aR w xs cells G∧cells.length=len*C ∧ ∀j,j<len*C→w.cell? (a.add j)=cells[j]?
 | 0,_=>⟨[],[],[],rfl,by simp,by simp [aR],by simp,by simp⟩
 | len+1,h=>by
  obtain ⟨xs,cells,G,h1,h2,h3,h4,h5⟩:=aK7 hC len fun i hi=>h i (by omega)
  obtain ⟨cs',ds,F,k1,k2,k3,k4⟩:=h len (by omega)
  refine ⟨xs++[ds],cells++cs',G++F,by simp [h1],?_,?_,by rw [qE,h4,k1,Nat.add_mul];omega,?_⟩
  ·intro x hx
   rcases List.mem_append.1 hx with hx | hx
   ·exact h2 x hx
   ·simp at hx;subst hx;exact k4
  ·refine h3.append ?_
   simp only [aR]
   exact ⟨cs',[],F,[],by simp,by simp,k3,rfl,rfl⟩
  ·intro j hj
   rw [Nat.add_mul,Nat.one_mul] at hj
   by_cases hjl:j<len*C
   ·rw [h5 j hjl,List.getElem?_append_left (by omega)]
   ·have:=k2 (j-len*C) (by omega)
    rw [show len*C+(j-len*C)=j from by omega] at this
    rw [this,List.getElem?_append_right (by omega),h4]
theorem aKy : ∀(n:Nat) (m:Nat) (t:TypeId) (shs:List Shp) (cs:List Value) (x:DataW H×List MemPlace),aPJ P n t=some shs→DataW.trod enc P w base spare held m t cs=some x → ∃ds F,aG w ds cs F∧oC shs ds
 | 0,_,_,_,_,_,h,_=>by simp [aPJ] at h
 | n+1,m,t,shs,cs,x,h,hx=>by
  simp only [aPJ] at h
  split at h
  ·rename_i k hu
   cases h
   obtain ⟨v,rfl,_,hw⟩:=DataW.trod_int hu hx
   exact ⟨[.int k v],[],aBS (by simp [Rep]),aE8 (by simp [Has,hw])⟩
  ·rename_i hu
   cases h
   obtain ⟨v,rfl,_⟩:=DataW.trod_bool hu hx
   exact ⟨[.bool v],[],aBS (by simp [Rep]),aE8 (by simp [Has])⟩
  ·rename_i hu
   cases h
   obtain ⟨v,rfl,_,hw⟩:=DataW.trod_string hu hx
   exact ⟨[.str v],[],aBS (by simp [Rep]),aE8 (by simp [Has,hw])⟩
  ·rename_i e hu
   split at h
   ·rename_i es hes
    split at h
    ·rename_i hc
     cases h
     rcases open_slice hu hx with ⟨rfl,_⟩ | ⟨a,len,cap,mm,fu,Dd,Pl,rfl,h1,h2,h3,h4,_,h6⟩
     ·refine ⟨[.sl []],[],?_,?_⟩
      ·refine aBS ?_
       simp only [Rep]
       exact ⟨none,0,0,rfl,rfl,Nat.le_refl _,.inl (by simp)⟩
      ·refine aE8 ?_
       simp only [Has]
       exact ⟨[],rfl,by simp,by simp⟩
     ·have hle:len≤mm:=by rw [h4];split<;>omega
      obtain ⟨xs,cells,G,k1,k2,k3,k4,k5⟩:=aK7 (w:=w) hc.1 (a:=a) len fun i hi=>by
       obtain ⟨cs',q1,q2⟩:=h6 i (by omega)
       obtain ⟨_,q3,q4⟩:=World.cells?_some q1
       obtain ⟨ds,F,q5,q6⟩:=aKy n fu e es cs' _ hes q2
       exact ⟨cs',ds,F,q3,fun j hj=>by rw [←Go.Deep.add_add];exact q4 j hj,q5,q6⟩
      rcases Nat.eq_zero_or_pos len with h0 | h0
      ·have hxs:xs=[]:=List.eq_nil_of_length_eq_zero (by omega)
       subst hxs
       refine ⟨[.sl []],[],?_,?_⟩
       ·refine aBS ?_
        simp only [Rep]
        exact ⟨some a,len,cap,rfl,by simpa using h0,h2,.inl ⟨h0,trivial⟩⟩
       ·refine aE8 ?_
        simp only [Has]
        exact ⟨[],rfl,by simp,by simp⟩
      ·have hpos:0<len*P.cellsOf e:=Nat.mul_pos h0 (by omega)
       have hc0:=k5 0 hpos
       have hc0':cells[0]? = some (cells[0]'(by omega)):=qF (by omega)
       have hadd0:a.add 0=a:=by simp [Addr.add]
       rw [hadd0,hc0'] at hc0
       have ha:=aOL hc0
       refine ⟨[.sl xs],a.block::G,?_,?_⟩
       ·refine aBS ?_
        simp only [Rep]
        refine ⟨some a,len,cap,rfl,k1.symm,h2,.inr ⟨a.block,a.off,cells,P.cellsOf e,G,by rw [←ha],World.block_lt_of_cell? w a hc0,rfl,?_,k4,?_,k3⟩⟩
        ·intro j u hu'
         have hj:j<len*P.cellsOf e:=by rw [←k4];exact (List.getElem?_eq_some_iff.1 hu').1
         have:=k5 j hj
         rw [ha,Addr.add_lit] at this
         rw [this];exact hu'
        ·intro x hx'
         rw [(k2 x hx').length,hc.1]
       ·refine aE8 ?_
        simp only [Has]
        exact ⟨xs,rfl,by omega,k2⟩
    ·cases h
   ·cases h
  ·rename_i fs hu
   split at h
   ·rename_i es hes
    split at h
    ·rename_i hc
     cases h
     obtain ⟨xs,mm,rfl,_,q1,q2,q3⟩:=DataW.trod_struct hu hx
     have:=aKF (m:=mm) (fun t shs cs x=>aKy n mm t shs cs x) fs.toList 0 shs cs hes (by omega) (fun f hf=>by
      obtain ⟨i,hi⟩:=List.getElem?_of_mem hf
      have hi':fs[i]? = some f:=by simpa using hi
      have hlt:i<xs.length:=by rw [q2];exact (Array.getElem?_eq_some_iff.1 hi').1
      exact ⟨xs[i],by rw [q3 i f hi',qF hlt]⟩)
     simpa using this
    ·cases h
   ·cases h
  ·cases h
theorem aRs {n:Nat} {t:TypeId} {shs:List Shp} {v:Value} {d:DataW H} {p:List MemPlace} {b:Nat} (h:aPJ P n t=some shs) (hv:Value.okWide P w .any b t v) (ht:DataW.Trod enc P w base spare held t v d p) :
  ∃ds F,oC shs ds∧aMv w v (aHZ P t,ds) F:=by
 obtain ⟨fuel,hf⟩:=id ht
 obtain ⟨ds,F,h1,h2⟩:=aKy n fuel t shs _ _ h hf
 refine ⟨ds,F,h2,?_⟩
 have one:v.cells.toList=[v] → ∃d,ds=[d]∧Rep w d v F:=by
  intro hc
  rw [hc] at h1
  have hl:=h1.length
  match ds,h1,hl with
  | [d],h1,_ =>
   simp only [aG] at h1
   obtain ⟨u,us,F1,F2,e1,e2,e3,_,e5⟩:=h1
   simp at e1
   rw [e5,qW] at e2
   exact ⟨d,rfl,e2 ▸ e1.1 ▸ e3⟩
 cases n with
 | zero=>simp [aPJ] at h
 | succ n =>
  simp only [aPJ] at h
  unfold aHZ
  split at h
  ·rename_i k hu
   obtain ⟨x,rfl,_⟩:=open_int hu hv ht
   rw [hu]
   exact one rfl
  ·rename_i hu
   obtain ⟨x,rfl,_⟩:=open_bool hu hv ht
   rw [hu]
   exact one rfl
  ·rename_i hu
   obtain ⟨x,rfl,_⟩:=Go.ChangeMaps.open_string hu hv ht
   rw [hu]
   exact one rfl
  ·rename_i e hu
   obtain ⟨x,y,z,rfl⟩:=okWide_slice hu hv
   rw [hu]
   exact one rfl
  ·rename_i fs hu
   obtain ⟨cs,rfl,_⟩:=okWide_struct hu hv
   rw [hu]
   exact ⟨cs,rfl,h1⟩
  ·cases h
theorem aNs {f:Func} {s:ChangeSpec} {apart fresh handsOn again:Bool} {W W':World} {args:Array Value} {v:Value} {ds gs:List (DataW H)} {before pa pv:List MemPlace}
  (hW:DataW.Whole enc P f.params.toList s.vars apart W args.toList ds gs before)
  (hres : ∀(b:Nat) (sp:Nat→Bool) (hd:Bool),DataW.TrodAll enc P W' b sp hd f.resultTypes.toList (v.resultList f.resultTypes.size) (s.fn H (ds++gs)).results [])
  (hargs : ∀sp:Nat→Bool,(∀p∈before,sp p.block=true)→DataW.TrodAll enc P W' 0 sp true f.params.toList args.toList (s.fn H (ds++gs)).args pa)
  (hvars : ∀sp:Nat→Bool,(∀p∈before,sp p.block=true)→DataW.TrodVars enc P W' sp s.vars (s.fn H (ds++gs)).vars pv)
  (hps:before=pa++pv) (hb:Below W.heap.size W W')
  (hok : ∀(j:Nat) (t:TypeId) (r:Value),f.resultTypes[j]? = some t→(v.resultList f.resultTypes.size)[j]? = some r→Value.okWide P W' .any 0 t r) :
  s.post enc P f apart fresh handsOn again W args v W':=by
 have hlt : ∀p∈before,p.block<W.heap.size:=fun p hp=>hW.lt p hp
 have hold : ∀p∈before,(fun b=>decide (b<W.heap.size)) p.block=true:=fun p hp=>by simpa using hlt p hp
 refine ⟨ds,gs,before,[],pa,pv,hW,hres _ _ _,hargs _ hold,hvars _ hold,World.keptBut_mono (fun p hp=>⟨hp,?_⟩) (hb.frame (· ∈ before)),fun _ => ?_⟩
 ·rw [hps,qP] at hp
  exact Or.inr hp
 ·obtain ⟨_,_,_,_,_,hz,hn⟩:=hW
  refine ⟨hok,_,_,([]++pa)++pv,⟨[]++pa,pv,trodAll_append (hargs _ (fun _ _=>rfl)) (hres _ _ _),hvars _ (fun _ _=>rfl),rfl,?_,?_⟩,?_⟩
  ·intro b off hp
   have hin:MemPlace.cell b off∈before:=by rw [hps];simpa using hp
   rw [hb.frozen (hlt _ hin)]
   exact hz b off hin
  ·intro ha
   have:=hn ha
   rw [hps] at this
   simpa using this
  ·intro p hp _
   rw [hps]
   simpa using hp
theorem aGZ (hl:laidOutB P=true) {W W':World} (hb:Below W.heap.size W W') {sp:Nat→Bool} : ∀ {ts:List TypeId} {vs:List Value} {ds:List (DataW H)} {ps:List MemPlace},DataW.TrodAll enc P W 0 (fun _=>true) true ts vs ds ps →
  (∀t∈ts,P.readableRec t=true∧t<P.types.size)→(∀x∈ps,x.block<W.heap.size)→(∀x∈ps,sp x.block=true)→DataW.TrodAll enc P W' 0 sp true ts vs ds ps
 | [],vs,ds,ps,h,_,_,_=>by
  obtain ⟨rfl,rfl,rfl⟩:=trodAll_nil h
  rfl
 | t::ts,vs,ds,ps,h,ht,hlt,hsp=>by
  obtain ⟨v,vs',d,ds',p,q,rfl,rfl,rfl,h1,h2⟩:=trodAll_cons h
  refine ⟨p,q,?_,?_,rfl⟩
  ·exact WideElems.Trod_stays hl (ht t (by simp)).1 (ht t (by simp)).2 h1 (fun x hx=>hb.same (hlt x (by simp [hx]))) (fun x hx=>hsp x (by simp [hx]))
  ·exact aGZ hl hb h2 (fun u hu=>ht u (by simp [hu])) (fun x hx=>hlt x (by simp [hx])) (fun x hx=>hsp x (by simp [hx]))
def aRp (P:Program) (n:Nat):List TypeId→List (List Shp)→Prop
 | [],shs=>shs=[]
 | t::ts,shs=>∃s ss,shs=s::ss∧aPJ P n t=some s∧aRp P n ts ss
def aO3:List (List Shp)→List (List D)→Prop
 | [],ds=>ds=[]
 | s::ss,ds=>∃d ds',ds=d::ds'∧oC s d∧aO3 ss ds'
def aOm (P:Program):List TypeId→List (List D)→List (Bool×List D)
 | t::ts,d::ds=>(aHZ P t,d)::aOm P ts ds
 | _,_=>[]
theorem aM7 {n:Nat} {W:World} {b:Nat} : ∀ {ts:List TypeId} {vs:List Value} {ds:List (DataW H)} {ps:List MemPlace} {shs:List (List Shp)},aRp P n ts shs→DataW.TrodAll enc P W 0 (fun _=>true) true ts vs ds ps →
  (∀(j:Nat) t v,ts[j]? = some t→vs[j]? = some v→Value.okWide P W .any b t v) → ∃dss F,aO3 shs dss∧tO W vs (aOm P ts dss) F
 | [],vs,ds,ps,shs,hs,h,hv=>by
  obtain ⟨rfl,rfl,rfl⟩:=trodAll_nil h
  have:shs=[]:=hs
  subst this
  exact ⟨[],[],rfl,rfl⟩
 | t::ts,vs,ds,ps,shs,hs,h,hv=>by
  obtain ⟨s,ss,rfl,hs1,hs2⟩:=hs
  obtain ⟨v,vs',d,ds',p,q,rfl,rfl,rfl,h1,h2⟩:=trodAll_cons h
  obtain ⟨d1,F1,k1,k2⟩:=aRs hs1 (hv 0 t v rfl rfl) h1
  obtain ⟨dss,F2,k3,k4⟩:=aM7 hs2 h2 fun j t' v' ht hv'=>hv (j+1) t' v' (by simpa using ht) (by simpa using hv')
  exact ⟨d1::dss,F1++F2,⟨d1,dss,rfl,k1,k3⟩,F1,F2,rfl,k2,k4⟩
theorem aPh {f:FuncId} {fn:Func} {s:ChangeSpec} {n tb:Nat} {shs:List (List Shp)} (hl:laidOutB P=true) (hvars:s.vars=[]) (hres:fn.resultTypes = #[tb]) (htb:P.underlying tb=some .bool) (hsh:aRp P n fn.params.toList shs)
  (hread : ∀t∈fn.params.toList,P.readableRec t=true∧t<P.types.size)
  (hfn : ∀(ds:List (DataW H)),ds.length=fn.params.toList.length→s.fn H (ds++[])={ results:=[.lit (.bool true)],args:=ds })
  (hc : ∀dss,aO3 shs dss→lD P f (aOm P fn.params.toList dss) [(false,[.ro (.bool true)])])
  {W:World} {b:Nat} {args:Array Value} {ds gs:List (DataW H)} {before:List MemPlace} (hval : ∀(j:Nat) t v,fn.params[j]? = some t→args[j]? = some v→Value.okWide P W .any b t v)
  (hW:DataW.Whole enc P fn.params.toList s.vars false W args.toList ds gs before) :
  Calls P f args W fun e W'=>∃v,e = .returned v∧s.post enc P fn false true false false W args v W':=by
 have hW':=hW
 obtain ⟨p,q,hA,hV,rfl,hfz,hnd⟩:=hW
 rw [hvars] at hV
 obtain ⟨rfl,rfl⟩:=trodVars_none hV
 obtain ⟨dss,Fa,k1,k2⟩:=aM7 hsh hA fun j t v ht hv=>hval j t v (by simpa using ht) (by simpa using hv)
 refine (((hc dss k1).old rfl).2 W args Fa k2).mono fun e W' hh => ?_
 obtain ⟨v,rfl,⟨F,X,_,_,_,hr⟩,hb⟩:=hh
 have hv:v = .bool true:=by
  have h1:Rep W' (.bool true) v []:=hr.1
  simp only [Rep] at h1
  exact h1.1
 subst hv
 have hdl:ds.length=fn.params.toList.length:=by
  have : ∀ {ts:List TypeId} {vs:List Value} {ds:List (DataW H)} {ps:List MemPlace},DataW.TrodAll enc P W 0 (fun _=>true) true ts vs ds ps→ds.length=ts.length:=by
   intro ts
   induction ts with
   | nil=>intro vs ds ps h;obtain ⟨_,rfl,_⟩:=trodAll_nil h;rfl
   | cons t ts ih=>intro vs ds ps h;obtain ⟨v,vs',d,ds',p,q,rfl,rfl,rfl,h1,h2⟩:=trodAll_cons h;simp [ih h2]
  exact this hA
 have hfn':=hfn ds hdl
 refine ⟨_,rfl,aNs (pa:=p) (pv:=[]) hW' ?_ ?_ ?_ (by simp) hb (ok_one hres rfl (okWide_bool_mk htb _))⟩
 ·intro b sp hd
  rw [hfn',hres]
  exact trodAll_cons_mk (shut_bool htb _) trodAll_mk0
 ·intro sp hsp
  rw [hfn']
  exact aGZ hl hb hA hread (fun x hx=>hW'.lt x (by simpa using hx)) (fun x hx=>hsp x (by simpa using hx))
 ·intro sp hsp
  rw [hfn',hvars]
  rfl
end
end Go.Sh
namespace Go.Sh
open Go.RowKit
def Is (s t:St):Prop:=t=s
theorem Is.mk (t:St):Is t t:=rfl
theorem aGp {P:Program} {T:aGn} {N:Nat} {ops:Array Oper} : ∀(l:List Oper) {s:St} {K K':St→Prop},(∀s,K s→K' s)→aDA P T N ops l s K→aDA P T N ops l s K'
 | [],_,_,_,h,hh=>h _ hh
 | o::l,s,_,_,h,hh=>aFu (evG T N ops o) (fun s' h'=>aGp l h h') hh
theorem aEG {P:Program} : ∀(p:Prog) {s:St} {R W:List Loc} {K K':St→List Loc→List Loc→Prop},(∀s R W,K s R W→K' s R W)→exF P p s R W K→exF P p s R W K'
 | .done,_,_,_,_,_,h,hh=>h _ _ _ hh
 | .fail,_,_,_,_,_,_,hh=>hh
 | .getT t k,s,_,_,_,_,h,hh=>aEG (k (s.t t)) h hh
 | .aEc t v k,s,_,_,_,_,h,hh=>aEG k h hh
 | .getH i k,s,_,_,_,_,h,hh=>aEG (k (s.h i)) h hh
 | .gM i x k,s,_,_,_,_,h,hh=>aEG k h hh
 | .call f args k,s,_,_,_,_,h,⟨rs,hc,hh⟩=>⟨rs,hc,aEG (k rs) h hh⟩
 | .must p k,s,_,_,_,_,h,⟨hp,hh⟩=>⟨hp,aEG k h hh⟩
theorem aJP {P:Program} {T:aGn} {N:Nat} {ops:Array Oper} : ∀(l:List Oper) {s:St} {acc:List Fp} {K K':St→List Fp→Prop},(∀s a,K s a→K' s a)→aDr P T N ops l s acc K→aDr P T N ops l s acc K'
 | [],_,_,_,_,h,hh=>h _ _ hh
 | o::l,s,_,_,_,h,hh=>aEG (evG T N ops o) (fun s' R W h'=>aJP l h h') hh
section
variable {P:Program} {base N:Nat} {w0:W0} {Z:St→Prop} {k:List Fr} {s s':St}
theorem fF {id:Nat} {ops:Array Oper} (h:aDA P (dQ P) N ops ops.toList s (Is s')) (hk:aft P base w0 N Z k .normal s'):SW P base w0 N (.region id ops false) s (aft P base w0 N Z k):=
 aLd (aGp ops.toList (fun t ht=>by rw [show t=s' from ht];exact hk) h)
def aNd (ops:Array Oper) (fps:List Fp):Prop:=aFo ops fps=true
theorem aNd.mk {ops:Array Oper} {fps:List Fp} (h:aFo ops fps=true):aNd ops fps:=h
theorem aFb (hm:P.follows .mixedOrders=true) {id:Nat} {ops:Array Oper} (h:aDr P (dQ P) N ops ops.toList s [] fun t fps=>aNd ops fps∧Is s' t) (hk:aft P base w0 N Z k .normal s'):SW P base w0 N (.region id ops true) s (aft P base w0 N Z k):=
 aOi hm (aJP ops.toList (fun t fps ht=>⟨ht.1,by rw [show t=s' from ht.2];exact hk⟩) h)
theorem aIs {id:Nat} (h:aft P base w0 N Z k .normal s):aft P base w0 N Z (.block id::k) (.exit id) s:=by
 simp only [aft,if_true];exact h
theorem aTZ {id id':Nat} (hne:id'≠id) (h:aft P base w0 N Z k (.exit id') s):aft P base w0 N Z (.block id::k) (.exit id') s:=by
 simp only [aft,hne,if_false];exact h
theorem aE2 {c:Code} {id:Nat} (h:aft P base w0 N Z k (.exit id) s):aft P base w0 N Z (.code c::k) (.exit id) s:=h
theorem aHA {J:St→Prop} (h:J s):aft P base w0 N Z (.inv J::k) .normal s:=h
theorem aEo {J:St→Prop} {id:Nat} (h:aft P base w0 N Z k (.exit id) s):aft P base w0 N Z (.inv J::k) (.exit id) s:=h
theorem aEa {t:Nat} {x y:Code} (hb:s.t t = .v false [.dat (.bool true)]) (h:SW P base w0 N x s (aft P base w0 N Z k)):SW P base w0 N (.cond (.tmp t) x y) s (aft P base w0 N Z k):=
 aMG hb (fun _=>h) (fun e=>by cases e)
theorem aIG {t:Nat} {x y:Code} (hb:s.t t = .v false [.dat (.bool false)]) (h:SW P base w0 N y s (aft P base w0 N Z k)):SW P base w0 N (.cond (.tmp t) x y) s (aft P base w0 N Z k):=
 aMG hb (fun e=>by cases e) (fun _=>h)
theorem aHj {c:Code} {Q:Exit→St→Prop} {J:St→Prop} (hj:J s) (h : ∀s,J s→SW P base w0 N c s Q):SW P base w0 N c s Q:=h s hj
end
def fuel:Nat:=18446744073709551616
theorem gO (b:Bool):b=true∨b=false:=by cases b<;>simp
theorem aEL (b:Bool):b=false∨b=true:=by cases b<;>simp
theorem bT {α:Type} {b:Bool} {x y z:α} (hb:b=true) (h:(if b=true then x else y)=z):x=z:=by rw [if_pos hb] at h;exact h
theorem bR {α:Type} {b:Bool} {x y z:α} (hb:b=false) (h:(if b=true then x else y)=z):y=z:=by rw [hb] at h;simpa using h
theorem bind_some {α β:Type} {o:Option α} {f:α→Option β} {r:β} (h:o.bind f=some r) : ∃x,o=some x∧f x=some r:=by
 cases o with
 | none=>cases h
 | some x=>exact ⟨x,rfl,h⟩
def idx {α:Type} (xs:List α) (i:Int):Option α:=if 0≤i then xs[i.toNat]? else none
theorem aT {α:Type} {xs:List α} {i:Int} {x:α} (h:idx xs i=some x):0≤i∧xs[i.toNat]? = some x∧i.toNat<xs.length:=by
 unfold idx at h
 split at h
 ·rename_i hi;exact ⟨hi,h,(List.getElem?_eq_some_iff.1 h).1⟩
 ·cases h
def aQg (s:ByteArray) (i:Int):Option UInt8:=if 0≤i then s[i.toNat]? else none
theorem aOH {s:ByteArray} {i:Int} {x:UInt8} (h:aQg s i=some x):0≤i∧s[i.toNat]? = some x:=by
 unfold aQg at h
 split at h
 ·rename_i hi;exact ⟨hi,h⟩
 ·cases h
def app {α:Type} (b:Nat) (xs ys:List α):Option (List α):=if (xs.length+ys.length)*b≤140737488355328 then some (xs++ys) else none
theorem aCL {α:Type} {b:Nat} {xs ys zs:List α} (h:app b xs ys=some zs):(xs.length+ys.length)*b≤140737488355328:=by
 unfold app at h
 split at h
 ·assumption
 ·cases h
def aYH {α:Type} (b:Nat) (ys:List α):Option (List α):=if ys.length*b≤140737488355328 then some ys else none
theorem aCf {α:Type} {b:Nat} {ys zs:List α} (h:aYH b ys=some zs):ys.length*b≤140737488355328:=by
 unfold aYH at h
 split at h
 ·assumption
 ·cases h
def mkL {α:Type} (b:Nat) (n:Int) (z:α):Option (List α):=if 0≤n∧n.toNat*b≤140737488355328∧n≤9223372036854775807 then some (List.replicate n.toNat z) else none
theorem aQc {α:Type} {b:Nat} {n:Int} {z:α} {x:List α} (h:mkL b n z=some x):0≤n∧n.toNat*b≤140737488355328∧n≤9223372036854775807:=by
 unfold mkL at h
 split at h
 ·assumption
 ·cases h
def cat (x y:ByteArray):Option ByteArray:=if x.size+y.size≤9223372036854775807 then some (x++y) else none
theorem aP4 {x y z:ByteArray} (h:cat x y=some z):x.size+y.size≤9223372036854775807:=by
 unfold cat at h
 split at h
 ·assumption
 ·cases h
def enI (n:Int):List D:=[.int .i64 n]
def enB (n:Int):List D:=[.int .u8 n]
def enS (s:ByteArray):List D:=[.str s]
def enT (b:Bool):List D:=[.bool b]
def enL {α:Type} (f:α→List D) (xs:List α):List D:=[.sl (xs.map f)]
def fJ (s:ByteArray):List Int:=s.data.toList.map fun b=>(b.toNat:Int)
theorem aPd (s:ByteArray):aCh s.data.toList=(fJ s).map enB:=by
 unfold aCh fJ enB
 rw [List.map_map]
 rfl
def aDP (l:List Int):ByteArray:=⟨(l.map fun n=>UInt8.ofNat n.toNat).toArray⟩
def toStr (l:List Int):Option ByteArray:=if l.all (fun n=>decide (0≤n∧n<256))=true then some (aDP l) else none
theorem aPx (l:List Int):strOf (l.map enB)=aDP l:=by
 unfold strOf aDP enB
 rw [List.map_map]
 rfl
theorem aNe {l:List Int} {z:ByteArray} (h:toStr l=some z) : ∀x∈l.map enB,∃b:UInt8,x=[.int .u8 (b.toNat:Int)]:=by
 unfold toStr at h
 split at h
 ·rename_i ha
  intro x hx
  obtain ⟨n,hn,rfl⟩:=List.mem_map.1 hx
  have:=List.all_eq_true.1 ha n hn
  simp only [qL] at this
  refine ⟨UInt8.ofNat n.toNat,?_⟩
  unfold enB
  have h1:(UInt8.ofNat n.toNat).toNat=n.toNat:=by simp;omega
  rw [h1,Int.toNat_of_nonneg this.1]
 ·cases h
def aKq {α:Type} (xs:List α) (i:Int):Option (List α):=if 0≤i∧i.toNat≤xs.length then some (xs.drop i.toNat) else none
def aEx {α:Type} (xs:List α) (j:Int):Option (List α):=if 0≤j∧j.toNat≤xs.length then some (xs.take j.toNat) else none
def aSE {α:Type} (xs:List α) (i j:Int):Option (List α):=if 0≤i∧i≤j∧j.toNat≤xs.length then some ((xs.take j.toNat).drop i.toNat) else none
theorem aJ6 {α:Type} {xs z:List α} {i:Int} {f:α→List D} {n:Nat} (hf : ∀x,(f x).length=n) (h:aKq xs i=some z):0≤i∧i.toNat≤xs.length ∧ ∀x∈xs.map f,x.length=n:=by
 unfold aKq at h
 split at h
 ·rename_i hh
  refine ⟨hh.1,hh.2,fun x hx => ?_⟩
  obtain ⟨y,_,rfl⟩:=List.mem_map.1 hx
  exact hf y
 ·cases h
theorem aJz {α:Type} {xs z:List α} {i:Int} {f:α→List D} {n:Nat} (hf : ∀x,(f x).length=n) (h:aEx xs i=some z):0≤i∧i.toNat≤xs.length ∧ ∀x∈xs.map f,x.length=n:=by
 unfold aEx at h
 split at h
 ·rename_i hh
  refine ⟨hh.1,hh.2,fun x hx => ?_⟩
  obtain ⟨y,_,rfl⟩:=List.mem_map.1 hx
  exact hf y
 ·cases h
theorem aGw {α:Type} {xs z:List α} {i j:Int} {f:α→List D} {n:Nat} (hf : ∀x,(f x).length=n) (h:aSE xs i j=some z):0≤i∧i≤j∧j.toNat≤xs.length ∧ ∀x∈xs.map f,x.length=n:=by
 unfold aSE at h
 split at h
 ·rename_i hh
  refine ⟨hh.1,hh.2.1,hh.2.2,fun x hx => ?_⟩
  obtain ⟨y,_,rfl⟩:=List.mem_map.1 hx
  exact hf y
 ·cases h
theorem aF3 {α:Type} {f:α→List D} (hf : ∀x,(f x).all D.flat=true) (xs:List α):(xs.map f).all (fun y=>y.all D.flat)=true:=by
 rw [qQ]
 intro y hy
 obtain ⟨x,_,rfl⟩:=List.mem_map.1 hy
 exact hf x
theorem enI.fl (l:List Int):(List.map enI l).all (fun y=>y.all D.flat)=true:=aF3 (fun _=>rfl) l
theorem enB.fl (l:List Int):(List.map enB l).all (fun y=>y.all D.flat)=true:=aF3 (fun _=>rfl) l
theorem enS.fl (l:List ByteArray):(List.map enS l).all (fun y=>y.all D.flat)=true:=aF3 (fun _=>rfl) l
theorem enT.fl (l:List Bool):(List.map enT l).all (fun y=>y.all D.flat)=true:=aF3 (fun _=>rfl) l
theorem aKb {P : Program} {f : FuncId} {fn : Func} {c : Code} {args : List (Bool × List D)} {rs : List (Bool × List RC)} {N : Nat} {vars : List ResultVar} (hf : P.funcs[f]? = some fn) (hb : fn.body = some c) (hN : fn.ntmps = N) (hv : fn.results.toList = vars) (hnm : (fn.name == "runtime.NumGoroutine") = false) (hn : args.length ≤ N)
  (h : ∀(base:Nat) (w0:W0),SW P base w0 N c (init args) (aft P base w0 N (Ret (dQ P) vars rs) [])):lD P f args rs:=by
 subst hN hv
 exact aPW hf hb hnm hn h
end Go.Sh
namespace Go.Sh
theorem aMY (N d:Nat) (a b:Bool×List RC) (rs:List (Bool×List RC)):aCV N (some d) (a::b::rs)=aC1 d 0 (a::b::rs) fun vs=>put N (some d) (.tup vs):=rfl
theorem aML (N d:Nat):aCV N (some d) []=aC1 d 0 [] fun vs=>put N (some d) (.tup vs):=rfl
theorem aMm (sz k:Nat) (xs:List (List D)):(aJb sz 0 k xs).drop k=xs.drop k:=by
 unfold aJb
 rw [List.take_zero,List.nil_append,Nat.zero_add]
 exact List.drop_left' (by simp)
theorem aPl (sz k:Nat) (xs:List (List D)):(aJb sz 0 k xs).length-k=xs.length-k:=by
 unfold aJb
 simp
theorem aQA {α:Type} (xs:List α) (k:Nat):(xs.drop k).take (xs.length-k)=xs.drop k:=List.take_of_length_le (by simp)
theorem aQ1 {sz:Nat} {i:Int} {xs:List (List D)} (h:0≤i):0≤i∧i.toNat≤(aJb sz 0 i.toNat xs).length:=⟨h,by unfold aJb;simp⟩
theorem aPi {α:Type} (a:α) (as bs:List α):List.append (a::as) bs=a::List.append as bs:=rfl
theorem aQs {α:Type} (bs:List α):List.append [] bs=bs:=rfl
theorem aRR (xs:List (List D)):D.flat (.sl xs)=false:=rfl
theorem aQK (xs:List D):D.flat (.ptr xs)=false:=rfl
theorem aPr (u:Value):D.flat (.val u)=false:=rfl
def Ez9:=PLift.up (qI @aDA.eq_1 (qI @aDA.eq_2 (qI @aDr.eq_1 (qI @aDr.eq_2 (qI @evG.eq_1 (qI @yG.eq_1 (qI @vOp.eq_1 (qI @vOp.eq_2 (qI @vOp.eq_3 (qI @vOp.eq_4 (qI @aR2.eq_1 (qI @aR2.eq_2 (qI @put.eq_1 (qI @put.eq_2 (qI @ex.eq_1 (qI @ex.eq_2 (qI @ex.eq_3 (qI @ex.eq_4 (qI @ex.eq_5 (qI @ex.eq_6 (qI @ex.eq_7 (qI @ex.eq_8 (qI @exF.eq_1 (qI @exF.eq_2 (qI @exF.eq_3 (qI @exF.eq_4 (qI @exF.eq_5 (qI @exF.eq_6 (qI @exF.eq_7 (qI @exF.eq_8 (qI @cst.eq_1 (qI @cst.eq_2 (qI @cst.eq_3 (qI @cst.eq_4 (qI @one.eq_1 (qI @aBi.eq_1 (qI @aBi.eq_2 (qI @aBi.eq_3 (qI @aBi.eq_4 (qI @lab.eq_1 (qI @lab.eq_2 (qI @aHz.eq_1 (qI @aHz.eq_2 (qI @aHz.eq_3 (qI @aHz.eq_4 (qI @aHz.eq_5 (qI @aHz.eq_6 (qI @aHz.eq_7 (qI @aHz.eq_8 (qI @aHz.eq_9 (qI @aDu.eq_1 (qI @aDu.eq_2 (qI @aDu.eq_3 (qI @aDu.eq_4 (qI @aDu.eq_5 (qI @aEz.eq_1 (qI @aDT.eq_1 (qI @aDT.eq_2 (qI @aBa.eq_1 (qI @aBa.eq_2 (qI @aBa.eq_3 (qI @aBa.eq_4 (qI @aBa.eq_5 (qI @aBa.eq_6 (qI @aBa.eq_7 (qI @aBa.eq_8 (qI @aBa.eq_9 (qI @aED.eq_1 (qI @aED.eq_2 (qI @tG.eq_1 (qI @tG.eq_2 (qI @tG.eq_3 (qI @tG.eq_4 (qI @tG.eq_5 (qI @aC1.eq_1 (qI @aC1.eq_2 (qI @aCV.eq_1 (qI @aCV.eq_2 (qI @aIQ.eq_1 (qI @zH.eq_1 (qI @zH.eq_2 (qI @zH.eq_3 (qI @zH.eq_4 (qI @zH.eq_5 (qI @zH.eq_6 (qI @zH.eq_7 (qI @aLj.eq_1 (qI @aLj.eq_2 (qI @aK4.eq_1 (qI @aK4.eq_2 (qI @aEK.eq_1 (qI @aEK.eq_2 (qI @aEK.eq_3 (qI @aEK.eq_4 (qI @aEK.eq_5 (qI @aEK.eq_6 (qI @aEK.eq_7 (qI @aEK.eq_8 (qI @RC.ed.eq_1 (qI @RC.ed.eq_2 (qI @RC.ed.eq_3 (qI @RC.ed.eq_4 (qI @aL0.eq_1 (qI @aL0.eq_2 (qI @aL0.eq_3 (qI @aJ4.eq_1 (qI @aGx.eq_1 (qI @aGx.eq_2 (qI @aGx.eq_3 (qI @aGx.eq_4 (qI @aGx.eq_5 (qI @aI0.eq_1 (qI @aI0.eq_2 (qI @aCi.eq_1 (qI @aCi.eq_2 (qI @rows.eq_1 (qI @rows.eq_2 (qI @oS.eq_1 (qI @oS.eq_2 (qI @oS.eq_3 (qI @oS.eq_4 (qI @oS.eq_5 (qI @oS.eq_6 (qI @oS.eq_7 (qI @oS.eq_8 (qI @oS.eq_9 (qI @oS.eq_10 (qI @oS.eq_11 (qI @oS.eq_12 (qI @oS.eq_13 (qI @oS.eq_14 (qI @oS.eq_15 (qI @oS.eq_16 (qI @oS.eq_17 (qI @aFS.eq_1 (qI @aFS.eq_2 (qI @aFS.eq_3 (qI @aFS.eq_4 (qI @aFS.eq_5 (qI @aFS.eq_6 (qI @lenOf.eq_1 (qI @lenOf.eq_2 (qI @lenOf.eq_3 (qI @lenOf.eq_4 (qI @lenOf.eq_5 (qI @aIz.eq_1 (qI @aIz.eq_2 (qI @aIz.eq_3 (qI @aIz.eq_4 (qI @aIj.eq_1 (qI @aIj.eq_2 (qI @aHH.eq_1 (qI @aHH.eq_2 (qI @aHH.eq_3 (qI @aBO.eq_1 (qI @aBO.eq_2 (qI @aBO.eq_3 (qI @aBO.eq_4 (qI @aCa.eq_1 (qI @aCa.eq_2 (qI @aCa.eq_3 (qI @aCa.eq_4 (qI @aD5.eq_1 (qI @aD5.eq_2 (qI @aD5.eq_3 (qI @aD5.eq_4 (qI @aMb.eq_1 (qI @aKJ.eq_1 (qI @aKJ.eq_2 (qI @aBP.eq_1 (qI @aBP.eq_2 (qI @aBP.eq_3 (qI @aBP.eq_4 (qI @aKx.eq_1 (qI @D.flat.eq_1 (qI @D.flat.eq_2 (qI @D.flat.eq_3 (qI @D.flat.eq_4 (qI @rid.eq_1 (qI @TI.agg.eq_1 (qI @aLG (qI @aM4 (qI @aLm (qI @aNh (qI @aNq (qI @aMm (qI @aPl (qI @aQA (qI @aBX.eq_1 (qI @aMY (qI @aML (qI @aRR (qI @aQK (qI @aPr (qI @St.aDR (qI @St.aOS (qI @St.aPB (qI @St.aI3 (qI @aO9 @aPV)))))))))))))))))))))))))))))))))))))))))))))))))))))))))))))))))))))))))))))))))))))))))))))))))))))))))))))))))))))))))))))))))))))))))))))))))))))))))))))))))))))))))))))))))))))))))))))))))))))))
theorem E:type_of% Ez9.down:=Ez9.down
def Lz9:=PLift.up (qI @List.take_succ_cons.{0} (qI @List.take_zero.{0} (qI @List.drop_succ_cons.{0} (qI @List.drop_zero.{0} (qI @List.map_cons.{0,0} (qI @List.map_nil.{0,0} (qI @List.cons_append.{0} (qI @List.nil_append.{0} (qI @List.append_nil.{0} (qI @List.length_cons.{0} (qI @List.length_nil.{0} (qI (@List.getElem?_cons_zero.{0}) (qI (@List.getElem?_cons_succ.{0}) (qI @List.tail_cons.{0} (qI @List.tail_nil.{0} (qI @Option.isSome_some.{0} (qI @Option.isSome_none.{0} (qI @List.take_nil.{0} (qI @List.drop_nil.{0} (qI (@List.getElem?_map.{0,0}) (qI @Option.map_some.{0,0} (qI @Option.bind_some.{0,0} (qI @List.length_map.{0,0} (qI @List.replicate_succ.{0} (qI @List.replicate_zero.{0} (qI @List.flatten_cons.{0} (qI @List.flatten_nil.{0} (qI (@List.getElem?_toArray.{0}) (qI @List.toList_toArray.{0} (qI @aPi (qI @aQs (qI @List.any_cons.{0} (qI @List.any_nil.{0} (qI Bool.or_true (qI Bool.true_or (qI Bool.or_false (qI Bool.false_or (qI Bool.and_true (qI Bool.true_and (qI Bool.and_false (qI Bool.false_and (qI true_and (qI and_true and_self)))))))))))))))))))))))))))))))))))))))))))
theorem L:type_of% Lz9.down:=Lz9.down
def Fz9:=PLift.up (qI @List.set_cons_zero.{0} (qI @List.set_cons_succ.{0} (qI @St.aDR (qI @St.aOS (qI @St.aPB (qI @St.aI3 (qI @aO9 (qI @aPV (qI @List.map_append.{0,0} (qI @List.map_cons.{0,0} (qI @List.map_nil.{0,0} (qI @List.map_set.{0,0} (qI @List.map_replicate.{0,0} (qI @List.append_nil.{0} (qI @List.nil_append.{0} (qI @List.cons_append.{0} (qI (@List.getElem?_cons_zero.{0}) (qI (@List.getElem?_cons_succ.{0}) (qI Bool.and_true Bool.true_and)))))))))))))))))))
theorem F:type_of% Fz9.down:=Fz9.down
end Go.Sh
namespace Go.Sh
open Go.RowKit
def Gho (P:Program) (base:Nat) (w0:W0) (N:Nat) (s s':St):Prop:=∀a w,Rel P base w0 N s a w→Rel P base w0 N s' a w
section
variable {P:Program} {base N:Nat} {w0:W0} {Z:St→Prop} {k:List Fr} {s s' s'':St}
theorem Gho.refl (s:St):Gho P base w0 N s s:=fun _ _ h=>h
theorem Gho.trans (h:Gho P base w0 N s s') (h':Gho P base w0 N s' s''):Gho P base w0 N s s'':=fun a w R=>h' a w (h a w R)
theorem aO0 {c:Code} {Q:Exit→St→Prop} (hg:Gho P base w0 N s s') (h:SW P base w0 N c s' Q):SW P base w0 N c s Q:=fun a w R=>h a w (hg a w R)
theorem aQS {c:Code} (I:Nat→St→Prop) (n:Nat) (h0:I n s) (h : ∀m s,I m s→SW P base w0 N c s (aft P base w0 N Z (.inv (fun s'=>∃s'',Gho P base w0 N s' s'' ∧ ∃m',m'<m∧I m' s'')::k))):SW P base w0 N (.loop c) s (aft P base w0 N Z k):=by
 intro a w R
 refine wp_loop_ghost (fun m a w=>∃s,I m s∧Rel P base w0 N s a w) n ⟨s,h0,R⟩ ?_
 rintro m a w ⟨s,h1,R⟩
 refine wp_mono (h m s h1 a w R) ?_
 rintro e a' w' ⟨s',h2,h3⟩
 cases e with
 | normal=>obtain ⟨s'',hg,m',h4,h5⟩:=h2;exact ⟨m',h4,s'',h5,hg _ _ h3⟩
 | _=>exact ⟨s',h2,h3⟩
theorem aMy {g:Gh} {a:Act} {w:World} {j K vj:Nat} {e:TypeId} {sz:Nat} {xs:List (List D)} {dp:Bool} (R:jP P base w0 N g s a w []) (h2:s.h j=(vj,.row e sz xs dp)) :
  ∃g',jP P base w0 N g' ((s.gM j (vj,.none)).gM K ((s.h K).1+1,.row e sz xs dp)) a w []∧iR g g' s.h ((s.gM j (vj,.none)).gM K ((s.h K).1+1,.row e sz xs dp)).h w w ∧
   ∀v,wV g s.h w (.row j vj) v→wV g' ((s.gM j (vj,.none)).gM K ((s.h K).1+1,.row e sz xs dp)).h w (.row K ((s.h K).1+1)) v:=by
 have hj1:(s.h j).1=vj:=by rw [h2]
 have hj2:(s.h j).2 = .row e sz xs dp:=by rw [h2]
 have hob:=R.inv.obj j
 rw [hj2] at hob
 obtain ⟨cells,p1,p2,p3,p4,p5⟩:=hob
 obtain ⟨I1,hfr⟩:=R.inv.aDW hj2
 rw [hj1] at I1 hfr
 have T1:iR g g s.h (oR s.h j (vj,.none)) w w:=by have:=iR.drop (g:=g) (h:=s.h) (w:=w) j g.S fun _ x=>x;rw [hj1] at this;exact this
 have hver:(oR s.h j (vj,.none) K).1=(s.h K).1:=by
  by_cases hk:K=j
  ·subst hk;rw [bI,hj1]
  ·rw [gF _ _ _ _ hk]
 have I2:=I1.aDm (i:=K) (v:=g.val j) (e:=e) (sz:=sz) (xs:=xs) (dp:=dp) (cells:=cells) (F:=g.fp j) (pool':=[]) p1 p2 p3 p4 hfr (by simp) List.nodup_nil (fun hd=>by
  subst hd
  simp only [if_true,List.nil_append]
  exact ⟨(p5 rfl).1,fun b hb=>⟨hb,by simp⟩⟩)
 have T2:=iR.create (g:=g) (h:=oR s.h j (vj,.none)) (w:=w) K (g.val j) (g.fp j) (.row e sz xs dp)
 rw [hver] at I2 T2
 refine ⟨_,R.turn (T1.trans T2) rfl R.below I2,T1.trans T2,?_⟩
 rintro v ⟨h0,_,hv⟩
 refine ⟨h0,?_,?_⟩
 ·show _≤(oR _ K _ K).1
  rw [bI];exact Nat.le_refl _
 ·intro _ e' sz' xs' dp' _
  show v=aEl g.val K (g.val j) K
  rw [dW]
  exact hv hj1 e sz xs dp hj2
theorem aPT {g:Gh} {a:Act} {w:World} {K:Nat} (e:TypeId) (sz:Nat) (R:jP P base w0 N g s a w []) :
  ∃g',jP P base w0 N g' (s.gM K ((s.h K).1+1,.row e sz [] true)) a w []∧iR g g' s.h (s.gM K ((s.h K).1+1,.row e sz [] true)).h w w ∧
   ∀v,wV g s.h w .nil v→wV g' (s.gM K ((s.h K).1+1,.row e sz [] true)).h w (.row K ((s.h K).1+1)) v:=by
 have I2:=R.inv.aDm (i:=K) (v:=.slice none 0 0) (e:=e) (sz:=sz) (xs:=[]) (dp:=true) (cells:=[]) (F:=[]) (pool':=[]) (World.ownsRow_nil w base e sz) (by simp) cN.nil (by simp) (by intro b hb;cases hb) (by simp) List.nodup_nil (fun _=>⟨List.nodup_nil,by simp⟩)
 have T2:=iR.create (g:=g) (h:=s.h) (w:=w) K (.slice none 0 0) [] (.row e sz [] true)
 refine ⟨_,R.turn T2 rfl R.below I2,T2,?_⟩
 intro v hv
 have hv:v = .slice none 0 0:=hv
 subst hv
 refine ⟨rfl,?_,?_⟩
 ·show _≤(oR _ K _ K).1
  rw [bI];exact Nat.le_refl _
 ·intro _ e' sz' xs' dp' _
  show _=aEl g.val K _ K
  rw [dW]
theorem aNH {g:Gh} {a:Act} {w:World} {i:Nat} {sv:SV} (R:jP P base w0 N g s a w []) (hv:lF g s.h w sv (a.tmps.getD i undef)):jP P base w0 N g (s.aEc i sv) a w []:=by
 refine ⟨R.defers,R.size,R.below,R.q,R.lB,R.inv,fun t => ?_,R.lab,R.frm⟩
 rw [St.aDR]
 by_cases ht:t=i
 ·subst ht;simp only [if_true];exact hv
 ·simp only [ht,if_false];exact R.tmp t
theorem Gho.aSz {i j K vj:Nat} {e:TypeId} {sz:Nat} {xs:List (List D)} {dp:Bool} (h1:s.t i = .v false [.row j vj]) (h2:s.h j=(vj,.row e sz xs dp)) :
  Gho P base w0 N s (((s.gM j (vj,.none)).gM K ((s.h K).1+1,.row e sz xs dp)).aEc i (.v false [.row K ((s.h K).1+1)])):=by
 rintro a w ⟨g,R⟩
 have ht:=R.tmp i
 rw [h1] at ht
 obtain ⟨g',R',T,hc⟩:=aMy (K:=K) R h2
 exact ⟨g',aNH R' ⟨_,[],rfl,hc _ (eF ht),rfl⟩⟩
theorem Gho.aTL {i K:Nat} (e:TypeId) (sz:Nat) (h1:s.t i = .v false [.nil]) :
  Gho P base w0 N s ((s.gM K ((s.h K).1+1,.row e sz [] true)).aEc i (.v false [.row K ((s.h K).1+1)])):=by
 rintro a w ⟨g,R⟩
 have ht:=R.tmp i
 rw [h1] at ht
 obtain ⟨g',R',T,hc⟩:=aPT (K:=K) e sz R
 exact ⟨g',aNH R' ⟨_,[],rfl,hc _ (eF ht),rfl⟩⟩
theorem aQ.set {g:Gh} {h:sB} {w:World} : ∀ {cs:List SC} {vs:List Value} (c:Nat) (x y:SC),aQ g h w cs vs→cs[c]? = some x→(∀v,wV g h w x v→wV g h w y v)→aQ g h w (cs.set c y) vs
 | [],vs,c,x,y,hc,hx,_=>by simp at hx
 | z::cs,vs,0,x,y,hc,hx,hxy=>by
  obtain ⟨v,vs',rfl,h1,h2⟩:=hc
  simp at hx
  subst hx
  exact ⟨v,vs',rfl,hxy v h1,h2⟩
 | z::cs,vs,c+1,x,y,hc,hx,hxy=>by
  obtain ⟨v,vs',rfl,h1,h2⟩:=hc
  exact ⟨v,vs',rfl,h1,aQ.set c x y h2 (by simpa using hx) hxy⟩
theorem aSF {g:Gh} {a:Act} {w:World} {b vb b':Nat} {t:TypeId} {cells cells':List SC} {vals:Array Value} (R:jP P base w0 N g s a w []) (hb:s.h b=(vb,.box t cells)) (h3:g.val b = .pointer (some ⟨b',0,none⟩)) (h5:w.heap[b']? = some (.cells vals t (0,0))) (hc:aQ g s.h w cells' vals.toList) :
  ∃g',jP P base w0 N g' (s.gM b (vb,.box t cells')) a w []:=by
 have hb1:(s.h b).1=vb:=by rw [hb]
 have hb2:(s.h b).2 = .box t cells:=by rw [hb]
 have hlive:live s.h b:=by unfold live;rw [hb2];simp
 have hown:aBQ (g.val b)=some b':=by rw [h3];rfl
 have hnS:=R.inv.mtb b b' hlive hown
 have T:iR g { g with fp:=aEl g.fp b (g.fp b) } s.h (oR s.h b ((s.h b).1,.box t cells')) w w:=
  iR.aDl hnS (fun _ _=>rfl) (by intro e sz xs dp hh';cases hh') (by intro t0 cs0 hh';cases hh';exact ⟨_,hb2⟩)
 have I':=R.inv.aDl (i:=b) (b:=b') (F:=g.fp b) (pool':=[]) (w':=w) hlive hown rfl (fun _ _=>rfl) T
  ⟨b',vals,h3,(R.inv.aEM hlive hown).1,h5,hc.turn T⟩ (by simp) List.nodup_nil (by rintro ⟨_,_,_,hh'⟩;cases hh')
 rw [hb1] at T I'
 exact ⟨_,R.turn T rfl R.below I'⟩
theorem aIb {g g':Gh} {a:Act} {w:World} {b vb c:Nat} {t:TypeId} {cells:List SC} {x y:SC} (R:jP P base w0 N g s a w []) (R':jP P base w0 N g' s' a w []) (T:iR g g' s.h s'.h w w) (h0:s.h b=(vb,.box t cells)) (h0':s'.h b=(vb,.box t cells)) (h1:cells[c]? = some x)
  (hc : ∀v,wV g s.h w x v→wV g' s'.h w y v):Rel P base w0 N (s'.gM b (vb,.box t (cells.set c y))) a w:=by
 have hob:=R.inv.obj b
 rw [show (s.h b).2 = .box t cells from by rw [h0]] at hob
 obtain ⟨b',vals,h3,h4,h5,h6⟩:=hob
 have hv:g'.val b=g.val b:=(T.box b t cells (by rw [h0',h0]) (by rw [h0'])).1
 have hnew : ∀ {cs:List SC} {vs:List Value} (c:Nat),aQ g s.h w cs vs→cs[c]? = some x→aQ g' s'.h w (cs.set c y) vs:=by
  intro cs
  induction cs with
  | nil=>intro vs c _ hx;simp at hx
  | cons z cs ih =>
   intro vs c hA hx
   obtain ⟨v,vs',rfl,k1,k2⟩:=hA
   cases c with
   | zero=>simp at hx;subst hx;exact ⟨v,vs',rfl,hc v k1,k2.turn T⟩
   | succ c=>exact ⟨v,vs',rfl,k1.turn T,ih c k2 (by simpa using hx)⟩
 exact aSF R' h0' (hv.trans h3) h5 (hnew c h6 h1)
theorem Gho.aTi {b vb c j K vj:Nat} {t:TypeId} {cells:List SC} {e:TypeId} {sz:Nat} {xs:List (List D)} {dp:Bool} (h0:s.h b=(vb,.box t cells)) (h1:cells[c]? = some (.row j vj)) (h2:s.h j=(vj,.row e sz xs dp)) (hk:b≠K) :
  Gho P base w0 N s (((s.gM j (vj,.none)).gM K ((s.h K).1+1,.row e sz xs dp)).gM b (vb,.box t (cells.set c (.row K ((s.h K).1+1))))):=by
 rintro a w ⟨g,R⟩
 have hjb:b≠j:=fun e=>by rw [e,h2] at h0;cases h0
 obtain ⟨g',R',T,hc⟩:=aMy (K:=K) R h2
 refine aIb R R' T h0 ?_ h1 hc
 show oR (oR s.h j _) K _ b=_
 rw [gF _ _ _ _ hk,gF _ _ _ _ hjb,h0]
theorem Gho.aTB {b vb c K:Nat} {t:TypeId} {cells:List SC} (e:TypeId) (sz:Nat) (h0:s.h b=(vb,.box t cells)) (h1:cells[c]? = some .nil) (hk:b≠K) :
  Gho P base w0 N s ((s.gM K ((s.h K).1+1,.row e sz [] true)).gM b (vb,.box t (cells.set c (.row K ((s.h K).1+1))))):=by
 rintro a w ⟨g,R⟩
 obtain ⟨g',R',T,hc⟩:=aPT (K:=K) e sz R
 refine aIb R R' T h0 ?_ h1 hc
 show oR s.h K _ b=_
 rw [gF _ _ _ _ hk,h0]
theorem sq {x y:Code} (h:SW P base w0 N x s (aft P base w0 N Z (.code y::k))):SW P base w0 N (.seq x y) s (aft P base w0 N Z k):=aR7 h
theorem bk {id:Nat} {c:Code} (h:SW P base w0 N c s (aft P base w0 N Z (.block id::k))):SW P base w0 N (.block id c) s (aft P base w0 N Z k):=aQm h
theorem sk (h:aft P base w0 N Z k .normal s):SW P base w0 N .skip s (aft P base w0 N Z k):=aRM h
theorem xt {id:Nat} (h:aft P base w0 N Z k (.exit id) s):SW P base w0 N (.exit id) s (aft P base w0 N Z k):=aRW h
theorem rt (h:Z s):SW P base w0 N .ret s (aft P base w0 N Z k):=aSA h
theorem an {c:Code} (h:SW P base w0 N c s (aft P base w0 N Z k)):aft P base w0 N Z (.code c::k) .normal s:=h
theorem ab {id:Nat} (h:aft P base w0 N Z k .normal s):aft P base w0 N Z (.block id::k) .normal s:=h
end
end Go.Sh
namespace Go.Sh
open Go.RowKit
section
variable {P:Program} {base N:Nat} {w0:W0} {Z:St→Prop} {k:List Fr} {s s':St}
theorem aQ.swap {g g':Gh} {h h':sB} {w:World} {x y:SC} (T:iR g g' h h' w w) (hc : ∀v,wV g h w x v→wV g' h' w y v) : ∀ {cs:List SC} {vs:List Value} (c:Nat),aQ g h w cs vs→cs[c]? = some x→aQ g' h' w (cs.set c y) vs
 | [],_,c,_,hx=>by simp at hx
 | z::cs,vs,0,hA,hx=>by
  obtain ⟨v,vs',rfl,k1,k2⟩:=hA
  simp at hx
  subst hx
  exact ⟨v,vs',rfl,hc v k1,k2.turn T⟩
 | z::cs,vs,c+1,hA,hx=>by
  obtain ⟨v,vs',rfl,k1,k2⟩:=hA
  exact ⟨v,vs',rfl,k1.turn T,aQ.swap T hc c k2 (by simpa using hx)⟩
end
end Go.Sh
namespace Go.Sh
open Go.RowKit
def aPp (B:Nat) (us:Nat→Value):Nat→List D→List SC
 | _,[]=>[]
 | k,d::ds=>.old B d (some (us k))::aPp B us (k+1) ds
theorem aQZ (B:Nat) (us:Nat→Value) (k:Nat):aPp B us k []=[]:=rfl
theorem aPX (B:Nat) (us:Nat→Value) (k:Nat) (d:D) (ds:List D):aPp B us k (d::ds) = .old B d (some (us k))::aPp B us (k+1) ds:=rfl
def aQb (B:Nat) (us:Nat→Value) (x y:List D):St:=
 { t:=fun i=>if i=0 then .v true (x.map .dat) else if i=1 then .v true (aPp B us 0 y) else .undef,h:=fun _=>(0,.none) }
theorem aRm (B:Nat) (us:Nat→Value) (x y:List D) (i:Nat):(aQb B us x y).t i=if i=0 then .v true (x.map .dat) else if i=1 then .v true (aPp B us 0 y) else .undef:=rfl
theorem aRG (B:Nat) (us:Nat→Value) (x y:List D) (i:Nat):(aQb B us x y).h i=(0,.none):=rfl
theorem aNQ (B:Nat) (d:D) (u:Option Value) (cs:List SC) (k:List D→Prog):aBa (.old B d u::cs) k=aBa cs fun ds=>k (d::ds):=rfl
def aTn (T:aGn) (vars:List ResultVar) (B:Nat) (us:Nat→Value) (y:List D) (s:St):Prop:=aEm T s vars=some [(true,aPp B us 0 y),(false,[.dat (.bool true)])]
theorem aPU {g:Gh} {h:sB} {w:World} {B:Nat} {us:Nat→Value} : ∀ {ds:List D} {vs:List Value} {F:List Nat} (k:Nat),aG w ds vs F→(∀b∈F,g.S b∧b<B)→(∀i v,vs[i]? = some v→v=us (k+i))→aQ g h w (aPp B us k ds) vs
 | [],vs,F,k,hr,_,_=>by simp only [aG] at hr;exact hr.1
 | d::ds,vs,F,k,hr,hF,hu=>by
  simp only [aG] at hr
  obtain ⟨v,vs',F1,F2,rfl,rfl,h3,h4⟩:=hr
  refine ⟨v,vs',rfl,⟨F1,h3,fun b hb=>hF b (by simp [hb]),fun x hx => ?_⟩,aPU (k+1) h4 (fun b hb=>hF b (by simp [hb])) fun i u hi => ?_⟩
  ·cases hx
   exact hu 0 v rfl
  ·rw [hu (i+1) u (by simpa using hi)]
   congr 1
   omega
theorem aPL {g:Gh} {h:sB} {w:World} {B:Nat} {us:Nat→Value} : ∀ {ds:List D} {vs:List Value} (k:Nat),aQ g h w (aPp B us k ds) vs→vs.length=ds.length ∧ ∀i v,vs[i]? = some v→v=us (k+i)
 | [],vs,k,hr=>by
  rw [show vs=[] from hr]
  exact ⟨rfl,fun i v hv=>by simp at hv⟩
 | d::ds,vs,k,hr=>by
  obtain ⟨v,vs',rfl,⟨F,_,_,h3⟩,h4⟩:=hr
  obtain ⟨k1,k2⟩:=aPL (k+1) h4
  refine ⟨by simp [k1],fun i u hu => ?_⟩
  cases i with
  | zero=>simp at hu;rw [←hu];exact h3 _ rfl
  | succ i =>
   rw [k2 i u (by simpa using hu)]
   congr 1
   omega
theorem aRQ {P : Program} {f : FuncId} {fn : Func} {c : Code} {x y : List D} {N : Nat} {vars : List ResultVar} (hf : P.funcs[f]? = some fn) (hb : fn.body = some c) (hN : fn.ntmps = N) (hv : fn.results.toList = vars) (hnm : (fn.name == "runtime.NumGoroutine") = false) (hn : 2 ≤ N)
  (h : ∀(base:Nat) (w0:W0) (us:Nat→Value),SW P base w0 N c (aQb base us x y) (aft P base w0 N (aTn (dQ P) vars base us y) [])):lD P f [(true,x),(true,y)] [(false,[.edit .pass])]:=by
 subst hN hv
 refine .inr (.inl ⟨.pass,rfl,⟨fn,c,hf,hb,hnm⟩,fun w v1 v2 Fa ha => ?_⟩)
 have hFlt:=aJE (vs:=[v1,v2]) ha
 obtain ⟨F1,F',e1,h1,F2,F3,e2,h2,h3⟩:=ha
 have e3:F3=[]:=h3
 subst e3 e2 e1
 obtain ⟨c1,rfl,r1⟩:=h1
 obtain ⟨c2,rfl,r2⟩:=h2
 refine calls_of_wp hf hb ?_
 let us:Nat→Value:=fun i=>c2.toList.getD i undef
 let g:Gh:={ val:=fun _=>undef,fp:=fun _=>[],S:=fun b=>b∈F1++(F2++[]),Q:=⟨fun b=>b∈F1++(F2++[]),w.heap.size,none,slP P⟩ }
 have R:Rel P w.heap.size ⟨w,⟨fun b=>b∈F1++(F2++[]),w.heap.size,none,slP P⟩,noK,aMw⟩ fn.ntmps (aQb w.heap.size us x y) { tmps := #[.agg c1,.agg c2]++Array.replicate (fn.ntmps-2) undef,defers:=[] } w:=by
  refine ⟨g,rfl,by simp;omega,Below.refl _ _,⟨fun _ x=>x,rfl,fun _ hx=>(by cases hx)⟩,fun _ x=>x.elim,⟨Nat.le_refl _,fun _ x _=>x,hFlt,fun i=>trivial,fun i b hl=>absurd rfl hl,fun i j b _ hl=>absurd rfl hl,?_,yH.nil _ _,by simp,fun i hd=>(by obtain ⟨_,_,_,hd⟩:=hd;cases hd),Nat.le_refl _⟩,fun t => ?_,⟨rfl,.inl rfl⟩,fun _=>trivial⟩
  ·rintro i j _ ⟨_,_,_,hd⟩;cases hd
  ·show lF g _ w (if t=0 then .v true (x.map .dat) else if t=1 then .v true (aPp w.heap.size us 0 y) else .undef) _
   by_cases h0:t=0
   ·subst h0
    rw [if_pos rfl]
    exact ⟨c1,by rw [Array.getD_eq_getD_getElem?,Array.getElem?_append_left (by simp)];rfl,aQ.aHe r1 fun b hb=>by show b∈F1++(F2++[]);simp [hb]⟩
   ·rw [if_neg h0]
    by_cases h1:t=1
    ·subst h1
     rw [if_pos rfl]
     refine ⟨c2,by rw [Array.getD_eq_getD_getElem?,Array.getElem?_append_left (by simp)];rfl,aPU 0 r2 (fun b hb=>⟨by show b∈F1++(F2++[]);simp [hb],hFlt b (by simp [hb])⟩) fun i v hi => ?_⟩
     show v=c2.toList.getD (0+i) undef
     rw [Nat.zero_add,List.getD_eq_getElem?_getD,hi]
     rfl
    ·rw [if_neg h1]
     show _=undef
     simp only [Array.getD_eq_getD_getElem?,Array.getElem?_append]
     rw [if_neg (by simp;omega)]
     by_cases h2:t-2<fn.ntmps-2
     ·simp [h2]
     ·rw [Array.getElem?_eq_none (by simp;omega)];rfl
 refine wp_mono (h w.heap.size ⟨w,⟨fun b=>b∈F1++(F2++[]),w.heap.size,none,slP P⟩,noK,aMw⟩ us _ w R) ?_
 rintro e a' w' ⟨s',h1,g',R'⟩
 have fin:aTn (dQ P) fn.results.toList w.heap.size us y s'→a'.defers=[] ∧ ∃v,(results fn a'.tmps).run P w' = .ok v w'∧Ending.returned v = .returned (.tuple #[.agg c2,.bool true])∧Below w.heap.size w w':=by
  intro hr
  obtain ⟨vs,k1,k2,k3⟩:=aFA R' hr
  have hrun:=aKv (P:=P) (w:=w') (fun x=>match x with | .tmp t=>(pure (a'.tmps.getD t undef):Sem Value) | .cell p t=>(do loadVar t (←asAddr (a'.tmps.getD p undef)):Sem Value)) fn.results.toList vs (by rw [k1]) k3
  have hrun':(results fn a'.tmps).run P w' = .ok (if h:vs.toArray.size=1 then vs.toArray[0] else .tuple vs.toArray) w':=by
   unfold results
   rw [←Array.toArray_toList (xs:=fn.results)]
   rw [List.mapM_toArray]
   simp only [Sem.run_bind,Sem.run_map,Sem.run_pure]
   exact (congrArg (fun r:Result (List Value)=>(r.andThen fun a w'=>Result.ok a.toArray w').andThen fun a w'=>Result.ok (if h:a.size=1 then a[0] else Value.tuple a) w') hrun).trans rfl
  obtain ⟨u1,vs1,rfl,⟨d2,rfl,m1⟩,u2,vs2,rfl,m2,m3⟩:=k2
  have m3':vs2=[]:=m3
  subst m3'
  have e2:u2 = .bool true:=aCz (g:=g') (s:=s') (w:=w') (b:=true) m2
  subst e2
  obtain ⟨n1,n2⟩:=aPL 0 m1
  have n3:c2.toList.length=y.length:=r2.length
  have e1:d2=c2:=by
   apply Array.ext'
   apply List.ext_getElem?
   intro i
   rcases Nat.lt_or_ge i y.length with hi | hi
   ·have hd:i<d2.toList.length:=by rw [n1];exact hi
    have hc:i<c2.toList.length:=by rw [n3];exact hi
    rw [qF hd,qF hc]
    have:=n2 i _ (qF hd)
    rw [this]
    show some (c2.toList.getD (0+i) undef)=_
    rw [Nat.zero_add,List.getD_eq_getElem?_getD,qF hc]
    rfl
   ·rw [qX (by rw [n1];exact hi),qX (by rw [n3];exact hi)]
  subst e1
  exact ⟨R'.defers,_,hrun',rfl,R'.below⟩
 cases e with
 | normal=>exact fin h1
 | ret=>exact fin h1
 | exit id=>exact h1.elim
 | goto l=>exact h1.elim
 | panic c=>exact h1.elim
 | outgrown=>exact h1.elim
def aWB:=PLift.up (qI @aQZ (qI @aPX (qI @aRm (qI @aRG @aNQ))))
theorem LP:type_of% aWB.down:=aWB.down
theorem aLc {α:Type} {f:α→List D} {sz b:Nat} {xs z w1 w2:List α} {k:Int} (hf : ∀x,(f x).length=sz) (hb:0<b) (h1:aEx xs k=some w1) (h2:aKq xs (IntKind.i64.wrap (k+1))=some w2) (h:app b (List.take k.toNat xs) (List.drop (IntKind.i64.wrap (k+1)).toNat xs)=some z) :
  List.take k.toNat (aJb sz (IntKind.i64.wrap (k+1)).toNat (xs.length-(IntKind.i64.wrap (k+1)).toNat) (xs.map f))=List.take k.toNat (xs.map f)∧(∀y∈List.drop (IntKind.i64.wrap (k+1)).toNat (xs.map f),y.length=sz) ∧
   (k.toNat+(xs.length-(IntKind.i64.wrap (k+1)).toNat))*b≤140737488355328:=by
 obtain ⟨a1,a2⟩:0≤k∧k.toNat≤xs.length:=by
  unfold aEx at h1
  split at h1
  ·assumption
  ·cases h1
 obtain ⟨b1,b2⟩:0≤IntKind.i64.wrap (k+1)∧(IntKind.i64.wrap (k+1)).toNat≤xs.length:=by
  unfold aKq at h2
  split at h2
  ·assumption
  ·cases h2
 have h3:=aCL h
 have hl:(List.take k.toNat xs).length=k.toNat:=by rw [qT];omega
 rw [hl,qU] at h3
 have h4:k.toNat≤140737488355328:=Nat.le_trans (Nat.le_trans (Nat.le_mul_of_pos_right _ hb) (Nat.mul_le_mul_right b (Nat.le_add_right _ _))) h3
 have e:IntKind.i64.wrap (k+1)=k+1:=fB (by omega) (by omega)
 rw [e] at b1 b2 h3 ⊢
 refine ⟨?_,fun y hy => ?_,?_⟩
 ·unfold aJb
  rw [List.take_append_of_le_length (by simp only [qT,List.length_map];omega),List.take_take,Nat.min_eq_left (by omega)]
 ·obtain ⟨x,_,rfl⟩:=List.mem_map.1 (List.mem_of_mem_drop hy)
  exact hf x
 ·exact h3
end Go.Sh
namespace Go.Sh
open Go.RowKit
end Go.Sh
namespace Go.Sh
open Go.RowKit
def aSO (t:TypeId) (B:Nat) (v0:Value) (d0:D) (ds:List D) (rest:List (Bool×List D)):St:=
 { t:=fun i=>match i with | 0=>.v false [.bp 7059000 1 0] | i+1=>(match rest[i]? with | some (ag,ds)=>.v ag (ds.map .dat) | none=>.undef),h:=fun i=>if i=7059000 then (1,.box t (.old B d0 (some v0)::ds.map .dat)) else (0,.none) }
theorem aRB (t:TypeId) (B:Nat) (v0:Value) (d0:D) (ds:List D) (rest:List (Bool×List D)) (i:Nat):(aSO t B v0 d0 ds rest).t i=match i with | 0=>.v false [.bp 7059000 1 0] | i+1=>(match rest[i]? with | some (ag,ds)=>.v ag (ds.map .dat) | none=>.undef):=rfl
theorem aRl (t:TypeId) (B:Nat) (v0:Value) (d0:D) (ds:List D) (rest:List (Bool×List D)) (i:Nat):(aSO t B v0 d0 ds rest).h i=if i=7059000 then (1,.box t (.old B d0 (some v0)::ds.map .dat)) else (0,.none):=rfl
end Go.Sh
namespace Go.Sh
open Go.RowKit
def SC.clean (base:Nat):SC→Prop
 | .dat d=>d.flat=true
 | .old B _ _=>B≤base
 | .exa _ _ _=>False
 | _=>True
def SV.clean (base:Nat):SV→Prop
 | .v _ cs=>∀c∈cs,SC.clean base c
 | .tup xs=>∀x∈xs,∀c∈x.2,SC.clean base c
 | _=>True
def aC5.clean (base:Nat):aC5→Prop
 | .none=>True
 | .box _ cs=>∀c∈cs,SC.clean base c
 | .row _ _ _ dp=>dp=true
 | .pin _ _ _=>False
section
variable {P:Program} {base N:Nat} {w0:W0} {w:World} {g:Gh} {s:St} {a:Act}
theorem aOW {Q:Exit→Act→World→Prop} {ops:Array Oper} {K:St→Prop} (m:Nat) : ∀(l:List Oper) (i:Nat) {s:St} {a:Act} {w:World},(ops.toList.drop i).take l.length=l→Rel P base w0 N s a w→aDA P (dQ P) N ops l s K →
  (∀s' a' w',K s'→Rel P base w0 N s' a' w'→wpOps P ops Q (List.range' (i+l.length) m) a' w')→wpOps P ops Q (List.range' i (l.length+m)) a w
 | [],i,s,a,w,hl,R,h,hq=>by simpa using hq s a w h R
 | o::l,i,s,a,w,hl,R,h,hq=>by
  rw [show (o::l).length+m=(l.length+m)+1 from by simp;omega,List.range'_succ,wpOps_cons]
  have hi:ops[i]? = some o:=by
   have:((ops.toList.drop i).take (o::l).length)[0]? = some o:=by rw [hl];rfl
   rw [List.getElem?_take] at this
   simp at this
   exact this
  have hl':(ops.toList.drop (i+1)).take l.length=l:=by
   have h1:(ops.toList.drop i)=o::ops.toList.drop (i+1):=by
    have hlt:i<ops.toList.length:=by simpa using (Array.getElem?_eq_some_iff.1 hi).1
    rw [qV hlt]
    have:ops.toList[i]? = some o:=by simpa using hi
    rw [qF hlt] at this
    simp at this
    simp [this]
   rw [h1] at hl
   simpa using hl
  refine wpOp_mono ?_ (aMF hi R h)
  rintro a' w' ⟨s',k1,k2⟩
  refine aOW m l (i+1) hl' k2 k1 fun s2 a2 w2 h2 R2 => ?_
  have:=hq s2 a2 w2 h2 R2
  rwa [show i+(o::l).length=i+1+l.length from by simp;omega] at this
def aX4 (s:St) (d:Nat) (sv:SV):St:=
 { t:=fun i=>if i=d then sv else if i<10000 then s.fr i else .unk,h:=s.h,fr:=fun i=>s.fr (i+10000) }
def aSC:List (Bool×List SC)→SV
 | [(ag,cs)]=>.v ag cs
 | l=>.tup l
def aXj (P:Program) (T:aGn) (vars:List ResultVar) (N:Nat) (ops:Array Oper) (n d:Nat) (K:St→Prop) (s:St):Prop:=
 ∃l,aEm T s vars=some l∧aDA P T N ops (ops.toList.drop (n+1)) (aX4 s d (aSC l)) K
set_option maxRecDepth 20000 in
end
end Go.Sh
namespace Go.Sh
open Go.RowKit
def aSK (h:sB) (kh:List Nat) (i ver:Nat) (e:TypeId) (sz:Nat) (xs:List (List D)) (j:Nat) (x:List D) (off K:Nat) (e':TypeId) (sz':Nat) (ys:List (List D)) (u:Value):sB:=fun l =>
 if l=i then (ver,.row e sz (xs.set j (x.set off (.val u))) true) else if l=K then ((h K).1+1,.row e' sz' ys true) else if l=7058000 then ((h 7058000).1+1,.pin K ((h K).1+1) u) else if l∈kh then h l else ((h l).1,.none)
def aMk (s:St) (kt kh:List Nat) (i ver:Nat) (e:TypeId) (sz:Nat) (xs:List (List D)) (j:Nat) (x:List D) (off K:Nat) (e':TypeId) (sz':Nat) (ys:List (List D)) (u:Value):St:=
 { t:=fun t=>if t∈kt then s.t t else .unk,h:=aSK s.h kh i ver e sz xs j x off K e' sz' ys u }
theorem aNF (s:St) (kt kh:List Nat) (i ver:Nat) (e:TypeId) (sz:Nat) (xs:List (List D)) (j:Nat) (x:List D) (off K:Nat) (e':TypeId) (sz':Nat) (ys:List (List D)) (u:Value) (t:Nat):(aMk s kt kh i ver e sz xs j x off K e' sz' ys u).t t=if t∈kt then s.t t else .unk:=rfl
theorem aQG (s:St) (kt kh:List Nat) (i ver:Nat) (e:TypeId) (sz:Nat) (xs:List (List D)) (j:Nat) (x:List D) (off K:Nat) (e':TypeId) (sz':Nat) (ys:List (List D)) (u:Value) (l:Nat):(aMk s kt kh i ver e sz xs j x off K e' sz' ys u).h l =
  if l=i then (ver,.row e sz (xs.set j (x.set off (.val u))) true) else if l=K then ((s.h K).1+1,.row e' sz' ys true) else if l=7058000 then ((s.h 7058000).1+1,.pin K ((s.h K).1+1) u) else if l∈kh then s.h l else ((s.h l).1,.none):=rfl
section
variable {P:Program} {base N:Nat} {w0:W0} {w:World} {g:Gh} {s:St} {a:Act}
theorem bK.at_ {L:TL} {ds:List D} {ts:Lb} {vs:List Value} {F:List Nat} (h:bK L w ds ts vs F) {off:Nat} {d:D} (hd:ds[off]? = some d) :
  ∃v1 v v3 F1 F2 F3,vs=v1++v::v3∧v1.length=off∧F=F1++(F2++F3)∧aCm L w d (Sh.lab (ts.drop off)) v F2 ∧ ∀(d':D) (v':Value) (F':List Nat),aCm L w d' (Sh.lab (ts.drop off)) v' F'→bK L w (ds.set off d') ts (v1++v'::v3) (F1++(F'++F3)):=by
 induction ds generalizing ts vs F off with
 | nil=>simp at hd
 | cons d0 ds ih =>
  simp only [bK] at h
  obtain ⟨v,vs',F1,F2,rfl,rfl,h3,h4⟩:=h
  cases off with
  | zero =>
   simp at hd
   subst hd
   refine ⟨[],v,vs',[],F1,F2,rfl,rfl,rfl,by simpa using h3,fun d' v' F' h' => ?_⟩
   simp only [List.set_cons_zero,bK,List.nil_append]
   exact ⟨v',vs',F',F2,rfl,rfl,by simpa using h',h4⟩
  | succ off =>
   obtain ⟨v1,v2,v3,G1,G2,G3,rfl,hl,rfl,k1,k2⟩:=ih h4 (by simpa using hd)
   rw [List.drop_tail] at k1 k2
   refine ⟨v::v1,v2,v3,F1++G1,G2,G3,rfl,by simp [hl],by simp,k1,fun d' v' F' h' => ?_⟩
   simp only [List.set_cons_succ,bK]
   exact ⟨v,v1++v'::v3,F1,G1++(F'++G3),by simp,by simp,h3,k2 d' v' F' h'⟩
theorem aNz {g':Gh} {h h':sB} {B:Option Nat} (hB : ∀b,B=some b→base≤b) (hlt : ∀b,g.S b→some b≠B→g'.S b) (hval : ∀i,(h' i).1=(h i).1→(h' i).2 ≠ .none→g'.val i=g.val i) (hver : ∀i,(h i).1≤(h' i).1)
  (hrow : ∀i e sz xs dp,(h' i).1=(h i).1→(h' i).2 = .row e sz xs dp → ∃xs0 dp0,(h i).2 = .row e sz xs0 dp0) (hbox : ∀i t cs,(h' i).1=(h i).1→(h' i).2 = .box t cs → ∃cs0,(h i).2 = .box t cs0)
  {c:SC} {v:Value} (hc:wV g h w c v) (hcl:SC.clean base c):wV g' h' w c v:=by
 have cap : ∀ {c:Nat×Nat×Nat} {v:Value},aE0 g h c v→aE0 g' h' c v:=by
  rintro c v ⟨h1,h2⟩
  refine ⟨Nat.le_trans h1 (hver _),fun hv t cs hx => ?_⟩
  have e1:(h' c.1).1=(h c.1).1:=by have:=hver c.1;omega
  obtain ⟨cs0,hx0⟩:=hbox _ _ _ e1 hx
  rw [hval _ e1 (by rw [hx];simp)]
  exact h2 (by omega) t cs0 hx0
 have caps : ∀ {cs:List (Nat×Nat×Nat)} {vs:List Value},zF g h cs vs→zF g' h' cs vs:=by
  intro cs
  induction cs with
  | nil=>intro vs h;exact h
  | cons c cs ih=>rintro vs ⟨v,vs',rfl,h1,h2⟩;exact ⟨v,vs',rfl,cap h1,ih h2⟩
 have row : ∀ {i ver:Nat},ver≤(h i).1→(h' i).1=ver → ∀ {e sz xs dp},(h' i).2 = .row e sz xs dp→(h i).1=ver∧g'.val i=g.val i ∧ ∃xs0 dp0,(h i).2 = .row e sz xs0 dp0:=by
  intro i ver h1 hv e sz xs dp hr
  have e1:(h' i).1=(h i).1:=by have:=hver i;omega
  exact ⟨by omega,hval _ e1 (by rw [hr];simp),hrow _ _ _ _ _ e1 hr⟩
 cases c with
 | dat d =>
  obtain ⟨F',h1,h2⟩:=hc
  have:=aDZ h1 hcl
  subst this
  exact ⟨[],h1,by simp⟩
 | nil=>exact hc
 | row i ver =>
  obtain ⟨h0,h1,h2⟩:=hc
  refine ⟨h0,Nat.le_trans h1 (hver _),fun hv e sz xs dp hr => ?_⟩
  obtain ⟨e1,e2,xs0,dp0,hr0⟩:=row h1 hv hr
  rw [e2];exact h2 e1 _ _ _ _ hr0
 | bp i ver off=>exact ⟨hc.1,cap hc.2⟩
 | rp i ver j off =>
  obtain ⟨h0,h1,h2⟩:=hc
  refine ⟨h0,Nat.le_trans h1 (hver _),fun hv e sz xs dp hr => ?_⟩
  obtain ⟨e1,e2,xs0,dp0,hr0⟩:=row h1 hv hr
  rw [e2];exact h2 e1 _ _ _ _ hr0
 | clo f cs=>obtain ⟨vs,h1,h2⟩:=hc;exact ⟨vs,h1,caps h2⟩
 | old B0 d u =>
  obtain ⟨F',h1,h2,h3⟩:=hc
  have hB0:B0≤base:=hcl
  exact ⟨F',h1,fun b hm=>⟨hlt b (h2 b hm).1 fun e=>by have:=hB b e.symm;have:=(h2 b hm).2;omega,(h2 b hm).2⟩,h3⟩
 | part i ver lo n =>
  obtain ⟨h0,h1,h2⟩:=hc
  refine ⟨h0,Nat.le_trans h1 (hver _),fun hv e sz xs dp hr => ?_⟩
  obtain ⟨e1,e2,xs0,dp0,hr0⟩:=row h1 hv hr
  rw [e2];exact h2 e1 _ _ _ _ hr0
 | exa W d x=>exact hcl.elim
theorem aQY {kt kh:List Nat} {i ver:Nat} {e:TypeId} {sz:Nat} {xs:List (List D)} {j:Nat} {x:List D} {off K:Nat} {e':TypeId} {sz':Nat} {ys:List (List D)} (R:jP P base w0 N g s a w [])
  (hi:s.h i=(ver,.row e sz xs true)) (hj:xs[j]? = some x) (ho:x[off]? = some (.sl ys)) (hl:lab ((slP P e).drop off)=some (e',sz')) (hL:w0.Q.L=slP P) (hlent:w0.Q.lent=none∨(7059000∈kh∧i≠7059000∧K≠7059000)) (hK0 : ∀b,w0.K b→b<base)
  (hiK:i≠K) (hi0:i≠7058000) (hK1:K≠7058000) (hkt : ∀t∈kt,SV.clean base (s.t t)) (hkh : ∀l∈kh,aC5.clean base (s.h l).2) :
  ∃u,Rel P base w0 N (aMk s kt kh i ver e sz xs j x off K e' sz' ys u) a w:=by
 have hi2:(s.h i).2 = .row e sz xs true:=by rw [hi]
 have hob:=R.inv.obj i
 rw [hi2] at hob
 obtain ⟨cells,p1,p2,p3,p4,p5⟩:=hob
 have hof:=p5 rfl
 have hlive:live s.h i:=by unfold live;rw [hi2];simp
 have hdeep:fV s.h i:=⟨e,sz,xs,hi2⟩
 obtain ⟨v1,v2,v3,F1,F2,F3,rfl,hF,hl1,hr1,hr2,hr3⟩:=p3.at_ p2 hj
 have hgL:g.Q.L=slP P:=R.lab.1.trans hL
 obtain ⟨c1,u,c3,Fa,Fb,Fc,rfl,hc1,rfl,hu,oR⟩:=bK.at_ (show bK g.Q.L w x (g.Q.L e) v2 F2 from hr2) ho
 rw [hgL,hl] at hu
 simp only [aCm] at hu
 obtain ⟨cells',G,q1,q2,rfl,q3⟩:=hu
 have hone:u.oneCell'=true:=by rcases q1.2 with ⟨rfl,_⟩ | ⟨_,_,_,rfl,_⟩<;>rfl
 have hset':=oR (.val u) u [] (by unfold aCm;exact ⟨⟨rfl,hone⟩,rfl⟩)
 have hnd:=hof.1
 rw [hF] at hnd
 have hBin : ∀b,u.ownBlock=some b→b∈g.fp i:=fun b hb=>by rw [hF,hb];simp
 have hGin : ∀b∈G,b∈g.fp i:=fun b hb=>by rw [hF];simp [hb]
 have hBbase : ∀b,u.ownBlock=some b→base≤b:=fun b hb=>(hof.2 b (hBin b hb)).1
 let FI:=F1++((Fa++([]++Fc))++F3)
 have hFI : ∀b∈FI,b∈g.fp i:=fun b hb=>by
  rw [hF]
  simp only [FI,qP,qO,false_or] at hb ⊢
  rcases hb with hb | ((hb | hb) | hb)
  ·exact .inl hb
  ·exact .inr (.inl (.inl hb))
  ·exact .inr (.inl (.inr (.inr hb)))
  ·exact .inr (.inr hb)
 have hsub:List.Sublist FI (F1++((Fa++((u.ownBlock.toList++G)++Fc))++F3)):=
  (List.Sublist.refl _).append (((List.Sublist.refl _).append ((List.nil_sublist _).append (List.Sublist.refl _))).append (List.Sublist.refl _))
 have hBG:(u.ownBlock.toList++G).Nodup:=by
  have:=(List.nodup_append.1 (List.nodup_append.1 (List.nodup_append.1 (List.nodup_append.1 hnd).2.1).1).2.1).1
  exact this
 have hFIB : ∀b∈FI,b∉u.ownBlock.toList++G:=by
  intro b hb hb'
  simp only [List.nodup_append,qP] at hnd
  simp only [FI,qP,qO,false_or] at hb
  simp only [qP] at hb'
  grind
 have hFIB1 : ∀b∈FI,u.ownBlock≠some b:=fun b hb e0=>hFIB b hb (by rw [e0];simp)
 have hGB : ∀b∈G,u.ownBlock≠some b:=fun b hb e0=>by
  rw [e0] at hBG
  simp at hBG
  exact hBG.1 hb
 have hFIG : ∀b∈FI,b∉G:=fun b hb hb'=>hFIB b hb (by simp [hb'])
 have huB:aBQ u=u.ownBlock:=lH q1
 let S':Nat→Prop:=fun b=>g.S b∧u.ownBlock≠some b
 let g':Gh:={ val:=fun l=>if l=K then u else if l=7058000 then undef else g.val l,fp:=fun l=>if l=i then FI else if l=K then G else g.fp l,S:=S',Q:=g.Q }
 let h':=aSK s.h kh i ver e sz xs j x off K e' sz' ys u
 have h'i:h' i=(ver,.row e sz (xs.set j (x.set off (.val u))) true):=if_pos rfl
 have h'K:h' K=((s.h K).1+1,.row e' sz' ys true):=by show (if K=i then _ else _)=_;rw [if_neg (Ne.symm hiK),if_pos rfl]
 have h'0:h' 7058000=((s.h 7058000).1+1,.pin K ((s.h K).1+1) u):=by show (if 7058000=i then _ else _)=_;rw [if_neg (Ne.symm hi0),if_neg (Ne.symm hK1),if_pos rfl]
 have h'n : ∀l,l≠i→l≠K→l≠7058000→h' l=if l∈kh then s.h l else ((s.h l).1,.none):=fun l a1 a2 a3=>by show (if l=i then _ else _)=_;rw [if_neg a1,if_neg a2,if_neg a3]
 have vi:g'.val i=g.val i:=by show (if i=K then _ else _)=_;rw [if_neg hiK,if_neg hi0]
 have vK:g'.val K=u:=if_pos rfl
 have v0:g'.val 7058000=undef:=by show (if 7058000=K then _ else _)=_;rw [if_neg (Ne.symm hK1),if_pos rfl]
 have vn : ∀l,l≠K→l≠7058000→g'.val l=g.val l:=fun l a1 a2=>by show (if l=K then _ else _)=_;rw [if_neg a1,if_neg a2]
 have fi:g'.fp i=FI:=if_pos rfl
 have fK:g'.fp K=G:=by show (if K=i then _ else _)=_;rw [if_neg (Ne.symm hiK),if_pos rfl]
 have fn : ∀l,l≠i→l≠K→g'.fp l=g.fp l:=fun l a1 a2=>by show (if l=i then _ else _)=_;rw [if_neg a1,if_neg a2]
 have hverle : ∀l,(s.h l).1≤(h' l).1:=fun l=>by
  by_cases a1:l=i
  ·subst a1;rw [h'i,hi];exact Nat.le_refl _
  by_cases a2:l=K
  ·subst a2;rw [h'K];exact Nat.le_succ _
  by_cases a3:l=7058000
  ·subst a3;rw [h'0];exact Nat.le_succ _
  rw [h'n l a1 a2 a3]
  split<;>exact Nat.le_refl _
 have hnK : ∀l,(h' l).1=(s.h l).1→l≠K∧l≠7058000:=fun l hv=>by
  refine ⟨fun e0 => ?_,fun e0 => ?_⟩
  ·subst e0;rw [h'K] at hv;simp at hv
  ·subst e0;rw [h'0] at hv;simp at hv
 have hcl : ∀ {c:SC} {v:Value},wV g s.h w c v→SC.clean base c→wV g' h' w c v:=fun h1 h2=>by
  refine aNz (g':=g') (B:=u.ownBlock) hBbase (fun b hb hne=>⟨hb,fun e0=>hne e0.symm⟩) (fun l hv _=>vn l (hnK l hv).1 (hnK l hv).2) hverle (fun l e1 sz1 xs1 dp1 hv hr => ?_) (fun l t cs hv hx => ?_) h1 h2
  ·obtain ⟨a2,a3⟩:=hnK l hv
   by_cases a1:l=i
   ·subst a1;rw [h'i] at hr;cases hr;exact ⟨xs,true,hi2⟩
   ·rw [h'n l a1 a2 a3] at hr
    split at hr
    ·exact ⟨xs1,dp1,hr⟩
    ·cases hr
  ·obtain ⟨a2,a3⟩:=hnK l hv
   by_cases a1:l=i
   ·subst a1;rw [h'i] at hx;cases hx
   ·rw [h'n l a1 a2 a3] at hx
    split at hx
    ·exact ⟨cs,hx⟩
    ·cases hx
 have hcls : ∀ {cs0:List SC} {us:List Value},aQ g s.h w cs0 us→(∀c∈cs0,SC.clean base c)→aQ g' h' w cs0 us:=by
  intro cs0
  induction cs0 with
  | nil=>intro us h _;exact h
  | cons c cs0 ih =>
   rintro us ⟨v,vs',rfl,h1,h2⟩ hc0
   exact ⟨v,vs',rfl,hcl h1 (hc0 c (by simp)),ih h2 fun c' hc'=>hc0 c' (by simp [hc'])⟩
 have hlv : ∀l,live h' l→l≠K→l≠7058000→live s.h l:=fun l hl a2 a3=>by
  by_cases a1:l=i
  ·subst a1;exact hlive
  ·unfold live at hl ⊢
   rw [h'n l a1 a2 a3] at hl
   split at hl
   ·exact hl
   ·exact absurd rfl hl
 have hdp : ∀l,fV h' l→l≠K→fV s.h l:=fun l hd a2=>by
  obtain ⟨e1,sz1,xs1,hh⟩:=hd
  by_cases a1:l=i
  ·subst a1;exact hdeep
  by_cases a3:l=7058000
  ·subst a3;rw [h'0] at hh;cases hh
  rw [h'n l a1 a2 a3] at hh
  split at hh
  ·exact ⟨e1,sz1,xs1,hh⟩
  ·cases hh
 have fsub : ∀l,l≠K → ∀b∈g'.fp l,b∈g.fp l:=fun l a2 b hb=>by
  by_cases a1:l=i
  ·subst a1;rw [fi] at hb;exact hFI b hb
  ·rw [fn l a1 a2] at hb;exact hb
 have hOK:yH base w G:=⟨(List.nodup_append.1 hBG).2.1,fun b hb=>hof.2 b (hGin b hb)⟩
 have hO1:yH base w FI:=⟨hnd.sublist hsub,fun b hb=>hof.2 b (hFI b hb)⟩
 have hlent':aLH w0.Q.lent h' g':=by
  intro b hb
  rcases hlent with hn | ⟨m1,m2,m3⟩
  ·rw [hn] at hb;cases hb
  ·have e1:h' 7059000=s.h 7059000:=by rw [h'n _ (Ne.symm m2) (Ne.symm m3) (by decide),if_pos m1]
   rw [e1,vn _ (Ne.symm m3) (by decide)]
   exact R.q.2.2 b hb
 refine ⟨u,g',R.defers,R.size,R.below,⟨R.q.1,R.q.2.1,hlent'⟩,fun b hb=>⟨⟨(R.lB b hb).1,fun e0 => ?_⟩,(R.lB b hb).2⟩,
  ⟨R.inv.base_le,fun b hb hlt=>R.inv.S_old b hb.1 hlt,fun b hb=>R.inv.S_lt b hb.1,fun l => ?_,fun l b hl hb => ?_,fun l k b hne hl hk hb hb' => ?_,fun l k hne hl hk b hb hb' => ?_,yH.nil _ _,fun _ hx=>absurd hx qO,fun _ _ _ _=>qO,R.inv.fb⟩,fun t => ?_,R.lab,fun _=>trivial⟩
 ·have:=hK0 b hb;have:=hBbase b e0;omega
 ·show aAt base g' h' w l (h' l).2
  by_cases a1:l=i
  ·subst a1
   rw [h'i]
   refine ⟨v1++((c1++u::c3)++v3),?_,?_,?_,?_,fun _=>by rw [fi];exact hO1⟩
   ·rw [vi,qN];exact p1
   ·intro y hy
    rcases List.mem_or_eq_of_mem_set hy with hy | rfl
    ·exact p2 y hy
    ·rw [qN];exact p2 x (List.mem_of_getElem? hj)
   ·rw [fi]
    have hjlt:j<xs.length:=(List.getElem?_eq_some_iff.1 hj).1
    rw [show xs.set j (x.set off (.val u))=xs.take j++([x.set off (.val u)]++xs.drop (j+1)) from by rw [List.set_eq_take_append_cons_drop,if_pos hjlt];rfl]
    exact hr1.append (cN.append (cN.one hset') hr3)
   ·rw [fi];exact fun b hb=>⟨p4 b (hFI b hb),hFIB1 b hb⟩
  by_cases a2:l=K
  ·subst a2
   rw [h'K]
   refine ⟨cells',?_,q2,?_,?_,fun _=>by rw [fK];exact hOK⟩
   ·rw [vK]
    refine ⟨q1.1,?_⟩
    rcases q1.2 with k | ⟨gg,cap,cur,k1,k2,k3⟩
    ·exact .inl k
    ·exact .inr ⟨gg,cap,cur,k1,hBbase gg (by rw [k1];rfl),k3⟩
   ·rw [fK];show iH g.Q.L w ys e' cells' G;rw [hgL];exact q3
   ·rw [fK];exact fun b hb=>⟨p4 b (hGin b hb),hGB b hb⟩
  by_cases a3:l=7058000
  ·subst a3
   rw [h'0]
   exact ⟨v0,by rw [h'K];exact Nat.le_refl _,fun _ _ _ _ _ _=>vK⟩
  rw [h'n l a1 a2 a3]
  by_cases a4:l∈kh
  ·rw [if_pos a4]
   have hc0:=hkh l a4
   have hob:=R.inv.obj l
   cases hh:(s.h l).2 with
   | none=>trivial
   | pin j v u=>rw [hh] at hc0;exact hc0.elim
   | box t cells0 =>
    rw [hh] at hob hc0
    obtain ⟨b,vals,k1,k2,k3,k4⟩:=hob
    exact ⟨b,vals,(vn l a2 a3).trans k1,k2,k3,hcls k4 hc0⟩
   | row e1 sz1 xs1 dp1 =>
    rw [hh] at hob hc0
    have hd1:dp1=true:=hc0
    subst hd1
    obtain ⟨cells1,k1,k2,k3,k4,k5⟩:=hob
    refine ⟨cells1,by rw [vn l a2 a3];exact k1,k2,by rw [fn l a1 a2];exact k3,by rw [fn l a1 a2];exact fun b hb=>⟨k4 b hb,fun e0=>R.inv.dis l i a1 ⟨e1,sz1,xs1,hh⟩ hdeep b hb (hBin b e0)⟩,by rw [fn l a1 a2];exact k5⟩
  ·rw [if_neg a4];trivial
 ·by_cases a2:l=K
  ·subst a2
   rw [vK,huB] at hb
   exact fun hS=>hS.2 hb
  by_cases a3:l=7058000
  ·subst a3;rw [v0] at hb;simp [undef,aBQ] at hb
  rw [vn l a2 a3] at hb
  exact fun hS=>R.inv.mtb l b (hlv l hl a2 a3) hb hS.1
 ·have key : ∀m,m≠K→live h' m→aBQ (g'.val m)=some b→u.ownBlock=some b→False:=fun m a2 hm hmb hu=>by
   by_cases a3:m=7058000
   ·subst a3;rw [v0] at hmb;simp [undef,aBQ] at hmb
   rw [vn m a2 a3] at hmb
   exact R.inv.mtb m b (hlv m hm a2 a3) hmb (p4 b (hBin b hu))
  by_cases a2:l=K
  ·subst a2
   rw [vK,huB] at hb
   exact key k (Ne.symm hne) hk hb' hb
  by_cases b2:k=K
  ·subst b2
   rw [vK,huB] at hb'
   exact key l a2 hl hb hb'
  by_cases a3:l=7058000
  ·subst a3;rw [v0] at hb;simp [undef,aBQ] at hb
  by_cases b3:k=7058000
  ·subst b3;rw [v0] at hb';simp [undef,aBQ] at hb'
  rw [vn l a2 a3] at hb
  rw [vn k b2 b3] at hb'
  exact R.inv.inj l k b hne (hlv l hl a2 a3) (hlv k hk b2 b3) hb hb'
 ·by_cases a2:l=K
  ·subst a2
   rw [fK] at hb
   by_cases b1:k=i
   ·subst b1;rw [fi] at hb';exact hFIG b hb' hb
   ·rw [fn k b1 (Ne.symm hne)] at hb'
    exact R.inv.dis k i b1 (hdp k hk (Ne.symm hne)) hdeep b hb' (hGin b hb)
  by_cases b2:k=K
  ·subst b2
   rw [fK] at hb'
   by_cases b1:l=i
   ·subst b1;rw [fi] at hb;exact hFIG b hb hb'
   ·rw [fn l b1 a2] at hb
    exact R.inv.dis l i b1 (hdp l hl a2) hdeep b hb (hGin b hb')
  exact R.inv.dis l k hne (hdp l hl a2) (hdp k hk b2) b (fsub l a2 b hb) (fsub k b2 b hb')
 ·rw [aNF]
  by_cases ht:t∈kt
  ·rw [if_pos ht]
   have hsv:=R.tmp t
   have hc0:=hkt t ht
   cases hx:s.t t with
   | unk=>trivial
   | undef=>rw [hx] at hsv;exact hsv
   | v ag cs0 =>
    rw [hx] at hsv hc0
    cases ag with
    | false=>exact hcls hsv hc0
    | true=>obtain ⟨us,h1,h2⟩:=hsv;exact ⟨us,h1,hcls h2 hc0⟩
   | tup xs =>
    rw [hx] at hsv hc0
    obtain ⟨us,h1,h2⟩:=hsv
    refine ⟨us,h1,?_⟩
    revert h2 hc0
    generalize us.toList=vl
    intro hc0 h2
    clear hx h1
    induction xs generalizing vl with
    | nil=>exact h2
    | cons x xs ih =>
     obtain ⟨v,vs',rfl,q1,q2⟩:=h2
     refine ⟨v,vs',rfl,?_,ih vs' (fun y hy=>hc0 y (by simp [hy])) q2⟩
     obtain ⟨ag,cs1⟩:=x
     have hcx:=hc0 (ag,cs1) (by simp)
     cases ag with
     | false=>exact hcls q1 hcx
     | true=>obtain ⟨us',r1,r2⟩:=q1;exact ⟨us',r1,hcls r2 hcx⟩
  ·rw [if_neg ht];trivial
theorem aKu {c:Code} {Q:Exit→St→Prop} (kt kh:List Nat) {i ver:Nat} {e:TypeId} {sz:Nat} {xs:List (List D)} {j:Nat} {x:List D} {off K:Nat} {e':TypeId} {sz':Nat} {ys:List (List D)}
  (hi:s.h i=(ver,.row e sz xs true)) (hj:xs[j]? = some x) (ho:x[off]? = some (.sl ys)) (hl:lab ((slP P e).drop off)=some (e',sz')) (hL:w0.Q.L=slP P) (hlent:w0.Q.lent=none∨(7059000∈kh∧i≠7059000∧K≠7059000)) (hK0 : ∀b,w0.K b→b<base)
  (hiK:i≠K) (hi0:i≠7058000) (hK1:K≠7058000) (hkt : ∀t∈kt,SV.clean base (s.t t)) (hkh : ∀l∈kh,aC5.clean base (s.h l).2)
  (h : ∀u,SW P base w0 N c (aMk s kt kh i ver e sz xs j x off K e' sz' ys u) Q):SW P base w0 N c s Q:=fun a w ⟨g,R⟩=>by
 obtain ⟨u,R'⟩:=aQY R hi hj ho hl hL hlent hK0 hiK hi0 hK1 hkt hkh
 exact h u a w R'
theorem Gho.close {i ver:Nat} {e:TypeId} {sz:Nat} {xs:List (List D)} {j:Nat} {x:List D} {off K vK pv:Nat} {e':TypeId} {sz':Nat} {ys:List (List D)} {u:Value}
  (hi:s.h i=(ver,.row e sz xs true)) (hj:xs[j]? = some x) (ho:x[off]? = some (.val u)) (hp:s.h 7058000=(pv,.pin K vK u)) (hk:s.h K=(vK,.row e' sz' ys true)) (hl:lab ((slP P e).drop off)=some (e',sz')) (hL:w0.Q.L=slP P) (hiK:i≠K) :
  Gho P base w0 N s ((s.gM K (vK,.none)).gM i (ver,.row e sz (xs.set j (x.set off (.sl ys))) true)):=by
 rintro a w ⟨g,R⟩
 have hgL:g.Q.L=slP P:=R.lab.1.trans hL
 have hk2:(s.h K).2 = .row e' sz' ys true:=by rw [hk]
 have hob0:=R.inv.obj 7058000
 rw [show (s.h 7058000).2 = .pin K vK u from by rw [hp]] at hob0
 have hval:g.val K=u:=hob0.2.2 (by rw [hk]) _ _ _ _ hk2
 obtain ⟨S',F,t1,t1b,t2,tS,tF,t3,t4,t5⟩:=R.inv.take hk2
 have T1:iR g { g with S:=S' } s.h (oR s.h K ((s.h K).1,.none)) w w:=iR.drop K S' t1
 rw [show (s.h K).1=vK from by rw [hk]] at T1 t5
 have R1:jP P base w0 N { g with S:=S' } (s.gM K (vK,.none)) a w ([]++F):=R.turn T1 rfl R.below t5
 have hi':(s.gM K (vK,.none)).h i=(ver,.row e sz xs true):=by rw [St.aI3,if_neg hiK];exact hi
 have hi2:((s.gM K (vK,.none)).h i).2 = .row e sz xs true:=by rw [hi']
 have hob:=R1.inv.obj i
 rw [hi2] at hob
 obtain ⟨cells,p1,p2,p3,p4,p5⟩:=hob
 have hof:=p5 rfl
 have hjlt:j<xs.length:=(List.getElem?_eq_some_iff.1 hj).1
 rcases p1.2 with ⟨_,h0⟩ | ⟨gg,cap,cur,c1,c2,c3,c4⟩
 ·omega
 have hlive:live (s.gM K (vK,.none)).h i:=by unfold live;rw [hi2];simp
 have hown:aBQ (({ g with S:=S' }:Gh).val i)=some gg:=by rw [c1];rfl
 have hdi:fV (s.gM K (vK,.none)).h i:=⟨e,sz,xs,hi2⟩
 obtain ⟨v1,v2,v3,F1,F2,F3,rfl,hF,hl1,hr1,hr2,hr3⟩:=p3.at_ p2 hj
 obtain ⟨d1,v,d3,Fa,Fb,Fc,rfl,hd1,rfl,hu,hsetc⟩:=bK.at_ (show bK g.Q.L w x (g.Q.L e) v2 F2 from hr2) ho
 have hu':(v=u∧v.oneCell'=true)∧Fb=[]:=by unfold aCm at hu;exact hu
 obtain ⟨⟨rfl,_⟩,rfl⟩:=hu'
 have hset':=hsetc (.sl ys) v F (by rw [hgL,hl,←hval,←hgL];exact tS rfl)
 have hpd:=R1.inv.pool_dis i hdi
 have hpo:=R1.inv.pool_own
 rw [List.nil_append] at hpd hpo
 have hnd:=hof.1
 rw [hF] at hnd
 have hnd2:(F1++((Fa++(F++Fc))++F3)).Nodup:=aK9 hnd hpo.1 fun y hy hy'=>hpd y (by rw [hF];exact hy') hy
 have hin : ∀y∈F1++((Fa++(F++Fc))++F3),y∈F∨y∈({ g with S:=S' }:Gh).fp i:=fun y hy=>by
  rw [hF]
  simp only [qP,qO,false_or] at hy ⊢
  rcases hy with hy | ((hy | hy | hy) | hy)<;>simp [hy]
 have hnS:=R1.inv.mtb i gg hlive hown
 have T2:iR { g with S:=S' } { ({ g with S:=S' }:Gh) with fp:=aEl g.fp i (F1++((Fa++(F++Fc))++F3)) } (s.gM K (vK,.none)).h (oR (s.gM K (vK,.none)).h i (((s.gM K (vK,.none)).h i).1,.row e sz (xs.set j (x.set off (.sl ys))) true)) w w:=
  iR.aDl hnS (fun _ _=>rfl) (by intro e0 sz0 xs0 dp0 hh';cases hh';exact ⟨_,_,hi2⟩) (by intro t0 cs0 hh';cases hh')
 have hrow:cN g.Q.L true w e (xs.set j (x.set off (.sl ys))) (v1++((d1++v::d3)++v3)) (F1++((Fa++(F++Fc))++F3)):=by
  rw [show xs.set j (x.set off (.sl ys))=xs.take j++([x.set off (.sl ys)]++xs.drop (j+1)) from by rw [List.set_eq_take_append_cons_drop,if_pos hjlt];rfl]
  exact hr1.append (cN.append (cN.one hset') hr3)
 have I':=R1.inv.aDl (i:=i) (b:=gg) (F:=F1++((Fa++(F++Fc))++F3)) (pool':=[]) (w':=w) hlive hown rfl (fun _ _=>rfl) T2
  ⟨_,by rw [qN];exact p1,(fun y hy=>by
   rcases List.mem_or_eq_of_mem_set hy with hy | rfl
   ·exact p2 y hy
   ·rw [qN];exact p2 x (List.mem_of_getElem? hj)),(by
   show cN _ _ _ _ _ _ (aEl g.fp i _ i)
   rw [dW]
   exact hrow),(by
   show ∀y∈aEl g.fp i _ i,S' y
   rw [dW]
   intro y hy
   rcases hin y hy with h | h
   ·exact t3 y h
   ·exact p4 y h),(by
   intro _
   show yH base w (aEl g.fp i _ i)
   rw [dW]
   refine ⟨hnd2,fun y hy => ?_⟩
   rcases hin y hy with h | h
   ·exact hpo.2 y h
   ·exact hof.2 y h)⟩ (by simp) List.nodup_nil (by
   rintro _ y hy
   refine ⟨?_,qO⟩
   rcases hin y hy with h | h
   ·exact .inl (by simpa using h)
   ·exact .inr ⟨hdi,h⟩)
 rw [show ((s.gM K (vK,.none)).h i).1=ver from by rw [hi']] at T2 I'
 exact ⟨_,R1.turn T2 rfl R1.below I'⟩
end
end Go.Sh
namespace Go.Sh
open Go.RowKit
def aQa (B:Nat) (d:D):SC:=if d.flat=true then .dat d else .old B d none
def aMC (B:Nat) (args:List (Bool×List D)):St:=
 { t:=fun i=>match args[i]? with | some (ag,ds)=>.v ag (ds.map (aQa B)) | none=>.undef,h:=fun _=>(0,.none) }
theorem aPc (B:Nat) (args:List (Bool×List D)) (i:Nat):(aMC B args).t i=match args[i]? with | some (ag,ds)=>.v ag (ds.map (aQa B)) | none=>.undef:=rfl
theorem aOw (B:Nat) (args:List (Bool×List D)) (i:Nat):(aMC B args).h i=(0,.none):=rfl
theorem aMx (B:Nat) (k:IntKind) (n:Int):aQa B (.int k n) = .dat (.int k n):=rfl
theorem aLZ (B:Nat) (b:Bool):aQa B (.bool b) = .dat (.bool b):=rfl
theorem aNO (B:Nat) (b:ByteArray):aQa B (.str b) = .dat (.str b):=rfl
theorem aOt (B:Nat) (xs:List (List D)):aQa B (.sl xs) = .old B (.sl xs) none:=rfl
theorem aQ.aN9 {g:Gh} {h:sB} {w:World} {B:Nat} : ∀ {ds:List D} {vs:List Value} {F:List Nat},aG w ds vs F→(∀b∈F,g.S b∧b<B)→aQ g h w (ds.map (aQa B)) vs
 | [],vs,F,hr,_=>by simp only [aG] at hr;exact hr.1
 | d::ds,vs,F,hr,hF=>by
  simp only [aG] at hr
  obtain ⟨v,vs',F1,F2,rfl,rfl,h3,h4⟩:=hr
  refine ⟨v,vs',rfl,?_,aQ.aN9 h4 fun b hb=>hF b (by simp [hb])⟩
  unfold aQa
  split
  ·exact ⟨F1,h3,fun b hb=>(hF b (by simp [hb])).1⟩
  ·exact ⟨F1,h3,fun b hb=>hF b (by simp [hb]),fun _ e=>by cases e⟩
def aNZ (rs:List (Bool×List RC)):Bool:=rs.all fun r=>r.2.all fun c=>match c with | .own _ _ _=>false | _=>true
theorem aFB {L L':TL} {base:Nat} {w:World} {X:Nat→Prop} : ∀ {vs:List Value} {rs:List RC} {F:List Nat},(rs.all fun c=>match c with | .own _ _ _=>false | _=>true)=true→lW L base w X vs rs F→lW L' base w X vs rs F
 | [],[],F,_,h=>h
 | v::vs,.any d::rs,F,hn,h=>by
  simp only [List.all_cons,Bool.true_and] at hn
  exact ⟨h.1,aFB hn h.2⟩
 | v::vs,.ro d::rs,F,hn,h=>by
  simp only [List.all_cons,Bool.true_and] at hn
  exact ⟨h.1,aFB hn h.2⟩
 | v::vs,.own e sz xs::rs,F,hn,h=>by simp at hn
 | v::vs,.edit q::rs,F,_,h=>h.elim
 | [],_::_,F,_,h=>h.elim
 | _::_,[],F,_,h=>h.elim
theorem aM1 {L L':TL} {base:Nat} {w:World} {X:Nat→Prop} {v:Value} {r:Bool×List RC} {F:List Nat} (hn:(r.2.all fun c=>match c with | .own _ _ _=>false | _=>true)=true) (h:aJD L base w X v r F):aJD L' base w X v r F:=by
 obtain ⟨ag,rs⟩:=r
 cases ag with
 | true=>obtain ⟨cs,rfl,h⟩:=h;exact ⟨cs,rfl,aFB hn h⟩
 | false=>exact aFB hn h
theorem aI9 {L L':TL} {base:Nat} {w:World} {X:Nat→Prop} : ∀ {vs:List Value} {rs:List (Bool×List RC)} {F:List Nat},aNZ rs=true→aCu L base w X vs rs F→aCu L' base w X vs rs F
 | [],[],F,_,h=>h
 | v::vs,r::rs,F,hn,⟨F1,F2,h0,h1,h2⟩=>by
  simp only [aNZ,List.all_cons,qM] at hn
  exact ⟨F1,F2,h0,aM1 hn.1 h1,aI9 hn.2 h2⟩
 | [],_::_,F,_,h=>h.elim
 | _::_,[],F,_,h=>h.elim
theorem aPw {L L':TL} {base:Nat} {w:World} {v:Value} {rs:List (Bool×List RC)} {Q:Nat→Prop} (hn:aNZ rs=true) (h:aIn L base w v rs Q):aIn L' base w v rs Q:=by
 obtain ⟨F,X,h1,h2,h3,h4⟩:=h
 refine ⟨F,X,h1,h2,h3,?_⟩
 match rs,hn,h4 with
 | [r],hn,h4 =>
  simp only [aNZ,List.all_cons,List.all_nil,Bool.and_true] at hn
  exact aM1 hn h4
 | [],hn,h4=>obtain ⟨vs,e,h⟩:=h4;exact ⟨vs,e,aI9 hn h⟩
 | a::b::rs,hn,h4=>obtain ⟨vs,e,h⟩:=h4;exact ⟨vs,e,aI9 hn h⟩
theorem aPD {P : Program} (L : TL) {f : FuncId} {fn : Func} {c : Code} {args : List (Bool × List D)} {rs : List (Bool × List RC)} {N : Nat} {vars : List ResultVar} (hf : P.funcs[f]? = some fn) (hb : fn.body = some c) (hN : fn.ntmps = N) (hv : fn.results.toList = vars) (hnm : (fn.name == "runtime.NumGoroutine") = false) (hn : args.length ≤ N) (hL : L = slP P ∨ (L = aGO ∧ aNZ rs = true))
  (h : ∀(base:Nat) (wd:World×(Nat→Prop)),SW P base ⟨wd.1,⟨wd.2,base,none,L⟩,noK,aMw⟩ N c (aMC base args) (aft P base ⟨wd.1,⟨wd.2,base,none,L⟩,noK,aMw⟩ N (Ret (dQ P) vars rs) [])):lD P f args rs:=by
 subst hN hv
 refine .inl ⟨⟨fn,c,hf,hb,hnm⟩,fun w vs Fa ha => ?_⟩
 obtain ⟨hlen,hat⟩:=args_at ha
 have hlen':vs.size=args.length:=by simpa using hlen
 refine calls_of_wp hf hb ?_
 have hFlt:=aJE ha
 let g:Gh:={ val:=fun _=>undef,fp:=fun _=>[],S:=fun b=>b∈Fa,Q:=⟨fun b=>b∈Fa,w.heap.size,none,L⟩ }
 have R:Rel P w.heap.size ⟨w,⟨fun b=>b∈Fa,w.heap.size,none,L⟩,noK,aMw⟩ fn.ntmps (aMC w.heap.size args) { tmps:=vs++Array.replicate (fn.ntmps-vs.size) undef,defers:=[] } w:=by
  refine ⟨g,rfl,by simp;omega,Below.refl _ _,⟨fun _ x=>x,rfl,fun _ hx=>(by cases hx)⟩,fun _ x=>x.elim,⟨Nat.le_refl _,fun _ x _=>x,hFlt,fun i=>trivial,fun i b hl=>absurd rfl hl,fun i j b _ hl=>absurd rfl hl,?_,yH.nil _ _,by simp,fun i hd=>(by obtain ⟨_,_,_,hd⟩:=hd;cases hd),Nat.le_refl _⟩,fun t => ?_,⟨rfl,hL.imp id And.left⟩,fun _=>trivial⟩
  ·rintro i j _ ⟨_,_,_,hd⟩;cases hd
  ·show lF g _ w (match args[t]? with | some (ag,ds)=>.v ag (ds.map (aQa w.heap.size)) | none=>.undef) _
   cases ht:args[t]? with
   | none =>
    have hge:args.length≤t:=List.getElem?_eq_none_iff.1 ht
    show _=undef
    simp only [Array.getD_eq_getD_getElem?,Array.getElem?_append]
    rw [if_neg (by omega)]
    by_cases h2:t-vs.size<fn.ntmps-vs.size
    ·simp [h2]
    ·rw [Array.getElem?_eq_none (by simp;omega)];rfl
   | some x =>
    obtain ⟨v,Fi,h1,h2,hFi⟩:=hat t x ht
    have hlt:t<vs.size:=by have:=(List.getElem?_eq_some_iff.1 ht).1;omega
    have hv:(vs++Array.replicate (fn.ntmps-vs.size) undef).getD t undef=v:=by
     simp only [Array.getD_eq_getD_getElem?,Array.getElem?_append]
     rw [if_pos hlt]
     have:vs[t]? = some v:=by simpa using h1
     rw [this];rfl
    rw [hv]
    obtain ⟨ag,ds⟩:=x
    cases ag with
    | false =>
     obtain ⟨d,rfl,hr⟩:=h2
     have hcs:aG w [d] [v] Fi:=by simp only [aG];exact ⟨v,[],Fi,[],rfl,by simp,hr,by simp⟩
     exact aQ.aN9 hcs fun b hb=>⟨hFi b hb,hFlt b (hFi b hb)⟩
    | true =>
     obtain ⟨cs,rfl,hr⟩:=h2
     exact ⟨cs,rfl,aQ.aN9 hr fun b hb=>⟨hFi b hb,hFlt b (hFi b hb)⟩⟩
 refine wp_mono (h w.heap.size (w,fun b=>b∈Fa) _ w R) ?_
 rintro e a' w' ⟨s',h1,R'⟩
 have fin:Ret (dQ P) fn.results.toList rs s'→a'.defers=[] ∧ ∃v,(results fn a'.tmps).run P w' = .ok v w' ∧ ∃v',Ending.returned v = .returned v'∧aIn (slP P) w.heap.size w' v' rs (fun b=>b∈Fa)∧Below w.heap.size w w':=by
  intro hr
  obtain ⟨v,k1,k2⟩:=aPS R' hr
  obtain ⟨g',R''⟩:=R'
  refine ⟨R''.defers,v,k1,v,rfl,?_,R''.below⟩
  rcases hL with rfl | ⟨_,hno⟩
  ·exact k2
  ·exact aPw hno k2
 cases e with
 | normal=>exact fin h1
 | ret=>exact fin h1
 | exit id=>exact h1.elim
 | goto l=>exact h1.elim
 | panic c=>exact h1.elim
 | outgrown=>exact h1.elim
theorem aRb {P : Program} {f : FuncId} {fn : Func} {c : Code} {args : List (Bool × List D)} {rs : List (Bool × List RC)} {N : Nat} {vars : List ResultVar} (hf : P.funcs[f]? = some fn) (hb : fn.body = some c) (hN : fn.ntmps = N) (hv : fn.results.toList = vars) (hnm : (fn.name == "runtime.NumGoroutine") = false) (hn : args.length ≤ N)
  (h : ∀(base:Nat) (wd:World×(Nat→Prop)),SW P base ⟨wd.1,⟨wd.2,base,none,aGO⟩,noK,aMw⟩ N c (aMC base args) (aft P base ⟨wd.1,⟨wd.2,base,none,aGO⟩,noK,aMw⟩ N (Ret (dQ P) vars rs) [])) (hno:aNZ rs=true:=by exact rfl):lD P f args rs:=aPD aGO hf hb hN hv hnm hn (.inr ⟨rfl,hno⟩) h
theorem aRZ {P : Program} {f : FuncId} {fn : Func} {c : Code} {args : List (Bool × List D)} {rs : List (Bool × List RC)} {N : Nat} {vars : List ResultVar} (hf : P.funcs[f]? = some fn) (hb : fn.body = some c) (hN : fn.ntmps = N) (hv : fn.results.toList = vars) (hnm : (fn.name == "runtime.NumGoroutine") = false) (hn : args.length ≤ N)
  (h : ∀(base:Nat) (wd:World×(Nat→Prop)),SW P base ⟨wd.1,⟨wd.2,base,none,slP P⟩,noK,aMw⟩ N c (aMC base args) (aft P base ⟨wd.1,⟨wd.2,base,none,slP P⟩,noK,aMw⟩ N (Ret (dQ P) vars rs) [])):lD P f args rs:=aPD (slP P) hf hb hN hv hnm hn (.inl rfl) h
theorem aLU (B:Nat) (d:D) (u:Option Value) (cs:List SC) (k:List D→Prog):aBa (.old B d u::cs) k=aBa cs fun ds=>k (d::ds):=rfl
theorem aPg (b:Nat) (d:D):SC.clean b (.dat d)=(d.flat=true):=rfl
theorem aPf (b B:Nat) (d:D) (u:Option Value):SC.clean b (.old B d u)=(B≤b):=rfl
theorem aPF (b:Nat):SC.clean b .nil=True:=rfl
theorem aOP (b i v:Nat):SC.clean b (.row i v)=True:=rfl
theorem aQh (b i v o:Nat):SC.clean b (.bp i v o)=True:=rfl
theorem aRU (b:Nat) (ag:Bool) (cs:List SC):SV.clean b (.v ag cs) = ∀c∈cs,SC.clean b c:=rfl
theorem aOz (b:Nat) (xs:List (Bool×List SC)):SV.clean b (.tup xs) = ∀x∈xs,∀c∈x.2,SC.clean b c:=rfl
theorem aOI (b:Nat):SV.clean b .unk=True:=rfl
theorem aMD (b:Nat):SV.clean b .undef=True:=rfl
theorem aNX (b:Nat):aC5.clean b .none=True:=rfl
theorem aPP (b:Nat) (t:TypeId) (cs:List SC):aC5.clean b (.box t cs) = ∀c∈cs,SC.clean b c:=rfl
theorem aNP (b:Nat) (e:TypeId) (sz:Nat) (xs:List (List D)) (dp:Bool):aC5.clean b (.row e sz xs dp)=(dp=true):=rfl
theorem aZT {α:Type} {p:α→Prop} {a:α} {l:List α}:(∀x∈a::l,p x)=(p a ∧ ∀x∈l,p x):=by simp
theorem aZU {α:Type} {p:α→Prop}:(∀x∈([]:List α),p x)=True:=by simp
theorem aQJ (k:IntKind) (n:Int):D.flat (.int k n)=true:=rfl
theorem aOs (b:Bool):D.flat (.bool b)=true:=rfl
theorem aQR (b:ByteArray):D.flat (.str b)=true:=rfl
theorem aRN (b:Nat):(b≤b)=True:=by simp
theorem exI {P:Program} {T:aGn} {N:Nat} {ops:Array Oper} {l:List Oper} {s s3:St} {K:St→Prop} (h:aDA P T N ops l s (Is s3)) (hk:K s3):aDA P T N ops l s K:=
 aGp l (fun τ hτ=>by rw [show τ=s3 from hτ];exact hk) h
theorem aP7 (b i v j o:Nat):SC.clean b (.rp i v j o)=True:=rfl
theorem aND {α:Type} {l:List α} {i:Nat} {a b:α} (h:l[i]? = some b):(l.set i a)[i]? = some a:=by
 rw [List.getElem?_set_self (List.getElem?_eq_some_iff.1 h).1]
def aUE:=PLift.up (qI @aPg (qI @aPf (qI @aPF (qI @aOP (qI @aQh (qI @aP7 (qI @aRU (qI @aOz (qI @aOI (qI @aMD (qI @aNX (qI @aPP (qI @aNP (qI @aZT (qI @aZU (qI @aQJ (qI @aOs (qI @aQR (qI @aRN (qI and_true (qI true_and and_self)))))))))))))))))))))
theorem LC:type_of% aUE.down:=aUE.down
def aUY:=PLift.up (qI @aRB (qI @aRl (qI @aPc (qI @aOw (qI @aMx (qI @aLZ (qI @aNO (qI @aOt (qI @aLU (qI @aNF (qI @aQG (qI @List.set_set.{0} @List.length_set.{0}))))))))))))
theorem LN:type_of% aUY.down:=aUY.down
end Go.Sh
namespace Go.Sh
open Go.RowKit
section
variable {P:Program} {base N:Nat} {w0:W0} {s:St}
theorem aQ.get {g:Gh} {h:sB} {w:World} : ∀ {cs:List SC} {vs:List Value} (c:Nat) (x:SC),aQ g h w cs vs→cs[c]? = some x → ∃v,vs[c]? = some v∧wV g h w x v
 | [],vs,c,x,hc,hx=>by simp at hx
 | z::cs,vs,0,x,hc,hx=>by
  obtain ⟨v0,vs',rfl,h1,h2⟩:=hc
  simp at hx
  subst hx
  exact ⟨v0,rfl,h1⟩
 | z::cs,vs,c+1,x,hc,hx=>by
  obtain ⟨v0,vs',rfl,h1,h2⟩:=hc
  exact aQ.get c x h2 (by simpa using hx)
theorem aXj.mk {P:Program} {T:aGn} {vars:List ResultVar} {ops:Array Oper} {n d:Nat} {K:St→Prop} {l:List (Bool×List SC)} {s s1:St} (h1:aEm T s vars=some l) (h2:aDA P T N ops (ops.toList.drop (n+1)) (aX4 s d (aSC l)) (Is s1)) (h3:K s1):aXj P T vars N ops n d K s:=⟨l,h1,exI h2 h3⟩
end
end Go.Sh
namespace Go.Sh
open Go.RowKit
section
variable {P:Program} {base N:Nat} {w0:W0} {Z:St→Prop} {k:List Fr} {s:St}
end
end Go.Sh
