/-
  Helper text. No conditions.
-/
import Derived.Test.YtnhpbpnhmapeeaaGreatShC
import Derived.ProofKit
import Derived.OpenShut
import Derived.ShutString
import Derived.Deep.Slices
import Derived.Carry
namespace Go.Sh
set_option linter.unusedVariables false
set_option linter.unusedSimpArgs false
open Go.RowKit
theorem aJQ (args:List (Bool×List D)) (i:Nat):(init args).t i=match args[i]? with | some (ag,ds)=>.v ag (ds.map .dat) | none=>.undef:=rfl
theorem aJh (args:List (Bool×List D)) (i:Nat):(init args).h i=(0,.none):=rfl
def aO8 (v:SV) (A B:Prop):Prop:=match v with
 | .v false [.dat (.bool b)]=>(b=true→A)∧(b=false→B)
 | _=>False
theorem aKQ (b:Bool) (A B:Prop):aO8 (.v false [.dat (.bool b)]) A B=((b=true→A)∧(b=false→B)):=rfl
theorem nK {n:Int} (h1 : -9223372036854775808≤n) (h2:n≤9223372036854775807):IntKind.i64.wrap n=n:=by rw [IntKind.wrap_i64];omega
attribute [simp] aA0 aGp aIS aHD aEl aCz aFj aB2 aBM evG uI vOp aN7 put ex exF cst one aft St.aBa St.aI0 St.aJR St.aFk vW aDL aCp aBI sC aBg jB aAm aA5 zI rows gB aBZ lenOf aDF aD6 aCl rZ vG aAV aFs D.flat rid TI.agg aJQ aJh aEX aBh aIQ aEh aDG aKQ
end Go.Sh
namespace Go.Sh
set_option linter.unusedVariables false
set_option linter.unusedSimpArgs false
open Go.RowKit Go.ChangeShapes Go.WideShapes Go.Deep
inductive Shp where
 | int (k:IntKind)
 | bool
 | str
 | sl (es:List Shp)
def aEM (P:Program) (f:TypeId→Option (List Shp)):Nat→List Field→Option (List Shp)
 | _,[]=>some []
 | off,x::xs=>if x.offset=off then (match f x.type,aEM P f (off+P.cellsOf x.type) xs with
   | some a,some b=>if a.length=P.cellsOf x.type then some (a++b) else none
   | _,_=>none) else none
def aMh (P:Program):Nat→TypeId→Option (List Shp)
 | 0,_=>none
 | n+1,t=>match P.underlying t with
  | some (.int k)=>some [.int k]
  | some .bool=>some [.bool]
  | some .string=>some [.str]
  | some (.slice e)=>match aMh P n e with
   | some es=>if es.length=P.cellsOf e∧0<es.length then some [.sl es] else none
   | none=>none
  | some (.struct fs)=>match aEM P (aMh P n) 0 fs.toList with
   | some es=>if es.length=P.cellsOf t then some es else none
   | none=>none
  | _=>none
mutual
def Has:Shp→D→Prop
 | .int k,d=>∃n,d = .int k n∧(Lit.int k n).wf=true
 | .bool,d=>∃b,d = .bool b
 | .str,d=>∃s,d = .str s∧s.size≤maxLen
 | .sl es,d=>∃xs,d = .sl xs∧xs.length≤maxLen ∧ ∀x∈xs,mS es x
def mS:List Shp→List D→Prop
 | [],ds=>ds=[]
 | e::es,ds=>∃d ds',ds=d::ds'∧Has e d∧mS es ds'
end
theorem mS.append : ∀ {a b:List Shp} {x y:List D},mS a x→mS b y→mS (a++b) (x++y)
 | [],b,x,y,h,k=>by simp only [mS] at h;subst h;exact k
 | e::a,b,x,y,h,k=>by
  simp only [mS] at h
  obtain ⟨d,ds',rfl,h1,h2⟩:=h
  simp only [List.cons_append,mS]
  exact ⟨d,ds'++y,rfl,h1,mS.append h2 k⟩
theorem mS.length : ∀ {a:List Shp} {x:List D},mS a x→x.length=a.length
 | [],x,h=>by simp only [mS] at h;subst h;rfl
 | e::a,x,h=>by
  simp only [mS] at h
  obtain ⟨d,ds',rfl,h1,h2⟩:=h
  simp [mS.length h2]
section
variable {H:Type} {enc:TypeId×Value→H} {P:Program} {w:World} {base:Nat} {spare:Nat→Bool} {held:Bool}
theorem aAE {w:World} {d:D} {v:Value} {F:List Nat} (h:Rep w d v F):aK w [d] [v] F:=by
 simp only [aK]
 exact ⟨v,[],F,[],rfl,by simp,h,rfl,rfl⟩
theorem aDa {e:Shp} {d:D} (h:Has e d):mS [e] [d]:=by
 simp only [mS]
 exact ⟨d,[],rfl,h,rfl⟩
theorem aH1 {n m:Nat} (ih : ∀(t:TypeId) (shs:List Shp) (cs:List Value) (x:DataW H×List MemPlace),aMh P n t=some shs→DataW.trod enc P w base spare held m t cs=some x → ∃ds F,aK w ds cs F∧mS shs ds) :
  ∀(fs:List Field) (off:Nat) (shs:List Shp) (cs:List Value),aEM P (aMh P n) off fs=some shs→off+shs.length=cs.length →
   (∀f∈fs,∃x,DataW.trod enc P w base spare held m f.type ((cs.drop f.offset).take (P.cellsOf f.type))=some x) → ∃ds F,aK w ds (cs.drop off) F∧mS shs ds
 | [],off,shs,cs,h,hl,_=>by
  simp [aEM] at h
  subst h
  refine ⟨[],[],?_,by simp [mS]⟩
  rw [List.drop_of_length_le (by simpa using Nat.le_of_eq hl.symm)]
  simp [aK]
 | f::fs,off,shs,cs,h,hl,hf=>by
  simp only [aEM] at h
  split at h
  ·rename_i ho
   split at h
   ·rename_i a b ha hb
    split at h
    ·rename_i hlen
     cases h
     obtain ⟨x,hx⟩:=hf f (by simp)
     obtain ⟨d1,F1,k1,k2⟩:=ih _ _ _ _ ha hx
     obtain ⟨d2,F2,k3,k4⟩:=aH1 ih fs _ b cs hb (by rw [List.length_append,hlen] at hl;omega) fun y hy=>hf y (by simp [hy])
     refine ⟨d1++d2,F1++F2,?_,k2.append k4⟩
     have:cs.drop off=(cs.drop f.offset).take (P.cellsOf f.type)++cs.drop (off+P.cellsOf f.type):=by
      rw [ho,←List.drop_drop,List.take_append_drop]
     rw [this]
     exact k1.append k3
    ·cases h
   ·cases h
  ·cases h
theorem aLz {a:Addr} {v:Value} (h:w.cell? a=some v):a=⟨a.block,a.off,none⟩:=by
 obtain ⟨b,o,s⟩:=a
 unfold World.cell? at h
 cases s with
 | none=>rfl
 | some s =>
  split at h
  ·simp at h
  ·cases h
theorem aIw {es:List Shp} {C:Nat} (hC:es.length=C) {a:Addr} : ∀(len:Nat),(∀i,i<len → ∃cs' ds F,cs'.length=C∧(∀j,j<C→w.cell? (a.add (i*C+j))=cs'[j]?)∧aK w ds cs' F∧mS es ds) →
  ∃xs cells G,xs.length=len∧(∀x∈xs,mS es x)∧aP w xs cells G∧cells.length=len*C ∧ ∀j,j<len*C→w.cell? (a.add j)=cells[j]?
 | 0,_=>⟨[],[],[],rfl,by simp,by simp [aP],by simp,by simp⟩
 | len+1,h=>by
  obtain ⟨xs,cells,G,h1,h2,h3,h4,h5⟩:=aIw hC len fun i hi=>h i (by omega)
  obtain ⟨cs',ds,F,k1,k2,k3,k4⟩:=h len (by omega)
  refine ⟨xs++[ds],cells++cs',G++F,by simp [h1],?_,?_,by rw [List.length_append,h4,k1,Nat.add_mul];omega,?_⟩
  ·intro x hx
   rcases List.mem_append.1 hx with hx | hx
   ·exact h2 x hx
   ·simp at hx;subst hx;exact k4
  ·refine h3.append ?_
   simp only [aP]
   exact ⟨cs',[],F,[],by simp,by simp,k3,rfl,rfl⟩
  ·intro j hj
   rw [Nat.add_mul,Nat.one_mul] at hj
   by_cases hjl:j<len*C
   ·rw [h5 j hjl,List.getElem?_append_left (by omega)]
   ·have:=k2 (j-len*C) (by omega)
    rw [show len*C+(j-len*C)=j from by omega] at this
    rw [this,List.getElem?_append_right (by omega),h4]
theorem aIi : ∀(n:Nat) (m:Nat) (t:TypeId) (shs:List Shp) (cs:List Value) (x:DataW H×List MemPlace),aMh P n t=some shs→DataW.trod enc P w base spare held m t cs=some x → ∃ds F,aK w ds cs F∧mS shs ds
 | 0,_,_,_,_,_,h,_=>by simp [aMh] at h
 | n+1,m,t,shs,cs,x,h,hx=>by
  simp only [aMh] at h
  split at h
  ·rename_i k hu
   cases h
   obtain ⟨v,rfl,_,hw⟩:=DataW.trod_int hu hx
   exact ⟨[.int k v],[],aAE (by simp [Rep]),aDa (by simp [Has,hw])⟩
  ·rename_i hu
   cases h
   obtain ⟨v,rfl,_⟩:=DataW.trod_bool hu hx
   exact ⟨[.bool v],[],aAE (by simp [Rep]),aDa (by simp [Has])⟩
  ·rename_i hu
   cases h
   obtain ⟨v,rfl,_,hw⟩:=DataW.trod_string hu hx
   exact ⟨[.str v],[],aAE (by simp [Rep]),aDa (by simp [Has,hw])⟩
  ·rename_i e hu
   split at h
   ·rename_i es hes
    split at h
    ·rename_i hc
     cases h
     rcases open_slice hu hx with ⟨rfl,_⟩ | ⟨a,len,cap,mm,fu,Dd,Pl,rfl,h1,h2,h3,h4,_,h6⟩
     ·refine ⟨[.sl []],[],?_,?_⟩
      ·refine aAE ?_
       simp only [Rep]
       exact ⟨none,0,0,rfl,rfl,Nat.le_refl _,.inl (by simp)⟩
      ·refine aDa ?_
       simp only [Has]
       exact ⟨[],rfl,by simp,by simp⟩
     ·have hle:len≤mm:=by rw [h4];split<;>omega
      obtain ⟨xs,cells,G,k1,k2,k3,k4,k5⟩:=aIw (w:=w) hc.1 (a:=a) len fun i hi=>by
       obtain ⟨cs',q1,q2⟩:=h6 i (by omega)
       obtain ⟨_,q3,q4⟩:=World.cells?_some q1
       obtain ⟨ds,F,q5,q6⟩:=aIi n fu e es cs' _ hes q2
       exact ⟨cs',ds,F,q3,fun j hj=>by rw [←Go.Deep.add_add];exact q4 j hj,q5,q6⟩
      rcases Nat.eq_zero_or_pos len with h0 | h0
      ·have hxs:xs=[]:=List.eq_nil_of_length_eq_zero (by omega)
       subst hxs
       refine ⟨[.sl []],[],?_,?_⟩
       ·refine aAE ?_
        simp only [Rep]
        exact ⟨some a,len,cap,rfl,by simpa using h0,h2,.inl ⟨h0,trivial⟩⟩
       ·refine aDa ?_
        simp only [Has]
        exact ⟨[],rfl,by simp,by simp⟩
      ·have hpos:0<len*P.cellsOf e:=Nat.mul_pos h0 (by omega)
       have hc0:=k5 0 hpos
       have hc0':cells[0]? = some (cells[0]'(by omega)):=List.getElem?_eq_getElem (by omega)
       have hadd0:a.add 0=a:=by simp [Addr.add]
       rw [hadd0,hc0'] at hc0
       have ha:=aLz hc0
       refine ⟨[.sl xs],a.block::G,?_,?_⟩
       ·refine aAE ?_
        simp only [Rep]
        refine ⟨some a,len,cap,rfl,k1.symm,h2,.inr ⟨a.block,a.off,cells,P.cellsOf e,G,by rw [←ha],World.block_lt_of_cell? w a hc0,rfl,?_,k4,?_,k3⟩⟩
        ·intro j u hu'
         have hj:j<len*P.cellsOf e:=by rw [←k4];exact (List.getElem?_eq_some_iff.1 hu').1
         have:=k5 j hj
         rw [ha,Addr.add_lit] at this
         rw [this];exact hu'
        ·intro x hx'
         rw [(k2 x hx').length,hc.1]
       ·refine aDa ?_
        simp only [Has]
        exact ⟨xs,rfl,by omega,k2⟩
    ·cases h
   ·cases h
  ·rename_i fs hu
   split at h
   ·rename_i es hes
    split at h
    ·rename_i hc
     cases h
     obtain ⟨xs,mm,rfl,_,q1,q2,q3⟩:=DataW.trod_struct hu hx
     have:=aH1 (m:=mm) (fun t shs cs x=>aIi n mm t shs cs x) fs.toList 0 shs cs hes (by omega) (fun f hf=>by
      obtain ⟨i,hi⟩:=List.getElem?_of_mem hf
      have hi':fs[i]? = some f:=by simpa using hi
      have hlt:i<xs.length:=by rw [q2];exact (Array.getElem?_eq_some_iff.1 hi').1
      exact ⟨xs[i],by rw [q3 i f hi',List.getElem?_eq_getElem hlt]⟩)
     simpa using this
    ·cases h
   ·cases h
  ·cases h
theorem aOk {n:Nat} {t:TypeId} {shs:List Shp} {v:Value} {d:DataW H} {p:List MemPlace} {b:Nat} (h:aMh P n t=some shs) (hv:Value.okWide P w .any b t v) (ht:DataW.Trod enc P w base spare held t v d p) :
  ∃ds F,mS shs ds∧aKq w v (aFc P t,ds) F:=by
 obtain ⟨fuel,hf⟩:=id ht
 obtain ⟨ds,F,h1,h2⟩:=aIi n fuel t shs _ _ h hf
 refine ⟨ds,F,h2,?_⟩
 have one:v.cells.toList=[v] → ∃d,ds=[d]∧Rep w d v F:=by
  intro hc
  rw [hc] at h1
  have hl:=h1.length
  match ds,h1,hl with
  | [d],h1,_ =>
   simp only [aK] at h1
   obtain ⟨u,us,F1,F2,e1,e2,e3,_,e5⟩:=h1
   simp at e1
   rw [e5,List.append_nil] at e2
   exact ⟨d,rfl,e2 ▸ e1.1 ▸ e3⟩
 cases n with
 | zero=>simp [aMh] at h
 | succ n =>
  simp only [aMh] at h
  unfold aFc
  split at h
  ·rename_i k hu
   obtain ⟨x,rfl,_⟩:=open_int hu hv ht
   rw [hu]
   exact one rfl
  ·rename_i hu
   obtain ⟨x,rfl,_⟩:=open_bool hu hv ht
   rw [hu]
   exact one rfl
  ·rename_i hu
   obtain ⟨x,rfl,_⟩:=Go.ChangeMaps.open_string hu hv ht
   rw [hu]
   exact one rfl
  ·rename_i e hu
   obtain ⟨x,y,z,rfl⟩:=okWide_slice hu hv
   rw [hu]
   exact one rfl
  ·rename_i fs hu
   obtain ⟨cs,rfl,_⟩:=okWide_struct hu hv
   rw [hu]
   exact ⟨cs,rfl,h1⟩
  ·cases h
theorem aLa {f:Func} {s:ChangeSpec} {apart fresh handsOn again:Bool} {W W':World} {args:Array Value} {v:Value} {ds gs:List (DataW H)} {before pa pv:List MemPlace}
  (hW:DataW.Whole enc P f.params.toList s.vars apart W args.toList ds gs before)
  (hres : ∀(b:Nat) (sp:Nat→Bool) (hd:Bool),DataW.TrodAll enc P W' b sp hd f.resultTypes.toList (v.resultList f.resultTypes.size) (s.fn H (ds++gs)).results [])
  (hargs : ∀sp:Nat→Bool,(∀p∈before,sp p.block=true)→DataW.TrodAll enc P W' 0 sp true f.params.toList args.toList (s.fn H (ds++gs)).args pa)
  (hvars : ∀sp:Nat→Bool,(∀p∈before,sp p.block=true)→DataW.TrodVars enc P W' sp s.vars (s.fn H (ds++gs)).vars pv)
  (hps:before=pa++pv) (hb:Below W.heap.size W W')
  (hok : ∀(j:Nat) (t:TypeId) (r:Value),f.resultTypes[j]? = some t→(v.resultList f.resultTypes.size)[j]? = some r→Value.okWide P W' .any 0 t r) :
  s.post enc P f apart fresh handsOn again W args v W':=by
 have hlt : ∀p∈before,p.block<W.heap.size:=fun p hp=>hW.lt p hp
 have hold : ∀p∈before,(fun b=>decide (b<W.heap.size)) p.block=true:=fun p hp=>by simpa using hlt p hp
 refine ⟨ds,gs,before,[],pa,pv,hW,hres _ _ _,hargs _ hold,hvars _ hold,World.keptBut_mono (fun p hp=>⟨hp,?_⟩) (hb.frame (· ∈ before)),fun _ => ?_⟩
 ·rw [hps,List.mem_append] at hp
  exact Or.inr hp
 ·obtain ⟨_,_,_,_,_,hz,hn⟩:=hW
  refine ⟨hok,_,_,([]++pa)++pv,⟨[]++pa,pv,trodAll_append (hargs _ (fun _ _=>rfl)) (hres _ _ _),hvars _ (fun _ _=>rfl),rfl,?_,?_⟩,?_⟩
  ·intro b off hp
   have hin:MemPlace.cell b off∈before:=by rw [hps];simpa using hp
   rw [hb.frozen (hlt _ hin)]
   exact hz b off hin
  ·intro ha
   have:=hn ha
   rw [hps] at this
   simpa using this
  ·intro p hp _
   rw [hps]
   simpa using hp
theorem aEu (hl:laidOutB P=true) {W W':World} (hb:Below W.heap.size W W') {sp:Nat→Bool} : ∀ {ts:List TypeId} {vs:List Value} {ds:List (DataW H)} {ps:List MemPlace},DataW.TrodAll enc P W 0 (fun _=>true) true ts vs ds ps →
  (∀t∈ts,P.readableRec t=true∧t<P.types.size)→(∀x∈ps,x.block<W.heap.size)→(∀x∈ps,sp x.block=true)→DataW.TrodAll enc P W' 0 sp true ts vs ds ps
 | [],vs,ds,ps,h,_,_,_=>by
  obtain ⟨rfl,rfl,rfl⟩:=trodAll_nil h
  rfl
 | t::ts,vs,ds,ps,h,ht,hlt,hsp=>by
  obtain ⟨v,vs',d,ds',p,q,rfl,rfl,rfl,h1,h2⟩:=trodAll_cons h
  refine ⟨p,q,?_,?_,rfl⟩
  ·exact WideElems.Trod_stays hl (ht t (by simp)).1 (ht t (by simp)).2 h1 (fun x hx=>hb.same (hlt x (by simp [hx]))) (fun x hx=>hsp x (by simp [hx]))
  ·exact aEu hl hb h2 (fun u hu=>ht u (by simp [hu])) (fun x hx=>hlt x (by simp [hx])) (fun x hx=>hsp x (by simp [hx]))
def aOi (P:Program) (n:Nat):List TypeId→List (List Shp)→Prop
 | [],shs=>shs=[]
 | t::ts,shs=>∃s ss,shs=s::ss∧aMh P n t=some s∧aOi P n ts ss
def aMU:List (List Shp)→List (List D)→Prop
 | [],ds=>ds=[]
 | s::ss,ds=>∃d ds',ds=d::ds'∧mS s d∧aMU ss ds'
def aMJ (P:Program):List TypeId→List (List D)→List (Bool×List D)
 | t::ts,d::ds=>(aFc P t,d)::aMJ P ts ds
 | _,_=>[]
theorem aK6 {n:Nat} {W:World} {b:Nat} : ∀ {ts:List TypeId} {vs:List Value} {ds:List (DataW H)} {ps:List MemPlace} {shs:List (List Shp)},aOi P n ts shs→DataW.TrodAll enc P W 0 (fun _=>true) true ts vs ds ps →
  (∀(j:Nat) t v,ts[j]? = some t→vs[j]? = some v→Value.okWide P W .any b t v) → ∃dss F,aMU shs dss∧zZ W vs (aMJ P ts dss) F
 | [],vs,ds,ps,shs,hs,h,hv=>by
  obtain ⟨rfl,rfl,rfl⟩:=trodAll_nil h
  have:shs=[]:=hs
  subst this
  exact ⟨[],[],rfl,rfl⟩
 | t::ts,vs,ds,ps,shs,hs,h,hv=>by
  obtain ⟨s,ss,rfl,hs1,hs2⟩:=hs
  obtain ⟨v,vs',d,ds',p,q,rfl,rfl,rfl,h1,h2⟩:=trodAll_cons h
  obtain ⟨d1,F1,k1,k2⟩:=aOk hs1 (hv 0 t v rfl rfl) h1
  obtain ⟨dss,F2,k3,k4⟩:=aK6 hs2 h2 fun j t' v' ht hv'=>hv (j+1) t' v' (by simpa using ht) (by simpa using hv')
  exact ⟨d1::dss,F1++F2,⟨d1,dss,rfl,k1,k3⟩,F1,F2,rfl,k2,k4⟩
theorem aM2 {f:FuncId} {fn:Func} {s:ChangeSpec} {n tb:Nat} {shs:List (List Shp)} (hl:laidOutB P=true) (hvars:s.vars=[]) (hres:fn.resultTypes = #[tb]) (htb:P.underlying tb=some .bool) (hsh:aOi P n fn.params.toList shs)
  (hread : ∀t∈fn.params.toList,P.readableRec t=true∧t<P.types.size)
  (hfn : ∀(ds:List (DataW H)),ds.length=fn.params.toList.length→s.fn H (ds++[])={ results:=[.lit (.bool true)],args:=ds })
  (hc : ∀dss,aMU shs dss→nM P f (aMJ P fn.params.toList dss) [(false,[.ro (.bool true)])])
  {W:World} {b:Nat} {args:Array Value} {ds gs:List (DataW H)} {before:List MemPlace} (hval : ∀(j:Nat) t v,fn.params[j]? = some t→args[j]? = some v→Value.okWide P W .any b t v)
  (hW:DataW.Whole enc P fn.params.toList s.vars false W args.toList ds gs before) :
  Calls P f args W fun e W'=>∃v,e = .returned v∧s.post enc P fn false true false false W args v W':=by
 have hW':=hW
 obtain ⟨p,q,hA,hV,rfl,hfz,hnd⟩:=hW
 rw [hvars] at hV
 obtain ⟨rfl,rfl⟩:=trodVars_none hV
 obtain ⟨dss,Fa,k1,k2⟩:=aK6 hsh hA fun j t v ht hv=>hval j t v (by simpa using ht) (by simpa using hv)
 refine (((hc dss k1).old rfl).2 W args Fa k2).mono fun e W' hh => ?_
 obtain ⟨v,rfl,⟨F,X,_,_,_,hr⟩,hb⟩:=hh
 have hv:v = .bool true:=by
  have h1:Rep W' (.bool true) v []:=hr.1
  simp only [Rep] at h1
  exact h1.1
 subst hv
 have hdl:ds.length=fn.params.toList.length:=by
  have : ∀ {ts:List TypeId} {vs:List Value} {ds:List (DataW H)} {ps:List MemPlace},DataW.TrodAll enc P W 0 (fun _=>true) true ts vs ds ps→ds.length=ts.length:=by
   intro ts
   induction ts with
   | nil=>intro vs ds ps h;obtain ⟨_,rfl,_⟩:=trodAll_nil h;rfl
   | cons t ts ih=>intro vs ds ps h;obtain ⟨v,vs',d,ds',p,q,rfl,rfl,rfl,h1,h2⟩:=trodAll_cons h;simp [ih h2]
  exact this hA
 have hfn':=hfn ds hdl
 refine ⟨_,rfl,aLa (pa:=p) (pv:=[]) hW' ?_ ?_ ?_ (by simp) hb (ok_one hres rfl (okWide_bool_mk htb _))⟩
 ·intro b sp hd
  rw [hfn',hres]
  exact trodAll_cons_mk (shut_bool htb _) trodAll_mk0
 ·intro sp hsp
  rw [hfn']
  exact aEu hl hb hA hread (fun x hx=>hW'.lt x (by simpa using hx)) (fun x hx=>hsp x (by simpa using hx))
 ·intro sp hsp
  rw [hfn',hvars]
  rfl
end
end Go.Sh
namespace Go.Sh
set_option linter.unusedVariables false
set_option linter.unusedSimpArgs false
open Go.RowKit
def Is (s t:St):Prop:=t=s
theorem Is.mk (t:St):Is t t:=rfl
theorem aHf {P:Program} {T:aGE} {N:Nat} {ops:Array Oper} : ∀(l:List Oper) {s:St} {K K':St→Prop},(∀s,K s→K' s)→aB2 P T N ops l s K→aB2 P T N ops l s K'
 | [],_,_,_,h,hh=>h _ hh
 | o::l,s,_,_,h,hh=>aEI (evG T N ops o) (fun s' h'=>aHf l h h') hh
theorem aCo {P:Program} : ∀(p:Prog) {s:St} {R W:List Loc} {K K':St→List Loc→List Loc→Prop},(∀s R W,K s R W→K' s R W)→exF P p s R W K→exF P p s R W K'
 | .done,_,_,_,_,_,h,hh=>h _ _ _ hh
 | .fail,_,_,_,_,_,_,hh=>hh
 | .getT t k,s,_,_,_,_,h,hh=>aCo (k (s.t t)) h hh
 | .aC2 t v k,s,_,_,_,_,h,hh=>aCo k h hh
 | .getH i k,s,_,_,_,_,h,hh=>aCo (k (s.h i)) h hh
 | .hH i x k,s,_,_,_,_,h,hh=>aCo k h hh
 | .call f args k,s,_,_,_,_,h,⟨rs,hc,hh⟩=>⟨rs,hc,aCo (k rs) h hh⟩
 | .must p k,s,_,_,_,_,h,⟨hp,hh⟩=>⟨hp,aCo k h hh⟩
theorem aHG {P:Program} {T:aGE} {N:Nat} {ops:Array Oper} : ∀(l:List Oper) {s:St} {acc:List Fp} {K K':St→List Fp→Prop},(∀s a,K s a→K' s a)→aBM P T N ops l s acc K→aBM P T N ops l s acc K'
 | [],_,_,_,_,h,hh=>h _ _ hh
 | o::l,s,_,_,_,h,hh=>aCo (evG T N ops o) (fun s' R W h'=>aHG l h h') hh
section
variable {P:Program} {base N:Nat} {w0:W0} {Z:St→Prop} {k:List Fr} {s s':St}
theorem jC {id:Nat} {ops:Array Oper} (h:aB2 P (dF P) N ops ops.toList s (Is s')) (hk:aft P base w0 N Z k .normal s'):SW P base w0 N (.region id ops false) s (aft P base w0 N Z k):=
 aJZ (aHf ops.toList (fun t ht=>by rw [show t=s' from ht];exact hk) h)
def aI6 (ops:Array Oper) (fps:List Fp):Prop:=aEC ops fps=true
theorem aI6.mk {ops:Array Oper} {fps:List Fp} (h:aEC ops fps=true):aI6 ops fps:=h
theorem aBC (hm:P.follows .mixedOrders=true) {id:Nat} {ops:Array Oper} (h:aBM P (dF P) N ops ops.toList s [] fun t fps=>aI6 ops fps∧Is s' t) (hk:aft P base w0 N Z k .normal s'):SW P base w0 N (.region id ops true) s (aft P base w0 N Z k):=
 aMH hm (aHG ops.toList (fun t fps ht=>⟨ht.1,by rw [show t=s' from ht.2];exact hk⟩) h)
theorem uX {id:Nat} (h:aft P base w0 N Z k .normal s):aft P base w0 N Z (.block id::k) (.exit id) s:=by
 simp only [aft,if_true];exact h
theorem aQ1 {id id':Nat} (hne:id'≠id) (h:aft P base w0 N Z k (.exit id') s):aft P base w0 N Z (.block id::k) (.exit id') s:=by
 simp only [aft,hne,if_false];exact h
theorem jD {c:Code} {id:Nat} (h:aft P base w0 N Z k (.exit id) s):aft P base w0 N Z (.code c::k) (.exit id) s:=h
theorem xY {J:St→Prop} (h:J s):aft P base w0 N Z (.inv J::k) .normal s:=h
theorem jY {J:St→Prop} {id:Nat} (h:aft P base w0 N Z k (.exit id) s):aft P base w0 N Z (.inv J::k) (.exit id) s:=h
theorem aLS {t:Nat} {x y:Code} (hb:s.t t = .v false [.dat (.bool true)]) (h:SW P base w0 N x s (aft P base w0 N Z k)):SW P base w0 N (.cond (.tmp t) x y) s (aft P base w0 N Z k):=
 aKD hb (fun _=>h) (fun e=>by cases e)
theorem aNs {t:Nat} {x y:Code} (hb:s.t t = .v false [.dat (.bool false)]) (h:SW P base w0 N y s (aft P base w0 N Z k)):SW P base w0 N (.cond (.tmp t) x y) s (aft P base w0 N Z k):=
 aKD hb (fun e=>by cases e) (fun _=>h)
end
def fuel:Nat:=18446744073709551616
theorem bO (b:Bool):b=true∨b=false:=by cases b<;>simp
theorem rQ (b:Bool):b=false∨b=true:=by cases b<;>simp
theorem bB {α:Type} {b:Bool} {x y z:α} (hb:b=true) (h:(if b=true then x else y)=z):x=z:=by rw [if_pos hb] at h;exact h
theorem bA {α:Type} {b:Bool} {x y z:α} (hb:b=false) (h:(if b=true then x else y)=z):y=z:=by rw [hb] at h;simpa using h
theorem bind_some {α β:Type} {o:Option α} {f:α→Option β} {r:β} (h:o.bind f=some r) : ∃x,o=some x∧f x=some r:=by
 cases o with
 | none=>cases h
 | some x=>exact ⟨x,rfl,h⟩
def idx {α:Type} (xs:List α) (i:Int):Option α:=if 0≤i then xs[i.toNat]? else none
theorem aR {α:Type} {xs:List α} {i:Int} {x:α} (h:idx xs i=some x):0≤i∧xs[i.toNat]? = some x∧i.toNat<xs.length:=by
 unfold idx at h
 split at h
 ·rename_i hi;exact ⟨hi,h,(List.getElem?_eq_some_iff.1 h).1⟩
 ·cases h
def aOA (s:ByteArray) (i:Int):Option UInt8:=if 0≤i then s[i.toNat]? else none
theorem aLw {s:ByteArray} {i:Int} {x:UInt8} (h:aOA s i=some x):0≤i∧s[i.toNat]? = some x:=by
 unfold aOA at h
 split at h
 ·rename_i hi;exact ⟨hi,h⟩
 ·cases h
def app {α:Type} (b:Nat) (xs ys:List α):Option (List α):=if (xs.length+ys.length)*b≤140737488355328 then some (xs++ys) else none
theorem eI {α:Type} {b:Nat} {xs ys zs:List α} (h:app b xs ys=some zs):(xs.length+ys.length)*b≤140737488355328:=by
 unfold app at h
 split at h
 ·assumption
 ·cases h
def aUy {α:Type} (b:Nat) (ys:List α):Option (List α):=if ys.length*b≤140737488355328 then some ys else none
theorem qB {α:Type} {b:Nat} {ys zs:List α} (h:aUy b ys=some zs):ys.length*b≤140737488355328:=by
 unfold aUy at h
 split at h
 ·assumption
 ·cases h
def mkL {α:Type} (b:Nat) (n:Int) (z:α):Option (List α):=if 0≤n∧n.toNat*b≤140737488355328∧n≤9223372036854775807 then some (List.replicate n.toNat z) else none
theorem aNn {α:Type} {b:Nat} {n:Int} {z:α} {x:List α} (h:mkL b n z=some x):0≤n∧n.toNat*b≤140737488355328∧n≤9223372036854775807:=by
 unfold mkL at h
 split at h
 ·assumption
 ·cases h
def cat (x y:ByteArray):Option ByteArray:=if x.size+y.size≤9223372036854775807 then some (x++y) else none
theorem aNM {x y z:ByteArray} (h:cat x y=some z):x.size+y.size≤9223372036854775807:=by
 unfold cat at h
 split at h
 ·assumption
 ·cases h
def enI (n:Int):List D:=[.int .i64 n]
def enB (n:Int):List D:=[.int .u8 n]
def enS (s:ByteArray):List D:=[.str s]
def enT (b:Bool):List D:=[.bool b]
def enL {α:Type} (f:α→List D) (xs:List α):List D:=[.sl (xs.map f)]
def lL (s:ByteArray):List Int:=s.data.toList.map fun b=>(b.toNat:Int)
theorem aJq (s:ByteArray):aBb s.data.toList=(lL s).map enB:=by
 unfold aBb lL enB
 rw [List.map_map]
 rfl
def aB8 (l:List Int):ByteArray:=⟨(l.map fun n=>UInt8.ofNat n.toNat).toArray⟩
def toStr (l:List Int):Option ByteArray:=if l.all (fun n=>decide (0≤n∧n<256))=true then some (aB8 l) else none
theorem aKa (l:List Int):strOf (l.map enB)=aB8 l:=by
 unfold strOf aB8 enB
 rw [List.map_map]
 rfl
theorem aLQ {l:List Int} {z:ByteArray} (h:toStr l=some z) : ∀x∈l.map enB,∃b:UInt8,x=[.int .u8 (b.toNat:Int)]:=by
 unfold toStr at h
 split at h
 ·rename_i ha
  intro x hx
  obtain ⟨n,hn,rfl⟩:=List.mem_map.1 hx
  have:=List.all_eq_true.1 ha n hn
  simp only [decide_eq_true_eq] at this
  refine ⟨UInt8.ofNat n.toNat,?_⟩
  unfold enB
  have h1:(UInt8.ofNat n.toNat).toNat=n.toNat:=by simp;omega
  rw [h1,Int.toNat_of_nonneg this.1]
 ·cases h
def aKK {α:Type} (xs:List α) (i:Int):Option (List α):=if 0≤i∧i.toNat≤xs.length then some (xs.drop i.toNat) else none
def aDO {α:Type} (xs:List α) (j:Int):Option (List α):=if 0≤j∧j.toNat≤xs.length then some (xs.take j.toNat) else none
theorem aBl {α:Type} {xs z:List α} {i:Int} {f:α→List D} {n:Nat} (hf : ∀x,(f x).length=n) (h:aKK xs i=some z):0≤i∧i.toNat≤xs.length ∧ ∀x∈xs.map f,x.length=n:=by
 unfold aKK at h
 split at h
 ·rename_i hh
  refine ⟨hh.1,hh.2,fun x hx => ?_⟩
  obtain ⟨y,_,rfl⟩:=List.mem_map.1 hx
  exact hf y
 ·cases h
theorem xK {α:Type} {xs z:List α} {i:Int} {f:α→List D} {n:Nat} (hf : ∀x,(f x).length=n) (h:aDO xs i=some z):0≤i∧i.toNat≤xs.length ∧ ∀x∈xs.map f,x.length=n:=by
 unfold aDO at h
 split at h
 ·rename_i hh
  refine ⟨hh.1,hh.2,fun x hx => ?_⟩
  obtain ⟨y,_,rfl⟩:=List.mem_map.1 hx
  exact hf y
 ·cases h
theorem aEO {α:Type} {f:α→List D} (hf : ∀x,(f x).all D.flat=true) (xs:List α):(xs.map f).all (fun y=>y.all D.flat)=true:=by
 rw [List.all_eq_true]
 intro y hy
 obtain ⟨x,_,rfl⟩:=List.mem_map.1 hy
 exact hf x
theorem enI.fl (l:List Int):(List.map enI l).all (fun y=>y.all D.flat)=true:=aEO (fun _=>rfl) l
theorem enB.fl (l:List Int):(List.map enB l).all (fun y=>y.all D.flat)=true:=aEO (fun _=>rfl) l
theorem enS.fl (l:List ByteArray):(List.map enS l).all (fun y=>y.all D.flat)=true:=aEO (fun _=>rfl) l
theorem enT.fl (l:List Bool):(List.map enT l).all (fun y=>y.all D.flat)=true:=aEO (fun _=>rfl) l
theorem aIP {P : Program} {f : FuncId} {fn : Func} {c : Code} {args : List (Bool × List D)} {rs : List (Bool × List RC)} {N : Nat} {vars : List ResultVar} (hf : P.funcs[f]? = some fn) (hb : fn.body = some c) (hN : fn.ntmps = N) (hv : fn.results.toList = vars) (hnm : (fn.name == "runtime.NumGoroutine") = false) (hn : args.length ≤ N)
  (h : ∀(base:Nat) (w0:W0),SW P base w0 N c (init args) (aft P base w0 N (Ret (dF P) vars rs) [])):nM P f args rs:=by
 subst hN hv
 exact aMw hf hb hnm hn h
end Go.Sh
namespace Go.Sh
set_option linter.unusedVariables false
set_option linter.unusedSimpArgs false
theorem aG9 (N d:Nat) (a b:Bool×List RC) (rs:List (Bool×List RC)):aA5 N (some d) (a::b::rs)=aAm d 0 (a::b::rs) fun vs=>put N (some d) (.tup vs):=rfl
theorem aG2 (N d:Nat):aA5 N (some d) []=aAm d 0 [] fun vs=>put N (some d) (.tup vs):=rfl
theorem aKg (sz k:Nat) (xs:List (List D)):(aCX sz 0 k xs).drop k=xs.drop k:=by
 unfold aCX
 rw [List.take_zero,List.nil_append,Nat.zero_add]
 exact List.drop_left' (by simp)
theorem aM4 (sz k:Nat) (xs:List (List D)):(aCX sz 0 k xs).length-k=xs.length-k:=by
 unfold aCX
 simp
theorem aKm {α:Type} (xs:List α) (k:Nat):(xs.drop k).take (xs.length-k)=xs.drop k:=List.take_of_length_le (by simp)
theorem aBB {sz:Nat} {i:Int} {xs:List (List D)} (h:0≤i):0≤i∧i.toNat≤(aCX sz 0 i.toNat xs).length:=⟨h,by unfold aCX;simp⟩
theorem aJu {α:Type} (a:α) (as bs:List α):List.append (a::as) bs=a::List.append as bs:=rfl
theorem aLF {α:Type} (bs:List α):List.append [] bs=bs:=rfl
theorem aMD (xs:List (List D)):D.flat (.sl xs)=false:=rfl
theorem aKx (xs:List D):D.flat (.ptr xs)=false:=rfl
theorem E:type_of% (And.intro (@aB2.eq_1) (And.intro (@aB2.eq_2) (And.intro (@aBM.eq_1) (And.intro (@aBM.eq_2) (And.intro (@evG.eq_1) (And.intro (@uI.eq_1) (And.intro (@vOp.eq_1) (And.intro (@vOp.eq_2) (And.intro (@vOp.eq_3) (And.intro (@vOp.eq_4) (And.intro (@aN7.eq_1) (And.intro (@aN7.eq_2) (And.intro (@put.eq_1) (And.intro (@put.eq_2) (And.intro (@ex.eq_1) (And.intro (@ex.eq_2) (And.intro (@ex.eq_3) (And.intro (@ex.eq_4) (And.intro (@ex.eq_5) (And.intro (@ex.eq_6) (And.intro (@ex.eq_7) (And.intro (@ex.eq_8) (And.intro (@exF.eq_1) (And.intro (@exF.eq_2) (And.intro (@exF.eq_3) (And.intro (@exF.eq_4) (And.intro (@exF.eq_5) (And.intro (@exF.eq_6) (And.intro (@exF.eq_7) (And.intro (@exF.eq_8) (And.intro (@cst.eq_1) (And.intro (@cst.eq_2) (And.intro (@cst.eq_3) (And.intro (@cst.eq_4) (And.intro (@one.eq_1) (And.intro (@vW.eq_1) (And.intro (@vW.eq_2) (And.intro (@vW.eq_3) (And.intro (@vW.eq_4) (And.intro (@aDL.eq_1) (And.intro (@aDL.eq_2) (And.intro (@aDL.eq_3) (And.intro (@aDL.eq_4) (And.intro (@aCp.eq_1) (And.intro (@aBI.eq_1) (And.intro (@aBI.eq_2) (And.intro (@sC.eq_1) (And.intro (@sC.eq_2) (And.intro (@sC.eq_3) (And.intro (@sC.eq_4) (And.intro (@sC.eq_5) (And.intro (@sC.eq_6) (And.intro (@sC.eq_7) (And.intro (@sC.eq_8) (And.intro (@sC.eq_9) (And.intro (@aBg.eq_1) (And.intro (@aBg.eq_2) (And.intro (@jB.eq_1) (And.intro (@jB.eq_2) (And.intro (@jB.eq_3) (And.intro (@jB.eq_4) (And.intro (@jB.eq_5) (And.intro (@aAm.eq_1) (And.intro (@aAm.eq_2) (And.intro (@aA5.eq_1) (And.intro (@aA5.eq_2) (And.intro (@aEl.eq_1) (And.intro (@aBK.eq_1) (And.intro (@aBK.eq_2) (And.intro (@aBK.eq_3) (And.intro (@aBK.eq_4) (And.intro (@aBK.eq_5) (And.intro (@aHC.eq_1) (And.intro (@aHC.eq_2) (And.intro (@RC.ed.eq_1) (And.intro (@RC.ed.eq_2) (And.intro (@RC.ed.eq_3) (And.intro (@RC.ed.eq_4) (And.intro (@aK8.eq_1) (And.intro (@aK8.eq_2) (And.intro (@aK8.eq_3) (And.intro (@aGy.eq_1) (And.intro (@aCz.eq_1) (And.intro (@aCz.eq_2) (And.intro (@aCz.eq_3) (And.intro (@aCz.eq_4) (And.intro (@aCz.eq_5) (And.intro (@aFj.eq_1) (And.intro (@aFj.eq_2) (And.intro (@zI.eq_1) (And.intro (@zI.eq_2) (And.intro (@rows.eq_1) (And.intro (@rows.eq_2) (And.intro (@gB.eq_1) (And.intro (@gB.eq_2) (And.intro (@gB.eq_3) (And.intro (@gB.eq_4) (And.intro (@gB.eq_5) (And.intro (@gB.eq_6) (And.intro (@gB.eq_7) (And.intro (@gB.eq_8) (And.intro (@gB.eq_9) (And.intro (@gB.eq_10) (And.intro (@gB.eq_11) (And.intro (@gB.eq_12) (And.intro (@gB.eq_13) (And.intro (@gB.eq_14) (And.intro (@gB.eq_15) (And.intro (@gB.eq_16) (And.intro (@gB.eq_17) (And.intro (@aBZ.eq_1) (And.intro (@aBZ.eq_2) (And.intro (@aBZ.eq_3) (And.intro (@aBZ.eq_4) (And.intro (@aBZ.eq_5) (And.intro (@aBZ.eq_6) (And.intro (@lenOf.eq_1) (And.intro (@lenOf.eq_2) (And.intro (@lenOf.eq_3) (And.intro (@lenOf.eq_4) (And.intro (@aDF.eq_1) (And.intro (@aDF.eq_2) (And.intro (@aDF.eq_3) (And.intro (@aDF.eq_4) (And.intro (@aD6.eq_1) (And.intro (@aD6.eq_2) (And.intro (@aCl.eq_1) (And.intro (@aCl.eq_2) (And.intro (@aCl.eq_3) (And.intro (@rZ.eq_1) (And.intro (@rZ.eq_2) (And.intro (@rZ.eq_3) (And.intro (@vG.eq_1) (And.intro (@vG.eq_2) (And.intro (@vG.eq_3) (And.intro (@vG.eq_4) (And.intro (@aAV.eq_1) (And.intro (@aAV.eq_2) (And.intro (@aAV.eq_3) (And.intro (@aAV.eq_4) (And.intro (@aIk.eq_1) (And.intro (@aFs.eq_1) (And.intro (@aFs.eq_2) (And.intro (@sA.eq_1) (And.intro (@sA.eq_2) (And.intro (@sA.eq_3) (And.intro (@sA.eq_4) (And.intro (@aGR.eq_1) (And.intro (@D.flat.eq_1) (And.intro (@D.flat.eq_2) (And.intro (@D.flat.eq_3) (And.intro (@D.flat.eq_4) (And.intro (@rid.eq_1) (And.intro (@TI.agg.eq_1) (And.intro (@aGp) (And.intro (@aIS) (And.intro (@aHD) (And.intro (@aHp) (And.intro (@aKg) (And.intro (@aM4) (And.intro (@aKm) (And.intro (@aA0.eq_1) (And.intro (@aG9) (And.intro (@aG2) (And.intro (@aMD) (And.intro (@aKx) (And.intro (@St.aBa) (And.intro (@St.aI0) (And.intro (@St.aJR) (And.intro (@St.aFk) (And.intro (@aJQ) (@aJh)))))))))))))))))))))))))))))))))))))))))))))))))))))))))))))))))))))))))))))))))))))))))))))))))))))))))))))))))))))))))))))))))))))))))))))))))))))))))))))))))))))))))))):=
 And.intro (@aB2.eq_1) (And.intro (@aB2.eq_2) (And.intro (@aBM.eq_1) (And.intro (@aBM.eq_2) (And.intro (@evG.eq_1) (And.intro (@uI.eq_1) (And.intro (@vOp.eq_1) (And.intro (@vOp.eq_2) (And.intro (@vOp.eq_3) (And.intro (@vOp.eq_4) (And.intro (@aN7.eq_1) (And.intro (@aN7.eq_2) (And.intro (@put.eq_1) (And.intro (@put.eq_2) (And.intro (@ex.eq_1) (And.intro (@ex.eq_2) (And.intro (@ex.eq_3) (And.intro (@ex.eq_4) (And.intro (@ex.eq_5) (And.intro (@ex.eq_6) (And.intro (@ex.eq_7) (And.intro (@ex.eq_8) (And.intro (@exF.eq_1) (And.intro (@exF.eq_2) (And.intro (@exF.eq_3) (And.intro (@exF.eq_4) (And.intro (@exF.eq_5) (And.intro (@exF.eq_6) (And.intro (@exF.eq_7) (And.intro (@exF.eq_8) (And.intro (@cst.eq_1) (And.intro (@cst.eq_2) (And.intro (@cst.eq_3) (And.intro (@cst.eq_4) (And.intro (@one.eq_1) (And.intro (@vW.eq_1) (And.intro (@vW.eq_2) (And.intro (@vW.eq_3) (And.intro (@vW.eq_4) (And.intro (@aDL.eq_1) (And.intro (@aDL.eq_2) (And.intro (@aDL.eq_3) (And.intro (@aDL.eq_4) (And.intro (@aCp.eq_1) (And.intro (@aBI.eq_1) (And.intro (@aBI.eq_2) (And.intro (@sC.eq_1) (And.intro (@sC.eq_2) (And.intro (@sC.eq_3) (And.intro (@sC.eq_4) (And.intro (@sC.eq_5) (And.intro (@sC.eq_6) (And.intro (@sC.eq_7) (And.intro (@sC.eq_8) (And.intro (@sC.eq_9) (And.intro (@aBg.eq_1) (And.intro (@aBg.eq_2) (And.intro (@jB.eq_1) (And.intro (@jB.eq_2) (And.intro (@jB.eq_3) (And.intro (@jB.eq_4) (And.intro (@jB.eq_5) (And.intro (@aAm.eq_1) (And.intro (@aAm.eq_2) (And.intro (@aA5.eq_1) (And.intro (@aA5.eq_2) (And.intro (@aEl.eq_1) (And.intro (@aBK.eq_1) (And.intro (@aBK.eq_2) (And.intro (@aBK.eq_3) (And.intro (@aBK.eq_4) (And.intro (@aBK.eq_5) (And.intro (@aHC.eq_1) (And.intro (@aHC.eq_2) (And.intro (@RC.ed.eq_1) (And.intro (@RC.ed.eq_2) (And.intro (@RC.ed.eq_3) (And.intro (@RC.ed.eq_4) (And.intro (@aK8.eq_1) (And.intro (@aK8.eq_2) (And.intro (@aK8.eq_3) (And.intro (@aGy.eq_1) (And.intro (@aCz.eq_1) (And.intro (@aCz.eq_2) (And.intro (@aCz.eq_3) (And.intro (@aCz.eq_4) (And.intro (@aCz.eq_5) (And.intro (@aFj.eq_1) (And.intro (@aFj.eq_2) (And.intro (@zI.eq_1) (And.intro (@zI.eq_2) (And.intro (@rows.eq_1) (And.intro (@rows.eq_2) (And.intro (@gB.eq_1) (And.intro (@gB.eq_2) (And.intro (@gB.eq_3) (And.intro (@gB.eq_4) (And.intro (@gB.eq_5) (And.intro (@gB.eq_6) (And.intro (@gB.eq_7) (And.intro (@gB.eq_8) (And.intro (@gB.eq_9) (And.intro (@gB.eq_10) (And.intro (@gB.eq_11) (And.intro (@gB.eq_12) (And.intro (@gB.eq_13) (And.intro (@gB.eq_14) (And.intro (@gB.eq_15) (And.intro (@gB.eq_16) (And.intro (@gB.eq_17) (And.intro (@aBZ.eq_1) (And.intro (@aBZ.eq_2) (And.intro (@aBZ.eq_3) (And.intro (@aBZ.eq_4) (And.intro (@aBZ.eq_5) (And.intro (@aBZ.eq_6) (And.intro (@lenOf.eq_1) (And.intro (@lenOf.eq_2) (And.intro (@lenOf.eq_3) (And.intro (@lenOf.eq_4) (And.intro (@aDF.eq_1) (And.intro (@aDF.eq_2) (And.intro (@aDF.eq_3) (And.intro (@aDF.eq_4) (And.intro (@aD6.eq_1) (And.intro (@aD6.eq_2) (And.intro (@aCl.eq_1) (And.intro (@aCl.eq_2) (And.intro (@aCl.eq_3) (And.intro (@rZ.eq_1) (And.intro (@rZ.eq_2) (And.intro (@rZ.eq_3) (And.intro (@vG.eq_1) (And.intro (@vG.eq_2) (And.intro (@vG.eq_3) (And.intro (@vG.eq_4) (And.intro (@aAV.eq_1) (And.intro (@aAV.eq_2) (And.intro (@aAV.eq_3) (And.intro (@aAV.eq_4) (And.intro (@aIk.eq_1) (And.intro (@aFs.eq_1) (And.intro (@aFs.eq_2) (And.intro (@sA.eq_1) (And.intro (@sA.eq_2) (And.intro (@sA.eq_3) (And.intro (@sA.eq_4) (And.intro (@aGR.eq_1) (And.intro (@D.flat.eq_1) (And.intro (@D.flat.eq_2) (And.intro (@D.flat.eq_3) (And.intro (@D.flat.eq_4) (And.intro (@rid.eq_1) (And.intro (@TI.agg.eq_1) (And.intro (@aGp) (And.intro (@aIS) (And.intro (@aHD) (And.intro (@aHp) (And.intro (@aKg) (And.intro (@aM4) (And.intro (@aKm) (And.intro (@aA0.eq_1) (And.intro (@aG9) (And.intro (@aG2) (And.intro (@aMD) (And.intro (@aKx) (And.intro (@St.aBa) (And.intro (@St.aI0) (And.intro (@St.aJR) (And.intro (@St.aFk) (And.intro (@aJQ) (@aJh)))))))))))))))))))))))))))))))))))))))))))))))))))))))))))))))))))))))))))))))))))))))))))))))))))))))))))))))))))))))))))))))))))))))))))))))))))))))))))))))))))))))))))
theorem L:type_of% (And.intro (@List.take_succ_cons.{0}) (And.intro (@List.take_zero.{0}) (And.intro (@List.drop_succ_cons.{0}) (And.intro (@List.drop_zero.{0}) (And.intro (@List.map_cons.{0,0}) (And.intro (@List.map_nil.{0,0}) (And.intro (@List.cons_append.{0}) (And.intro (@List.nil_append.{0}) (And.intro (@List.append_nil.{0}) (And.intro (@List.length_cons.{0}) (And.intro (@List.length_nil.{0}) (And.intro (@List.getElem?_cons_zero.{0}) (And.intro (@List.getElem?_cons_succ.{0}) (And.intro (@List.take_nil.{0}) (And.intro (@List.drop_nil.{0}) (And.intro (@List.getElem?_map.{0,0}) (And.intro (@Option.map_some.{0,0}) (And.intro (@Option.bind_some.{0,0}) (And.intro (@List.length_map.{0,0}) (And.intro (@List.replicate_succ.{0}) (And.intro (@List.replicate_zero.{0}) (And.intro (@List.flatten_cons.{0}) (And.intro (@List.flatten_nil.{0}) (And.intro (@List.getElem?_toArray.{0}) (And.intro (@List.toList_toArray.{0}) (And.intro (@aJu) (And.intro (@aLF) (And.intro (@List.any_cons.{0}) (And.intro (@List.any_nil.{0}) (And.intro Bool.or_true (And.intro Bool.true_or (And.intro Bool.or_false (And.intro Bool.false_or (And.intro Bool.and_true (And.intro Bool.true_and (And.intro Bool.and_false (And.intro Bool.false_and (And.intro true_and (And.intro and_true (and_self)))))))))))))))))))))))))))))))))))))))):=
 And.intro (@List.take_succ_cons.{0}) (And.intro (@List.take_zero.{0}) (And.intro (@List.drop_succ_cons.{0}) (And.intro (@List.drop_zero.{0}) (And.intro (@List.map_cons.{0,0}) (And.intro (@List.map_nil.{0,0}) (And.intro (@List.cons_append.{0}) (And.intro (@List.nil_append.{0}) (And.intro (@List.append_nil.{0}) (And.intro (@List.length_cons.{0}) (And.intro (@List.length_nil.{0}) (And.intro (@List.getElem?_cons_zero.{0}) (And.intro (@List.getElem?_cons_succ.{0}) (And.intro (@List.take_nil.{0}) (And.intro (@List.drop_nil.{0}) (And.intro (@List.getElem?_map.{0,0}) (And.intro (@Option.map_some.{0,0}) (And.intro (@Option.bind_some.{0,0}) (And.intro (@List.length_map.{0,0}) (And.intro (@List.replicate_succ.{0}) (And.intro (@List.replicate_zero.{0}) (And.intro (@List.flatten_cons.{0}) (And.intro (@List.flatten_nil.{0}) (And.intro (@List.getElem?_toArray.{0}) (And.intro (@List.toList_toArray.{0}) (And.intro (@aJu) (And.intro (@aLF) (And.intro (@List.any_cons.{0}) (And.intro (@List.any_nil.{0}) (And.intro Bool.or_true (And.intro Bool.true_or (And.intro Bool.or_false (And.intro Bool.false_or (And.intro Bool.and_true (And.intro Bool.true_and (And.intro Bool.and_false (And.intro Bool.false_and (And.intro true_and (And.intro and_true (and_self)))))))))))))))))))))))))))))))))))))))
theorem F:type_of% (And.intro (@List.set_cons_zero.{0}) (And.intro (@List.set_cons_succ.{0}) (And.intro (@St.aBa) (And.intro (@St.aI0) (And.intro (@St.aJR) (And.intro (@St.aFk) (And.intro (@aJQ) (And.intro (@aJh) (And.intro (@List.map_append.{0,0}) (And.intro (@List.map_cons.{0,0}) (And.intro (@List.map_nil.{0,0}) (And.intro (@List.map_set.{0,0}) (And.intro (@List.map_replicate.{0,0}) (And.intro (@List.append_nil.{0}) (And.intro (@List.nil_append.{0}) (And.intro (@List.cons_append.{0}) (And.intro (@List.getElem?_cons_zero.{0}) (And.intro (@List.getElem?_cons_succ.{0}) (And.intro Bool.and_true (Bool.true_and)))))))))))))))))))):=
 And.intro (@List.set_cons_zero.{0}) (And.intro (@List.set_cons_succ.{0}) (And.intro (@St.aBa) (And.intro (@St.aI0) (And.intro (@St.aJR) (And.intro (@St.aFk) (And.intro (@aJQ) (And.intro (@aJh) (And.intro (@List.map_append.{0,0}) (And.intro (@List.map_cons.{0,0}) (And.intro (@List.map_nil.{0,0}) (And.intro (@List.map_set.{0,0}) (And.intro (@List.map_replicate.{0,0}) (And.intro (@List.append_nil.{0}) (And.intro (@List.nil_append.{0}) (And.intro (@List.cons_append.{0}) (And.intro (@List.getElem?_cons_zero.{0}) (And.intro (@List.getElem?_cons_succ.{0}) (And.intro Bool.and_true (Bool.true_and)))))))))))))))))))
end Go.Sh
namespace Go.Sh
set_option linter.unusedVariables false
set_option linter.unusedSimpArgs false
open Go.RowKit
def Gho (base:Nat) (w0:W0) (N:Nat) (s s':St):Prop:=∀a w,Rel base w0 N s a w→Rel base w0 N s' a w
theorem aSZ {α β:Type} {f:α→β} {K:α} {r:β} (h:f K=r) : ∃kk,kk=K∧f kk=r:=⟨K,rfl,h⟩
section
variable {P:Program} {base N:Nat} {w0:W0} {Z:St→Prop} {k:List Fr} {s s' s'':St}
theorem Gho.refl (s:St):Gho base w0 N s s:=fun _ _ h=>h
theorem Gho.trans (h:Gho base w0 N s s') (h':Gho base w0 N s' s''):Gho base w0 N s s'':=fun a w R=>h' a w (h a w R)
theorem aN6 {c:Code} {Q:Exit→St→Prop} (hg:Gho base w0 N s s') (h:SW P base w0 N c s' Q):SW P base w0 N c s Q:=fun a w R=>h a w (hg a w R)
theorem aK1 {c:Code} (I:Nat→St→Prop) (n:Nat) (h0:I n s) (h : ∀m s,I m s→SW P base w0 N c s (aft P base w0 N Z (.inv (fun s'=>∃s'',Gho base w0 N s' s'' ∧ ∃m',m'<m∧I m' s'')::k))):SW P base w0 N (.loop c) s (aft P base w0 N Z k):=by
 intro a w R
 refine wp_loop_ghost (fun m a w=>∃s,I m s∧Rel base w0 N s a w) n ⟨s,h0,R⟩ ?_
 rintro m a w ⟨s,h1,R⟩
 refine wp_mono (h m s h1 a w R) ?_
 rintro e a' w' ⟨s',h2,h3⟩
 cases e with
 | normal=>obtain ⟨s'',hg,m',h4,h5⟩:=h2;exact ⟨m',h4,s'',h5,hg _ _ h3⟩
 | _=>exact ⟨s',h2,h3⟩
theorem aKw {g:Gh} {a:Act} {w:World} {j K vj:Nat} {e:TypeId} {sz:Nat} {xs:List (List D)} {dp:Bool} (R:jV base w0 N g s a w []) (h2:s.h j=(vj,.row e sz xs dp)) :
  ∃g',jV base w0 N g' ((s.hH j (vj,.none)).hH K ((s.h K).1+1,.row e sz xs dp)) a w []∧iZ g g' s.h ((s.hH j (vj,.none)).hH K ((s.h K).1+1,.row e sz xs dp)).h w w ∧
   ∀v,aAN g s.h w (.row j vj) v→aAN g' ((s.hH j (vj,.none)).hH K ((s.h K).1+1,.row e sz xs dp)).h w (.row K ((s.h K).1+1)) v:=by
 have hj1:(s.h j).1=vj:=by rw [h2]
 have hj2:(s.h j).2 = .row e sz xs dp:=by rw [h2]
 have hob:=R.inv.obj j
 rw [hj2] at hob
 obtain ⟨cells,p1,p2,p3,p4,p5⟩:=hob
 obtain ⟨I1,hfr⟩:=R.inv.aCD hj2
 rw [hj1] at I1 hfr
 have T1:iZ g g s.h (lO s.h j (vj,.none)) w w:=by have:=iZ.drop (g:=g) (h:=s.h) (w:=w) j g.S fun _ x=>x;rw [hj1] at this;exact this
 have hver:(lO s.h j (vj,.none) K).1=(s.h K).1:=by
  by_cases hk:K=j
  ·subst hk;rw [bL,hj1]
  ·rw [fQ _ _ _ _ hk]
 have I2:=I1.aCQ (i:=K) (v:=g.val j) (e:=e) (sz:=sz) (xs:=xs) (dp:=dp) (cells:=cells) (F:=g.fp j) (pool':=[]) p1 p2 p3 p4 hfr (by simp) List.nodup_nil (fun hd=>by
  subst hd
  simp only [if_true,List.nil_append]
  exact ⟨(p5 rfl).1,fun b hb=>⟨hb,by simp⟩⟩)
 have T2:=iZ.create (g:=g) (h:=lO s.h j (vj,.none)) (w:=w) K (g.val j) (g.fp j) (.row e sz xs dp)
 rw [hver] at I2 T2
 refine ⟨_,R.mQ (T1.trans T2) rfl R.below I2,T1.trans T2,?_⟩
 rintro v ⟨h0,_,hv⟩
 refine ⟨h0,?_,?_⟩
 ·show _≤(lO _ K _ K).1
  rw [bL];exact Nat.le_refl _
 ·intro _ e' sz' xs' dp' _
  show v=aE5 g.val K (g.val j) K
  rw [fD]
  exact hv hj1 e sz xs dp hj2
theorem aMs {g:Gh} {a:Act} {w:World} {K:Nat} (e:TypeId) (sz:Nat) (R:jV base w0 N g s a w []) :
  ∃g',jV base w0 N g' (s.hH K ((s.h K).1+1,.row e sz [] true)) a w []∧iZ g g' s.h (s.hH K ((s.h K).1+1,.row e sz [] true)).h w w ∧
   ∀v,aAN g s.h w .nil v→aAN g' (s.hH K ((s.h K).1+1,.row e sz [] true)).h w (.row K ((s.h K).1+1)) v:=by
 have I2:=R.inv.aCQ (i:=K) (v:=.slice none 0 0) (e:=e) (sz:=sz) (xs:=[]) (dp:=true) (cells:=[]) (F:=[]) (pool':=[]) (World.ownsRow_nil w base e sz) (by simp) (by simp [aP]) (by simp) (by intro b hb;cases hb) (by simp) List.nodup_nil (fun _=>⟨List.nodup_nil,by simp⟩)
 have T2:=iZ.create (g:=g) (h:=s.h) (w:=w) K (.slice none 0 0) [] (.row e sz [] true)
 refine ⟨_,R.mQ T2 rfl R.below I2,T2,?_⟩
 intro v hv
 have hv:v = .slice none 0 0:=hv
 subst hv
 refine ⟨rfl,?_,?_⟩
 ·show _≤(lO _ K _ K).1
  rw [bL];exact Nat.le_refl _
 ·intro _ e' sz' xs' dp' _
  show _=aE5 g.val K _ K
  rw [fD]
theorem aLH {g:Gh} {a:Act} {w:World} {i:Nat} {sv:SV} (R:jV base w0 N g s a w []) (hv:nI g s.h w sv (a.tmps.getD i undef)):jV base w0 N g (s.aC2 i sv) a w []:=by
 refine ⟨R.defers,R.size,R.below,R.q,R.nR,R.inv,fun t => ?_⟩
 rw [St.aBa]
 by_cases ht:t=i
 ·subst ht;simp only [if_true];exact hv
 ·simp only [ht,if_false];exact R.tmp t
theorem Gho.aMF {i j K vj:Nat} {e:TypeId} {sz:Nat} {xs:List (List D)} {dp:Bool} (h1:s.t i = .v false [.row j vj]) (h2:s.h j=(vj,.row e sz xs dp)) :
  Gho base w0 N s (((s.hH j (vj,.none)).hH K ((s.h K).1+1,.row e sz xs dp)).aC2 i (.v false [.row K ((s.h K).1+1)])):=by
 rintro a w ⟨g,R⟩
 have ht:=R.tmp i
 rw [h1] at ht
 obtain ⟨g',R',T,hc⟩:=aKw (K:=K) R h2
 exact ⟨g',aLH R' ⟨_,[],rfl,hc _ (eN ht),rfl⟩⟩
theorem Gho.aQp {i K:Nat} (e:TypeId) (sz:Nat) (h1:s.t i = .v false [.nil]) :
  Gho base w0 N s ((s.hH K ((s.h K).1+1,.row e sz [] true)).aC2 i (.v false [.row K ((s.h K).1+1)])):=by
 rintro a w ⟨g,R⟩
 have ht:=R.tmp i
 rw [h1] at ht
 obtain ⟨g',R',T,hc⟩:=aMs (K:=K) e sz R
 exact ⟨g',aLH R' ⟨_,[],rfl,hc _ (eN ht),rfl⟩⟩
theorem aZ.set {g:Gh} {h:Heap} {w:World} : ∀ {cs:List SC} {vs:List Value} (c:Nat) (x y:SC),aZ g h w cs vs→cs[c]? = some x→(∀v,aAN g h w x v→aAN g h w y v)→aZ g h w (cs.set c y) vs
 | [],vs,c,x,y,hc,hx,_=>by simp at hx
 | z::cs,vs,0,x,y,hc,hx,hxy=>by
  obtain ⟨v,vs',rfl,h1,h2⟩:=hc
  simp at hx
  subst hx
  exact ⟨v,vs',rfl,hxy v h1,h2⟩
 | z::cs,vs,c+1,x,y,hc,hx,hxy=>by
  obtain ⟨v,vs',rfl,h1,h2⟩:=hc
  exact ⟨v,vs',rfl,h1,aZ.set c x y h2 (by simpa using hx) hxy⟩
theorem aPS {g:Gh} {a:Act} {w:World} {b vb b':Nat} {t:TypeId} {cells cells':List SC} {vals:Array Value} (R:jV base w0 N g s a w []) (hb:s.h b=(vb,.box t cells)) (h3:g.val b = .pointer (some ⟨b',0,none⟩)) (h5:w.heap[b']? = some (.cells vals t (0,0))) (hc:aZ g s.h w cells' vals.toList) :
  ∃g',jV base w0 N g' (s.hH b (vb,.box t cells')) a w []:=by
 have hb1:(s.h b).1=vb:=by rw [hb]
 have hb2:(s.h b).2 = .box t cells:=by rw [hb]
 have hlive:live s.h b:=by unfold live;rw [hb2];simp
 have hown:aBk (g.val b)=some b':=by rw [h3];rfl
 have hnS:=R.inv.mtb b b' hlive hown
 have T:iZ g { g with fp:=aE5 g.fp b (g.fp b) } s.h (lO s.h b ((s.h b).1,.box t cells')) w w:=
  iZ.aET hnS (fun _ _=>rfl) (by intro e sz xs dp hh';cases hh') (by intro t0 cs0 hh';cases hh';exact ⟨_,hb2⟩)
 have I':=R.inv.aET (i:=b) (b:=b') (F:=g.fp b) (pool':=[]) (w':=w) hlive hown rfl (fun _ _=>rfl) T
  ⟨b',vals,h3,(R.inv.aDo hlive hown).1,h5,hc.mQ T⟩ (by simp) List.nodup_nil (by rintro ⟨_,_,_,hh'⟩;cases hh')
 rw [hb1] at T I'
 exact ⟨_,R.mQ T rfl R.below I'⟩
theorem aGb {g g':Gh} {a:Act} {w:World} {b vb c:Nat} {t:TypeId} {cells:List SC} {x y:SC} (R:jV base w0 N g s a w []) (R':jV base w0 N g' s' a w []) (T:iZ g g' s.h s'.h w w) (h0:s.h b=(vb,.box t cells)) (h0':s'.h b=(vb,.box t cells)) (h1:cells[c]? = some x)
  (hc : ∀v,aAN g s.h w x v→aAN g' s'.h w y v):Rel base w0 N (s'.hH b (vb,.box t (cells.set c y))) a w:=by
 have hob:=R.inv.obj b
 rw [show (s.h b).2 = .box t cells from by rw [h0]] at hob
 obtain ⟨b',vals,h3,h4,h5,h6⟩:=hob
 have hv:g'.val b=g.val b:=(T.box b t cells (by rw [h0',h0]) (by rw [h0'])).1
 have hnew : ∀ {cs:List SC} {vs:List Value} (c:Nat),aZ g s.h w cs vs→cs[c]? = some x→aZ g' s'.h w (cs.set c y) vs:=by
  intro cs
  induction cs with
  | nil=>intro vs c _ hx;simp at hx
  | cons z cs ih =>
   intro vs c hA hx
   obtain ⟨v,vs',rfl,k1,k2⟩:=hA
   cases c with
   | zero=>simp at hx;subst hx;exact ⟨v,vs',rfl,hc v k1,k2.mQ T⟩
   | succ c=>exact ⟨v,vs',rfl,k1.mQ T,ih c k2 (by simpa using hx)⟩
 exact aPS R' h0' (hv.trans h3) h5 (hnew c h6 h1)
theorem Gho.aQ3 {b vb c j K vj:Nat} {t:TypeId} {cells:List SC} {e:TypeId} {sz:Nat} {xs:List (List D)} {dp:Bool} (h0:s.h b=(vb,.box t cells)) (h1:cells[c]? = some (.row j vj)) (h2:s.h j=(vj,.row e sz xs dp)) (hk:b≠K) :
  Gho base w0 N s (((s.hH j (vj,.none)).hH K ((s.h K).1+1,.row e sz xs dp)).hH b (vb,.box t (cells.set c (.row K ((s.h K).1+1))))):=by
 rintro a w ⟨g,R⟩
 have hjb:b≠j:=fun e=>by rw [e,h2] at h0;cases h0
 obtain ⟨g',R',T,hc⟩:=aKw (K:=K) R h2
 refine aGb R R' T h0 ?_ h1 hc
 show lO (lO s.h j _) K _ b=_
 rw [fQ _ _ _ _ hk,fQ _ _ _ _ hjb,h0]
theorem Gho.aQi {b vb c K:Nat} {t:TypeId} {cells:List SC} (e:TypeId) (sz:Nat) (h0:s.h b=(vb,.box t cells)) (h1:cells[c]? = some .nil) (hk:b≠K) :
  Gho base w0 N s ((s.hH K ((s.h K).1+1,.row e sz [] true)).hH b (vb,.box t (cells.set c (.row K ((s.h K).1+1))))):=by
 rintro a w ⟨g,R⟩
 obtain ⟨g',R',T,hc⟩:=aMs (K:=K) e sz R
 refine aGb R R' T h0 ?_ h1 hc
 show lO s.h K _ b=_
 rw [fQ _ _ _ _ hk,h0]
theorem sq {x y:Code} (h:SW P base w0 N x s (aft P base w0 N Z (.code y::k))):SW P base w0 N (.seq x y) s (aft P base w0 N Z k):=aPA h
theorem bk {id:Nat} {c:Code} (h:SW P base w0 N c s (aft P base w0 N Z (.block id::k))):SW P base w0 N (.block id c) s (aft P base w0 N Z k):=aNv h
theorem sk (h:aft P base w0 N Z k .normal s):SW P base w0 N .skip s (aft P base w0 N Z k):=aOQ h
theorem xt {id:Nat} (h:aft P base w0 N Z k (.exit id) s):SW P base w0 N (.exit id) s (aft P base w0 N Z k):=aOX h
theorem rt (h:Z s):SW P base w0 N .ret s (aft P base w0 N Z k):=aPH h
theorem an {c:Code} (h:SW P base w0 N c s (aft P base w0 N Z k)):aft P base w0 N Z (.code c::k) .normal s:=h
theorem ab {id:Nat} (h:aft P base w0 N Z k .normal s):aft P base w0 N Z (.block id::k) .normal s:=h
end
end Go.Sh
namespace Go.Sh
set_option linter.unusedVariables false
set_option linter.unusedSimpArgs false
open Go.RowKit
section
variable {P:Program} {base N:Nat} {w0:W0} {Z:St→Prop} {k:List Fr} {s s':St}
theorem aZ.swap {g g':Gh} {h h':Heap} {w:World} {x y:SC} (T:iZ g g' h h' w w) (hc : ∀v,aAN g h w x v→aAN g' h' w y v) : ∀ {cs:List SC} {vs:List Value} (c:Nat),aZ g h w cs vs→cs[c]? = some x→aZ g' h' w (cs.set c y) vs
 | [],_,c,_,hx=>by simp at hx
 | z::cs,vs,0,hA,hx=>by
  obtain ⟨v,vs',rfl,k1,k2⟩:=hA
  simp at hx
  subst hx
  exact ⟨v,vs',rfl,hc v k1,k2.mQ T⟩
 | z::cs,vs,c+1,hA,hx=>by
  obtain ⟨v,vs',rfl,k1,k2⟩:=hA
  exact ⟨v,vs',rfl,k1.mQ T,aZ.swap T hc c k2 (by simpa using hx)⟩
end
end Go.Sh
namespace Go.Sh
set_option linter.unusedVariables false
set_option linter.unusedSimpArgs false
open Go.RowKit
def aM9 (B:Nat) (us:Nat→Value):Nat→List D→List SC
 | _,[]=>[]
 | k,d::ds=>.old B d (some (us k))::aM9 B us (k+1) ds
theorem aK5 (B:Nat) (us:Nat→Value) (k:Nat):aM9 B us k []=[]:=rfl
theorem aJi (B:Nat) (us:Nat→Value) (k:Nat) (d:D) (ds:List D):aM9 B us k (d::ds) = .old B d (some (us k))::aM9 B us (k+1) ds:=rfl
def aNm (B:Nat) (us:Nat→Value) (x y:List D):St:=
 { t:=fun i=>if i=0 then .v true (x.map .dat) else if i=1 then .v true (aM9 B us 0 y) else .undef,h:=fun _=>(0,.none) }
theorem aMp (B:Nat) (us:Nat→Value) (x y:List D) (i:Nat):(aNm B us x y).t i=if i=0 then .v true (x.map .dat) else if i=1 then .v true (aM9 B us 0 y) else .undef:=rfl
theorem aLv (B:Nat) (us:Nat→Value) (x y:List D) (i:Nat):(aNm B us x y).h i=(0,.none):=rfl
theorem aHi (B:Nat) (d:D) (u:Option Value) (cs:List SC) (k:List D→Prog):sC (.old B d u::cs) k=sC cs fun ds=>k (d::ds):=rfl
def aRA (T:aGE) (vars:List ResultVar) (B:Nat) (us:Nat→Value) (y:List D) (s:St):Prop:=aEX T s vars=some [(true,aM9 B us 0 y),(false,[.dat (.bool true)])]
theorem aMt {g:Gh} {h:Heap} {w:World} {B:Nat} {us:Nat→Value} : ∀ {ds:List D} {vs:List Value} {F:List Nat} (k:Nat),aK w ds vs F→(∀b∈F,g.S b∧b<B)→(∀i v,vs[i]? = some v→v=us (k+i))→aZ g h w (aM9 B us k ds) vs
 | [],vs,F,k,hr,_,_=>by simp only [aK] at hr;exact hr.1
 | d::ds,vs,F,k,hr,hF,hu=>by
  simp only [aK] at hr
  obtain ⟨v,vs',F1,F2,rfl,rfl,h3,h4⟩:=hr
  refine ⟨v,vs',rfl,⟨F1,h3,fun b hb=>hF b (by simp [hb]),fun x hx => ?_⟩,aMt (k+1) h4 (fun b hb=>hF b (by simp [hb])) fun i u hi => ?_⟩
  ·cases hx
   exact hu 0 v rfl
  ·rw [hu (i+1) u (by simpa using hi)]
   congr 1
   omega
theorem aMi {g:Gh} {h:Heap} {w:World} {B:Nat} {us:Nat→Value} : ∀ {ds:List D} {vs:List Value} (k:Nat),aZ g h w (aM9 B us k ds) vs→vs.length=ds.length ∧ ∀i v,vs[i]? = some v→v=us (k+i)
 | [],vs,k,hr=>by
  rw [show vs=[] from hr]
  exact ⟨rfl,fun i v hv=>by simp at hv⟩
 | d::ds,vs,k,hr=>by
  obtain ⟨v,vs',rfl,⟨F,_,_,h3⟩,h4⟩:=hr
  obtain ⟨k1,k2⟩:=aMi (k+1) h4
  refine ⟨by simp [k1],fun i u hu => ?_⟩
  cases i with
  | zero=>simp at hu;rw [←hu];exact h3 _ rfl
  | succ i =>
   rw [k2 i u (by simpa using hu)]
   congr 1
   omega
theorem aOT {P : Program} {f : FuncId} {fn : Func} {c : Code} {x y : List D} {N : Nat} {vars : List ResultVar} (hf : P.funcs[f]? = some fn) (hb : fn.body = some c) (hN : fn.ntmps = N) (hv : fn.results.toList = vars) (hnm : (fn.name == "runtime.NumGoroutine") = false) (hn : 2 ≤ N)
  (h : ∀(base:Nat) (w0:W0) (us:Nat→Value),SW P base w0 N c (aNm base us x y) (aft P base w0 N (aRA (dF P) vars base us y) [])):nM P f [(true,x),(true,y)] [(false,[.edit .pass])]:=by
 subst hN hv
 refine .inr ⟨.pass,rfl,⟨fn,c,hf,hb,hnm⟩,fun w v1 v2 Fa ha => ?_⟩
 have hFlt:=aId (vs:=[v1,v2]) ha
 obtain ⟨F1,F',e1,h1,F2,F3,e2,h2,h3⟩:=ha
 have e3:F3=[]:=h3
 subst e3 e2 e1
 obtain ⟨c1,rfl,r1⟩:=h1
 obtain ⟨c2,rfl,r2⟩:=h2
 refine calls_of_wp hf hb ?_
 let us:Nat→Value:=fun i=>c2.toList.getD i undef
 let g:Gh:={ val:=fun _=>undef,fp:=fun _=>[],S:=fun b=>b∈F1++(F2++[]),Q:=fun b=>b∈F1++(F2++[]) }
 have R:Rel w.heap.size ⟨w,fun b=>b∈F1++(F2++[]),noK⟩ fn.ntmps (aNm w.heap.size us x y) { tmps := #[.agg c1,.agg c2]++Array.replicate (fn.ntmps-2) undef,defers:=[] } w:=by
  refine ⟨g,rfl,by simp;omega,Below.refl _ _,fun _ x=>x,fun _ x=>x.elim,⟨Nat.le_refl _,fun _ x _=>x,hFlt,fun i=>trivial,fun i b hl=>absurd rfl hl,fun i j b _ hl=>absurd rfl hl,?_,xZ.nil _ _,by simp,fun i hd=>by obtain ⟨_,_,_,hd⟩:=hd;cases hd⟩,fun t => ?_⟩
  ·rintro i j _ ⟨_,_,_,hd⟩;cases hd
  ·show nI g _ w (if t=0 then .v true (x.map .dat) else if t=1 then .v true (aM9 w.heap.size us 0 y) else .undef) _
   by_cases h0:t=0
   ·subst h0
    rw [if_pos rfl]
    exact ⟨c1,by rw [Array.getD_eq_getD_getElem?,Array.getElem?_append_left (by simp)];rfl,aZ.aHn r1 fun b hb=>by show b∈F1++(F2++[]);simp [hb]⟩
   ·rw [if_neg h0]
    by_cases h1:t=1
    ·subst h1
     rw [if_pos rfl]
     refine ⟨c2,by rw [Array.getD_eq_getD_getElem?,Array.getElem?_append_left (by simp)];rfl,aMt 0 r2 (fun b hb=>⟨by show b∈F1++(F2++[]);simp [hb],hFlt b (by simp [hb])⟩) fun i v hi => ?_⟩
     show v=c2.toList.getD (0+i) undef
     rw [Nat.zero_add,List.getD_eq_getElem?_getD,hi]
     rfl
    ·rw [if_neg h1]
     show _=undef
     simp only [Array.getD_eq_getD_getElem?,Array.getElem?_append]
     rw [if_neg (by simp;omega)]
     by_cases h2:t-2<fn.ntmps-2
     ·simp [h2]
     ·rw [Array.getElem?_eq_none (by simp;omega)];rfl
 refine wp_mono (h w.heap.size ⟨w,fun b=>b∈F1++(F2++[]),noK⟩ us _ w R) ?_
 rintro e a' w' ⟨s',h1,g',R'⟩
 have fin:aRA (dF P) fn.results.toList w.heap.size us y s'→a'.defers=[] ∧ ∃v,(results fn a'.tmps).run P w' = .ok v w'∧Ending.returned v = .returned (.tuple #[.agg c2,.bool true])∧Below w.heap.size w w':=by
  intro hr
  obtain ⟨vs,k1,k2,k3⟩:=aDf R' hr
  have hrun:=aIg (P:=P) (w:=w') (fun x=>match x with | .tmp t=>(pure (a'.tmps.getD t undef):Sem Value) | .cell p t=>(do loadVar t (←asAddr (a'.tmps.getD p undef)):Sem Value)) fn.results.toList vs (by rw [k1]) k3
  have hrun':(results fn a'.tmps).run P w' = .ok (if h:vs.toArray.size=1 then vs.toArray[0] else .tuple vs.toArray) w':=by
   unfold results
   rw [←Array.toArray_toList (xs:=fn.results)]
   rw [List.mapM_toArray]
   simp only [Sem.run_bind,Sem.run_map,Sem.run_pure]
   exact (congrArg (fun r:Result (List Value)=>(r.andThen fun a w'=>Result.ok a.toArray w').andThen fun a w'=>Result.ok (if h:a.size=1 then a[0] else Value.tuple a) w') hrun).trans rfl
  obtain ⟨u1,vs1,rfl,⟨d2,rfl,m1⟩,u2,vs2,rfl,m2,m3⟩:=k2
  have m3':vs2=[]:=m3
  subst m3'
  have e2:u2 = .bool true:=aBd (g:=g') (s:=s') (w:=w') (b:=true) m2
  subst e2
  obtain ⟨n1,n2⟩:=aMi 0 m1
  have n3:c2.toList.length=y.length:=r2.length
  have e1:d2=c2:=by
   apply Array.ext'
   apply List.ext_getElem?
   intro i
   rcases Nat.lt_or_ge i y.length with hi | hi
   ·have hd:i<d2.toList.length:=by rw [n1];exact hi
    have hc:i<c2.toList.length:=by rw [n3];exact hi
    rw [List.getElem?_eq_getElem hd,List.getElem?_eq_getElem hc]
    have:=n2 i _ (List.getElem?_eq_getElem hd)
    rw [this]
    show some (c2.toList.getD (0+i) undef)=_
    rw [Nat.zero_add,List.getD_eq_getElem?_getD,List.getElem?_eq_getElem hc]
    rfl
   ·rw [List.getElem?_eq_none (by rw [n1];exact hi),List.getElem?_eq_none (by rw [n3];exact hi)]
  subst e1
  exact ⟨R'.defers,_,hrun',rfl,R'.below⟩
 cases e with
 | normal=>exact fin h1
 | ret=>exact fin h1
 | exit id=>exact h1.elim
 | goto l=>exact h1.elim
 | panic c=>exact h1.elim
 | outgrown=>exact h1.elim
theorem LP:type_of% (And.intro @aK5 (And.intro @aJi (And.intro @aMp (And.intro @aLv @aHi)))):=And.intro @aK5 (And.intro @aJi (And.intro @aMp (And.intro @aLv @aHi)))
end Go.Sh
namespace Go.Sh
set_option linter.unusedVariables false
set_option linter.unusedSimpArgs false
open Go.RowKit
end Go.Sh
