/-
  Helper text. No conditions.
-/
import Derived.Test.YtimblbmbfdopgaaGreatShQ
set_option linter.unusedVariables false
set_option linter.unusedSimpArgs false
namespace Go.Sh
open Go.RowKit
structure Frm (F:List Nat) (w w':World):Prop where
 os:w'.os=w.os
 tape:w'.tape=w.tape
 output:w'.output=w.output
 size:w.heap.size≤w'.heap.size
 out : ∀b,b<w.heap.size→b∉F→w'.heap[b]? = w.heap[b]?
 ins : ∀b∈F,∀cur e,w.heap[b]? = some (.cells cur e (0,0)) → ∃cur',w'.heap[b]? = some (.cells cur' e (0,0))∧cur'.size=cur.size
theorem Frm.refl (F:List Nat) (w:World):Frm F w w:=⟨rfl,rfl,rfl,Nat.le_refl _,fun _ _ _=>rfl,fun _ _ cur e h=>⟨cur,h,rfl⟩⟩
theorem aDB {w:World} {b:Nat} {x:_} (h:w.heap[b]? = some x):b<w.heap.size:=(Array.getElem?_eq_some_iff.1 h).1
theorem Frm.trans {F:List Nat} {a b c:World} (h:Frm F a b) (k:Frm F b c):Frm F a c:=
 ⟨k.os.trans h.os,k.tape.trans h.tape,k.output.trans h.output,Nat.le_trans h.size k.size,fun i hi hn=>(k.out i (Nat.lt_of_lt_of_le hi h.size) hn).trans (h.out i hi hn),
  fun i hi cur e hc=>by
   obtain ⟨c1,k1,k2⟩:=h.ins i hi cur e hc
   obtain ⟨c2,k3,k4⟩:=k.ins i hi c1 e k1
   exact ⟨c2,k3,k4.trans k2⟩⟩
theorem Frm.aPb {F:List Nat} {w w':World} (h:Below w.heap.size w w'):Frm F w w':=
 ⟨h.os,h.tape,h.output,h.size,fun b hb _=>h.block b hb,fun b _ cur e hc=>⟨cur,(h.block b (aDB hc)).trans hc,rfl⟩⟩
theorem Frm.mono {F G:List Nat} {w w':World} (h:Frm F w w') (hs : ∀b∈F,b∈G):Frm G w w':=
 ⟨h.os,h.tape,h.output,h.size,fun b hb hn=>h.out b hb fun hm=>hn (hs b hm),fun b _ cur e hc=>by
  by_cases hb:b∈F
  ·exact h.ins b hb cur e hc
  ·exact ⟨cur,(h.out b (aDB hc) hb).trans hc,rfl⟩⟩
theorem Frm.aP4 {F:List Nat} {w w':World} (h:Frm F w w') {b:Nat} (hb:aKT w b):aKT w' b:=by
 obtain ⟨cur,e,hc⟩:=hb
 by_cases hm:b∈F
 ·obtain ⟨c,k,_⟩:=h.ins b hm cur e hc;exact ⟨c,e,k⟩
 ·exact ⟨cur,e,(h.out b (aDB hc) hm).trans hc⟩
def aCe (w:World):List D→List Value→List (List Nat)→Prop
 | [],vs,Fs=>vs=[]∧Fs=[]
 | d::ds,vs,Fs=>∃v vs' F Fs',vs=v::vs'∧Fs=F::Fs'∧Rep w d v F∧aCe w ds vs' Fs'
theorem aCe.length {w:World} : ∀ {ds:List D} {vs:List Value} {Fs:List (List Nat)},aCe w ds vs Fs→vs.length=ds.length
 | [],vs,Fs,h=>by rw [h.1];rfl
 | d::ds,vs,Fs,h=>by obtain ⟨v,vs',F,Fs',rfl,rfl,_,h⟩:=h;simp [aCe.length h]
theorem aCe.lt {w:World} : ∀ {ds:List D} {vs:List Value} {Fs:List (List Nat)},aCe w ds vs Fs → ∀b∈Fs.flatten,b<w.heap.size
 | [],vs,Fs,h=>by rw [h.2];simp
 | d::ds,vs,Fs,h=>by
  obtain ⟨v,vs',F,Fs',rfl,rfl,h1,h2⟩:=h
  intro b hb
  rw [List.flatten_cons] at hb
  rcases List.mem_append.1 hb with hb | hb
  ·exact Rep.lt _ _ _ h1 b hb
  ·exact aCe.lt h2 b hb
theorem aCe.lC {w w':World} : ∀ {ds:List D} {vs:List Value} {Fs:List (List Nat)},aCe w ds vs Fs→(∀b∈Fs.flatten,w'.heap[b]? = w.heap[b]?)→aCe w' ds vs Fs
 | [],vs,Fs,h,_=>h
 | d::ds,vs,Fs,h,hb=>by
  obtain ⟨v,vs',F,Fs',rfl,rfl,h1,h2⟩:=h
  rw [List.flatten_cons] at hb
  exact ⟨v,vs',F,Fs',rfl,rfl,Rep.lC _ _ _ h1 fun b hm=>hb b (by simp [hm]),aCe.lC h2 fun b hm=>hb b (by simp only [qO];exact .inr hm)⟩
theorem aCe.upd {w:World} : ∀ {ds:List D} {vs:List Value} {Fs:List (List Nat)} {i:Nat} {v:Value} {d:D},aCe w ds vs Fs→Fs.flatten.Nodup→vs[i]? = some v→ds[i]? = some d → ∃Fi,Fs[i]? = some Fi∧Rep w d v Fi∧Fi.Nodup∧(∀b∈Fi,b∈Fs.flatten) ∧
  ∀(w':World) (d':D),Rep w' d' v Fi→(∀b∈Fs.flatten,b∉Fi→w'.heap[b]? = w.heap[b]?)→aCe w' (ds.set i d') vs Fs
 | [],vs,Fs,i,v,d,h,hn,hv,hd=>by simp at hd
 | d0::ds,vs,Fs,0,v,d,h,hn,hv,hd=>by
  obtain ⟨u,vs',F,Fs',rfl,rfl,h1,h2⟩:=h
  simp at hv hd
  subst hv hd
  rw [List.flatten_cons,List.nodup_append] at hn
  refine ⟨F,rfl,h1,hn.1,fun b hb=>by simp [hb],fun w' d' hd' hb => ?_⟩
  refine ⟨u,vs',F,Fs',rfl,rfl,hd',h2.lC fun b hm=>hb b (by rw [List.flatten_cons];simp only [qO];exact .inr hm) fun hf=>hn.2.2 b hf b hm rfl⟩
 | d0::ds,vs,Fs,i+1,v,d,h,hn,hv,hd=>by
  obtain ⟨u,vs',F,Fs',rfl,rfl,h1,h2⟩:=h
  rw [List.flatten_cons,List.nodup_append] at hn
  obtain ⟨Fi,k1,k2,k3,k4,k5⟩:=aCe.upd h2 hn.2.1 (by simpa using hv) (by simpa using hd)
  refine ⟨Fi,by simpa using k1,k2,k3,fun b hb=>by rw [List.flatten_cons];simp only [qO];exact .inr (k4 b hb),fun w' d' hd' hb => ?_⟩
  refine ⟨u,vs',F,Fs',rfl,rfl,Rep.lC _ _ _ h1 fun b hm=>hb b (by rw [List.flatten_cons];simp [hm]) fun hf=>hn.2.2 b hm b (k4 b hf) rfl,k5 w' d' hd' fun b hm hf=>hb b (by rw [List.flatten_cons];simp only [qO];exact .inr hm) hf⟩
theorem aCe.append {w:World} : ∀ {ds es:List D} {vs us:List Value} {Fs Gs:List (List Nat)},aCe w ds vs Fs→aCe w es us Gs→aCe w (ds++es) (vs++us) (Fs++Gs)
 | [],es,vs,us,Fs,Gs,h,k=>by rw [h.1,h.2];exact k
 | d::ds,es,vs,us,Fs,Gs,h,k=>by
  obtain ⟨v,vs',F,Fs',rfl,rfl,h1,h2⟩:=h
  exact ⟨v,vs'++us,F,Fs'++Gs,rfl,rfl,h1,aCe.append h2 k⟩
theorem aCe.split {w:World} : ∀(n:Nat) {ds:List D} {vs:List Value} {Fs:List (List Nat)},aCe w ds vs Fs→n≤ds.length→aCe w (ds.take n) (vs.take n) (Fs.take n)∧aCe w (ds.drop n) (vs.drop n) (Fs.drop n)
 | 0,ds,vs,Fs,h,_=>⟨by simp [aCe],by simpa using h⟩
 | n+1,[],vs,Fs,h,hn=>by simp at hn
 | n+1,d::ds,vs,Fs,h,hn=>by
  obtain ⟨v,vs',F,Fs',rfl,rfl,h1,h2⟩:=h
  obtain ⟨k1,k2⟩:=aCe.split n h2 (by simpa using hn)
  exact ⟨⟨v,vs'.take n,F,Fs'.take n,rfl,rfl,h1,k1⟩,k2⟩
theorem aCe.mid {w:World} {ds:List D} {vs:List Value} {Fs:List (List Nat)} (off n:Nat) (h:aCe w ds vs Fs) (hn:Fs.flatten.Nodup) (hle:off+n≤ds.length) :
  aCe w ((ds.drop off).take n) ((vs.drop off).take n) ((Fs.drop off).take n)∧((Fs.drop off).take n).flatten.Nodup∧(∀b∈((Fs.drop off).take n).flatten,b∈Fs.flatten) ∧
   ∀(w':World) (es:List D),aCe w' es ((vs.drop off).take n) ((Fs.drop off).take n)→(∀b∈Fs.flatten,b∉((Fs.drop off).take n).flatten→w'.heap[b]? = w.heap[b]?)→aCe w' (ds.take off++(es++ds.drop (off+n))) vs Fs:=by
 obtain ⟨k1,k2⟩:=aCe.split off h (by omega)
 obtain ⟨k3,k4⟩:=aCe.split n k2 (by rw [qT];omega)
 have e1:Fs=Fs.take off++((Fs.drop off).take n++(Fs.drop off).drop n):=by rw [List.take_append_drop,List.take_append_drop]
 have e2:vs=vs.take off++((vs.drop off).take n++(vs.drop off).drop n):=by rw [List.take_append_drop,List.take_append_drop]
 rw [e1,List.flatten_append,List.flatten_append,List.nodup_append,List.nodup_append] at hn
 obtain ⟨n1,⟨n2,n3,n4⟩,n5⟩:=hn
 have hsub : ∀b∈((Fs.drop off).take n).flatten,b∈Fs.flatten:=by
  intro b hb
  rw [e1,List.flatten_append,List.flatten_append]
  simp only [qO]
  exact .inr (.inl hb)
 refine ⟨k3,n2,hsub,fun w' es he hb => ?_⟩
 have hmem : ∀b,b∈(Fs.take off).flatten∨b∈((Fs.drop off).drop n).flatten→b∈Fs.flatten:=by
  intro b hb
  rw [e1,List.flatten_append,List.flatten_append]
  simp only [qO]
  rcases hb with hb | hb
  ·exact .inl hb
  ·exact .inr (.inr hb)
 have q1:aCe w' (ds.take off) (vs.take off) (Fs.take off):=k1.lC fun b hm=>hb b (hmem b (.inl hm)) fun hf=>n5 b hm b (by simp only [qO];exact .inl hf) rfl
 have q2:aCe w' (ds.drop (off+n)) ((vs.drop off).drop n) ((Fs.drop off).drop n):=by
  rw [←List.drop_drop]
  exact k4.lC fun b hm=>hb b (hmem b (.inr hm)) fun hf=>n4 b hf b hm rfl
 have:=q1.append (he.append q2)
 rw [←e1,←e2] at this
 exact this
def aRC (w:World) (v:Value) (ag:Bool) (ds:List D) (Fs:List (List Nat)):Prop:=
 match ag with
 | true=>∃cs,v = .agg cs∧aCe w ds cs.toList Fs
 | false=>aCe w ds [v] Fs
def oN (P:Program) (f:FuncId) (ag:Bool) (ds ds':List D) (k k':Int):Prop:=
 aGu P f ∧ ∀(w:World) (v:Value) (Fs:List (List Nat)),aRC w v ag ds Fs→Fs.flatten.Nodup→(∀b∈Fs.flatten,aKT w b) →
  Calls P f #[v,.int .i64 k] w fun e w'=>e = .returned (.int .i64 k')∧aRC w' v ag ds' Fs∧Frm Fs.flatten w w'
inductive MV where
 | top (i:Nat)
 | agg
 | el (i sz j off:Nat)
 | bx (off:Nat)
 | sub (i sz j off:Nat)
 | tops (off n:Nat)
structure MSt where
 t:Nat→SV
 m:Nat→Option MV
 ds:List D
structure MCx where
 vals:List Value
 Fs:List (List Nat)
 w0:World
def MCx.F (c:MCx):List Nat:=c.Fs.flatten
def aQm (c:MCx) (w:World):MV→Value→Prop
 | .top i,v=>c.vals[i]? = some v
 | .agg,v=>v = .agg c.vals.toArray
 | .el i sz j off,v=>∃b o n cp,c.vals[i]? = some (.slice (some ⟨b,o,none⟩) n cp)∧v = .pointer (some ⟨b,o+j*sz+off,none⟩)
 | .bx off,v=>∃B t,v = .pointer (some ⟨B,off,none⟩)∧w.heap[B]? = some (.cells c.vals.toArray t (0,0))∧B∉c.F
 | .sub i sz j off,v=>∃b o n cp,c.vals[i]? = some (.slice (some ⟨b,o,none⟩) n cp)∧w.cell? ⟨b,o+j*sz+off,none⟩=some v
 | .tops off n,v=>v = .agg ((c.vals.drop off).take n).toArray
def gz:Gh:={ val:=fun _=>undef,fp:=fun _=>[],S:=fun _=>False,Q:=⟨fun _=>True,0,none,fun _=>[]⟩ }
def hz:Heap:=fun _=>(0,.none)
theorem lB.aVn {sv:SV} {v:Value} {w:World} (w':World) (h:lB gz hz w sv v):lB gz hz w' sv v:=
 h.lD ⟨fun _ x=>x,fun _ x=>False.elim x,fun _=>Nat.le_refl _,fun i e sz xs dp _ hr=>(by cases hr),fun i t cs _ hx=>(by cases hx),rfl⟩
structure aHV (c:MCx) (N:Nat) (σ:MSt) (a:Act) (w:World):Prop where
 defers:a.defers=[]
 size:a.tmps.size=N
 frm:Frm c.F c.w0 w
 nodup:c.F.Nodup
 aP4 : ∀b∈c.F,aKT w b
 rep:aCe w σ.ds c.vals c.Fs
 flat : ∀t,lB gz hz w (σ.t t) (a.tmps.getD t undef)
 mv : ∀t x,σ.m t=some x→aQm c w x (a.tmps.getD t undef)
def MSt.aIV (σ:MSt) (d:Nat) (v:SV):MSt:=⟨fun i=>if i=d then v else σ.t i,fun i=>if i=d then none else σ.m i,σ.ds⟩
def MSt.aIP (σ:MSt) (d:Nat) (v:MV):MSt:=⟨fun i=>if i=d then .unk else σ.t i,fun i=>if i=d then some v else σ.m i,σ.ds⟩
def MV.lC:Option MV→Option MV
 | some (.sub ..)=>none
 | o=>o
def MSt.lD (σ:MSt) (ds:List D):MSt:=⟨σ.t,fun i=>MV.lC (σ.m i),ds⟩
theorem MSt.aNw (σ:MSt) (d:Nat) (v:SV) (i:Nat):(σ.aIV d v).t i=if i=d then v else σ.t i:=rfl
theorem MSt.aOX (σ:MSt) (d:Nat) (v:SV) (i:Nat):(σ.aIV d v).m i=if i=d then none else σ.m i:=rfl
theorem MSt.aO7 (σ:MSt) (d:Nat) (v:SV):(σ.aIV d v).ds=σ.ds:=rfl
theorem MSt.aNr (σ:MSt) (d:Nat) (v:MV) (i:Nat):(σ.aIP d v).t i=if i=d then .unk else σ.t i:=rfl
theorem MSt.aN1 (σ:MSt) (d:Nat) (v:MV) (i:Nat):(σ.aIP d v).m i=if i=d then some v else σ.m i:=rfl
theorem MSt.aOF (σ:MSt) (d:Nat) (v:MV):(σ.aIP d v).ds=σ.ds:=rfl
theorem MSt.aQZ (σ:MSt) (ds:List D) (i:Nat):(σ.lD ds).t i=σ.t i:=rfl
theorem MSt.aOA (σ:MSt) (ds:List D) (i:Nat):(σ.lD ds).m i=MV.lC (σ.m i):=rfl
theorem MSt.aNs (σ:MSt) (ds:List D):(σ.lD ds).ds=ds:=rfl
section
variable {c:MCx} {N:Nat} {σ:MSt} {a:Act} {w:World}
theorem aHV.aIV (R:aHV c N σ a w) {d:Nat} {sv:SV} {v:Value} (hd:d<N) (hv:lB gz hz w sv v):aHV c N (σ.aIV d sv) (a.put (some d) v) w:=by
 refine ⟨R.defers,by simp [Act.put,R.size],R.frm,R.nodup,R.aP4,R.rep,fun t => ?_,fun t x hx => ?_⟩
 ·rw [aE3 R.size hd,MSt.aNw]
  by_cases ht:t=d
  ·simp only [ht,if_true];exact hv
  ·simp only [ht,if_false];exact R.flat t
 ·rw [MSt.aOX] at hx
  rw [aE3 R.size hd]
  by_cases ht:t=d
  ·simp [ht] at hx
  ·simp only [ht,if_false] at hx ⊢;exact R.mv t x hx
theorem aHV.aIP (R:aHV c N σ a w) {d:Nat} {m:MV} {v:Value} (hd:d<N) (hv:aQm c w m v):aHV c N (σ.aIP d m) (a.put (some d) v) w:=by
 refine ⟨R.defers,by simp [Act.put,R.size],R.frm,R.nodup,R.aP4,R.rep,fun t => ?_,fun t x hx => ?_⟩
 ·rw [aE3 R.size hd,MSt.aNr]
  by_cases ht:t=d
  ·simp only [ht,if_true];trivial
  ·simp only [ht,if_false];exact R.flat t
 ·rw [MSt.aN1] at hx
  rw [aE3 R.size hd]
  by_cases ht:t=d
  ·simp only [ht,if_true,qX] at hx ⊢;subst hx;exact hv
  ·simp only [ht,if_false] at hx ⊢;exact R.mv t x hx
theorem aRP {b o:Nat} {v:Value} (h:w.cell? ⟨b,o,none⟩=some v):b<w.heap.size:=by
 rcases Nat.lt_or_ge b w.heap.size with hb | hb
 ·exact hb
 ·simp [World.cell?,Array.getElem?_eq_none hb] at h
theorem aHV.grow {w':World} (R:aHV c N σ a w) (h:Below w.heap.size w w'):aHV c N σ a w':=by
 have hlt : ∀b∈c.F,b<w.heap.size:=R.rep.lt
 refine ⟨R.defers,R.size,R.frm.trans (.aPb h),R.nodup,fun b hb=>(R.aP4 b hb).lC (h.block b (hlt b hb)),R.rep.lC fun b hb=>h.block b (hlt b hb),fun t=>(R.flat t).aVn _,fun t x hx => ?_⟩
 have hm:=R.mv t x hx
 cases x with
 | top i=>exact hm
 | agg=>exact hm
 | tops off n=>exact hm
 | el i sz j off=>exact hm
 | bx off =>
  obtain ⟨B,ty,h1,h2,h3⟩:=hm
  exact ⟨B,ty,h1,(h.block B (aDB h2)).trans h2,h3⟩
 | sub i sz j off =>
  obtain ⟨b,o,n,cp,h1,h2⟩:=hm
  exact ⟨b,o,n,cp,h1,(World.cell?_of_block (w:=w) (a:=⟨b,o+j*sz+off,none⟩) (h.block b (aRP h2))).trans h2⟩
end
theorem aG.upd {w:World} : ∀ {ds:List D} {vs:List Value} {F:List Nat} {i:Nat} {v:Value},aG w ds vs F→vs[i]? = some v→i<ds.length → ∃d F1 Fi F2,ds[i]? = some d∧F=F1++(Fi++F2)∧Rep w d v Fi ∧
  ∀(w':World) (d':D),Rep w' d' v Fi→(∀b,b∈F1∨b∈F2→w'.heap[b]? = w.heap[b]?)→aG w' (ds.set i d') vs F
 | [],vs,F,i,v,h,hv,hi=>by simp at hi
 | d::ds,vs,F,0,v,h,hv,hi=>by
  simp only [aG] at h
  obtain ⟨u,vs',F1,F2,rfl,rfl,h3,h4⟩:=h
  simp at hv
  subst hv
  refine ⟨d,[],F1,F2,rfl,rfl,h3,fun w' d' hd hb => ?_⟩
  simp only [List.set_cons_zero,aG]
  exact ⟨u,vs',F1,F2,rfl,rfl,hd,aG.lC _ _ _ h4 fun b hm=>hb b (.inr hm)⟩
 | d::ds,vs,F,i+1,v,h,hv,hi=>by
  simp only [aG] at h
  obtain ⟨u,vs',F1,F2,rfl,rfl,h3,h4⟩:=h
  obtain ⟨d0,G1,Gi,G2,k1,rfl,k3,k4⟩:=aG.upd h4 (by simpa using hv) (by simpa using hi)
  refine ⟨d0,F1++G1,Gi,G2,by simpa using k1,by simp,k3,fun w' d' hd hb => ?_⟩
  simp only [List.set_cons_succ,aG]
  refine ⟨u,vs',F1,G1++(Gi++G2),rfl,rfl,Rep.lC _ _ _ h3 fun b hm=>hb b (.inl (by simp [hm])),k4 w' d' hd fun b hm=>hb b ?_⟩
  rcases hm with hm | hm
  ·exact .inl (by simp [hm])
  ·exact .inr hm
theorem aLd {F1 Fi F2:List Nat} (h:(F1++(Fi++F2)).Nodup):Fi.Nodup ∧ ∀b,b∈F1∨b∈F2→b∉Fi:=by
 rw [List.nodup_append,List.nodup_append] at h
 obtain ⟨n1,⟨n2,n3,n4⟩,n5⟩:=h
 refine ⟨n2,fun b hb hi => ?_⟩
 rcases hb with hb | hb
 ·exact n5 b hb b (by simp [hi]) rfl
 ·exact n4 b hi b hb rfl
theorem aU.upd {w:World} {sz:Nat} {xs:List (List D)} {cells:List Value} {G:List Nat} {j o:Nat} {y:List D} {q:D} (h:aU w xs cells G) (hx : ∀x∈xs,x.length=sz) (hy:xs[j]? = some y) (hq:y[o]? = some q) :
  ∃v G1 Gi G2,cells[j*sz+o]? = some v∧G=G1++(Gi++G2)∧Rep w q v Gi ∧
   ∀(w':World) (q':D),Rep w' q' v Gi→(∀b,b∈G1∨b∈G2→w'.heap[b]? = w.heap[b]?)→aU w' (xs.set j (y.set o q')) cells G:=by
 obtain ⟨v1,v2,v3,F1,F2,F3,rfl,rfl,hl1,hr1,hr2,hr3⟩:=h.at_ hx hy
 have hlen:=hr2.length
 have ho:o<y.length:=(List.getElem?_eq_some_iff.1 hq).1
 have hv:v2[o]? = some v2[o]:=qF (by omega)
 obtain ⟨d,H1,Hi,H2,k1,rfl,k3,k4⟩:=aG.upd hr2 hv ho
 rw [hq] at k1
 cases k1
 have hjlt:j<xs.length:=(List.getElem?_eq_some_iff.1 hy).1
 refine ⟨v2[o],F1++H1,Hi,H2++F3,?_,by simp,k3,fun w' q' hq' hb => ?_⟩
 ·rw [←hl1,List.getElem?_append_right (by omega),Nat.add_sub_cancel_left,List.getElem?_append_left (by omega),hv]
 ·rw [List.set_eq_take_append_cons_drop,if_pos hjlt]
  refine aU.append (aU.lC _ _ _ hr1 fun b hm=>hb b (.inl (by simp [hm]))) ?_
  simp only [aU]
  exact ⟨v2,v3,H1++(Hi++H2),F3,rfl,rfl,k4 w' q' hq' fun b hm=>hb b (by rcases hm with hm | hm<;>simp [hm]),aU.lC _ _ _ hr3 fun b hm=>hb b (.inr (by simp [hm]))⟩
end Go.Sh
namespace Go.Sh
open Go.RowKit
theorem aG.aR2 {w:World} : ∀ {ds:List D} {vs:List Value} {F:List Nat} {i:Nat} {q d:D} {u:Value},aG w ds vs F→ds[i]? = some q→q.flat=true→Rep w d u []→aG w (ds.set i d) (vs.set i u) F
 | [],vs,F,i,q,d,u,h,hq,_,_=>by simp at hq
 | x::ds,vs,F,0,q,d,u,h,hq,hf,hd=>by
  simp only [aG] at h
  obtain ⟨v,vs',F1,F2,rfl,rfl,h3,h4⟩:=h
  simp at hq
  subst hq
  have:=aD1 h3 hf
  subst this
  simp only [List.set_cons_zero,aG]
  exact ⟨u,vs',[],F2,rfl,rfl,hd,h4⟩
 | x::ds,vs,F,i+1,q,d,u,h,hq,hf,hd=>by
  simp only [aG] at h
  obtain ⟨v,vs',F1,F2,rfl,rfl,h3,h4⟩:=h
  simp only [List.set_cons_succ,aG]
  exact ⟨v,vs'.set i u,F1,F2,rfl,rfl,h3,aG.aR2 h4 (by simpa using hq) hf hd⟩
theorem aU.aR2 {w:World} {sz:Nat} {xs:List (List D)} {cells:List Value} {G:List Nat} {j o:Nat} {y:List D} {q d:D} {u:Value} (h:aU w xs cells G) (hx : ∀x∈xs,x.length=sz) (hy:xs[j]? = some y) (hq:y[o]? = some q) (hf:q.flat=true) (hd:Rep w d u []) :
  aU w (xs.set j (y.set o d)) (cells.set (j*sz+o) u) G:=by
 obtain ⟨v1,v2,v3,F1,F2,F3,rfl,rfl,hl1,hr1,hr2,hr3⟩:=h.at_ hx hy
 have hlen:=hr2.length
 have ho:o<y.length:=(List.getElem?_eq_some_iff.1 hq).1
 have hjlt:j<xs.length:=(List.getElem?_eq_some_iff.1 hy).1
 rw [List.set_eq_take_append_cons_drop,if_pos hjlt,←hl1,List.set_append_right _ _ (by omega),Nat.add_sub_cancel_left,List.set_append_left _ _ (by omega)]
 refine aU.append hr1 ?_
 simp only [aU]
 exact ⟨v2.set o u,v3,F2,F3,rfl,rfl,hr2.aR2 hq hf hd,hr3⟩
theorem Rep.store {w:World} {xs:List (List D)} {b off n cp j o:Nat} {F:List Nat} {y:List D} {q d:D} {u:Value} {cur:Array Value} {e:TypeId} (h:Rep w (.sl xs) (.slice (some ⟨b,off,none⟩) n cp) F) (hn:F.Nodup)
  (hb:w.heap[b]? = some (.cells cur e (0,0))) (hy:xs[j]? = some y) (hq:y[o]? = some q) (hf:q.flat=true) (hd:Rep w d u []) :
  off+j*y.length+o<cur.size∧Rep (w.setRow b (cur.toList.set (off+j*y.length+o) u).toArray) (.sl (xs.set j (y.set o d))) (.slice (some ⟨b,off,none⟩) n cp) F∧b∈F:=by
 simp only [Rep] at h
 obtain ⟨ad,n',c',e1,e2,e3,e4⟩:=h
 cases e1
 have hjlt:j<xs.length:=(List.getElem?_eq_some_iff.1 hy).1
 have ho:o<y.length:=(List.getElem?_eq_some_iff.1 hq).1
 rcases e4 with ⟨e4,_⟩ | ⟨g,off',cells,sz,G,k1,k2,rfl,k4,k5,k6,k7⟩
 ·omega
 cases k1
 have hsz:y.length=sz:=k6 y (List.mem_of_getElem? hy)
 subst hsz
 have hlt:j*y.length+o<cells.length:=by
  rw [k5,e2]
  calc j*y.length+o<j*y.length+y.length:=by omega
   _=(j+1)*y.length:=by rw [Nat.add_mul,Nat.one_mul]
   _≤xs.length*y.length:=Nat.mul_le_mul_right _ hjlt
 have hcell:=k4 (j*y.length+o) _ (qF hlt)
 rw [cell_of_row w b _ cur e (0,0) hb] at hcell
 have hfit:off+(j*y.length+o)<cur.size:=(Array.getElem?_eq_some_iff.1 hcell).1
 have hbG:b∉G:=(List.nodup_cons.1 hn).1
 rw [Nat.add_assoc]
 refine ⟨hfit,?_,by simp⟩
 simp only [Rep]
 have hnew:(w.setRow b (cur.toList.set (off+(j*y.length+o)) u).toArray).heap[b]? = some (.cells (cur.toList.set (off+(j*y.length+o)) u).toArray e (0,0)):=setRow_heap w b cur _ e _ hb
 refine ⟨_,n,cp,rfl,by rw [qN];exact e2,e3,.inr ⟨b,off,cells.set (j*y.length+o) u,y.length,G,rfl,aDB hnew,rfl,?_,by rw [qN];exact k5,?_,?_⟩⟩
 ·intro k v hk
  rw [cell_of_row _ b _ _ e (0,0) hnew]
  have hklt:k<cells.length:=by have:=(List.getElem?_eq_some_iff.1 hk).1;simpa using this
  have hold:=k4 k _ (qF hklt)
  rw [cell_of_row w b _ cur e (0,0) hb] at hold
  rw [List.getElem?_toArray,List.getElem?_set]
  rw [List.getElem?_set] at hk
  by_cases he:j*y.length+o=k
  ·subst he
   simp only [if_true,hklt] at hk
   simp only [if_true,Array.length_toList,hfit]
   exact hk
  ·rw [if_neg he] at hk
   rw [if_neg (by omega),Array.getElem?_toList,hold]
   rw [qF hklt] at hk
   exact hk
 ·intro x hx
  rcases List.mem_or_eq_of_mem_set hx with hx | rfl
  ·exact k6 x hx
  ·simp
 ·refine aU.lC _ _ _ (k7.aR2 k6 hy hq hf hd) fun b' hb'=>setRow_other w b b' _ fun e=>hbG (e ▸ hb')
theorem Rep.under {w:World} {xs:List (List D)} {b off n cp j o:Nat} {F:List Nat} {y:List D} {q:D} (h:Rep w (.sl xs) (.slice (some ⟨b,off,none⟩) n cp) F) (hn:F.Nodup) (hy:xs[j]? = some y) (hq:y[o]? = some q) :
  ∃v Fi,w.cell? ⟨b,off+j*y.length+o,none⟩=some v∧Rep w q v Fi∧Fi.Nodup∧(∀x∈Fi,x∈F) ∧
   ∀(w':World) (q':D),Rep w' q' v Fi→(∀x∈F,x∉Fi→w'.heap[x]? = w.heap[x]?)→Rep w' (.sl (xs.set j (y.set o q'))) (.slice (some ⟨b,off,none⟩) n cp) F:=by
 simp only [Rep] at h
 obtain ⟨ad,n',c',e1,e2,e3,e4⟩:=h
 cases e1
 have hjlt:j<xs.length:=(List.getElem?_eq_some_iff.1 hy).1
 rcases e4 with ⟨e4,_⟩ | ⟨g,off',cells,sz,G,k1,k2,rfl,k4,k5,k6,k7⟩
 ·omega
 cases k1
 have hsz:y.length=sz:=k6 y (List.mem_of_getElem? hy)
 subst hsz
 obtain ⟨v,G1,Gi,G2,m1,rfl,m3,m4⟩:=k7.upd k6 hy hq
 have hn':=(List.nodup_cons.1 hn)
 obtain ⟨p1,p2⟩:=aLd hn'.2
 have hbi:b∉Gi:=fun hm=>hn'.1 (by simp [hm])
 refine ⟨v,Gi,?_,m3,p1,fun x hx=>by simp [hx],fun w' q' hq' hk => ?_⟩
 ·rw [Nat.add_assoc];exact k4 _ v m1
 ·have hb0:w'.heap[b]? = w.heap[b]? := hk b (by simp) hbi
  simp only [Rep]
  refine ⟨_,n,cp,rfl,by rw [qN];exact e2,e3,.inr ⟨b,off,cells,y.length,G1++(Gi++G2),rfl,aGf k2 hb0,rfl,k4.lC hb0,k5,?_,m4 w' q' hq' fun x hx=>hk x (by rcases hx with hx | hx<;>simp [hx]) (p2 x hx)⟩⟩
  intro x hx
  rcases List.mem_or_eq_of_mem_set hx with hx | rfl
  ·exact k6 x hx
  ·simp
end Go.Sh
namespace Go.Sh
open Go.RowKit
def aFJ:SV→Bool
 | .v false [.dat d]=>d.flat
 | _=>false
def aP8 (P:Program) (T:aGe) (N:Nat) (o:Oper) (σ:MSt) (K:MSt→Prop):Prop:=
 ex P (xX T N o) ⟨σ.t,hz,fun _=>.unk⟩ fun s'=>match o.dst with
  | some d=>(s'=(⟨σ.t,hz,fun _=>.unk⟩:St).aEV d (s'.t d)∧aFJ (s'.t d)=true∧d<N)∧K (σ.aIV d (s'.t d))
  | none=>False
def aP2 (t:Nat→SV):Operand→SV
 | .tmp i=>t i
 | .const c=>cst c
 | .func f=>.v false [.dat (.fn f [])]
 | .global _=>.unk
inductive MP where
 | fail
 | ret (c:Prop) (σ:MSt)
 | mark (f:FuncId) (ys:List (List D)) (k:Int) (c:Prop) (g:List (List D)→Int→MSt)
 | markS (f:FuncId) (ds:List D) (k:Int) (c:Prop) (g:List D→Int→MSt)
 | reg
def sC (T:aGe) (N:Nat) (o:Oper) (σ:MSt):MP:=
 match o.op with
 | .move (.tmp x)=>match σ.t x with
   | .unk=>match σ.m x,o.dst with
     | some mv,some d=>.ret (d<N) (σ.aIP d mv)
     | _,_=>.fail
   | v=>match o.dst with
     | some d=>.ret (aFJ v=true∧d<N) (σ.aIV d v)
     | none=>.fail
 | .move (.const c)=>match o.dst with
   | some d=>.ret (aFJ (cst c)=true∧d<N) (σ.aIV d (cst c))
   | none=>.fail
 | .assign (.tmp x)=>match σ.t x with
   | .unk=>match σ.m x,o.dst with
     | some mv,some d=>.ret (d<N) (σ.aIP d mv)
     | _,_=>.fail
   | v=>match o.dst with
     | some d=>.ret (aFJ v=true∧d<N) (σ.aIV d v)
     | none=>.fail
 | .assign (.const c)=>match o.dst with
   | some d=>.ret (aFJ (cst c)=true∧d<N) (σ.aIV d (cst c))
   | none=>.fail
 | .binOp op _ x y _=>match aP2 σ.t x with
   | .v false [.dat (.int k m)]=>match aP2 σ.t y with
     | .v false [.dat (.int k' n)]=>match oM op k m n with
       | some r=>match o.dst with
         | some d=>.ret (k=k'∧r.flat=true∧d<N) (σ.aIV d (one r))
         | none=>.fail
       | none=>.fail
     | _=>.fail
   | _=>.fail
 | .convert s t x=>match T s with
   | some _=>match T t with
     | some { k:=.int k,.. }=>match aP2 σ.t x with
       | .v false [.dat (.int _ n)]=>match o.dst with
         | some d=>.ret (d<N) (σ.aIV d (one (.int k (k.wrap n))))
         | none=>.fail
       | _=>.fail
     | _=>.fail
   | none=>.fail
 | .box _ (.tmp x)=>match σ.m x,o.dst with
   | some .agg,some d=>.ret (d<N) (σ.aIP d (.bx 0))
   | _,_=>.fail
 | .fieldAddr s (.tmp x) f=>match σ.m x,o.dst with
   | some mv,some d=>match T s with
     | some { k:=.struct fs,.. }=>match fs[f]? with
       | some (off,sz,_)=>match mv with
         | .el i z j o=>.ret (0<sz∧d<N) (σ.aIP d (.el i z j (o+off)))
         | .bx o=>.ret (0<sz∧d<N) (σ.aIP d (.bx (o+off)))
         | _=>.fail
       | none=>.fail
     | _=>.fail
   | _,_=>.fail
 | .load t (.tmp x)=>match σ.m x,o.dst with
   | some mv,some d=>match T t with
     | some ti=>match mv with
       | .el i z j o=>match σ.ds[i]? with
         | some (.sl xs)=>match xs[j]? with
           | some y=>.ret ((ti.size=1∧ti.agg=false∧d<N)∧y.length=z∧o<z) (σ.aIP d (.sub i z j o))
           | none=>.fail
         | _=>.fail
       | .bx o=>if ti.agg=true then .ret (d<N∧o+ti.size≤σ.ds.length) (σ.aIP d (.tops o ti.size)) else .ret ((ti.size=1∧ti.agg=false∧d<N)∧o<σ.ds.length) (σ.aIP d (.top o))
       | _=>.fail
     | none=>.fail
   | _,_=>.fail
 | .indexAddr t (.tmp x) (.tmp ix)=>match σ.m x,o.dst with
   | some (.top i),some d=>match T t with
     | some { k:=.slice e,.. }=>match T e with
       | some ti=>match σ.t ix with
         | .v false [.dat (.int _ j)]=>match σ.ds[i]? with
           | some (.sl xs)=>match xs[j.toNat]? with
             | some y=>.ret (0≤j∧y.length=ti.size∧d<N) (σ.aIP d (.el i ti.size j.toNat 0))
             | none=>.fail
           | _=>.fail
         | _=>.fail
       | none=>.fail
     | _=>.fail
   | _,_=>.fail
 | .store t (.tmp p) (.tmp x)=>match σ.m p,o.dst with
   | some (.el i z j o),none=>match T t with
     | some ti=>match σ.t x with
       | .v false [.dat d]=>match σ.ds[i]? with
         | some (.sl xs)=>match xs[j]? with
           | some y=>match y[o]? with
             | some q=>.ret (ti.size=1∧d.flat=true∧y.length=z∧q.flat=true) (σ.lD (σ.ds.set i (.sl (xs.set j (y.set o d)))))
             | none=>.fail
           | none=>.fail
         | _=>.fail
       | _=>.fail
     | none=>.fail
   | _,_=>.fail
 | .call { callee:=.builtin .len,args:=as,argTypes:=ts }=>match as.toList,ts.toList with
   | [.tmp x],[t]=>match σ.m x,o.dst with
     | some (.top i),some d=>match T t with
       | some { k:=.slice _,.. }=>match σ.ds[i]? with
         | some (.sl xs)=>.ret (d<N) (σ.aIV d (one (.int .i64 xs.length)))
         | _=>.fail
       | _=>.fail
     | _,_=>.fail
   | _,_=>.fail
 | .call { callee:=.value (.func f),args:=as,.. }=>match as.toList with
   | [.tmp x,.tmp y]=>match σ.m x,o.dst with
     | some (.top i),some d=>match σ.t y with
       | .v false [.dat (.int .i64 k)]=>match σ.ds[i]? with
         | some (.sl ys)=>.mark f ys k (d<N) fun ys' k'=>(σ.lD (σ.ds.set i (.sl ys'))).aIV d (one (.int .i64 k'))
         | _=>.fail
       | _=>.fail
     | some (.tops off n),some d=>match σ.t y with
       | .v false [.dat (.int .i64 k)]=>.markS f ((σ.ds.drop off).take n) k (d<N∧off+n≤σ.ds.length) fun es k'=>(σ.lD (σ.ds.take off++(es++σ.ds.drop (off+n)))).aIV d (one (.int .i64 k'))
       | _=>.fail
     | some (.sub i z j q),some d=>match σ.t y with
       | .v false [.dat (.int .i64 k)]=>match σ.ds[i]? with
         | some (.sl xs)=>match xs[j]? with
           | some e=>match e[q]? with
             | some (.sl ys)=>.mark f ys k (e.length=z∧d<N) fun ys' k'=>(σ.lD (σ.ds.set i (.sl (xs.set j (e.set q (.sl ys')))))).aIV d (one (.int .i64 k'))
             | _=>.fail
           | none=>.fail
         | _=>.fail
       | _=>.fail
     | _,_=>.fail
   | _=>.reg
 | _=>.reg
def aSp (P:Program) (T:aGe) (N:Nat) (o:Oper) (σ:MSt):MP→(MSt→Prop)→Prop
 | .fail,_=>False
 | .ret c σ',K=>c∧K σ'
 | .mark f ys k c g,K=>∃ys' k',oN P f false [.sl ys] [.sl ys'] k k'∧c∧K (g ys' k')
 | .markS f ds k c g,K=>∃es k',oN P f true ds es k k'∧c∧K (g es k')
 | .reg,K=>aP8 P T N o σ K
def aQi (P:Program) (T:aGe) (N:Nat) (o:Oper) (σ:MSt) (K:MSt→Prop):Prop:=aSp P T N o σ (sC T N o σ) K
section
variable {P:Program} {c:MCx} {N:Nat} {σ:MSt} {a:Act} {w:World} {K:MSt→Prop} {Q:Exit→Act→World→Prop} {o:Oper}
def aRQ (c:MCx) (N:Nat) (K:MSt→Prop):Act→World→Prop:=fun a' w'=>∃σ',K σ'∧aHV c N σ' a' w'
theorem aRo {nx:Act→World→Prop} (h:o.wp P a w nx Q):o.wp P a w (fun a' w'=>nx a' w'∧((∃v,a'=a.put o.dst v)∨a'.defers≠[])) Q:=by
 unfold Oper.wp at *
 generalize (execOp a.eval o).run P w=r at *
 cases r with
 | ok n w' =>
  cases n with
  | value v=>exact ⟨h,.inl ⟨v,rfl⟩⟩
  | skip=>exact ⟨h,.inl ⟨_,rfl⟩⟩
  | defer d=>refine ⟨h,.inr ?_⟩;cases o.dst<;>simp [Act.put]
  | enter f args=>exact Calls.mono h fun e w'' he=>by cases e<;>first | exact ⟨he,.inl ⟨_,rfl⟩⟩ | exact he
  | row r args=>exact Rows.mono h fun v w'' he=>⟨he,.inl ⟨v,rfl⟩⟩
  | _=>exact h
 | halt x w'=>cases x<;>exact h
theorem aNJ {g:Gh} {h:Heap} {v:SV} {u:Value} (hv:lB g h w v u) (hf:aFJ v=true):lB gz hz w v u:=by
 unfold aFJ at hf
 split at hf
 ·obtain ⟨u',us,e1,⟨F,h1,_⟩,h3⟩:=hv
  have:=aD1 h1 hf
  subst this
  exact ⟨u',us,e1,⟨[],h1,by simp⟩,h3⟩
 ·cases hf
theorem aBJ.aLQ (q:QF) {g:Gh} {h:Heap} : ∀ {cs:List (Nat×Nat×Nat)} {vs:List Value},aBJ g h cs vs→aBJ { g with Q:=q } h cs vs
 | [],_,hc=>hc
 | _::_,_,⟨v,vs',h1,h2,h3⟩=>⟨v,vs',h1,h2,aBJ.aLQ q h3⟩
theorem aAH.aLQ (q:QF) {g:Gh} {h:Heap} {w:World} {c:SC} {v:Value} (hc:aAH g h w c v):aAH { g with Q:=q } h w c v:=by
 cases c with
 | clo f caps =>
  obtain ⟨vs,h1,h2⟩:=hc
  exact ⟨vs,h1,h2.aLQ q⟩
 | _=>exact hc
theorem aT.aLQ (q:QF) {g:Gh} {h:Heap} {w:World} : ∀ {cs:List SC} {vs:List Value},aT g h w cs vs→aT { g with Q:=q } h w cs vs
 | [],_,hc=>hc
 | _::_,_,⟨v,vs',h1,h2,h3⟩=>⟨v,vs',h1,h2.aLQ q,aT.aLQ q h3⟩
theorem aDD.aLQ (q:QF) {g:Gh} {h:Heap} {w:World} {x:Bool×List SC} {v:Value} (hc:aDD g h w x v):aDD { g with Q:=q } h w x v:=by
 obtain ⟨b,cs⟩:=x
 cases b
 ·exact aT.aLQ q hc
 ·obtain ⟨vs,h1,h2⟩:=hc;exact ⟨vs,h1,aT.aLQ q h2⟩
theorem aAS.aLQ (q:QF) {g:Gh} {h:Heap} {w:World} : ∀ {cs:List (Bool×List SC)} {vs:List Value},aAS g h w cs vs→aAS { g with Q:=q } h w cs vs
 | [],_,hc=>hc
 | _::_,_,⟨v,vs',h1,h2,h3⟩=>⟨v,vs',h1,h2.aLQ q,aAS.aLQ q h3⟩
theorem lB.aLQ (q:QF) {g:Gh} {h:Heap} {w:World} {x:SV} {v:Value} (hc:lB g h w x v):lB { g with Q:=q } h w x v:=by
 cases x with
 | unk=>trivial
 | undef=>exact hc
 | v ag cs=>exact aDD.aLQ q hc
 | tup xs=>obtain ⟨vs,h1,h2⟩:=hc;exact ⟨vs,h1,aAS.aLQ q h2⟩
theorem aDM (R:aHV c N σ a w) (h:aP8 P (dK P) N o σ K):o.wp P a w (aRQ c N K) Q:=by
 let g:Gh:={ val:=fun _=>undef,fp:=fun _=>[],S:=fun b=>b<w.heap.size,Q:=⟨fun _=>True,w.heap.size,none,slP P⟩ }
 have R0:jI P w.heap.size ⟨w,⟨fun _=>True,w.heap.size,none,slP P⟩,noK,aO9⟩ N g ⟨σ.t,hz,fun _=>.unk⟩ a w []:=by
  refine ⟨R.defers,R.size,Below.refl _ _,⟨fun _ _=>trivial,rfl,fun _ hx=>(by cases hx)⟩,fun _ x=>x.elim,⟨Nat.le_refl _,fun _ _ _=>trivial,fun _ x=>x,fun i=>trivial,fun i b hl=>absurd rfl hl,fun i j b _ hl=>absurd rfl hl,?_,aAQ.nil _ _,by simp,fun i hd=>(by obtain ⟨_,_,_,hd⟩:=hd;cases hd),Nat.le_refl _⟩,fun t => ?_,⟨rfl,.inl rfl⟩,fun _=>trivial⟩
  ·rintro i j _ ⟨_,_,_,hd⟩;cases hd
  ·exact lB.aLQ ⟨fun _=>True,w.heap.size,none,slP P⟩ ((R.flat t).lD (show jG gz { g with Q:=gz.Q } hz hz w w from ⟨fun _ x=>False.elim x,fun _ x=>False.elim x,fun _=>Nat.le_refl _,fun i e sz xs dp _ hr=>(by cases hr),fun i t cs _ hx=>(by cases hx),rfl⟩))
 refine Oper.wp_mono ?_ (aRo (aN9 (Q:=Q) R0 h))
 rintro a' w' ⟨⟨s',hs',g',R'⟩,hp⟩
 split at hs'
 ·rename_i d hd
  obtain ⟨⟨hs,hf,hN⟩,hK⟩:=hs'
  rcases hp with ⟨u,rfl⟩ | hp
  ·rw [hd] at R' ⊢
   refine ⟨_,hK,(R.grow R'.below).aIV hN ?_⟩
   have ht:=R'.tmp d
   rw [aE3 R.size hN] at ht
   simp only [if_true] at ht
   exact aNJ ht hf
  ·exact absurd R'.defers hp
 ·exact hs'.elim
theorem aHV.change {w':World} {ds':List D} (R:aHV c N σ a w) (hF:Frm c.F w w') (hr:aCe w' ds' c.vals c.Fs):aHV c N (σ.lD ds') a w':=by
 refine ⟨R.defers,R.size,R.frm.trans hF,R.nodup,fun b hb=>hF.aP4 (R.aP4 b hb),hr,fun t=>(R.flat t).aVn _,fun t x hx => ?_⟩
 rw [MSt.aOA] at hx
 have hx':σ.m t=some x ∧ ∀i z j q,x ≠ .sub i z j q:=by
  cases hm:σ.m t with
  | none=>rw [hm] at hx;cases hx
  | some y=>rw [hm] at hx;cases y<;>simp only [MV.lC] at hx<;>cases hx<;>exact ⟨rfl,fun _ _ _ _ e=>by cases e⟩
 have hm:=R.mv t x hx'.1
 cases x with
 | top i=>exact hm
 | agg=>exact hm
 | tops off n=>exact hm
 | el i sz j off=>exact hm
 | bx off =>
  obtain ⟨B,ty,h1,h2,h3⟩:=hm
  exact ⟨B,ty,h1,(hF.out B (aDB h2) h3).trans h2,h3⟩
 | sub i sz j off=>exact absurd rfl (hx'.2 i sz j off)
theorem oL (a:Act) (t:Nat):a.eval (.tmp t)=a.tmps.getD t undef:=by simp [Act.eval]
theorem aSi {t:TypeId} {ti:TI} (hti:dK P t=some ti) (hag:ti.agg=false) {b off:Nat} {v:Value} (hc:w.cell? ⟨b,off,none⟩=some v):(Instr.loadAt t (.pointer (some ⟨b,off,none⟩))).run P w = .ok v w:=by
 obtain ⟨i,d,z,h1,h2,h3,h4,h5,h6,h7,h8,h9⟩:=(cW hti).ok
 have hag':=aMq h4
 simp only [Instr.loadAt,Instr.sureAddr,loadVar,Sem.run_bind,Sem.run_pure,Result.andThen_ok,aCa h2 w,hag',hag,if_false,run_load,hc,qD]
theorem aTN {t:TypeId} {ti:TI} (hti:dK P t=some ti) (hag:ti.agg=true) {b off:Nat} {cells:List Value} (hl:aBI w b off cells) (hlen:cells.length=ti.size):(Instr.loadAt t (.pointer (some ⟨b,off,none⟩))).run P w = .ok (.agg cells.toArray) w:=by
 obtain ⟨i,d,z,h1,h2,h3,h4,h5,h6,h7,h8,h9⟩:=(cW hti).ok
 have hag':=aMq h4
 have hrun:=run_loadCells_list (P:=P) w ⟨b,off,none⟩ cells (fun j u hu=>by rw [Addr.add_lit];exact hl j u hu)
 simp only [Instr.loadAt,Instr.sureAddr,loadVar,Sem.run_bind,Sem.run_pure,Result.andThen_ok,aCa h2 w,hag',hag,if_true,sizeOf,typeInfo,run_program,h1,h7,←hlen,hrun]
theorem aHV.aNC (R:aHV c N σ a w) {i:Nat} {d:D} (hd:σ.ds[i]? = some d) {v:Value} (hv:c.vals[i]? = some v) : ∃Fi,Rep w d v Fi∧Fi.Nodup∧(∀b∈Fi,aKT w b)∧(∀b∈Fi,b∈c.F) ∧
  ∀(w':World) (d':D),Rep w' d' v Fi→(∀b∈c.F,b∉Fi→w'.heap[b]? = w.heap[b]?)→aCe w' (σ.ds.set i d') c.vals c.Fs:=by
 obtain ⟨Fi,k1,k2,k3,k4,k5⟩:=R.rep.upd R.nodup hv hd
 exact ⟨Fi,k2,k3,fun b hb=>R.aP4 b (k4 b hb),k4,k5⟩
theorem aEl {d:D} {v:Value} (h:lB gz hz w (.v false [.dat d]) v) (hf:d.flat=true):Rep w d v []∧v.cells = #[v]:=by
 obtain ⟨v',vs,e1,⟨F,h1,_⟩,_⟩:=h
 simp at e1
 obtain ⟨rfl,rfl⟩:=e1
 have:=aD1 h1 hf
 subst this
 exact ⟨h1,aHc h1.one⟩
theorem aMI {t:Nat} {k:IntKind} {n:Int} (R:aHV c N σ a w) (h:σ.t t = .v false [.dat (.int k n)]):a.tmps.getD t undef = .int k n:=by
 have:=R.flat t
 rw [h] at this
 have:=(aEl this rfl).1
 simp only [Rep] at this
 exact this.1
end
end Go.Sh
namespace Go.Sh
open Go.RowKit
section
variable {P:Program} {c:MCx} {N:Nat} {σ:MSt} {a:Act} {w:World} {K:MSt→Prop} {Q:Exit→Act→World→Prop} {o:Oper}
theorem aJc {f:FuncId} {as:Array Operand} {ts:Array TypeId} {x y d:Nat} {v:Value} {Fi:List Nat} {ys ys':List (List D)} {k k':Int} {ds':List D} (ho:o.op = .call { callee:=.value (.func f),args:=as,argTypes:=ts }) (has:as.toList=[.tmp x,.tmp y]) (hd:o.dst=some d)
  (R:aHV c N σ a w) (hx:a.tmps.getD x undef=v) (hy:σ.t y = .v false [.dat (.int .i64 k)]) (hc:oN P f false [.sl ys] [.sl ys'] k k') (hN:d<N) (hr:Rep w (.sl ys) v Fi) (hn:Fi.Nodup) (hu : ∀b∈Fi,aKT w b) (hs : ∀b∈Fi,b∈c.F)
  (hnew : ∀w':World,Rep w' (.sl ys') v Fi→(∀b∈c.F,b∉Fi→w'.heap[b]? = w.heap[b]?)→aCe w' ds' c.vals c.Fs) (hK:K ((σ.lD ds').aIV d (one (.int .i64 k')))):o.wp P a w (aRQ c N K) Q:=by
 unfold Oper.wp
 have has':as = #[.tmp x,.tmp y]:=aLT has
 have hrun:(execOp a.eval o).run P w = .ok (.enter f #[v,.int .i64 k]) w:=by
  have e1:a.eval (.tmp x)=v:=by rw [oL,hx]
  have e2:a.eval (.tmp y) = .int .i64 k:=by rw [oL,aMI R hy]
  subst has'
  simp only [execOp,ho,resolve,Deferred.ofValue,invoke]
  simp [aCY hc.1,Act.eval] at e1 e2 ⊢
  simp [e1,e2]
 rw [hrun]
 unfold Oper.upon
 have hA:aRC w v false [.sl ys] [Fi]:=⟨v,[],Fi,[],rfl,rfl,hr,rfl,rfl⟩
 refine (hc.2 w v [Fi] hA (by simpa using hn) (by simpa using hu)).mono ?_
 rintro e w' ⟨rfl,h2,h3⟩
 obtain ⟨v',vs',G1,G2,e1,e2,h4,e3,e4⟩:=h2
 simp only [List.cons.injEq] at e1 e2
 obtain ⟨rfl,rfl⟩:=e1
 obtain ⟨rfl,rfl⟩:=e2
 rw [show [Fi].flatten=Fi from by simp] at h3
 have hlt : ∀b∈c.F,b<w.heap.size:=R.rep.lt
 have hF:Frm c.F w w':=h3.mono hs
 show aRQ c N K (a.put o.dst (.int .i64 k')) w'
 rw [hd]
 exact ⟨_,hK,(R.change hF (hnew w' h4 fun b hb hn'=>h3.out b (hlt b hb) hn')).aIV hN (⟨_,[],rfl,⟨[],by simp [Rep],by simp⟩,rfl⟩)⟩
theorem aOx {s:St} {K':St→Prop} (x:Operand) {b:Bool} {cs:List SC} {k:SV→Prog} (hx:aP2 s.t x = .v b cs):ex P (vOp x k) s K'=ex P (k (.v b cs)) s K':=by
 cases x with
 | tmp i=>simp only [vOp,ex];rw [show s.t i=_ from hx]
 | const c=>simp only [vOp];rw [show cst c=_ from hx]
 | func f=>simp only [vOp];rw [show SV.v false [.dat (.fn f [])]=_ from hx]
 | global g=>cases hx
theorem aRE (R:aHV c N σ a w) (h:aQi P (dK P) N o σ K):o.wp P a w (aRQ c N K) Q:=by
 unfold aQi sC at h
 split at h
 ·-- move
  rename_i x hop
  split at h
  ·split at h
   ·rename_i mv d hm hd
    refine mT (v:=a.tmps.getD x undef) (w':=w) ?_ ?_
    ·simp [execOp,hop,Act.eval]
    ·rw [hd];exact ⟨_,h.2,R.aIP h.1 (R.mv x mv hm)⟩
   ·exact h.elim
  ·split at h
   ·rename_i d hd
    refine aDM R ?_
    unfold aP8
    simp only [xX,hop,vOp,ex,put,hd,h.1.2,if_true,St.aDN]
    exact ⟨⟨trivial,h.1.1,trivial⟩,h.2⟩
   ·exact h.elim
 ·-- move of a constant
  rename_i cv hop
  split at h
  ·rename_i d hd
   refine aDM R ?_
   unfold aP8
   simp only [xX,hop,vOp,ex,put,hd,h.1.2,if_true,St.aDN]
   exact ⟨⟨trivial,h.1.1,trivial⟩,h.2⟩
  ·exact h.elim
 ·-- assign
  rename_i x hop
  split at h
  ·split at h
   ·rename_i mv d hm hd
    refine mT (v:=a.tmps.getD x undef) (w':=w) ?_ ?_
    ·simp [execOp,hop,Act.eval]
    ·rw [hd];exact ⟨_,h.2,R.aIP h.1 (R.mv x mv hm)⟩
   ·exact h.elim
  ·split at h
   ·rename_i d hd
    refine aDM R ?_
    unfold aP8
    simp only [xX,hop,vOp,ex,put,hd,h.1.2,if_true,St.aDN]
    exact ⟨⟨trivial,h.1.1,trivial⟩,h.2⟩
   ·exact h.elim
 ·-- assign of a constant
  rename_i cv hop
  split at h
  ·rename_i d hd
   refine aDM R ?_
   unfold aP8
   simp only [xX,hop,vOp,ex,put,hd,h.1.2,if_true,St.aDN]
   exact ⟨⟨trivial,h.1.1,trivial⟩,h.2⟩
  ·exact h.elim
 ·-- binOp
  rename_i op ty x y ty2 hop
  split at h
  ·rename_i k m hx
   split at h
   ·rename_i k' n hy
    split at h
    ·rename_i r hr
     split at h
     ·rename_i d hd
      obtain ⟨⟨rfl,hf,hN⟩,hK⟩:=h
      refine aDM R ?_
      unfold aP8
      simp only [xX,hop]
      rw [aOx x (show aP2 (St.mk σ.t hz (fun _=>.unk)).t x=_ from hx),aOx y (show aP2 (St.mk σ.t hz (fun _=>.unk)).t y=_ from hy)]
      simp only [true_or,if_true,hr,ex,put,hd,hN,St.aDN]
      exact ⟨⟨trivial,hf,trivial⟩,hK⟩
     ·exact h.elim
    ·exact h.elim
   ·exact h.elim
  ·exact h.elim
 ·-- convert
  rename_i sy ty x hop
  split at h
  ·rename_i ts hts
   split at h
   ·rename_i k sz0 by0 z0 cm0 sl0 htt
    split at h
    ·rename_i k0 n hx
     split at h
     ·rename_i d hd
      refine aDM R ?_
      unfold aP8
      simp only [xX,hop,hts,htt]
      rw [aOx x (show aP2 (St.mk σ.t hz (fun _=>.unk)).t x=_ from hx)]
      simp only [ex,put,hd,h.1,if_true,St.aDN]
      exact ⟨⟨trivial,rfl,trivial⟩,h.2⟩
     ·exact h.elim
    ·exact h.elim
   ·exact h.elim
  ·exact h.elim
 ·-- box
  rename_i t x hop
  split at h
  ·rename_i d hm hd
   have hx:a.tmps.getD x undef = .agg c.vals.toArray:=R.mv x _ hm
   have hb:Below w.heap.size w (w.alloc (.cells c.vals.toArray t)):=(Below.refl _ _).alloc (Nat.le_refl _) _
   refine mT (v:=.pointer (some ⟨w.heap.size,0,none⟩)) (w':=w.alloc (.cells c.vals.toArray t)) ?_ ?_
   ·have hx':a.eval (.tmp x) = .agg c.vals.toArray:=by rw [oL,hx]
    simp [execOp,hop,Instr.box,newVar,newRow,hx',Value.cells]
   ·rw [hd]
    refine ⟨_,h.2,(R.grow hb).aIP h.1 ⟨w.heap.size,t,rfl,heap_alloc_new w _,fun hm => ?_⟩⟩
    exact absurd (R.rep.lt _ hm) (Nat.lt_irrefl _)
  ·exact h.elim
 ·-- fieldAddr
  rename_i s x f hop
  split at h
  ·rename_i mv d hm hd
   split at h
   ·rename_i fs sz0 by0 z0 cm0 sl0 hti
    obtain ⟨i,dd,z,h1,h2,h3,h4,h5,h6,h7,h8,h9⟩:=(cW hti).ok
    split at h
    ·rename_i off sz ag hf
     obtain ⟨fields,fld,fi,rfl,k1,k2,k3,k4,k5,dsc,hdsc⟩:=aLk (t:=s) h4 hf
     have hrun : ∀b o',0<sz→a.eval (.tmp x) = .pointer (some ⟨b,o',none⟩)→(execOp a.eval o).run P w = .ok (.value (.pointer (some ⟨b,o'+off,none⟩))) w:=by
      intro b o' hpos hx
      have hne : ¬fi.size=0:=by omega
      simp [execOp,hop,hx,Instr.fieldAt,run_underlying h2,k1,Instr.sureAddr,fieldPlace,sizeOf,typeInfo,k3,hne,Addr.add_lit,k2]
     have hm':=R.mv x mv hm
     split at h
     ·obtain ⟨b,o0,n,cp,e1,e2⟩:=hm'
      obtain ⟨⟨hpos,hN⟩,h⟩:=h
      refine mT (hrun b _ hpos (by rw [oL,e2])) ?_
      rw [hd]
      exact ⟨_,h,R.aIP hN ⟨b,o0,n,cp,e1,by simp [Nat.add_assoc]⟩⟩
     ·obtain ⟨B,ty,e1,e2,e3⟩:=hm'
      obtain ⟨⟨hpos,hN⟩,h⟩:=h
      refine mT (hrun B _ hpos (by rw [oL,e1])) ?_
      rw [hd]
      exact ⟨_,h,R.aIP hN ⟨B,ty,rfl,e2,e3⟩⟩
     ·exact h.elim
    ·exact h.elim
   ·exact h.elim
  ·exact h.elim
 ·-- load
  rename_i t x hop
  split at h
  ·rename_i mv d hm hd
   split at h
   ·rename_i ti hti
    have hm':=R.mv x mv hm
    have hrun : ∀b off v,ti.agg=false→a.eval (.tmp x) = .pointer (some ⟨b,off,none⟩)→w.cell? ⟨b,off,none⟩=some v→(execOp a.eval o).run P w = .ok (.value v) w:=by
     intro b off v hag hx hc
     simp only [execOp,hop,hx,Sem.run_bind,aSi hti hag hc,Result.andThen_ok,Sem.run_pure]
    split at h
    ·rename_i i z j q
     split at h
     ·rename_i xs hds
      split at h
      ·rename_i y hy
       obtain ⟨⟨⟨hs1,hag,hN⟩,hyl,hq⟩,h⟩:=h
       obtain ⟨b,o0,n,cp,e1,e2⟩:=hm'
       obtain ⟨Fi,k2,k3,k4,k5,k6⟩:=R.aNC hds e1
       obtain ⟨v,Gi,m1,m2,m3,m4,m5⟩:=k2.under k3 hy (qF (show q<y.length by omega))
       rw [hyl] at m1
       refine mT (hrun b _ v hag (by rw [oL,e2]) m1) ?_
       rw [hd]
       exact ⟨_,h,R.aIP hN ⟨b,o0,n,cp,e1,m1⟩⟩
      ·exact h.elim
     ·exact h.elim
    ·rename_i q
     obtain ⟨B,ty,e1,e2,e3⟩:=hm'
     have hlen:=R.rep.length
     split at h
     ·rename_i hag
      obtain ⟨⟨hN,hq0⟩,h⟩:=h
      have hl:aBI w B q ((c.vals.drop q).take ti.size):=by
       have:=((aLl e2).drop q).take ti.size
       rw [Nat.zero_add] at this
       simpa using this
      refine mT (v:=.agg ((c.vals.drop q).take ti.size).toArray) (w':=w) ?_ ?_
      ·simp only [execOp,hop,oL,e1,Sem.run_bind,aTN hti hag hl (by rw [qS,qT];omega),Result.andThen_ok,Sem.run_pure]
      ·rw [hd];exact ⟨_,h,R.aIP hN rfl⟩
     obtain ⟨⟨⟨hs1,hag,hN⟩,hq0⟩,h⟩:=h
     have hq:c.vals[q]? = some c.vals[q]:=qF (by rw [hlen];exact hq0)
     refine mT (hrun B q c.vals[q] hag (by rw [oL,e1]) ?_) ?_
     ·rw [cell_of_row w B _ _ ty (0,0) e2];simp [hq]
     ·rw [hd];exact ⟨_,h,R.aIP hN hq⟩
    ·exact h.elim
   ·exact h.elim
  ·exact h.elim
 ·-- indexAddr
  rename_i t x ix hop
  split at h
  ·rename_i i d hm hd
   split at h
   ·rename_i e sz0 by0 z0 cm0 sl0 hti
    obtain ⟨ii,dd,z,h1,h2,h3,h4,h5,h6,h7,h8,h9⟩:=(cW hti).ok
    obtain rfl:=aBG h4
    split at h
    ·rename_i te hte
     obtain ⟨ie,de,ze,e1,e2,e3,e4,e5,e6,e7,e8,e9⟩:=(cW hte).ok
     split at h
     ·rename_i kk j hj
      split at h
      ·rename_i xs hds
       split at h
       ·rename_i y hy
        obtain ⟨⟨hj0,hyl,hN⟩,h⟩:=h
        have hm':c.vals[i]? = some (a.tmps.getD x undef):=R.mv x _ hm
        obtain ⟨Fi,k2,k3,k4,k5,k6⟩:=R.aNC hds hm'
        simp only [Rep] at k2
        obtain ⟨ad,n,cp,p1,p2,p3,p4⟩:=k2
        have hlt:j.toNat<xs.length:=(List.getElem?_eq_some_iff.1 hy).1
        rcases p4 with ⟨p4,_⟩ | ⟨b,off,cells,sz,G,rfl,q2,q3,q4,q5,q6,q7⟩
        ·omega
        ·have hlt':j<(n:Int):=by omega
         refine mT (v:=.pointer (some ⟨b,off+j.toNat*te.size,none⟩)) (w':=w) ?_ ?_
         ·have x1:a.eval (.tmp x) = .slice (some ⟨b,off,none⟩) n cp:=by rw [oL,p1]
          have x2:a.eval (.tmp ix) = .int kk j:=by rw [oL,aMI R hj]
          simp [execOp,hop,x1,x2,Instr.indexAt,asIntOf,run_underlying h2,sizeOf,typeInfo,e1,e7,hj0,hlt',Addr.add_lit]
         ·rw [hd]
          exact ⟨_,h,R.aIP hN ⟨b,off,n,cp,by rw [hm',p1],by simp⟩⟩
       ·exact h.elim
      ·exact h.elim
     ·exact h.elim
    ·exact h.elim
   ·exact h.elim
  ·exact h.elim
 ·-- store
  rename_i t p x hop
  split at h
  ·rename_i i z j q hm hd
   split at h
   ·rename_i ti hti
    split at h
    ·rename_i d hx
     split at h
     ·rename_i xs hds
      split at h
      ·rename_i y hy
       split at h
       ·rename_i qq hqq
        obtain ⟨⟨hs1,hdf,hyl,hqf⟩,h⟩:=h
        obtain ⟨b,o0,n,cp,e1,e2⟩:=R.mv p _ hm
        obtain ⟨Fi,k2,k3,k4,k5,k6⟩:=R.aNC hds e1
        have hxv:=R.flat x
        rw [hx] at hxv
        obtain ⟨v1,v2⟩:=aEl hxv hdf
        have hbF:b∈Fi:=by
         simp only [Rep] at k2
         obtain ⟨ad,n',c',p1,p2,p3,p4⟩:=k2
         cases p1
         have hlt:j<xs.length:=(List.getElem?_eq_some_iff.1 hy).1
         rcases p4 with ⟨p4,_⟩ | ⟨g,off,cells,sz,G,q1,q2,rfl,_⟩
         ·omega
         ·cases q1;simp
        obtain ⟨cur,et,hcur⟩:=k4 b hbF
        obtain ⟨m1,m2,m3⟩:=k2.store k3 hcur hy hqq hqf v1
        rw [hyl] at m1 m2
        have hvx:(a.eval (.tmp x)).cells = #[a.tmps.getD x undef]:=by rw [oL];exact v2
        have hrun:=aFf (P:=P) (w:=w) (v:=a.eval (.tmp x)) (off:=o0+j*z+q) hti hcur (by rw [hvx,hs1];rfl) (by rw [hvx];intro u hu;rw [List.mem_singleton.1 hu];exact v1.one) (by rw [hs1];exact m1)
        rw [hvx,hs1] at hrun
        have rN:(cur.toList.take (o0+j*z+q)++(#[a.tmps.getD x undef].toList++cur.toList.drop (o0+j*z+q+1)))=cur.toList.set (o0+j*z+q) (a.tmps.getD x undef):=by
         rw [List.set_eq_take_append_cons_drop,if_pos (by simpa using m1)];simp
        rw [rN] at hrun
        refine aMJ (w':=w.setRow b (cur.toList.set (o0+j*z+q) (a.tmps.getD x undef)).toArray) ?_ hd ?_
        ·simp only [execOp,hop,oL,e2,Sem.run_bind]
         rw [oL] at hrun
         simp only [hrun,Result.andThen_ok,Sem.run_pure]
        ·have hoth : ∀k,k≠b→(w.setRow b (cur.toList.set (o0+j*z+q) (a.tmps.getD x undef)).toArray).heap[k]? = w.heap[k]? := fun k hk=>setRow_other w b k _ hk
         refine ⟨_,h,R.change ⟨rfl,rfl,rfl,by rw [setRow_size];exact Nat.le_refl _,fun k hk hn=>hoth k fun e=>hn (e ▸ k5 b hbF),fun k hk cur0 e0 hc0 => ?_⟩ (k6 _ _ m2 fun k hk hn=>hoth k fun e=>hn (e ▸ hbF))⟩
         by_cases hkb:k=b
         ·subst hkb
          rw [hcur] at hc0
          cases hc0
          exact ⟨_,setRow_heap w k cur _ et _ hcur,by simp⟩
         ·exact ⟨cur0,(hoth k hkb).trans hc0,rfl⟩
       ·exact h.elim
      ·exact h.elim
     ·exact h.elim
    ·exact h.elim
   ·exact h.elim
  ·exact h.elim
 ·-- len
  rename_i as ts hop
  split at h
  ·rename_i x t has hts
   have has':=aLo has
   have hts':=aLo hts
   subst has' hts'
   split at h
   ·rename_i i d hm hd
    split at h
    ·rename_i e sz0 by0 z0 cm0 sl0 hti
     obtain ⟨ii,dd,z,h1,h2,h3,h4,_⟩:=(cW hti).ok
     obtain rfl:=aBG h4
     split at h
     ·rename_i xs hds
      have hm':c.vals[i]? = some (a.tmps.getD x undef):=R.mv x _ hm
      obtain ⟨Fi,k2,k3,k4,k5,k6⟩:=R.aNC hds hm'
      simp only [Rep] at k2
      obtain ⟨ad,n,cp,p1,p2,p3,p4⟩:=k2
      refine mT (v:=.int .i64 n) (w':=w) ?_ ?_
      ·have x1:a.eval (.tmp x) = .slice ad n cp:=by rw [oL,p1]
       simp [execOp,hop,resolve,invoke,builtin,Builtin.len_,x1,run_underlying h2,goInt]
      ·rw [hd,p2]
       exact ⟨_,h.2,R.aIV h.1 ⟨_,[],rfl,⟨[],by simp [Rep],by simp⟩,rfl⟩⟩
     ·exact h.elim
    ·exact h.elim
   ·exact h.elim
  ·exact h.elim
 ·-- call
  rename_i f as ts hop
  split at h
  ·rename_i x y has
   split at h
   ·rename_i i d hm hd
    split at h
    ·rename_i k hy
     split at h
     ·rename_i ys hds
      obtain ⟨ys',k',hc,hN,hK⟩:=h
      have hm':c.vals[i]? = some (a.tmps.getD x undef):=R.mv x _ hm
      obtain ⟨Fi,k2,k3,k4,k5,k6⟩:=R.aNC hds hm'
      exact aJc hop has hd R rfl hy hc hN k2 k3 k4 k5 (fun w' hr hb=>k6 w' _ hr hb) hK
     ·exact h.elim
    ·exact h.elim
   ·rename_i off n d hm hd
    split at h
    ·rename_i k hy
     obtain ⟨es,k',hc,⟨hN,hle⟩,hK⟩:=h
     have hx:a.tmps.getD x undef = .agg ((c.vals.drop off).take n).toArray:=R.mv x _ hm
     obtain ⟨m1,m2,m3,m4⟩:=aCe.mid off n R.rep R.nodup hle
     unfold Oper.wp
     have has':as = #[.tmp x,.tmp y]:=aLT has
     have hrun:(execOp a.eval o).run P w = .ok (.enter f #[.agg ((c.vals.drop off).take n).toArray,.int .i64 k]) w:=by
      have e1:a.eval (.tmp x) = .agg ((c.vals.drop off).take n).toArray:=by rw [oL,hx]
      have e2:a.eval (.tmp y) = .int .i64 k:=by rw [oL,aMI R hy]
      subst has'
      simp only [execOp,hop,resolve,Deferred.ofValue,invoke]
      simp [aCY hc.1,Act.eval] at e1 e2 ⊢
      simp [e1,e2]
     rw [hrun]
     unfold Oper.upon
     refine (hc.2 w _ ((c.Fs.drop off).take n) ⟨_,rfl,by simpa using m1⟩ m2 (fun b hb=>R.aP4 b (m3 b hb))).mono ?_
     rintro e w' ⟨rfl,h2,h3⟩
     obtain ⟨cs,e1,h4⟩:=h2
     cases e1
     have hlt : ∀b∈c.F,b<w.heap.size:=R.rep.lt
     have hF:Frm c.F w w':=h3.mono m3
     show aRQ c N K (a.put o.dst (.int .i64 k')) w'
     rw [hd]
     exact ⟨_,hK,(R.change hF (m4 w' es (by simpa using h4) fun b hb hn'=>h3.out b (hlt b hb) hn')).aIV hN (⟨_,[],rfl,⟨[],by simp [Rep],by simp⟩,rfl⟩)⟩
    ·exact h.elim
   ·rename_i i z j q d hm hd
    split at h
    ·rename_i k hy
     split at h
     ·rename_i xs hds
      split at h
      ·rename_i e he
       split at h
       ·rename_i ys hq
        obtain ⟨ys',k',hc,⟨hel,hN⟩,hK⟩:=h
        obtain ⟨b,o0,n,cp,e1,e2⟩:=R.mv x _ hm
        obtain ⟨Fi,k2,k3,k4,k5,k6⟩:=R.aNC hds e1
        obtain ⟨v,Gi,m1,m2,m3,m4,m5⟩:=k2.under k3 he hq
        rw [hel] at m1
        have hv:a.tmps.getD x undef=v:=by rw [e2] at m1;simpa using m1
        refine aJc hop has hd R hv hy hc hN m2 m3 (fun b hb=>k4 b (m4 b hb)) (fun b hb=>k5 b (m4 b hb)) (fun w' hr hb => ?_) hK
        refine k6 w' _ (m5 w' _ hr fun b' hb' hn=>hb b' (k5 b' hb') hn) fun b' hb' hn=>hb b' hb' fun hm=>hn (m4 b' hm)
       ·exact h.elim
      ·exact h.elim
     ·exact h.elim
    ·exact h.elim
   ·exact h.elim
  ·exact aDM R h
 ·exact aDM R h
end
end Go.Sh
