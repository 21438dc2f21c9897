/-
  Helper text. No conditions.
-/
import Derived.Test.YtidhkhdnjonjfaaGreatShQ
set_option linter.unusedVariables false
set_option linter.unusedSimpArgs false
namespace Go.Sh
open Go.RowKit
structure Frm (F:List Nat) (w w':World):Prop where
 os:w'.os=w.os
 tape:w'.tape=w.tape
 output:w'.output=w.output
 size:w.heap.size≤w'.heap.size
 out : ∀b,b<w.heap.size→b∉F→w'.heap[b]? = w.heap[b]?
 ins : ∀b∈F,∀cur e,w.heap[b]? = some (.cells cur e (0,0)) → ∃cur',w'.heap[b]? = some (.cells cur' e (0,0))∧cur'.size=cur.size
theorem Frm.refl (F:List Nat) (w:World):Frm F w w:=⟨rfl,rfl,rfl,Nat.le_refl _,fun _ _ _=>rfl,fun _ _ cur e h=>⟨cur,h,rfl⟩⟩
theorem aDE {w:World} {b:Nat} {x:_} (h:w.heap[b]? = some x):b<w.heap.size:=(Array.getElem?_eq_some_iff.1 h).1
theorem Frm.trans {F:List Nat} {a b c:World} (h:Frm F a b) (k:Frm F b c):Frm F a c:=
 ⟨k.os.trans h.os,k.tape.trans h.tape,k.output.trans h.output,Nat.le_trans h.size k.size,fun i hi hn=>(k.out i (Nat.lt_of_lt_of_le hi h.size) hn).trans (h.out i hi hn),
  fun i hi cur e hc=>by
   obtain ⟨c1,k1,k2⟩:=h.ins i hi cur e hc
   obtain ⟨c2,k3,k4⟩:=k.ins i hi c1 e k1
   exact ⟨c2,k3,k4.trans k2⟩⟩
theorem Frm.aQF {F:List Nat} {w w':World} (h:Below w.heap.size w w'):Frm F w w':=
 ⟨h.os,h.tape,h.output,h.size,fun b hb _=>h.block b hb,fun b _ cur e hc=>⟨cur,(h.block b (aDE hc)).trans hc,rfl⟩⟩
theorem Frm.mono {F G:List Nat} {w w':World} (h:Frm F w w') (hs : ∀b∈F,b∈G):Frm G w w':=
 ⟨h.os,h.tape,h.output,h.size,fun b hb hn=>h.out b hb fun hm=>hn (hs b hm),fun b _ cur e hc=>by
  by_cases hb:b∈F
  ·exact h.ins b hb cur e hc
  ·exact ⟨cur,(h.out b (aDE hc) hb).trans hc,rfl⟩⟩
theorem Frm.aQf {F:List Nat} {w w':World} (h:Frm F w w') {b:Nat} (hb:aK1 w b):aK1 w' b:=by
 obtain ⟨cur,e,hc⟩:=hb
 by_cases hm:b∈F
 ·obtain ⟨c,k,_⟩:=h.ins b hm cur e hc;exact ⟨c,e,k⟩
 ·exact ⟨cur,e,(h.out b (aDE hc) hm).trans hc⟩
def aCj (w:World):List D→List Value→List (List Nat)→Prop
 | [],vs,Fs=>vs=[]∧Fs=[]
 | d::ds,vs,Fs=>∃v vs' F Fs',vs=v::vs'∧Fs=F::Fs'∧Rep w d v F∧aCj w ds vs' Fs'
theorem aCj.length {w:World} : ∀ {ds:List D} {vs:List Value} {Fs:List (List Nat)},aCj w ds vs Fs→vs.length=ds.length
 | [],vs,Fs,h=>by rw [h.1];rfl
 | d::ds,vs,Fs,h=>by obtain ⟨v,vs',F,Fs',rfl,rfl,_,h⟩:=h;simp [aCj.length h]
theorem aCj.lt {w:World} : ∀ {ds:List D} {vs:List Value} {Fs:List (List Nat)},aCj w ds vs Fs → ∀b∈Fs.flatten,b<w.heap.size
 | [],vs,Fs,h=>by rw [h.2];simp
 | d::ds,vs,Fs,h=>by
  obtain ⟨v,vs',F,Fs',rfl,rfl,h1,h2⟩:=h
  intro b hb
  rw [List.flatten_cons] at hb
  rcases List.mem_append.1 hb with hb | hb
  ·exact Rep.lt _ _ _ h1 b hb
  ·exact aCj.lt h2 b hb
theorem aCj.lB {w w':World} : ∀ {ds:List D} {vs:List Value} {Fs:List (List Nat)},aCj w ds vs Fs→(∀b∈Fs.flatten,w'.heap[b]? = w.heap[b]?)→aCj w' ds vs Fs
 | [],vs,Fs,h,_=>h
 | d::ds,vs,Fs,h,hb=>by
  obtain ⟨v,vs',F,Fs',rfl,rfl,h1,h2⟩:=h
  rw [List.flatten_cons] at hb
  exact ⟨v,vs',F,Fs',rfl,rfl,Rep.lB _ _ _ h1 fun b hm=>hb b (by simp [hm]),aCj.lB h2 fun b hm=>hb b (by simp only [qP];exact .inr hm)⟩
theorem aCj.upd {w:World} : ∀ {ds:List D} {vs:List Value} {Fs:List (List Nat)} {i:Nat} {v:Value} {d:D},aCj w ds vs Fs→Fs.flatten.Nodup→vs[i]? = some v→ds[i]? = some d → ∃Fi,Fs[i]? = some Fi∧Rep w d v Fi∧Fi.Nodup∧(∀b∈Fi,b∈Fs.flatten) ∧
  ∀(w':World) (d':D),Rep w' d' v Fi→(∀b∈Fs.flatten,b∉Fi→w'.heap[b]? = w.heap[b]?)→aCj w' (ds.set i d') vs Fs
 | [],vs,Fs,i,v,d,h,hn,hv,hd=>by simp at hd
 | d0::ds,vs,Fs,0,v,d,h,hn,hv,hd=>by
  obtain ⟨u,vs',F,Fs',rfl,rfl,h1,h2⟩:=h
  simp at hv hd
  subst hv hd
  rw [List.flatten_cons,List.nodup_append] at hn
  refine ⟨F,rfl,h1,hn.1,fun b hb=>by simp [hb],fun w' d' hd' hb => ?_⟩
  refine ⟨u,vs',F,Fs',rfl,rfl,hd',h2.lB fun b hm=>hb b (by rw [List.flatten_cons];simp only [qP];exact .inr hm) fun hf=>hn.2.2 b hf b hm rfl⟩
 | d0::ds,vs,Fs,i+1,v,d,h,hn,hv,hd=>by
  obtain ⟨u,vs',F,Fs',rfl,rfl,h1,h2⟩:=h
  rw [List.flatten_cons,List.nodup_append] at hn
  obtain ⟨Fi,k1,k2,k3,k4,k5⟩:=aCj.upd h2 hn.2.1 (by simpa using hv) (by simpa using hd)
  refine ⟨Fi,by simpa using k1,k2,k3,fun b hb=>by rw [List.flatten_cons];simp only [qP];exact .inr (k4 b hb),fun w' d' hd' hb => ?_⟩
  refine ⟨u,vs',F,Fs',rfl,rfl,Rep.lB _ _ _ h1 fun b hm=>hb b (by rw [List.flatten_cons];simp [hm]) fun hf=>hn.2.2 b hm b (k4 b hf) rfl,k5 w' d' hd' fun b hm hf=>hb b (by rw [List.flatten_cons];simp only [qP];exact .inr hm) hf⟩
theorem aCj.append {w:World} : ∀ {ds es:List D} {vs us:List Value} {Fs Gs:List (List Nat)},aCj w ds vs Fs→aCj w es us Gs→aCj w (ds++es) (vs++us) (Fs++Gs)
 | [],es,vs,us,Fs,Gs,h,k=>by rw [h.1,h.2];exact k
 | d::ds,es,vs,us,Fs,Gs,h,k=>by
  obtain ⟨v,vs',F,Fs',rfl,rfl,h1,h2⟩:=h
  exact ⟨v,vs'++us,F,Fs'++Gs,rfl,rfl,h1,aCj.append h2 k⟩
theorem aCj.split {w:World} : ∀(n:Nat) {ds:List D} {vs:List Value} {Fs:List (List Nat)},aCj w ds vs Fs→n≤ds.length→aCj w (ds.take n) (vs.take n) (Fs.take n)∧aCj w (ds.drop n) (vs.drop n) (Fs.drop n)
 | 0,ds,vs,Fs,h,_=>⟨by simp [aCj],by simpa using h⟩
 | n+1,[],vs,Fs,h,hn=>by simp at hn
 | n+1,d::ds,vs,Fs,h,hn=>by
  obtain ⟨v,vs',F,Fs',rfl,rfl,h1,h2⟩:=h
  obtain ⟨k1,k2⟩:=aCj.split n h2 (by simpa using hn)
  exact ⟨⟨v,vs'.take n,F,Fs'.take n,rfl,rfl,h1,k1⟩,k2⟩
theorem aCj.mid {w:World} {ds:List D} {vs:List Value} {Fs:List (List Nat)} (off n:Nat) (h:aCj w ds vs Fs) (hn:Fs.flatten.Nodup) (hle:off+n≤ds.length) :
  aCj w ((ds.drop off).take n) ((vs.drop off).take n) ((Fs.drop off).take n)∧((Fs.drop off).take n).flatten.Nodup∧(∀b∈((Fs.drop off).take n).flatten,b∈Fs.flatten) ∧
   ∀(w':World) (es:List D),aCj w' es ((vs.drop off).take n) ((Fs.drop off).take n)→(∀b∈Fs.flatten,b∉((Fs.drop off).take n).flatten→w'.heap[b]? = w.heap[b]?)→aCj w' (ds.take off++(es++ds.drop (off+n))) vs Fs:=by
 obtain ⟨k1,k2⟩:=aCj.split off h (by omega)
 obtain ⟨k3,k4⟩:=aCj.split n k2 (by rw [qU];omega)
 have e1:Fs=Fs.take off++((Fs.drop off).take n++(Fs.drop off).drop n):=by rw [List.take_append_drop,List.take_append_drop]
 have e2:vs=vs.take off++((vs.drop off).take n++(vs.drop off).drop n):=by rw [List.take_append_drop,List.take_append_drop]
 rw [e1,List.flatten_append,List.flatten_append,List.nodup_append,List.nodup_append] at hn
 obtain ⟨n1,⟨n2,n3,n4⟩,n5⟩:=hn
 have hsub : ∀b∈((Fs.drop off).take n).flatten,b∈Fs.flatten:=by
  intro b hb
  rw [e1,List.flatten_append,List.flatten_append]
  simp only [qP]
  exact .inr (.inl hb)
 refine ⟨k3,n2,hsub,fun w' es he hb => ?_⟩
 have hmem : ∀b,b∈(Fs.take off).flatten∨b∈((Fs.drop off).drop n).flatten→b∈Fs.flatten:=by
  intro b hb
  rw [e1,List.flatten_append,List.flatten_append]
  simp only [qP]
  rcases hb with hb | hb
  ·exact .inl hb
  ·exact .inr (.inr hb)
 have q1:aCj w' (ds.take off) (vs.take off) (Fs.take off):=k1.lB fun b hm=>hb b (hmem b (.inl hm)) fun hf=>n5 b hm b (by simp only [qP];exact .inl hf) rfl
 have q2:aCj w' (ds.drop (off+n)) ((vs.drop off).drop n) ((Fs.drop off).drop n):=by
  rw [←List.drop_drop]
  exact k4.lB fun b hm=>hb b (hmem b (.inr hm)) fun hf=>n4 b hf b hm rfl
 have:=q1.append (he.append q2)
 rw [←e1,←e2] at this
 exact this
def aRn (w:World) (v:Value) (ag:Bool) (ds:List D) (Fs:List (List Nat)):Prop:=
 match ag with
 | true=>∃cs,v = .agg cs∧aCj w ds cs.toList Fs
 | false=>aCj w ds [v] Fs
def oT (P:Program) (f:FuncId) (ag:Bool) (ds ds':List D) (k k':Int):Prop:=
 aG4 P f ∧ ∀(w:World) (v:Value) (Fs:List (List Nat)),aRn w v ag ds Fs→Fs.flatten.Nodup→(∀b∈Fs.flatten,aK1 w b) →
  Calls P f #[v,.int .i64 k] w fun e w'=>e = .returned (.int .i64 k')∧aRn w' v ag ds' Fs∧Frm Fs.flatten w w'
inductive MV where
 | top (i:Nat)
 | agg
 | el (i sz j off:Nat)
 | bx (off:Nat)
 | sub (i sz j off:Nat)
 | tops (off n:Nat)
structure MSt where
 t:Nat→SV
 m:Nat→Option MV
 ds:List D
structure MCx where
 vals:List Value
 Fs:List (List Nat)
 w0:World
def MCx.F (c:MCx):List Nat:=c.Fs.flatten
def aRL (c:MCx) (w:World):MV→Value→Prop
 | .top i,v=>c.vals[i]? = some v
 | .agg,v=>v = .agg c.vals.toArray
 | .el i sz j off,v=>∃b o n cp,c.vals[i]? = some (.slice (some ⟨b,o,none⟩) n cp)∧v = .pointer (some ⟨b,o+j*sz+off,none⟩)
 | .bx off,v=>∃B t,v = .pointer (some ⟨B,off,none⟩)∧w.heap[B]? = some (.cells c.vals.toArray t (0,0))∧B∉c.F
 | .sub i sz j off,v=>∃b o n cp,c.vals[i]? = some (.slice (some ⟨b,o,none⟩) n cp)∧w.cell? ⟨b,o+j*sz+off,none⟩=some v
 | .tops off n,v=>v = .agg ((c.vals.drop off).take n).toArray
def gz:Gh:={ val:=fun _=>undef,fp:=fun _=>[],S:=fun _=>False,Q:=⟨fun _=>True,0,none,fun _=>[]⟩ }
def hz:sB:=fun _=>(0,.none)
theorem lF.aWI {sv:SV} {v:Value} {w:World} (w':World) (h:lF gz hz w sv v):lF gz hz w' sv v:=
 h.turn ⟨fun _ x=>x,fun _ x=>False.elim x,fun _=>Nat.le_refl _,fun i e sz xs dp _ hr=>(by cases hr),fun i t cs _ hx=>(by cases hx),rfl⟩
structure aHi (c:MCx) (N:Nat) (σ:MSt) (a:Act) (w:World):Prop where
 defers:a.defers=[]
 size:a.tmps.size=N
 frm:Frm c.F c.w0 w
 nodup:c.F.Nodup
 aQf : ∀b∈c.F,aK1 w b
 rep:aCj w σ.ds c.vals c.Fs
 flat : ∀t,lF gz hz w (σ.t t) (a.tmps.getD t undef)
 mv : ∀t x,σ.m t=some x→aRL c w x (a.tmps.getD t undef)
def MSt.aIv (σ:MSt) (d:Nat) (v:SV):MSt:=⟨fun i=>if i=d then v else σ.t i,fun i=>if i=d then none else σ.m i,σ.ds⟩
def MSt.aIo (σ:MSt) (d:Nat) (v:MV):MSt:=⟨fun i=>if i=d then .unk else σ.t i,fun i=>if i=d then some v else σ.m i,σ.ds⟩
def MV.lB:Option MV→Option MV
 | some (.sub ..)=>none
 | o=>o
def MSt.turn (σ:MSt) (ds:List D):MSt:=⟨σ.t,fun i=>MV.lB (σ.m i),ds⟩
theorem MSt.aOU (σ:MSt) (d:Nat) (v:SV) (i:Nat):(σ.aIv d v).t i=if i=d then v else σ.t i:=rfl
theorem MSt.aO7 (σ:MSt) (d:Nat) (v:SV) (i:Nat):(σ.aIv d v).m i=if i=d then none else σ.m i:=rfl
theorem MSt.aPo (σ:MSt) (d:Nat) (v:SV):(σ.aIv d v).ds=σ.ds:=rfl
theorem MSt.aOQ (σ:MSt) (d:Nat) (v:MV) (i:Nat):(σ.aIo d v).t i=if i=d then .unk else σ.t i:=rfl
theorem MSt.aOY (σ:MSt) (d:Nat) (v:MV) (i:Nat):(σ.aIo d v).m i=if i=d then some v else σ.m i:=rfl
theorem MSt.aOk (σ:MSt) (d:Nat) (v:MV):(σ.aIo d v).ds=σ.ds:=rfl
theorem MSt.aQ6 (σ:MSt) (ds:List D) (i:Nat):(σ.turn ds).t i=σ.t i:=rfl
theorem MSt.aOg (σ:MSt) (ds:List D) (i:Nat):(σ.turn ds).m i=MV.lB (σ.m i):=rfl
theorem MSt.aOR (σ:MSt) (ds:List D):(σ.turn ds).ds=ds:=rfl
section
variable {c:MCx} {N:Nat} {σ:MSt} {a:Act} {w:World}
theorem aHi.aIv (R:aHi c N σ a w) {d:Nat} {sv:SV} {v:Value} (hd:d<N) (hv:lF gz hz w sv v):aHi c N (σ.aIv d sv) (a.put (some d) v) w:=by
 refine ⟨R.defers,by simp [Act.put,R.size],R.frm,R.nodup,R.aQf,R.rep,fun t => ?_,fun t x hx => ?_⟩
 ·rw [aE6 R.size hd,MSt.aOU]
  by_cases ht:t=d
  ·simp only [ht,if_true];exact hv
  ·simp only [ht,if_false];exact R.flat t
 ·rw [MSt.aO7] at hx
  rw [aE6 R.size hd]
  by_cases ht:t=d
  ·simp [ht] at hx
  ·simp only [ht,if_false] at hx ⊢;exact R.mv t x hx
theorem aHi.aIo (R:aHi c N σ a w) {d:Nat} {m:MV} {v:Value} (hd:d<N) (hv:aRL c w m v):aHi c N (σ.aIo d m) (a.put (some d) v) w:=by
 refine ⟨R.defers,by simp [Act.put,R.size],R.frm,R.nodup,R.aQf,R.rep,fun t => ?_,fun t x hx => ?_⟩
 ·rw [aE6 R.size hd,MSt.aOQ]
  by_cases ht:t=d
  ·simp only [ht,if_true];trivial
  ·simp only [ht,if_false];exact R.flat t
 ·rw [MSt.aOY] at hx
  rw [aE6 R.size hd]
  by_cases ht:t=d
  ·simp only [ht,if_true,qa] at hx ⊢;subst hx;exact hv
  ·simp only [ht,if_false] at hx ⊢;exact R.mv t x hx
theorem aRz {b o:Nat} {v:Value} (h:w.cell? ⟨b,o,none⟩=some v):b<w.heap.size:=by
 rcases Nat.lt_or_ge b w.heap.size with hb | hb
 ·exact hb
 ·simp [World.cell?,Array.getElem?_eq_none hb] at h
theorem aHi.grow {w':World} (R:aHi c N σ a w) (h:Below w.heap.size w w'):aHi c N σ a w':=by
 have hlt : ∀b∈c.F,b<w.heap.size:=R.rep.lt
 refine ⟨R.defers,R.size,R.frm.trans (.aQF h),R.nodup,fun b hb=>(R.aQf b hb).lB (h.block b (hlt b hb)),R.rep.lB fun b hb=>h.block b (hlt b hb),fun t=>(R.flat t).aWI _,fun t x hx => ?_⟩
 have hm:=R.mv t x hx
 cases x with
 | top i=>exact hm
 | agg=>exact hm
 | tops off n=>exact hm
 | el i sz j off=>exact hm
 | bx off =>
  obtain ⟨B,ty,h1,h2,h3⟩:=hm
  exact ⟨B,ty,h1,(h.block B (aDE h2)).trans h2,h3⟩
 | sub i sz j off =>
  obtain ⟨b,o,n,cp,h1,h2⟩:=hm
  exact ⟨b,o,n,cp,h1,(World.cell?_of_block (w:=w) (a:=⟨b,o+j*sz+off,none⟩) (h.block b (aRz h2))).trans h2⟩
end
theorem aG.upd {w:World} : ∀ {ds:List D} {vs:List Value} {F:List Nat} {i:Nat} {v:Value},aG w ds vs F→vs[i]? = some v→i<ds.length → ∃d F1 Fi F2,ds[i]? = some d∧F=F1++(Fi++F2)∧Rep w d v Fi ∧
  ∀(w':World) (d':D),Rep w' d' v Fi→(∀b,b∈F1∨b∈F2→w'.heap[b]? = w.heap[b]?)→aG w' (ds.set i d') vs F
 | [],vs,F,i,v,h,hv,hi=>by simp at hi
 | d::ds,vs,F,0,v,h,hv,hi=>by
  simp only [aG] at h
  obtain ⟨u,vs',F1,F2,rfl,rfl,h3,h4⟩:=h
  simp at hv
  subst hv
  refine ⟨d,[],F1,F2,rfl,rfl,h3,fun w' d' hd hb => ?_⟩
  simp only [List.set_cons_zero,aG]
  exact ⟨u,vs',F1,F2,rfl,rfl,hd,aG.lB _ _ _ h4 fun b hm=>hb b (.inr hm)⟩
 | d::ds,vs,F,i+1,v,h,hv,hi=>by
  simp only [aG] at h
  obtain ⟨u,vs',F1,F2,rfl,rfl,h3,h4⟩:=h
  obtain ⟨d0,G1,Gi,G2,k1,rfl,k3,k4⟩:=aG.upd h4 (by simpa using hv) (by simpa using hi)
  refine ⟨d0,F1++G1,Gi,G2,by simpa using k1,by simp,k3,fun w' d' hd hb => ?_⟩
  simp only [List.set_cons_succ,aG]
  refine ⟨u,vs',F1,G1++(Gi++G2),rfl,rfl,Rep.lB _ _ _ h3 fun b hm=>hb b (.inl (by simp [hm])),k4 w' d' hd fun b hm=>hb b ?_⟩
  rcases hm with hm | hm
  ·exact .inl (by simp [hm])
  ·exact .inr hm
theorem aME {F1 Fi F2:List Nat} (h:(F1++(Fi++F2)).Nodup):Fi.Nodup ∧ ∀b,b∈F1∨b∈F2→b∉Fi:=by
 rw [List.nodup_append,List.nodup_append] at h
 obtain ⟨n1,⟨n2,n3,n4⟩,n5⟩:=h
 refine ⟨n2,fun b hb hi => ?_⟩
 rcases hb with hb | hb
 ·exact n5 b hb b (by simp [hi]) rfl
 ·exact n4 b hi b hb rfl
theorem aR.upd {w:World} {sz:Nat} {xs:List (List D)} {cells:List Value} {G:List Nat} {j o:Nat} {y:List D} {q:D} (h:aR w xs cells G) (hx : ∀x∈xs,x.length=sz) (hy:xs[j]? = some y) (hq:y[o]? = some q) :
  ∃v G1 Gi G2,cells[j*sz+o]? = some v∧G=G1++(Gi++G2)∧Rep w q v Gi ∧
   ∀(w':World) (q':D),Rep w' q' v Gi→(∀b,b∈G1∨b∈G2→w'.heap[b]? = w.heap[b]?)→aR w' (xs.set j (y.set o q')) cells G:=by
 obtain ⟨v1,v2,v3,F1,F2,F3,rfl,rfl,hl1,hr1,hr2,hr3⟩:=h.at_ hx hy
 have hlen:=hr2.length
 have ho:o<y.length:=(List.getElem?_eq_some_iff.1 hq).1
 have hv:v2[o]? = some v2[o]:=qF (by omega)
 obtain ⟨d,H1,Hi,H2,k1,rfl,k3,k4⟩:=aG.upd hr2 hv ho
 rw [hq] at k1
 cases k1
 have hjlt:j<xs.length:=(List.getElem?_eq_some_iff.1 hy).1
 refine ⟨v2[o],F1++H1,Hi,H2++F3,?_,by simp,k3,fun w' q' hq' hb => ?_⟩
 ·rw [←hl1,List.getElem?_append_right (by omega),Nat.add_sub_cancel_left,List.getElem?_append_left (by omega),hv]
 ·rw [List.set_eq_take_append_cons_drop,if_pos hjlt]
  refine aR.append (aR.lB _ _ _ hr1 fun b hm=>hb b (.inl (by simp [hm]))) ?_
  simp only [aR]
  exact ⟨v2,v3,H1++(Hi++H2),F3,rfl,rfl,k4 w' q' hq' fun b hm=>hb b (by rcases hm with hm | hm<;>simp [hm]),aR.lB _ _ _ hr3 fun b hm=>hb b (.inr (by simp [hm]))⟩
end Go.Sh
namespace Go.Sh
open Go.RowKit
theorem aG.aSa {w:World} : ∀ {ds:List D} {vs:List Value} {F:List Nat} {i:Nat} {q d:D} {u:Value},aG w ds vs F→ds[i]? = some q→q.flat=true→Rep w d u []→aG w (ds.set i d) (vs.set i u) F
 | [],vs,F,i,q,d,u,h,hq,_,_=>by simp at hq
 | x::ds,vs,F,0,q,d,u,h,hq,hf,hd=>by
  simp only [aG] at h
  obtain ⟨v,vs',F1,F2,rfl,rfl,h3,h4⟩:=h
  simp at hq
  subst hq
  have:=aDZ h3 hf
  subst this
  simp only [List.set_cons_zero,aG]
  exact ⟨u,vs',[],F2,rfl,rfl,hd,h4⟩
 | x::ds,vs,F,i+1,q,d,u,h,hq,hf,hd=>by
  simp only [aG] at h
  obtain ⟨v,vs',F1,F2,rfl,rfl,h3,h4⟩:=h
  simp only [List.set_cons_succ,aG]
  exact ⟨v,vs'.set i u,F1,F2,rfl,rfl,h3,aG.aSa h4 (by simpa using hq) hf hd⟩
theorem aR.aSa {w:World} {sz:Nat} {xs:List (List D)} {cells:List Value} {G:List Nat} {j o:Nat} {y:List D} {q d:D} {u:Value} (h:aR w xs cells G) (hx : ∀x∈xs,x.length=sz) (hy:xs[j]? = some y) (hq:y[o]? = some q) (hf:q.flat=true) (hd:Rep w d u []) :
  aR w (xs.set j (y.set o d)) (cells.set (j*sz+o) u) G:=by
 obtain ⟨v1,v2,v3,F1,F2,F3,rfl,rfl,hl1,hr1,hr2,hr3⟩:=h.at_ hx hy
 have hlen:=hr2.length
 have ho:o<y.length:=(List.getElem?_eq_some_iff.1 hq).1
 have hjlt:j<xs.length:=(List.getElem?_eq_some_iff.1 hy).1
 rw [List.set_eq_take_append_cons_drop,if_pos hjlt,←hl1,List.set_append_right _ _ (by omega),Nat.add_sub_cancel_left,List.set_append_left _ _ (by omega)]
 refine aR.append hr1 ?_
 simp only [aR]
 exact ⟨v2.set o u,v3,F2,F3,rfl,rfl,hr2.aSa hq hf hd,hr3⟩
theorem Rep.store {w:World} {xs:List (List D)} {b off n cp j o:Nat} {F:List Nat} {y:List D} {q d:D} {u:Value} {cur:Array Value} {e:TypeId} (h:Rep w (.sl xs) (.slice (some ⟨b,off,none⟩) n cp) F) (hn:F.Nodup)
  (hb:w.heap[b]? = some (.cells cur e (0,0))) (hy:xs[j]? = some y) (hq:y[o]? = some q) (hf:q.flat=true) (hd:Rep w d u []) :
  off+j*y.length+o<cur.size∧Rep (w.setRow b (cur.toList.set (off+j*y.length+o) u).toArray) (.sl (xs.set j (y.set o d))) (.slice (some ⟨b,off,none⟩) n cp) F∧b∈F:=by
 simp only [Rep] at h
 obtain ⟨ad,n',c',e1,e2,e3,e4⟩:=h
 cases e1
 have hjlt:j<xs.length:=(List.getElem?_eq_some_iff.1 hy).1
 have ho:o<y.length:=(List.getElem?_eq_some_iff.1 hq).1
 rcases e4 with ⟨e4,_⟩ | ⟨g,off',cells,sz,G,k1,k2,rfl,k4,k5,k6,k7⟩
 ·omega
 cases k1
 have hsz:y.length=sz:=k6 y (List.mem_of_getElem? hy)
 subst hsz
 have hlt:j*y.length+o<cells.length:=by
  rw [k5,e2]
  calc j*y.length+o<j*y.length+y.length:=by omega
   _=(j+1)*y.length:=by rw [Nat.add_mul,Nat.one_mul]
   _≤xs.length*y.length:=Nat.mul_le_mul_right _ hjlt
 have hcell:=k4 (j*y.length+o) _ (qF hlt)
 rw [cell_of_row w b _ cur e (0,0) hb] at hcell
 have hfit:off+(j*y.length+o)<cur.size:=(Array.getElem?_eq_some_iff.1 hcell).1
 have hbG:b∉G:=(List.nodup_cons.1 hn).1
 rw [Nat.add_assoc]
 refine ⟨hfit,?_,by simp⟩
 simp only [Rep]
 have hnew:(w.setRow b (cur.toList.set (off+(j*y.length+o)) u).toArray).heap[b]? = some (.cells (cur.toList.set (off+(j*y.length+o)) u).toArray e (0,0)):=setRow_heap w b cur _ e _ hb
 refine ⟨_,n,cp,rfl,by rw [qN];exact e2,e3,.inr ⟨b,off,cells.set (j*y.length+o) u,y.length,G,rfl,aDE hnew,rfl,?_,by rw [qN];exact k5,?_,?_⟩⟩
 ·intro k v hk
  rw [cell_of_row _ b _ _ e (0,0) hnew]
  have hklt:k<cells.length:=by have:=(List.getElem?_eq_some_iff.1 hk).1;simpa using this
  have hold:=k4 k _ (qF hklt)
  rw [cell_of_row w b _ cur e (0,0) hb] at hold
  rw [List.getElem?_toArray,List.getElem?_set]
  rw [List.getElem?_set] at hk
  by_cases he:j*y.length+o=k
  ·subst he
   simp only [if_true,hklt] at hk
   simp only [if_true,Array.length_toList,hfit]
   exact hk
  ·rw [if_neg he] at hk
   rw [if_neg (by omega),Array.getElem?_toList,hold]
   rw [qF hklt] at hk
   exact hk
 ·intro x hx
  rcases List.mem_or_eq_of_mem_set hx with hx | rfl
  ·exact k6 x hx
  ·simp
 ·refine aR.lB _ _ _ (k7.aSa k6 hy hq hf hd) fun b' hb'=>setRow_other w b b' _ fun e=>hbG (e ▸ hb')
theorem Rep.under {w:World} {xs:List (List D)} {b off n cp j o:Nat} {F:List Nat} {y:List D} {q:D} (h:Rep w (.sl xs) (.slice (some ⟨b,off,none⟩) n cp) F) (hn:F.Nodup) (hy:xs[j]? = some y) (hq:y[o]? = some q) :
  ∃v Fi,w.cell? ⟨b,off+j*y.length+o,none⟩=some v∧Rep w q v Fi∧Fi.Nodup∧(∀x∈Fi,x∈F) ∧
   ∀(w':World) (q':D),Rep w' q' v Fi→(∀x∈F,x∉Fi→w'.heap[x]? = w.heap[x]?)→Rep w' (.sl (xs.set j (y.set o q'))) (.slice (some ⟨b,off,none⟩) n cp) F:=by
 simp only [Rep] at h
 obtain ⟨ad,n',c',e1,e2,e3,e4⟩:=h
 cases e1
 have hjlt:j<xs.length:=(List.getElem?_eq_some_iff.1 hy).1
 rcases e4 with ⟨e4,_⟩ | ⟨g,off',cells,sz,G,k1,k2,rfl,k4,k5,k6,k7⟩
 ·omega
 cases k1
 have hsz:y.length=sz:=k6 y (List.mem_of_getElem? hy)
 subst hsz
 obtain ⟨v,G1,Gi,G2,m1,rfl,m3,m4⟩:=k7.upd k6 hy hq
 have hn':=(List.nodup_cons.1 hn)
 obtain ⟨p1,p2⟩:=aME hn'.2
 have hbi:b∉Gi:=fun hm=>hn'.1 (by simp [hm])
 refine ⟨v,Gi,?_,m3,p1,fun x hx=>by simp [hx],fun w' q' hq' hk => ?_⟩
 ·rw [Nat.add_assoc];exact k4 _ v m1
 ·have hb0:w'.heap[b]? = w.heap[b]? := hk b (by simp) hbi
  simp only [Rep]
  refine ⟨_,n,cp,rfl,by rw [qN];exact e2,e3,.inr ⟨b,off,cells,y.length,G1++(Gi++G2),rfl,aGo k2 hb0,rfl,k4.lB hb0,k5,?_,m4 w' q' hq' fun x hx=>hk x (by rcases hx with hx | hx<;>simp [hx]) (p2 x hx)⟩⟩
  intro x hx
  rcases List.mem_or_eq_of_mem_set hx with hx | rfl
  ·exact k6 x hx
  ·simp
end Go.Sh
namespace Go.Sh
open Go.RowKit
def aFR:SV→Bool
 | .v false [.dat d]=>d.flat
 | _=>false
def aQi (P:Program) (T:aGn) (N:Nat) (o:Oper) (σ:MSt) (K:MSt→Prop):Prop:=
 ex P (yG T N o) ⟨σ.t,hz,fun _=>.unk⟩ fun s'=>match o.dst with
  | some d=>(s'=(⟨σ.t,hz,fun _=>.unk⟩:St).aEc d (s'.t d)∧aFR (s'.t d)=true∧d<N)∧K (σ.aIv d (s'.t d))
  | none=>False
def aQd (t:Nat→SV):Operand→SV
 | .tmp i=>t i
 | .const c=>cst c
 | .func f=>.v false [.dat (.fn f [])]
 | .global _=>.unk
inductive MP where
 | fail
 | ret (c:Prop) (σ:MSt)
 | mark (f:FuncId) (ys:List (List D)) (k:Int) (c:Prop) (g:List (List D)→Int→MSt)
 | markS (f:FuncId) (ds:List D) (k:Int) (c:Prop) (g:List D→Int→MSt)
 | reg
def sO (T:aGn) (N:Nat) (o:Oper) (σ:MSt):MP:=
 match o.op with
 | .move (.tmp x)=>match σ.t x with
   | .unk=>match σ.m x,o.dst with
     | some mv,some d=>.ret (d<N) (σ.aIo d mv)
     | _,_=>.fail
   | v=>match o.dst with
     | some d=>.ret (aFR v=true∧d<N) (σ.aIv d v)
     | none=>.fail
 | .move (.const c)=>match o.dst with
   | some d=>.ret (aFR (cst c)=true∧d<N) (σ.aIv d (cst c))
   | none=>.fail
 | .assign (.tmp x)=>match σ.t x with
   | .unk=>match σ.m x,o.dst with
     | some mv,some d=>.ret (d<N) (σ.aIo d mv)
     | _,_=>.fail
   | v=>match o.dst with
     | some d=>.ret (aFR v=true∧d<N) (σ.aIv d v)
     | none=>.fail
 | .assign (.const c)=>match o.dst with
   | some d=>.ret (aFR (cst c)=true∧d<N) (σ.aIv d (cst c))
   | none=>.fail
 | .binOp op _ x y _=>match aQd σ.t x with
   | .v false [.dat (.int k m)]=>match aQd σ.t y with
     | .v false [.dat (.int k' n)]=>match oS op k m n with
       | some r=>match o.dst with
         | some d=>.ret (k=k'∧r.flat=true∧d<N) (σ.aIv d (one r))
         | none=>.fail
       | none=>.fail
     | _=>.fail
   | _=>.fail
 | .convert s t x=>match T s with
   | some _=>match T t with
     | some { k:=.int k,.. }=>match aQd σ.t x with
       | .v false [.dat (.int _ n)]=>match o.dst with
         | some d=>.ret (d<N) (σ.aIv d (one (.int k (k.wrap n))))
         | none=>.fail
       | _=>.fail
     | _=>.fail
   | none=>.fail
 | .box _ (.tmp x)=>match σ.m x,o.dst with
   | some .agg,some d=>.ret (d<N) (σ.aIo d (.bx 0))
   | _,_=>.fail
 | .fieldAddr s (.tmp x) f=>match σ.m x,o.dst with
   | some mv,some d=>match T s with
     | some { k:=.struct fs,.. }=>match fs[f]? with
       | some (off,sz,_)=>match mv with
         | .el i z j o=>.ret (0<sz∧d<N) (σ.aIo d (.el i z j (o+off)))
         | .bx o=>.ret (0<sz∧d<N) (σ.aIo d (.bx (o+off)))
         | _=>.fail
       | none=>.fail
     | _=>.fail
   | _,_=>.fail
 | .load t (.tmp x)=>match σ.m x,o.dst with
   | some mv,some d=>match T t with
     | some ti=>match mv with
       | .el i z j o=>match σ.ds[i]? with
         | some (.sl xs)=>match xs[j]? with
           | some y=>.ret ((ti.size=1∧ti.agg=false∧d<N)∧y.length=z∧o<z) (σ.aIo d (.sub i z j o))
           | none=>.fail
         | _=>.fail
       | .bx o=>if ti.agg=true then .ret (d<N∧o+ti.size≤σ.ds.length) (σ.aIo d (.tops o ti.size)) else .ret ((ti.size=1∧ti.agg=false∧d<N)∧o<σ.ds.length) (σ.aIo d (.top o))
       | _=>.fail
     | none=>.fail
   | _,_=>.fail
 | .indexAddr t (.tmp x) (.tmp ix)=>match σ.m x,o.dst with
   | some (.top i),some d=>match T t with
     | some { k:=.slice e,.. }=>match T e with
       | some ti=>match σ.t ix with
         | .v false [.dat (.int _ j)]=>match σ.ds[i]? with
           | some (.sl xs)=>match xs[j.toNat]? with
             | some y=>.ret (0≤j∧y.length=ti.size∧d<N) (σ.aIo d (.el i ti.size j.toNat 0))
             | none=>.fail
           | _=>.fail
         | _=>.fail
       | none=>.fail
     | _=>.fail
   | _,_=>.fail
 | .store t (.tmp p) (.tmp x)=>match σ.m p,o.dst with
   | some (.el i z j o),none=>match T t with
     | some ti=>match σ.t x with
       | .v false [.dat d]=>match σ.ds[i]? with
         | some (.sl xs)=>match xs[j]? with
           | some y=>match y[o]? with
             | some q=>.ret (ti.size=1∧d.flat=true∧y.length=z∧q.flat=true) (σ.turn (σ.ds.set i (.sl (xs.set j (y.set o d)))))
             | none=>.fail
           | none=>.fail
         | _=>.fail
       | _=>.fail
     | none=>.fail
   | _,_=>.fail
 | .call { callee:=.builtin .len,args:=as,argTypes:=ts }=>match as.toList,ts.toList with
   | [.tmp x],[t]=>match σ.m x,o.dst with
     | some (.top i),some d=>match T t with
       | some { k:=.slice _,.. }=>match σ.ds[i]? with
         | some (.sl xs)=>.ret (d<N) (σ.aIv d (one (.int .i64 xs.length)))
         | _=>.fail
       | _=>.fail
     | _,_=>.fail
   | _,_=>.fail
 | .call { callee:=.value (.func f),args:=as,.. }=>match as.toList with
   | [.tmp x,.tmp y]=>match σ.m x,o.dst with
     | some (.top i),some d=>match σ.t y with
       | .v false [.dat (.int .i64 k)]=>match σ.ds[i]? with
         | some (.sl ys)=>.mark f ys k (d<N) fun ys' k'=>(σ.turn (σ.ds.set i (.sl ys'))).aIv d (one (.int .i64 k'))
         | _=>.fail
       | _=>.fail
     | some (.tops off n),some d=>match σ.t y with
       | .v false [.dat (.int .i64 k)]=>.markS f ((σ.ds.drop off).take n) k (d<N∧off+n≤σ.ds.length) fun es k'=>(σ.turn (σ.ds.take off++(es++σ.ds.drop (off+n)))).aIv d (one (.int .i64 k'))
       | _=>.fail
     | some (.sub i z j q),some d=>match σ.t y with
       | .v false [.dat (.int .i64 k)]=>match σ.ds[i]? with
         | some (.sl xs)=>match xs[j]? with
           | some e=>match e[q]? with
             | some (.sl ys)=>.mark f ys k (e.length=z∧d<N) fun ys' k'=>(σ.turn (σ.ds.set i (.sl (xs.set j (e.set q (.sl ys')))))).aIv d (one (.int .i64 k'))
             | _=>.fail
           | none=>.fail
         | _=>.fail
       | _=>.fail
     | _,_=>.fail
   | _=>.reg
 | _=>.reg
def aS8 (P:Program) (T:aGn) (N:Nat) (o:Oper) (σ:MSt):MP→(MSt→Prop)→Prop
 | .fail,_=>False
 | .ret c σ',K=>c∧K σ'
 | .mark f ys k c g,K=>∃ys' k',oT P f false [.sl ys] [.sl ys'] k k'∧c∧K (g ys' k')
 | .markS f ds k c g,K=>∃es k',oT P f true ds es k k'∧c∧K (g es k')
 | .reg,K=>aQi P T N o σ K
def aRH (P:Program) (T:aGn) (N:Nat) (o:Oper) (σ:MSt) (K:MSt→Prop):Prop:=aS8 P T N o σ (sO T N o σ) K
section
variable {P:Program} {c:MCx} {N:Nat} {σ:MSt} {a:Act} {w:World} {K:MSt→Prop} {Q:Exit→Act→World→Prop} {o:Oper}
def aR0 (c:MCx) (N:Nat) (K:MSt→Prop):Act→World→Prop:=fun a' w'=>∃σ',K σ'∧aHi c N σ' a' w'
theorem aSL {nx:Act→World→Prop} (h:o.wp P a w nx Q):o.wp P a w (fun a' w'=>nx a' w'∧((∃v,a'=a.put o.dst v)∨a'.defers≠[])) Q:=by
 unfold Oper.wp at *
 generalize (execOp a.eval o).run P w=r at *
 cases r with
 | ok n w' =>
  cases n with
  | value v=>exact ⟨h,.inl ⟨v,rfl⟩⟩
  | skip=>exact ⟨h,.inl ⟨_,rfl⟩⟩
  | defer d=>refine ⟨h,.inr ?_⟩;cases o.dst<;>simp [Act.put]
  | enter f args=>exact Calls.mono h fun e w'' he=>by cases e<;>first | exact ⟨he,.inl ⟨_,rfl⟩⟩ | exact he
  | row r args=>exact Rows.mono h fun v w'' he=>⟨he,.inl ⟨v,rfl⟩⟩
  | _=>exact h
 | halt x w'=>cases x<;>exact h
theorem aNt {g:Gh} {h:sB} {v:SV} {u:Value} (hv:lF g h w v u) (hf:aFR v=true):lF gz hz w v u:=by
 unfold aFR at hf
 split at hf
 ·obtain ⟨u',us,e1,⟨F,h1,_⟩,h3⟩:=hv
  have:=aDZ h1 hf
  subst this
  exact ⟨u',us,e1,⟨[],h1,by simp⟩,h3⟩
 ·cases hf
theorem zF.aLz (q:QF) {g:Gh} {h:sB} : ∀ {cs:List (Nat×Nat×Nat)} {vs:List Value},zF g h cs vs→zF { g with Q:=q } h cs vs
 | [],_,hc=>hc
 | _::_,_,⟨v,vs',h1,h2,h3⟩=>⟨v,vs',h1,h2,zF.aLz q h3⟩
theorem wV.aLz (q:QF) {g:Gh} {h:sB} {w:World} {c:SC} {v:Value} (hc:wV g h w c v):wV { g with Q:=q } h w c v:=by
 cases c with
 | clo f caps =>
  obtain ⟨vs,h1,h2⟩:=hc
  exact ⟨vs,h1,h2.aLz q⟩
 | _=>exact hc
theorem aQ.aLz (q:QF) {g:Gh} {h:sB} {w:World} : ∀ {cs:List SC} {vs:List Value},aQ g h w cs vs→aQ { g with Q:=q } h w cs vs
 | [],_,hc=>hc
 | _::_,_,⟨v,vs',h1,h2,h3⟩=>⟨v,vs',h1,h2.aLz q,aQ.aLz q h3⟩
theorem aDH.aLz (q:QF) {g:Gh} {h:sB} {w:World} {x:Bool×List SC} {v:Value} (hc:aDH g h w x v):aDH { g with Q:=q } h w x v:=by
 obtain ⟨b,cs⟩:=x
 cases b
 ·exact aQ.aLz q hc
 ·obtain ⟨vs,h1,h2⟩:=hc;exact ⟨vs,h1,aQ.aLz q h2⟩
theorem aAY.aLz (q:QF) {g:Gh} {h:sB} {w:World} : ∀ {cs:List (Bool×List SC)} {vs:List Value},aAY g h w cs vs→aAY { g with Q:=q } h w cs vs
 | [],_,hc=>hc
 | _::_,_,⟨v,vs',h1,h2,h3⟩=>⟨v,vs',h1,h2.aLz q,aAY.aLz q h3⟩
theorem lF.aLz (q:QF) {g:Gh} {h:sB} {w:World} {x:SV} {v:Value} (hc:lF g h w x v):lF { g with Q:=q } h w x v:=by
 cases x with
 | unk=>trivial
 | undef=>exact hc
 | v ag cs=>exact aDH.aLz q hc
 | tup xs=>obtain ⟨vs,h1,h2⟩:=hc;exact ⟨vs,h1,aAY.aLz q h2⟩
theorem aDQ (R:aHi c N σ a w) (h:aQi P (dQ P) N o σ K):o.wp P a w (aR0 c N K) Q:=by
 let g:Gh:={ val:=fun _=>undef,fp:=fun _=>[],S:=fun b=>b<w.heap.size,Q:=⟨fun _=>True,w.heap.size,none,slP P⟩ }
 have R0:jP P w.heap.size ⟨w,⟨fun _=>True,w.heap.size,none,slP P⟩,noK,aMw⟩ N g ⟨σ.t,hz,fun _=>.unk⟩ a w []:=by
  refine ⟨R.defers,R.size,Below.refl _ _,⟨fun _ _=>trivial,rfl,fun _ hx=>(by cases hx)⟩,fun _ x=>x.elim,⟨Nat.le_refl _,fun _ _ _=>trivial,fun _ x=>x,fun i=>trivial,fun i b hl=>absurd rfl hl,fun i j b _ hl=>absurd rfl hl,?_,yH.nil _ _,by simp,fun i hd=>(by obtain ⟨_,_,_,hd⟩:=hd;cases hd),Nat.le_refl _⟩,fun t => ?_,⟨rfl,.inl rfl⟩,fun _=>trivial⟩
  ·rintro i j _ ⟨_,_,_,hd⟩;cases hd
  ·exact lF.aLz ⟨fun _=>True,w.heap.size,none,slP P⟩ ((R.flat t).turn (show iR gz { g with Q:=gz.Q } hz hz w w from ⟨fun _ x=>False.elim x,fun _ x=>False.elim x,fun _=>Nat.le_refl _,fun i e sz xs dp _ hr=>(by cases hr),fun i t cs _ hx=>(by cases hx),rfl⟩))
 refine Oper.wp_mono ?_ (aSL (aOf (Q:=Q) R0 h))
 rintro a' w' ⟨⟨s',hs',g',R'⟩,hp⟩
 split at hs'
 ·rename_i d hd
  obtain ⟨⟨hs,hf,hN⟩,hK⟩:=hs'
  rcases hp with ⟨u,rfl⟩ | hp
  ·rw [hd] at R' ⊢
   refine ⟨_,hK,(R.grow R'.below).aIv hN ?_⟩
   have ht:=R'.tmp d
   rw [aE6 R.size hN] at ht
   simp only [if_true] at ht
   exact aNt ht hf
  ·exact absurd R'.defers hp
 ·exact hs'.elim
theorem aHi.change {w':World} {ds':List D} (R:aHi c N σ a w) (hF:Frm c.F w w') (hr:aCj w' ds' c.vals c.Fs):aHi c N (σ.turn ds') a w':=by
 refine ⟨R.defers,R.size,R.frm.trans hF,R.nodup,fun b hb=>hF.aQf (R.aQf b hb),hr,fun t=>(R.flat t).aWI _,fun t x hx => ?_⟩
 rw [MSt.aOg] at hx
 have hx':σ.m t=some x ∧ ∀i z j q,x ≠ .sub i z j q:=by
  cases hm:σ.m t with
  | none=>rw [hm] at hx;cases hx
  | some y=>rw [hm] at hx;cases y<;>simp only [MV.lB] at hx<;>cases hx<;>exact ⟨rfl,fun _ _ _ _ e=>by cases e⟩
 have hm:=R.mv t x hx'.1
 cases x with
 | top i=>exact hm
 | agg=>exact hm
 | tops off n=>exact hm
 | el i sz j off=>exact hm
 | bx off =>
  obtain ⟨B,ty,h1,h2,h3⟩:=hm
  exact ⟨B,ty,h1,(hF.out B (aDE h2) h3).trans h2,h3⟩
 | sub i sz j off=>exact absurd rfl (hx'.2 i sz j off)
theorem oQ (a:Act) (t:Nat):a.eval (.tmp t)=a.tmps.getD t undef:=by simp [Act.eval]
theorem aS4 {t:TypeId} {ti:TI} (hti:dQ P t=some ti) (hag:ti.agg=false) {b off:Nat} {v:Value} (hc:w.cell? ⟨b,off,none⟩=some v):(Instr.loadAt t (.pointer (some ⟨b,off,none⟩))).run P w = .ok v w:=by
 obtain ⟨i,d,z,h1,h2,h3,h4,h5,h6,h7,h8,h9⟩:=(cC hti).ok
 have hag':=aNN h4
 simp only [Instr.loadAt,Instr.sureAddr,loadVar,Sem.run_bind,Sem.run_pure,Result.andThen_ok,aCg h2 w,hag',hag,if_false,run_load,hc,qD]
theorem aTr {t:TypeId} {ti:TI} (hti:dQ P t=some ti) (hag:ti.agg=true) {b off:Nat} {cells:List Value} (hl:aBY w b off cells) (hlen:cells.length=ti.size):(Instr.loadAt t (.pointer (some ⟨b,off,none⟩))).run P w = .ok (.agg cells.toArray) w:=by
 obtain ⟨i,d,z,h1,h2,h3,h4,h5,h6,h7,h8,h9⟩:=(cC hti).ok
 have hag':=aNN h4
 have hrun:=run_loadCells_list (P:=P) w ⟨b,off,none⟩ cells (fun j u hu=>by rw [Addr.add_lit];exact hl j u hu)
 simp only [Instr.loadAt,Instr.sureAddr,loadVar,Sem.run_bind,Sem.run_pure,Result.andThen_ok,aCg h2 w,hag',hag,if_true,sizeOf,typeInfo,run_program,h1,h7,←hlen,hrun]
theorem aHi.aNn (R:aHi c N σ a w) {i:Nat} {d:D} (hd:σ.ds[i]? = some d) {v:Value} (hv:c.vals[i]? = some v) : ∃Fi,Rep w d v Fi∧Fi.Nodup∧(∀b∈Fi,aK1 w b)∧(∀b∈Fi,b∈c.F) ∧
  ∀(w':World) (d':D),Rep w' d' v Fi→(∀b∈c.F,b∉Fi→w'.heap[b]? = w.heap[b]?)→aCj w' (σ.ds.set i d') c.vals c.Fs:=by
 obtain ⟨Fi,k1,k2,k3,k4,k5⟩:=R.rep.upd R.nodup hv hd
 exact ⟨Fi,k2,k3,fun b hb=>R.aQf b (k4 b hb),k4,k5⟩
theorem aEs {d:D} {v:Value} (h:lF gz hz w (.v false [.dat d]) v) (hf:d.flat=true):Rep w d v []∧v.cells = #[v]:=by
 obtain ⟨v',vs,e1,⟨F,h1,_⟩,_⟩:=h
 simp at e1
 obtain ⟨rfl,rfl⟩:=e1
 have:=aDZ h1 hf
 subst this
 exact ⟨h1,aHu h1.one⟩
theorem aMq {t:Nat} {k:IntKind} {n:Int} (R:aHi c N σ a w) (h:σ.t t = .v false [.dat (.int k n)]):a.tmps.getD t undef = .int k n:=by
 have:=R.flat t
 rw [h] at this
 have:=(aEs this rfl).1
 simp only [Rep] at this
 exact this.1
end
end Go.Sh
namespace Go.Sh
open Go.RowKit
section
variable {P:Program} {c:MCx} {N:Nat} {σ:MSt} {a:Act} {w:World} {K:MSt→Prop} {Q:Exit→Act→World→Prop} {o:Oper}
theorem aKB {f:FuncId} {as:Array Operand} {ts:Array TypeId} {x y d:Nat} {v:Value} {Fi:List Nat} {ys ys':List (List D)} {k k':Int} {ds':List D} (ho:o.op = .call { callee:=.value (.func f),args:=as,argTypes:=ts }) (has:as.toList=[.tmp x,.tmp y]) (hd:o.dst=some d)
  (R:aHi c N σ a w) (hx:a.tmps.getD x undef=v) (hy:σ.t y = .v false [.dat (.int .i64 k)]) (hc:oT P f false [.sl ys] [.sl ys'] k k') (hN:d<N) (hr:Rep w (.sl ys) v Fi) (hn:Fi.Nodup) (hu : ∀b∈Fi,aK1 w b) (hs : ∀b∈Fi,b∈c.F)
  (hnew : ∀w':World,Rep w' (.sl ys') v Fi→(∀b∈c.F,b∉Fi→w'.heap[b]? = w.heap[b]?)→aCj w' ds' c.vals c.Fs) (hK:K ((σ.turn ds').aIv d (one (.int .i64 k')))):o.wp P a w (aR0 c N K) Q:=by
 unfold Oper.wp
 have has':as = #[.tmp x,.tmp y]:=aL2 has
 have hrun:(execOp a.eval o).run P w = .ok (.enter f #[v,.int .i64 k]) w:=by
  have e1:a.eval (.tmp x)=v:=by rw [oQ,hx]
  have e2:a.eval (.tmp y) = .int .i64 k:=by rw [oQ,aMq R hy]
  subst has'
  simp only [execOp,ho,resolve,Deferred.ofValue,invoke]
  simp [aCe hc.1,Act.eval] at e1 e2 ⊢
  simp [e1,e2]
 rw [hrun]
 unfold Oper.upon
 have hA:aRn w v false [.sl ys] [Fi]:=⟨v,[],Fi,[],rfl,rfl,hr,rfl,rfl⟩
 refine (hc.2 w v [Fi] hA (by simpa using hn) (by simpa using hu)).mono ?_
 rintro e w' ⟨rfl,h2,h3⟩
 obtain ⟨v',vs',G1,G2,e1,e2,h4,e3,e4⟩:=h2
 simp only [List.cons.injEq] at e1 e2
 obtain ⟨rfl,rfl⟩:=e1
 obtain ⟨rfl,rfl⟩:=e2
 rw [show [Fi].flatten=Fi from by simp] at h3
 have hlt : ∀b∈c.F,b<w.heap.size:=R.rep.lt
 have hF:Frm c.F w w':=h3.mono hs
 show aR0 c N K (a.put o.dst (.int .i64 k')) w'
 rw [hd]
 exact ⟨_,hK,(R.change hF (hnew w' h4 fun b hb hn'=>h3.out b (hlt b hb) hn')).aIv hN (⟨_,[],rfl,⟨[],by simp [Rep],by simp⟩,rfl⟩)⟩
theorem aPb {s:St} {K':St→Prop} (x:Operand) {b:Bool} {cs:List SC} {k:SV→Prog} (hx:aQd s.t x = .v b cs):ex P (vOp x k) s K'=ex P (k (.v b cs)) s K':=by
 cases x with
 | tmp i=>simp only [vOp,ex];rw [show s.t i=_ from hx]
 | const c=>simp only [vOp];rw [show cst c=_ from hx]
 | func f=>simp only [vOp];rw [show SV.v false [.dat (.fn f [])]=_ from hx]
 | global g=>cases hx
theorem aRq (R:aHi c N σ a w) (h:aRH P (dQ P) N o σ K):o.wp P a w (aR0 c N K) Q:=by
 unfold aRH sO at h
 split at h
 ·-- move
  rename_i x hop
  split at h
  ·split at h
   ·rename_i mv d hm hd
    refine nC (v:=a.tmps.getD x undef) (w':=w) ?_ ?_
    ·simp [execOp,hop,Act.eval]
    ·rw [hd];exact ⟨_,h.2,R.aIo h.1 (R.mv x mv hm)⟩
   ·exact h.elim
  ·split at h
   ·rename_i d hd
    refine aDQ R ?_
    unfold aQi
    simp only [yG,hop,vOp,ex,put,hd,h.1.2,if_true,St.aDR]
    exact ⟨⟨trivial,h.1.1,trivial⟩,h.2⟩
   ·exact h.elim
 ·-- move of a constant
  rename_i cv hop
  split at h
  ·rename_i d hd
   refine aDQ R ?_
   unfold aQi
   simp only [yG,hop,vOp,ex,put,hd,h.1.2,if_true,St.aDR]
   exact ⟨⟨trivial,h.1.1,trivial⟩,h.2⟩
  ·exact h.elim
 ·-- assign
  rename_i x hop
  split at h
  ·split at h
   ·rename_i mv d hm hd
    refine nC (v:=a.tmps.getD x undef) (w':=w) ?_ ?_
    ·simp [execOp,hop,Act.eval]
    ·rw [hd];exact ⟨_,h.2,R.aIo h.1 (R.mv x mv hm)⟩
   ·exact h.elim
  ·split at h
   ·rename_i d hd
    refine aDQ R ?_
    unfold aQi
    simp only [yG,hop,vOp,ex,put,hd,h.1.2,if_true,St.aDR]
    exact ⟨⟨trivial,h.1.1,trivial⟩,h.2⟩
   ·exact h.elim
 ·-- assign of a constant
  rename_i cv hop
  split at h
  ·rename_i d hd
   refine aDQ R ?_
   unfold aQi
   simp only [yG,hop,vOp,ex,put,hd,h.1.2,if_true,St.aDR]
   exact ⟨⟨trivial,h.1.1,trivial⟩,h.2⟩
  ·exact h.elim
 ·-- binOp
  rename_i op ty x y ty2 hop
  split at h
  ·rename_i k m hx
   split at h
   ·rename_i k' n hy
    split at h
    ·rename_i r hr
     split at h
     ·rename_i d hd
      obtain ⟨⟨rfl,hf,hN⟩,hK⟩:=h
      refine aDQ R ?_
      unfold aQi
      simp only [yG,hop]
      rw [aPb x (show aQd (St.mk σ.t hz (fun _=>.unk)).t x=_ from hx),aPb y (show aQd (St.mk σ.t hz (fun _=>.unk)).t y=_ from hy)]
      simp only [true_or,if_true,hr,ex,put,hd,hN,St.aDR]
      exact ⟨⟨trivial,hf,trivial⟩,hK⟩
     ·exact h.elim
    ·exact h.elim
   ·exact h.elim
  ·exact h.elim
 ·-- convert
  rename_i sy ty x hop
  split at h
  ·rename_i ts hts
   split at h
   ·rename_i k sz0 by0 z0 cm0 sl0 htt
    split at h
    ·rename_i k0 n hx
     split at h
     ·rename_i d hd
      refine aDQ R ?_
      unfold aQi
      simp only [yG,hop,hts,htt]
      rw [aPb x (show aQd (St.mk σ.t hz (fun _=>.unk)).t x=_ from hx)]
      simp only [ex,put,hd,h.1,if_true,St.aDR]
      exact ⟨⟨trivial,rfl,trivial⟩,h.2⟩
     ·exact h.elim
    ·exact h.elim
   ·exact h.elim
  ·exact h.elim
 ·-- box
  rename_i t x hop
  split at h
  ·rename_i d hm hd
   have hx:a.tmps.getD x undef = .agg c.vals.toArray:=R.mv x _ hm
   have hb:Below w.heap.size w (w.alloc (.cells c.vals.toArray t)):=(Below.refl _ _).alloc (Nat.le_refl _) _
   refine nC (v:=.pointer (some ⟨w.heap.size,0,none⟩)) (w':=w.alloc (.cells c.vals.toArray t)) ?_ ?_
   ·have hx':a.eval (.tmp x) = .agg c.vals.toArray:=by rw [oQ,hx]
    simp [execOp,hop,Instr.box,newVar,newRow,hx',Value.cells]
   ·rw [hd]
    refine ⟨_,h.2,(R.grow hb).aIo h.1 ⟨w.heap.size,t,rfl,heap_alloc_new w _,fun hm => ?_⟩⟩
    exact absurd (R.rep.lt _ hm) (Nat.lt_irrefl _)
  ·exact h.elim
 ·-- fieldAddr
  rename_i s x f hop
  split at h
  ·rename_i mv d hm hd
   split at h
   ·rename_i fs sz0 by0 z0 cm0 sl0 hti
    obtain ⟨i,dd,z,h1,h2,h3,h4,h5,h6,h7,h8,h9⟩:=(cC hti).ok
    split at h
    ·rename_i off sz ag hf
     obtain ⟨fields,fld,fi,rfl,k1,k2,k3,k4,k5,dsc,hdsc⟩:=aMJ (t:=s) h4 hf
     have hrun : ∀b o',0<sz→a.eval (.tmp x) = .pointer (some ⟨b,o',none⟩)→(execOp a.eval o).run P w = .ok (.value (.pointer (some ⟨b,o'+off,none⟩))) w:=by
      intro b o' hpos hx
      have hne : ¬fi.size=0:=by omega
      simp [execOp,hop,hx,Instr.fieldAt,run_underlying h2,k1,Instr.sureAddr,fieldPlace,sizeOf,typeInfo,k3,hne,Addr.add_lit,k2]
     have hm':=R.mv x mv hm
     split at h
     ·obtain ⟨b,o0,n,cp,e1,e2⟩:=hm'
      obtain ⟨⟨hpos,hN⟩,h⟩:=h
      refine nC (hrun b _ hpos (by rw [oQ,e2])) ?_
      rw [hd]
      exact ⟨_,h,R.aIo hN ⟨b,o0,n,cp,e1,by simp [Nat.add_assoc]⟩⟩
     ·obtain ⟨B,ty,e1,e2,e3⟩:=hm'
      obtain ⟨⟨hpos,hN⟩,h⟩:=h
      refine nC (hrun B _ hpos (by rw [oQ,e1])) ?_
      rw [hd]
      exact ⟨_,h,R.aIo hN ⟨B,ty,rfl,e2,e3⟩⟩
     ·exact h.elim
    ·exact h.elim
   ·exact h.elim
  ·exact h.elim
 ·-- load
  rename_i t x hop
  split at h
  ·rename_i mv d hm hd
   split at h
   ·rename_i ti hti
    have hm':=R.mv x mv hm
    have hrun : ∀b off v,ti.agg=false→a.eval (.tmp x) = .pointer (some ⟨b,off,none⟩)→w.cell? ⟨b,off,none⟩=some v→(execOp a.eval o).run P w = .ok (.value v) w:=by
     intro b off v hag hx hc
     simp only [execOp,hop,hx,Sem.run_bind,aS4 hti hag hc,Result.andThen_ok,Sem.run_pure]
    split at h
    ·rename_i i z j q
     split at h
     ·rename_i xs hds
      split at h
      ·rename_i y hy
       obtain ⟨⟨⟨hs1,hag,hN⟩,hyl,hq⟩,h⟩:=h
       obtain ⟨b,o0,n,cp,e1,e2⟩:=hm'
       obtain ⟨Fi,k2,k3,k4,k5,k6⟩:=R.aNn hds e1
       obtain ⟨v,Gi,m1,m2,m3,m4,m5⟩:=k2.under k3 hy (qF (show q<y.length by omega))
       rw [hyl] at m1
       refine nC (hrun b _ v hag (by rw [oQ,e2]) m1) ?_
       rw [hd]
       exact ⟨_,h,R.aIo hN ⟨b,o0,n,cp,e1,m1⟩⟩
      ·exact h.elim
     ·exact h.elim
    ·rename_i q
     obtain ⟨B,ty,e1,e2,e3⟩:=hm'
     have hlen:=R.rep.length
     split at h
     ·rename_i hag
      obtain ⟨⟨hN,hq0⟩,h⟩:=h
      have hl:aBY w B q ((c.vals.drop q).take ti.size):=by
       have:=((aMK e2).drop q).take ti.size
       rw [Nat.zero_add] at this
       simpa using this
      refine nC (v:=.agg ((c.vals.drop q).take ti.size).toArray) (w':=w) ?_ ?_
      ·simp only [execOp,hop,oQ,e1,Sem.run_bind,aTr hti hag hl (by rw [qT,qU];omega),Result.andThen_ok,Sem.run_pure]
      ·rw [hd];exact ⟨_,h,R.aIo hN rfl⟩
     obtain ⟨⟨⟨hs1,hag,hN⟩,hq0⟩,h⟩:=h
     have hq:c.vals[q]? = some c.vals[q]:=qF (by rw [hlen];exact hq0)
     refine nC (hrun B q c.vals[q] hag (by rw [oQ,e1]) ?_) ?_
     ·rw [cell_of_row w B _ _ ty (0,0) e2];simp [hq]
     ·rw [hd];exact ⟨_,h,R.aIo hN hq⟩
    ·exact h.elim
   ·exact h.elim
  ·exact h.elim
 ·-- indexAddr
  rename_i t x ix hop
  split at h
  ·rename_i i d hm hd
   split at h
   ·rename_i e sz0 by0 z0 cm0 sl0 hti
    obtain ⟨ii,dd,z,h1,h2,h3,h4,h5,h6,h7,h8,h9⟩:=(cC hti).ok
    obtain rfl:=aBM h4
    split at h
    ·rename_i te hte
     obtain ⟨ie,de,ze,e1,e2,e3,e4,e5,e6,e7,e8,e9⟩:=(cC hte).ok
     split at h
     ·rename_i kk j hj
      split at h
      ·rename_i xs hds
       split at h
       ·rename_i y hy
        obtain ⟨⟨hj0,hyl,hN⟩,h⟩:=h
        have hm':c.vals[i]? = some (a.tmps.getD x undef):=R.mv x _ hm
        obtain ⟨Fi,k2,k3,k4,k5,k6⟩:=R.aNn hds hm'
        simp only [Rep] at k2
        obtain ⟨ad,n,cp,p1,p2,p3,p4⟩:=k2
        have hlt:j.toNat<xs.length:=(List.getElem?_eq_some_iff.1 hy).1
        rcases p4 with ⟨p4,_⟩ | ⟨b,off,cells,sz,G,rfl,q2,q3,q4,q5,q6,q7⟩
        ·omega
        ·have hlt':j<(n:Int):=by omega
         refine nC (v:=.pointer (some ⟨b,off+j.toNat*te.size,none⟩)) (w':=w) ?_ ?_
         ·have x1:a.eval (.tmp x) = .slice (some ⟨b,off,none⟩) n cp:=by rw [oQ,p1]
          have x2:a.eval (.tmp ix) = .int kk j:=by rw [oQ,aMq R hj]
          simp [execOp,hop,x1,x2,Instr.indexAt,asIntOf,run_underlying h2,sizeOf,typeInfo,e1,e7,hj0,hlt',Addr.add_lit]
         ·rw [hd]
          exact ⟨_,h,R.aIo hN ⟨b,off,n,cp,by rw [hm',p1],by simp⟩⟩
       ·exact h.elim
      ·exact h.elim
     ·exact h.elim
    ·exact h.elim
   ·exact h.elim
  ·exact h.elim
 ·-- store
  rename_i t p x hop
  split at h
  ·rename_i i z j q hm hd
   split at h
   ·rename_i ti hti
    split at h
    ·rename_i d hx
     split at h
     ·rename_i xs hds
      split at h
      ·rename_i y hy
       split at h
       ·rename_i qq hqq
        obtain ⟨⟨hs1,hdf,hyl,hqf⟩,h⟩:=h
        obtain ⟨b,o0,n,cp,e1,e2⟩:=R.mv p _ hm
        obtain ⟨Fi,k2,k3,k4,k5,k6⟩:=R.aNn hds e1
        have hxv:=R.flat x
        rw [hx] at hxv
        obtain ⟨v1,v2⟩:=aEs hxv hdf
        have hbF:b∈Fi:=by
         simp only [Rep] at k2
         obtain ⟨ad,n',c',p1,p2,p3,p4⟩:=k2
         cases p1
         have hlt:j<xs.length:=(List.getElem?_eq_some_iff.1 hy).1
         rcases p4 with ⟨p4,_⟩ | ⟨g,off,cells,sz,G,q1,q2,rfl,_⟩
         ·omega
         ·cases q1;simp
        obtain ⟨cur,et,hcur⟩:=k4 b hbF
        obtain ⟨m1,m2,m3⟩:=k2.store k3 hcur hy hqq hqf v1
        rw [hyl] at m1 m2
        have hvx:(a.eval (.tmp x)).cells = #[a.tmps.getD x undef]:=by rw [oQ];exact v2
        have hrun:=aFp (P:=P) (w:=w) (v:=a.eval (.tmp x)) (off:=o0+j*z+q) hti hcur (by rw [hvx,hs1];rfl) (by rw [hvx];intro u hu;rw [List.mem_singleton.1 hu];exact v1.one) (by rw [hs1];exact m1)
        rw [hvx,hs1] at hrun
        have oR:(cur.toList.take (o0+j*z+q)++(#[a.tmps.getD x undef].toList++cur.toList.drop (o0+j*z+q+1)))=cur.toList.set (o0+j*z+q) (a.tmps.getD x undef):=by
         rw [List.set_eq_take_append_cons_drop,if_pos (by simpa using m1)];simp
        rw [oR] at hrun
        refine aMs (w':=w.setRow b (cur.toList.set (o0+j*z+q) (a.tmps.getD x undef)).toArray) ?_ hd ?_
        ·simp only [execOp,hop,oQ,e2,Sem.run_bind]
         rw [oQ] at hrun
         simp only [hrun,Result.andThen_ok,Sem.run_pure]
        ·have hoth : ∀k,k≠b→(w.setRow b (cur.toList.set (o0+j*z+q) (a.tmps.getD x undef)).toArray).heap[k]? = w.heap[k]? := fun k hk=>setRow_other w b k _ hk
         refine ⟨_,h,R.change ⟨rfl,rfl,rfl,by rw [setRow_size];exact Nat.le_refl _,fun k hk hn=>hoth k fun e=>hn (e ▸ k5 b hbF),fun k hk cur0 e0 hc0 => ?_⟩ (k6 _ _ m2 fun k hk hn=>hoth k fun e=>hn (e ▸ hbF))⟩
         by_cases hkb:k=b
         ·subst hkb
          rw [hcur] at hc0
          cases hc0
          exact ⟨_,setRow_heap w k cur _ et _ hcur,by simp⟩
         ·exact ⟨cur0,(hoth k hkb).trans hc0,rfl⟩
       ·exact h.elim
      ·exact h.elim
     ·exact h.elim
    ·exact h.elim
   ·exact h.elim
  ·exact h.elim
 ·-- len
  rename_i as ts hop
  split at h
  ·rename_i x t has hts
   have has':=aMN has
   have hts':=aMN hts
   subst has' hts'
   split at h
   ·rename_i i d hm hd
    split at h
    ·rename_i e sz0 by0 z0 cm0 sl0 hti
     obtain ⟨ii,dd,z,h1,h2,h3,h4,_⟩:=(cC hti).ok
     obtain rfl:=aBM h4
     split at h
     ·rename_i xs hds
      have hm':c.vals[i]? = some (a.tmps.getD x undef):=R.mv x _ hm
      obtain ⟨Fi,k2,k3,k4,k5,k6⟩:=R.aNn hds hm'
      simp only [Rep] at k2
      obtain ⟨ad,n,cp,p1,p2,p3,p4⟩:=k2
      refine nC (v:=.int .i64 n) (w':=w) ?_ ?_
      ·have x1:a.eval (.tmp x) = .slice ad n cp:=by rw [oQ,p1]
       simp [execOp,hop,resolve,invoke,builtin,Builtin.len_,x1,run_underlying h2,goInt]
      ·rw [hd,p2]
       exact ⟨_,h.2,R.aIv h.1 ⟨_,[],rfl,⟨[],by simp [Rep],by simp⟩,rfl⟩⟩
     ·exact h.elim
    ·exact h.elim
   ·exact h.elim
  ·exact h.elim
 ·-- call
  rename_i f as ts hop
  split at h
  ·rename_i x y has
   split at h
   ·rename_i i d hm hd
    split at h
    ·rename_i k hy
     split at h
     ·rename_i ys hds
      obtain ⟨ys',k',hc,hN,hK⟩:=h
      have hm':c.vals[i]? = some (a.tmps.getD x undef):=R.mv x _ hm
      obtain ⟨Fi,k2,k3,k4,k5,k6⟩:=R.aNn hds hm'
      exact aKB hop has hd R rfl hy hc hN k2 k3 k4 k5 (fun w' hr hb=>k6 w' _ hr hb) hK
     ·exact h.elim
    ·exact h.elim
   ·rename_i off n d hm hd
    split at h
    ·rename_i k hy
     obtain ⟨es,k',hc,⟨hN,hle⟩,hK⟩:=h
     have hx:a.tmps.getD x undef = .agg ((c.vals.drop off).take n).toArray:=R.mv x _ hm
     obtain ⟨m1,m2,m3,m4⟩:=aCj.mid off n R.rep R.nodup hle
     unfold Oper.wp
     have has':as = #[.tmp x,.tmp y]:=aL2 has
     have hrun:(execOp a.eval o).run P w = .ok (.enter f #[.agg ((c.vals.drop off).take n).toArray,.int .i64 k]) w:=by
      have e1:a.eval (.tmp x) = .agg ((c.vals.drop off).take n).toArray:=by rw [oQ,hx]
      have e2:a.eval (.tmp y) = .int .i64 k:=by rw [oQ,aMq R hy]
      subst has'
      simp only [execOp,hop,resolve,Deferred.ofValue,invoke]
      simp [aCe hc.1,Act.eval] at e1 e2 ⊢
      simp [e1,e2]
     rw [hrun]
     unfold Oper.upon
     refine (hc.2 w _ ((c.Fs.drop off).take n) ⟨_,rfl,by simpa using m1⟩ m2 (fun b hb=>R.aQf b (m3 b hb))).mono ?_
     rintro e w' ⟨rfl,h2,h3⟩
     obtain ⟨cs,e1,h4⟩:=h2
     cases e1
     have hlt : ∀b∈c.F,b<w.heap.size:=R.rep.lt
     have hF:Frm c.F w w':=h3.mono m3
     show aR0 c N K (a.put o.dst (.int .i64 k')) w'
     rw [hd]
     exact ⟨_,hK,(R.change hF (m4 w' es (by simpa using h4) fun b hb hn'=>h3.out b (hlt b hb) hn')).aIv hN (⟨_,[],rfl,⟨[],by simp [Rep],by simp⟩,rfl⟩)⟩
    ·exact h.elim
   ·rename_i i z j q d hm hd
    split at h
    ·rename_i k hy
     split at h
     ·rename_i xs hds
      split at h
      ·rename_i e he
       split at h
       ·rename_i ys hq
        obtain ⟨ys',k',hc,⟨hel,hN⟩,hK⟩:=h
        obtain ⟨b,o0,n,cp,e1,e2⟩:=R.mv x _ hm
        obtain ⟨Fi,k2,k3,k4,k5,k6⟩:=R.aNn hds e1
        obtain ⟨v,Gi,m1,m2,m3,m4,m5⟩:=k2.under k3 he hq
        rw [hel] at m1
        have hv:a.tmps.getD x undef=v:=by rw [e2] at m1;simpa using m1
        refine aKB hop has hd R hv hy hc hN m2 m3 (fun b hb=>k4 b (m4 b hb)) (fun b hb=>k5 b (m4 b hb)) (fun w' hr hb => ?_) hK
        refine k6 w' _ (m5 w' _ hr fun b' hb' hn=>hb b' (k5 b' hb') hn) fun b' hb' hn=>hb b' hb' fun hm=>hn (m4 b' hm)
       ·exact h.elim
      ·exact h.elim
     ·exact h.elim
    ·exact h.elim
   ·exact h.elim
  ·exact aDQ R h
 ·exact aDQ R h
end
end Go.Sh
