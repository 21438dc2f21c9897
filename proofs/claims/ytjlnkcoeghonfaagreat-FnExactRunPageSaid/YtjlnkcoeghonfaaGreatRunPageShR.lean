/-
  Helper text. No conditions.
-/
import Derived.Test.YtjlnkcoeghonfaaGreatRunPageShQ
set_option linter.all false
namespace Go.Sh
open Go.RowKit
structure Frm (F:List Nat) (w w':World):Prop where
 os:w'.os=w.os
 tape:w'.tape=w.tape
 output:w'.output=w.output
 size:w.heap.size<=w'.heap.size
 out:∀b,b<w.heap.size->b∉F->w'.heap[b]? =w.heap[b]?
 ins:∀b∈F,∀cur e,w.heap[b]? =some (.cells cur e (0,0))->∃cur',w'.heap[b]? =some (.cells cur' e (0,0))/\cur'.size=cur.size
theorem Frm.refl(F:List Nat)(w:World):Frm F w w:=⟨rfl,rfl,rfl,qf _,λ_ _ _=>rfl,λ_ _ j e h=>⟨j,h,rfl⟩⟩
theorem F7{w:World}{b:Nat}{x:_}(h:w.heap[b]? =some x):b<w.heap.size:=(ql.1 h).1
theorem Frm.trans{F:List Nat}{a b c:World}(h:Frm F a b)(k:Frm F b c):Frm F a c:=
 ⟨k.os.trans h.os,k.tape.trans h.tape,k.output.trans h.output,qg h.size k.size,λi j I=>(k.out i (qw j h.size) I).trans (h.out i j I),
  λi j C e hc=>by obtain⟨J,k1,k2⟩:=h.ins i j C e hc;obtain⟨U,k3,k4⟩:=k.ins i j J e k1;exact⟨U,k3,k4.trans k2⟩⟩
theorem Frm.XG{F:List Nat}{w w':World}(h:Below w.heap.size w w'):Frm F w w':=
 ⟨h.os,h.tape,h.output,h.size,λb hb _=>h.block b hb,λb _ j e hc=>⟨j,(h.block b (F7 hc)).trans hc,rfl⟩⟩
theorem Frm.mono{F G:List Nat}{w w':World}(h:Frm F w w')(J:∀b∈F,b∈G):Frm G w w':=
 ⟨h.os,h.tape,h.output,h.size,λb hb I=>h.out b hb λC=>I (J b C),λb _ j e hc=>by by_cases hb:b∈F;(exact h.ins b hb j e hc);·exact⟨j,(h.out b (F7 hc) hb).trans hc,rfl⟩⟩
theorem Frm.Yk{F:List Nat}{w w':World}(h:Frm F w w'){b:Nat}(hb:Qu w b):Qu w' b:=by obtain⟨j,e,hc⟩:=hb;by_cases hm:b∈F;(obtain⟨c,k,_⟩:=h.ins b hm j e hc;exact⟨c,e,k⟩);·exact⟨j,e,(h.out b (F7 hc) hm).trans hc⟩
def E1(w:World):List D->List Value->List (List Nat)->Prop
 |[],I,Fs=>I=[]/\Fs=[]
 |d::ds,I,Fs=>∃v C F j,I=v::C/\Fs=F::j/\Rep w d v F/\E1 w ds C j
theorem E1.length{w:World}:∀{ds:List D} {vs:List Value} {Fs:List (List Nat)},E1 w ds vs Fs->vs.length=ds.length
 |[],vs,Fs,h=>by rw[h.1];rfl
 |d::ds,vs,Fs,h=>by obtain⟨v,C,F,j,rfl,rfl,_,h⟩:=h;simp[E1.length h]
theorem E1.lt{w:World}:∀{ds:List D} {vs:List Value} {Fs:List (List Nat)},E1 w ds vs Fs->∀b∈Fs.flatten,b<w.heap.size
 |[],vs,Fs,h=>by rw[h.2];simp
 |d::ds,vs,Fs,h=>by obtain⟨v,C,F,j,rfl,rfl,h1,h2⟩:=h;intro b hb;rw[List.flatten_cons]at hb;rcases qP.1 hb with hb|hb;(exact Rep.lt _ _ _ h1 b hb);·exact E1.lt h2 b hb
theorem E1.oR{w w':World}:∀{ds:List D} {vs:List Value} {Fs:List (List Nat)},E1 w ds vs Fs->(∀b∈Fs.flatten,w'.heap[b]? =w.heap[b]?)->E1 w' ds vs Fs
 |[],vs,Fs,h,_=>h
 |d::ds,vs,Fs,h,hb=>by obtain⟨v,I,F,j,rfl,rfl,h1,h2⟩:=h;rw[List.flatten_cons]at hb;exact⟨v,I,F,j,rfl,rfl,Rep.oR _ _ _ h1 λb C=>hb b (by simp[C]),E1.oR h2 λb C=>hb b (by simp only[qP];exact .inr C)⟩
theorem E1.upd{w:World}:∀{ds:List D} {vs:List Value} {Fs:List (List Nat)} {i:Nat} {v:Value} {d:D},E1 w ds vs Fs->Fs.flatten.Nodup->vs[i]? =some v->ds[i]? =some d->∃j,Fs[i]? =some j/\Rep w d v j/\j.Nodup/\(∀b∈j,b∈Fs.flatten)/\
  ∀(w':World) (d':D),Rep w' d' v j->(∀b∈Fs.flatten,b∉j->w'.heap[b]? =w.heap[b]?)->E1 w' (ds.set i d') vs Fs
 |[],vs,Fs,i,v,d,h,C,hv,hd=>by simp at hd
 |d0::ds,vs,Fs,0,v,d,h,C,hv,hd=>by obtain⟨u,vs',F,I,rfl,rfl,h1,h2⟩:=h;simp at hv hd;subst hv hd;rw[List.flatten_cons,qt]at C;refine⟨F,rfl,h1,C.1,λb hb=>by simp[hb],λw' d' J hb=> ?_⟩;refine⟨u,vs',F,I,rfl,rfl,J,h2.oR λb U=>hb b (by rw[List.flatten_cons];simp only[qP];exact .inr U) λhf=>C.2.2 b hf b U rfl⟩
 |d0::ds,vs,Fs,i+1,v,d,h,C,hv,hd=>by obtain⟨u,vs',F,I,rfl,rfl,h1,h2⟩:=h;rw[List.flatten_cons,qt]at C;obtain⟨j,k1,k2,k3,k4,k5⟩:=E1.upd h2 C.2.1 (by simpa using hv) (by simpa using hd);refine⟨j,by simpa using k1,k2,k3,λb hb=>by rw[List.flatten_cons];simp only[qP];exact .inr (k4 b hb),λw' d' J hb=> ?_⟩;refine⟨u,vs',F,I,rfl,rfl,Rep.oR _ _ _ h1 λb U=>hb b (by rw[List.flatten_cons];simp[U]) λhf=>C.2.2 b U b (k4 b hf) rfl,k5 w' d' J λb U hf=>hb b (by rw[List.flatten_cons];simp only[qP];exact .inr U) hf⟩
theorem E1.append{w:World}:∀{ds es:List D} {vs C:List Value} {Fs j:List (List Nat)},E1 w ds vs Fs->E1 w es C j->E1 w (ds++es) (vs++C) (Fs++j)
 |[],es,vs,C,Fs,j,h,k=>by rw[h.1,h.2];exact k
 |d::ds,es,vs,C,Fs,j,h,k=>by obtain⟨v,J,F,I,rfl,rfl,h1,h2⟩:=h;exact⟨v,J++C,F,I++j,rfl,rfl,h1,E1.append h2 k⟩
theorem E1.split{w:World}:∀(n:Nat) {ds:List D} {vs:List Value} {Fs:List (List Nat)},E1 w ds vs Fs->n<=ds.length->E1 w (ds.take n) (vs.take n) (Fs.take n)/\E1 w (ds.drop n) (vs.drop n) (Fs.drop n)
 |0,ds,vs,Fs,h,_=>⟨by simp[E1],by simpa using h⟩
 |n+1,[],vs,Fs,h,C=>by simp at C
 |n+1,d::ds,vs,Fs,h,C=>by obtain⟨v,I,F,j,rfl,rfl,h1,h2⟩:=h;obtain⟨J,U⟩:=E1.split n h2 (by simpa using C);exact⟨⟨v,I.take n,F,j.take n,rfl,rfl,h1,J⟩,U⟩
theorem E1.mid{w:World}{ds:List D}{vs:List Value}{Fs:List (List Nat)}(off n:Nat)(h:E1 w ds vs Fs)(I:Fs.flatten.Nodup)(hle:off+n<=ds.length):
  E1 w ((ds.drop off).take n) ((vs.drop off).take n) ((Fs.drop off).take n)/\((Fs.drop off).take n).flatten.Nodup/\(∀b∈((Fs.drop off).take n).flatten,b∈Fs.flatten)/\
   ∀(w':World) (es:List D),E1 w' es ((vs.drop off).take n) ((Fs.drop off).take n)->(∀b∈Fs.flatten,b∉((Fs.drop off).take n).flatten->w'.heap[b]? =w.heap[b]?)->E1 w' (ds.take off++(es++ds.drop (off+n))) vs Fs:=by
 obtain⟨J,U⟩:=E1.split off h jD
 obtain⟨k3,k4⟩:=E1.split n U (by rw[qV];omega)
 have e1:Fs=Fs.take off++((Fs.drop off).take n++(Fs.drop off).drop n):=by rw[qn,qn]
 have e2:vs=vs.take off++((vs.drop off).take n++(vs.drop off).drop n):=by rw[qn,qn]
 rw[e1,List.flatten_append,List.flatten_append,qt,qt]at I
 obtain⟨n1,⟨n2,n3,n4⟩,n5⟩:=I
 have hsub:∀b∈((Fs.drop off).take n).flatten,b∈Fs.flatten:=by intro b hb;rw[e1,List.flatten_append,List.flatten_append];simp only[qP];exact .inr (.inl hb)
 refine⟨k3,n2,hsub,λw' es he hb=> ?_⟩
 have hmem:∀b,b∈(Fs.take off).flatten\/b∈((Fs.drop off).drop n).flatten->b∈Fs.flatten:=by intro b hb;rw[e1,List.flatten_append,List.flatten_append];simp only[qP];rcases hb with hb|hb;(exact .inl hb);·exact .inr (.inr hb)
 have q1:E1 w' (ds.take off) (vs.take off) (Fs.take off):=J.oR λb j=>hb b (hmem b (.inl j)) λC=>n5 b j b (by simp only[qP];exact .inl C) rfl
 have q2:E1 w' (ds.drop (off+n)) ((vs.drop off).drop n) ((Fs.drop off).drop n):=by rw[<-List.drop_drop];exact k4.oR λb j=>hb b (hmem b (.inr j)) λC=>n4 b C b j rfl
 have:=q1.append (he.append q2)
 rw[<-e1,<-e2]at this
 exact this
def ZU(w:World)(v:Value)(ag:Bool)(ds:List D)(Fs:List (List Nat)):Prop:=
 match ag with
 |true=>∃j,v=.agg j/\E1 w ds j.toList Fs
 |false=>E1 w ds [v] Fs
def tE(P:Program)(f:FuncId)(ag:Bool)(ds j:List D)(k I:Int):Prop:=
 Lm P f/\∀(w:World) (v:Value) (Fs:List (List Nat)),ZU w v ag ds Fs->Fs.flatten.Nodup->(∀b∈Fs.flatten,Qu w b)->
  Calls P f #[v,.int .i64 k] w λe C=>e=.returned (.int .i64 I)/\ZU C v ag j Fs/\Frm Fs.flatten w C
inductive MV where
 |top (i:Nat)
 |agg
 |el (i sz j off:Nat)
 |bx (off:Nat)
 |sub (i sz j off:Nat)
 |tops (off n:Nat)
structure MSt where
 t:Nat->SV
 m:Nat->Option MV
 ds:List D
structure MCx where
 vals:List Value
 Fs:List (List Nat)
 w0:World
def MCx.F(c:MCx):List Nat:=c.Fs.flatten
def Zo(c:MCx)(w:World):MV->Value->Prop
 | .top i,v=>c.vals[i]? =some v
 | .agg,v=>v=.agg c.vals.toArray
 | .el i sz j C,v=>∃b o n I,c.vals[i]? =some (.slice (some ⟨b,o,none⟩) n I)/\v=.pointer (some ⟨b,o+j*sz+C,none⟩)
 | .bx C,v=>∃B t,v=.pointer (some ⟨B,C,none⟩)/\w.heap[B]? =some (.cells c.vals.toArray t (0,0))/\B∉c.F
 | .sub i sz j C,v=>∃b o n I,c.vals[i]? =some (.slice (some ⟨b,o,none⟩) n I)/\w.cell? ⟨b,o+j*sz+C,none⟩=some v
 | .tops C n,v=>v=.agg ((c.vals.drop C).take n).toArray
def gz:Gh:={ val:=λ_=>undef,fp:=λ_=>[],S:=λ_=>False,Q:=⟨λ_=>True,0,none,λ_=>[]⟩ }
def hz:Heap:=λ_=>(0,.none)
theorem nN.aFO{sv:SV}{v:Value}{w:World}(w':World)(h:nN gz hz w sv v):nN gz hz w' sv v:=
 h.turn ⟨λ_ x=>x,λ_ x=>False.elim x,λ_=>qf _,λi e sz U J _ j=>(by cases j),λi t I _ C=>(by cases C),rfl⟩
structure Md (c:MCx) (N:Nat) (σ:MSt) (a:Act) (w:World):Prop where
 defers:a.defers=[]
 size:a.tmps.size=N
 frm:Frm c.F c.w0 w
 nodup:c.F.Nodup
 Yk:∀b∈c.F,Qu w b
 rep:E1 w σ.ds c.vals c.Fs
 flat:∀t,nN gz hz w (σ.t t) (a.tmps.getD t undef)
 mv:∀t x,σ.m t=some x->Zo c w x (a.tmps.getD t undef)
def MSt.NK(σ:MSt)(d:Nat)(v:SV):MSt:=⟨λi=>if i=d then v else σ.t i,λi=>if i=d then none else σ.m i,σ.ds⟩
def MSt.Ny(σ:MSt)(d:Nat)(v:MV):MSt:=⟨λi=>if i=d then .unk else σ.t i,λi=>if i=d then some v else σ.m i,σ.ds⟩
def MV.oR:Option MV->Option MV
 |some (.sub ..)=>none
 |o=>o
def MSt.turn(σ:MSt)(ds:List D):MSt:=⟨σ.t,λi=>MV.oR (σ.m i),ds⟩
theorem MSt.Vr(σ:MSt)(d:Nat)(v:SV)(i:Nat):(σ.NK d v).t i=if i=d then v else σ.t i:=rfl
theorem MSt.Wb(σ:MSt)(d:Nat)(v:SV)(i:Nat):(σ.NK d v).m i=if i=d then none else σ.m i:=rfl
theorem MSt.Xb(σ:MSt)(d:Nat)(v:SV):(σ.NK d v).ds=σ.ds:=rfl
theorem MSt.Vm(σ:MSt)(d:Nat)(v:MV)(i:Nat):(σ.Ny d v).t i=if i=d then .unk else σ.t i:=rfl
theorem MSt.Vx(σ:MSt)(d:Nat)(v:MV)(i:Nat):(σ.Ny d v).m i=if i=d then some v else σ.m i:=rfl
theorem MSt.VO(σ:MSt)(d:Nat)(v:MV):(σ.Ny d v).ds=σ.ds:=rfl
theorem MSt.Y1(σ:MSt)(ds:List D)(i:Nat):(σ.turn ds).t i=σ.t i:=rfl
theorem MSt.VI(σ:MSt)(ds:List D)(i:Nat):(σ.turn ds).m i=MV.oR (σ.m i):=rfl
theorem MSt.Vo(σ:MSt)(ds:List D):(σ.turn ds).ds=ds:=rfl
section
variable {c:MCx}{N:Nat}{σ:MSt}{a:Act}{w:World}
theorem Md.NK(R:Md c N σ a w){d:Nat}{sv:SV}{v:Value}(C:d<N)(I:nN gz hz w sv v):Md c N (σ.NK d sv) (a.put (some d) v) w:=by refine⟨R.defers,by simp[Act.put,R.size],R.frm,R.nodup,R.Yk,R.rep,λt=> ?_,λt x j=> ?_⟩;(rw[Hq R.size C,MSt.Vr];by_cases ht:t=d;(simp only[ht,if_true];exact I);·simp only[ht,if_false];exact R.flat t);·rw[MSt.Wb]at j;rw[Hq R.size C];by_cases ht:t=d;(simp[ht]at j);·simp only[ht,if_false]at j⊢;exact R.mv t x j
theorem Md.Ny(R:Md c N σ a w){d:Nat}{m:MV}{v:Value}(C:d<N)(I:Zo c w m v):Md c N (σ.Ny d m) (a.put (some d) v) w:=by refine⟨R.defers,by simp[Act.put,R.size],R.frm,R.nodup,R.Yk,R.rep,λt=> ?_,λt x j=> ?_⟩;(rw[Hq R.size C,MSt.Vm];by_cases ht:t=d;(simp only[ht,if_true];trivial);·simp only[ht,if_false];exact R.flat t);·rw[MSt.Vx]at j;rw[Hq R.size C];by_cases ht:t=d;(simp only[ht,if_true,qb]at j⊢;subst j;exact I);·simp only[ht,if_false]at j⊢;exact R.mv t x j
theorem aAD{b o:Nat}{v:Value}(h:w.cell? ⟨b,o,none⟩=some v):b<w.heap.size:=by rcases Nat.lt_or_ge b w.heap.size with hb|hb;(exact hb);·simp[World.cell?,Array.getElem?_eq_none hb]at h
theorem Md.grow{w':World}(R:Md c N σ a w)(h:Below w.heap.size w w'):Md c N σ a w':=by
 have J:∀b∈c.F,b<w.heap.size:=R.rep.lt
 refine⟨R.defers,R.size,R.frm.trans (.XG h),R.nodup,λb hb=>(R.Yk b hb).oR (h.block b (J b hb)),R.rep.oR λb hb=>h.block b (J b hb),λt=>(R.flat t).aFO _,λt x hx=> ?_⟩
 have I:=R.mv t x hx
 cases x with
 |top i=>exact I
 |agg=>exact I
 |tops C n=>exact I
 |el i sz j C=>exact I
 |bx C=>
  obtain⟨B,ty,h1,h2,h3⟩:=I
  exact⟨B,ty,h1,(h.block B (F7 h2)).trans h2,h3⟩
 |sub i sz j C=>
  obtain⟨b,o,n,U,h1,h2⟩:=I
  exact⟨b,o,n,U,h1,(World.cell?_of_block (w:=w) (a:=⟨b,o+j*sz+C,none⟩) (h.block b (aAD h2))).trans h2⟩
end
theorem aF.upd{w:World}:∀{ds:List D} {vs:List Value} {F:List Nat} {i:Nat} {v:Value},aF w ds vs F->vs[i]? =some v->i<ds.length->∃d C Fi J,ds[i]? =some d/\F=C++(Fi++J)/\Rep w d v Fi/\
  ∀(w':World) (U:D),Rep w' U v Fi->(∀b,b∈C\/b∈J->w'.heap[b]? =w.heap[b]?)->aF w' (ds.set i U) vs F
 |[],vs,F,i,v,h,hv,hi=>by simp at hi
 |d::ds,vs,F,0,v,h,hv,hi=>by simp only[aF]at h;obtain⟨u,I,C,J,rfl,rfl,h3,h4⟩:=h;simp at hv;subst hv;refine⟨d,[],C,J,rfl,rfl,h3,λw' U hd hb=> ?_⟩;simp only[List.set_cons_zero,aF];exact⟨u,I,C,J,rfl,rfl,hd,aF.oR _ _ _ h4 λb j=>hb b (.inr j)⟩
 |d::ds,vs,F,i+1,v,h,hv,hi=>by simp only[aF]at h;obtain⟨u,I,C,J,rfl,rfl,h3,h4⟩:=h;obtain⟨d0,G1,Gi,G2,k1,rfl,k3,k4⟩:=aF.upd h4 (by simpa using hv) (by simpa using hi);refine⟨d0,C++G1,Gi,G2,by simpa using k1,jF,k3,λw' U hd hb=> ?_⟩;simp only[List.set_cons_succ,aF];refine⟨u,I,C,G1++(Gi++G2),rfl,rfl,Rep.oR _ _ _ h3 λb j=>hb b (.inl (by simp[j])),k4 w' U hd λb j=>hb b ?_⟩;rcases j with j|j;(exact .inl (by simp[j]));·exact .inr j
theorem Sm{C j I:List Nat}(h:(C++(j++I)).Nodup):j.Nodup/\∀b,b∈C\/b∈I->b∉j:=by rw[qt,qt]at h;obtain⟨n1,⟨U,n3,n4⟩,n5⟩:=h;refine⟨U,λb hb J=> ?_⟩;rcases hb with hb|hb;(exact n5 b hb b (by simp[J]) rfl);·exact n4 b J b hb rfl
theorem aT.upd{w:World}{sz:Nat}{xs:List (List D)}{cells:List Value}{G:List Nat}{j o:Nat}{y:List D}{q:D}(h:aT w xs cells G)(hx:∀x∈xs,x.length=sz)(hy:xs[j]? =some y)(hq:y[o]? =some q):
  ∃v G1 Gi G2,cells[j*sz+o]? =some v/\G=G1++(Gi++G2)/\Rep w q v Gi/\
   ∀(w':World) (J:D),Rep w' J v Gi->(∀b,b∈G1\/b∈G2->w'.heap[b]? =w.heap[b]?)->aT w' (xs.set j (y.set o J)) cells G:=by
 obtain⟨v1,U,v3,F1,F2,F3,rfl,rfl,hl1,hr1,I,hr3⟩:=h.at_ hx hy
 have hlen:=I.length
 have ho:o<y.length:=(qd.1 hq).1
 have hv:U[o]? =some U[o]:=qF jD
 obtain⟨d,H1,Hi,H2,k1,rfl,k3,k4⟩:=aF.upd I hv ho
 rw[hq]at k1
 cases k1
 have hjlt:j<xs.length:=(qd.1 hy).1
 refine⟨U[o],F1++H1,Hi,H2++F3,?_,jF,k3,λw' J hq' hb=> ?_⟩
 ·rw[<-hl1,List.getElem?_append_right jD,Nat.add_sub_cancel_left,List.getElem?_append_left jD,hv]
 ·rw[List.set_eq_take_append_cons_drop,if_pos hjlt];refine aT.append (aT.oR _ _ _ hr1 λb C=>hb b (.inl (by simp[C]))) ?_;simp only[aT];exact⟨U,v3,H1++(Hi++H2),F3,rfl,rfl,k4 w' J hq' λb C=>hb b (by rcases C with C|C<;>simp[C]),aT.oR _ _ _ hr3 λb C=>hb b (.inr (by simp[C]))⟩
theorem aF.aA9{w:World}:∀{ds:List D} {vs:List Value} {F:List Nat} {i:Nat} {q d:D} {u:Value},aF w ds vs F->ds[i]? =some q->q.flat=true->Rep w d u []->aF w (ds.set i d) (vs.set i u) F
 |[],vs,F,i,q,d,u,h,C,_,_=>by simp at C
 |x::ds,vs,F,0,q,d,u,h,C,U,J=>by simp only[aF]at h;obtain⟨v,j,F1,I,rfl,rfl,h3,h4⟩:=h;simp at C;subst C;have:=Ho h3 U;subst this;simp only[List.set_cons_zero,aF];exact⟨u,j,[],I,rfl,rfl,J,h4⟩
 |x::ds,vs,F,i+1,q,d,u,h,C,U,J=>by simp only[aF]at h;obtain⟨v,j,F1,I,rfl,rfl,h3,h4⟩:=h;simp only[List.set_cons_succ,aF];exact⟨v,j.set i u,F1,I,rfl,rfl,h3,aF.aA9 h4 (by simpa using C) U J⟩
theorem aT.aA9{w:World}{sz:Nat}{xs:List (List D)}{cells:List Value}{G:List Nat}{j o:Nat}{y:List D}{q d:D}{u:Value}(h:aT w xs cells G)(hx:∀x∈xs,x.length=sz)(hy:xs[j]? =some y)(hq:y[o]? =some q)(hf:q.flat=true)(hd:Rep w d u []):
  aT w (xs.set j (y.set o d)) (cells.set (j*sz+o) u) G:=by
 obtain⟨v1,v2,v3,F1,F2,F3,rfl,rfl,I,J,C,U⟩:=h.at_ hx hy
 have hlen:=C.length
 have ho:o<y.length:=(qd.1 hq).1
 have hjlt:j<xs.length:=(qd.1 hy).1
 rw[List.set_eq_take_append_cons_drop,if_pos hjlt,<-I,List.set_append_right _ _ jD,Nat.add_sub_cancel_left,List.set_append_left _ _ jD]
 refine aT.append J ?_
 simp only[aT]
 exact⟨v2.set o u,v3,F2,F3,rfl,rfl,C.aA9 hq hf hd,U⟩
theorem Rep.store{w:World}{xs:List (List D)}{b off n C j o:Nat}{F:List Nat}{y:List D}{q d:D}{u:Value}{cur:Array Value}{e:TypeId}(h:Rep w (.sl xs) (.slice (some ⟨b,off,none⟩) n C) F)(hn:F.Nodup)
  (hb:w.heap[b]? =some (.cells cur e (0,0)))(hy:xs[j]? =some y)(hq:y[o]? =some q)(hf:q.flat=true)(hd:Rep w d u []):
  off+j*y.length+o<cur.size/\Rep (w.setRow b (cur.toList.set (off+j*y.length+o) u).toArray) (.sl (xs.set j (y.set o d))) (.slice (some ⟨b,off,none⟩) n C) F/\b∈F:=by
 simp only[Rep]at h
 obtain⟨ad,n',c',e1,e2,e3,e4⟩:=h
 cases e1
 have hjlt:j<xs.length:=(qd.1 hy).1
 have ho:o<y.length:=(qd.1 hq).1
 rcases e4 with⟨e4,_⟩|⟨g,off',cells,sz,G,k1,k2,rfl,k4,k5,k6,k7⟩
 ·omega
 cases k1
 have hsz:y.length=sz:=k6 y (jB hy)
 subst hsz
 have U:j*y.length+o<cells.length:=by
  rw[k5,e2]
  calc j*y.length+o<j*y.length+y.length:=by omega
   _=(j+1)*y.length:=by rw[Nat.add_mul,Nat.one_mul]
   _<=xs.length*y.length:=qi _ hjlt
 have hcell:=k4 (j*y.length+o) _ (qF U)
 rw[cell_of_row w b _ cur e (0,0) hb]at hcell
 have hfit:off+(j*y.length+o)<cur.size:=(ql.1 hcell).1
 have J:b∉G:=(List.nodup_cons.1 hn).1
 rw[qy]
 refine⟨hfit,?_,jF⟩
 simp only[Rep]
 have hnew:(w.setRow b (cur.toList.set (off+(j*y.length+o)) u).toArray).heap[b]? =some (.cells (cur.toList.set (off+(j*y.length+o)) u).toArray e (0,0)):=setRow_heap w b cur _ e _ hb
 refine⟨_,n,C,rfl,by rw[qN];exact e2,e3,.inr ⟨b,off,cells.set (j*y.length+o) u,y.length,G,rfl,F7 hnew,rfl,?_,by rw[qN];exact k5,?_,?_⟩⟩
 ·intro k v hk
  rw[cell_of_row _ b _ _ e (0,0) hnew]
  have hklt:k<cells.length:=by have:=(qd.1 hk).1;simpa using this
  have hold:=k4 k _ (qF hklt)
  rw[cell_of_row w b _ cur e (0,0) hb]at hold
  rw[List.getElem?_toArray,List.getElem?_set]
  rw[List.getElem?_set]at hk
  by_cases he:j*y.length+o=k
  ·subst he;simp only[if_true,hklt]at hk;simp only[if_true,qm,hfit];exact hk
  ·rw[if_neg he]at hk;rw[if_neg jD,Array.getElem?_toList,hold];rw[qF hklt]at hk;exact hk
 ·intro x hx;rcases jC hx with hx|rfl;(exact k6 x hx);·simp
 ·refine aT.oR _ _ _ (k7.aA9 k6 hy hq hf hd) λb' I=>setRow_other w b b' _ λe=>J (e ▸ I)
theorem Rep.under{w:World}{xs:List (List D)}{b off n cp j o:Nat}{F:List Nat}{y:List D}{q:D}(h:Rep w (.sl xs) (.slice (some ⟨b,off,none⟩) n cp) F)(hn:F.Nodup)(hy:xs[j]? =some y)(hq:y[o]? =some q):
  ∃v I,w.cell? ⟨b,off+j*y.length+o,none⟩=some v/\Rep w q v I/\I.Nodup/\(∀x∈I,x∈F)/\
   ∀(w':World) (q':D),Rep w' q' v I->(∀x∈F,x∉I->w'.heap[x]? =w.heap[x]?)->Rep w' (.sl (xs.set j (y.set o q'))) (.slice (some ⟨b,off,none⟩) n cp) F:=by
 simp only[Rep]at h
 obtain⟨ad,n',c',e1,e2,e3,e4⟩:=h
 cases e1
 have hjlt:j<xs.length:=(qd.1 hy).1
 rcases e4 with⟨e4,_⟩|⟨g,off',cells,sz,G,k1,k2,rfl,k4,k5,k6,k7⟩
 ·omega
 cases k1
 have hsz:y.length=sz:=k6 y (jB hy)
 subst hsz
 obtain⟨v,G1,Gi,G2,m1,rfl,m3,m4⟩:=k7.upd k6 hy hq
 have U:=List.nodup_cons.1 hn
 obtain⟨p1,p2⟩:=Sm U.2
 have hbi:b∉Gi:=λhm=>U.1 (by simp[hm])
 refine⟨v,Gi,?_,m3,p1,λx C=>by simp[C],λw' q' hq' hk=> ?_⟩
 ·rw[qy];exact k4 _ v m1
 ·have J:w'.heap[b]? =w.heap[b]? :=hk b jF hbi;simp only[Rep];refine⟨_,n,cp,rfl,by rw[qN];exact e2,e3,.inr ⟨b,off,cells,y.length,G1++(Gi++G2),rfl,K2 k2 J,rfl,k4.oR J,k5,?_,m4 w' q' hq' λx C=>hk x (by rcases C with C|C<;>simp[C]) (p2 x C)⟩⟩;intro x C;rcases jC C with C|rfl;(exact k6 x C);·simp
def Jq:SV->Bool
 | .v false [.dat d]=>d.flat
 |_=>false
def Yo(P:Program)(T:K0)(N:Nat)(o:Oper)(σ:MSt)(K:MSt->Prop):Prop:=
 ex P (AU T N o) ⟨σ.t,hz,λ_=>.unk⟩ λj=>match o.dst with
  |some d=>(j=(⟨σ.t,hz,λ_=>.unk⟩:St).Hg d (j.t d)/\Jq (j.t d)=true/\d<N)/\K (σ.NK d (j.t d))
  |none=>False
def Yh(t:Nat->SV):Operand->SV
 | .tmp i=>t i
 | .const c=>cst c
 | .func f=>.v false [.dat (.fn f [])]
 | .global _=>.unk
inductive MP where
 |fail
 |ret (c:Prop) (σ:MSt)
 |mark (f:FuncId) (ys:List (List D)) (k:Int) (c:Prop) (g:List (List D)->Int->MSt)
 |markS (f:FuncId) (ds:List D) (k:Int) (c:Prop) (g:List D->Int->MSt)
 |reg
def wI(T:K0)(N:Nat)(o:Oper)(σ:MSt):MP:=
 match o.op with
 | .move (.tmp x)=>match σ.t x with
   | .unk=>match σ.m x,o.dst with
     |some mv,some d=>.ret (d<N) (σ.Ny d mv)
     |_,_=>.fail
   |v=>match o.dst with
     |some d=>.ret (Jq v=true/\d<N) (σ.NK d v)
     |none=>.fail
 | .move (.const c)=>match o.dst with
   |some d=>.ret (Jq (cst c)=true/\d<N) (σ.NK d (cst c))
   |none=>.fail
 | .assign (.tmp x)=>match σ.t x with
   | .unk=>match σ.m x,o.dst with
     |some mv,some d=>.ret (d<N) (σ.Ny d mv)
     |_,_=>.fail
   |v=>match o.dst with
     |some d=>.ret (Jq v=true/\d<N) (σ.NK d v)
     |none=>.fail
 | .assign (.const c)=>match o.dst with
   |some d=>.ret (Jq (cst c)=true/\d<N) (σ.NK d (cst c))
   |none=>.fail
 | .binOp op _ x y _=>match Yh σ.t x with
   | .v false [.dat (.int k m)]=>match Yh σ.t y with
     | .v false [.dat (.int U n)]=>match tD op k m n with
       |some r=>match o.dst with
         |some d=>.ret (k=U/\r.flat=true/\d<N) (σ.NK d (one r))
         |none=>.fail
       |none=>.fail
     |_=>.fail
   |_=>.fail
 | .convert s t x=>match T s with
   |some _=>match T t with
     |some { k:=.int k,.. }=>match Yh σ.t x with
       | .v false [.dat (.int _ n)]=>match o.dst with
         |some d=>.ret (d<N) (σ.NK d (one (.int k (k.wrap n))))
         |none=>.fail
       |_=>.fail
     |_=>.fail
   |none=>.fail
 | .box _ (.tmp x)=>match σ.m x,o.dst with
   |some .agg,some d=>.ret (d<N) (σ.Ny d (.bx 0))
   |_,_=>.fail
 | .fieldAddr s (.tmp x) f=>match σ.m x,o.dst with
   |some mv,some d=>match T s with
     |some { k:=.struct fs,.. }=>match fs[f]? with
       |some (C,sz,_)=>match mv with
         | .el i z j o=>.ret (0<sz/\d<N) (σ.Ny d (.el i z j (o+C)))
         | .bx o=>.ret (0<sz/\d<N) (σ.Ny d (.bx (o+C)))
         |_=>.fail
       |none=>.fail
     |_=>.fail
   |_,_=>.fail
 | .load t (.tmp x)=>match σ.m x,o.dst with
   |some mv,some d=>match T t with
     |some I=>match mv with
       | .el i z j o=>match σ.ds[i]? with
         |some (.sl J)=>match J[j]? with
           |some y=>.ret ((I.size=1/\I.agg=false/\d<N)/\y.length=z/\o<z) (σ.Ny d (.sub i z j o))
           |none=>.fail
         |_=>.fail
       | .bx o=>if I.agg=true then .ret (d<N/\o+I.size<=σ.ds.length) (σ.Ny d (.tops o I.size))else .ret ((I.size=1/\I.agg=false/\d<N)/\o<σ.ds.length) (σ.Ny d (.top o))
       |_=>.fail
     |none=>.fail
   |_,_=>.fail
 | .indexAddr t (.tmp x) (.tmp ix)=>match σ.m x,o.dst with
   |some (.top i),some d=>match T t with
     |some { k:=.slice e,.. }=>match T e with
       |some I=>match σ.t ix with
         | .v false [.dat (.int _ j)]=>match σ.ds[i]? with
           |some (.sl J)=>match J[j.toNat]? with
             |some y=>.ret (0<=j/\y.length=I.size/\d<N) (σ.Ny d (.el i I.size j.toNat 0))
             |none=>.fail
           |_=>.fail
         |_=>.fail
       |none=>.fail
     |_=>.fail
   |_,_=>.fail
 | .store t (.tmp p) (.tmp x)=>match σ.m p,o.dst with
   |some (.el i z j o),none=>match T t with
     |some I=>match σ.t x with
       | .v false [.dat d]=>match σ.ds[i]? with
         |some (.sl J)=>match J[j]? with
           |some y=>match y[o]? with
             |some q=>.ret (I.size=1/\d.flat=true/\y.length=z/\q.flat=true) (σ.turn (σ.ds.set i (.sl (J.set j (y.set o d)))))
             |none=>.fail
           |none=>.fail
         |_=>.fail
       |_=>.fail
     |none=>.fail
   |_,_=>.fail
 | .call { callee:=.builtin .len,args:=as,argTypes:=ts }=>match as.toList,ts.toList with
   |[.tmp x],[t]=>match σ.m x,o.dst with
     |some (.top i),some d=>match T t with
       |some { k:=.slice _,.. }=>match σ.ds[i]? with
         |some (.sl J)=>.ret (d<N) (σ.NK d (one (.int .i64 J.length)))
         |_=>.fail
       |_=>.fail
     |_,_=>.fail
   |_,_=>.fail
 | .call { callee:=.value (.func f),args:=as,.. }=>match as.toList with
   |[.tmp x,.tmp y]=>match σ.m x,o.dst with
     |some (.top i),some d=>match σ.t y with
       | .v false [.dat (.int .i64 k)]=>match σ.ds[i]? with
         |some (.sl ys)=>.mark f ys k (d<N) λys' U=>(σ.turn (σ.ds.set i (.sl ys'))).NK d (one (.int .i64 U))
         |_=>.fail
       |_=>.fail
     |some (.tops C n),some d=>match σ.t y with
       | .v false [.dat (.int .i64 k)]=>.markS f ((σ.ds.drop C).take n) k (d<N/\C+n<=σ.ds.length) λes U=>(σ.turn (σ.ds.take C++(es++σ.ds.drop (C+n)))).NK d (one (.int .i64 U))
       |_=>.fail
     |some (.sub i z j q),some d=>match σ.t y with
       | .v false [.dat (.int .i64 k)]=>match σ.ds[i]? with
         |some (.sl J)=>match J[j]? with
           |some e=>match e[q]? with
             |some (.sl ys)=>.mark f ys k (e.length=z/\d<N) λys' U=>(σ.turn (σ.ds.set i (.sl (J.set j (e.set q (.sl ys')))))).NK d (one (.int .i64 U))
             |_=>.fail
           |none=>.fail
         |_=>.fail
       |_=>.fail
     |_,_=>.fail
   |_=>.reg
 |_=>.reg
def aBr(P:Program)(T:K0)(N:Nat)(o:Oper)(σ:MSt):MP->(MSt->Prop)->Prop
 | .fail,_=>False
 | .ret c σ',K=>c/\K σ'
 | .mark f I k c g,K=>∃C j,tE P f false [.sl I] [.sl C] k j/\c/\K (g C j)
 | .markS f ds k c g,K=>∃es j,tE P f true ds es k j/\c/\K (g es j)
 | .reg,K=>Yo P T N o σ K
def Zk(P:Program)(T:K0)(N:Nat)(o:Oper)(σ:MSt)(K:MSt->Prop):Prop:=aBr P T N o σ (wI T N o σ) K
section
variable {P:Program}{c:MCx}{N:Nat}{σ:MSt}{a:Act}{w:World}{K:MSt->Prop}{Q:Exit->Act->World->Prop}{o:Oper}
def aAG(c:MCx)(N:Nat)(K:MSt->Prop):Act->World->Prop:=λj C=>∃σ',K σ'/\Md c N σ' j C
theorem aAh{J:Act->World->Prop}(h:o.wp P a w J Q):o.wp P a w (λj C=>J j C/\((∃v,j=a.put o.dst v)\/j.defers≠[])) Q:=by
 unfold Oper.wp at*
 generalize (execOp a.eval o).run P w=r at*
 cases r with
 |ok n C=>
  cases n with
  |value v=>exact⟨h,.inl ⟨v,rfl⟩⟩
  |skip=>exact⟨h,.inl ⟨_,rfl⟩⟩
  |defer d=>refine⟨h,.inr ?_⟩;cases o.dst<;>simp[Act.put]
  |enter f args=>exact Calls.mono h λe I he=>by cases e<;>first|exact⟨he,.inl ⟨_,rfl⟩⟩|exact he
  |row r args=>exact Rows.mono h λv I he=>⟨he,.inl ⟨v,rfl⟩⟩
  |_=>exact h
 |halt x C=>cases x<;>exact h
theorem UG{g:Gh}{h:Heap}{v:SV}{u:Value}(C:nN g h w v u)(j:Jq v=true):nN gz hz w v u:=by unfold Jq at j;split at j;(obtain⟨I,J,e1,⟨F,h1,_⟩,h3⟩:=C;have:=Ho h1 j;subst this;exact⟨I,J,e1,⟨[],h1,jF⟩,h3⟩);·cases j
theorem Dj.RR(q:QF){g:Gh}{h:Heap}:∀{cs:List (Nat×Nat×Nat)} {vs:List Value},Dj g h cs vs->Dj { g with Q:=q } h cs vs
 |[],_,hc=>hc
 |_::_,_,⟨v,j,h1,h2,h3⟩=>⟨v,j,h1,h2,Dj.RR q h3⟩
theorem yT.RR(q:QF){g:Gh}{h:Heap}{w:World}{c:SC}{v:Value}(hc:yT g h w c v):yT { g with Q:=q } h w c v:=by
 cases c with
 |clo f caps=>
  obtain⟨j,h1,h2⟩:=hc
  exact⟨j,h1,h2.RR q⟩
 |_=>exact hc
theorem aQ.RR(q:QF){g:Gh}{h:Heap}{w:World}:∀{cs:List SC} {vs:List Value},aQ g h w cs vs->aQ { g with Q:=q } h w cs vs
 |[],_,hc=>hc
 |_::_,_,⟨v,j,h1,h2,h3⟩=>⟨v,j,h1,h2.RR q,aQ.RR q h3⟩
theorem Gf.RR(q:QF){g:Gh}{h:Heap}{w:World}{x:Bool×List SC}{v:Value}(hc:Gf g h w x v):Gf { g with Q:=q } h w x v:=by obtain⟨b,C⟩:=x;cases b;(exact aQ.RR q hc);·obtain⟨j,h1,h2⟩:=hc;exact⟨j,h1,aQ.RR q h2⟩
theorem Cq.RR(q:QF){g:Gh}{h:Heap}{w:World}:∀{cs:List (Bool×List SC)} {vs:List Value},Cq g h w cs vs->Cq { g with Q:=q } h w cs vs
 |[],_,hc=>hc
 |_::_,_,⟨v,j,h1,h2,h3⟩=>⟨v,j,h1,h2.RR q,Cq.RR q h3⟩
theorem nN.RR(q:QF){g:Gh}{h:Heap}{w:World}{x:SV}{v:Value}(hc:nN g h w x v):nN { g with Q:=q } h w x v:=by
 cases x with
 |unk=>trivial
 |undef=>exact hc
 |v C I=>exact Gf.RR q hc
 |tup J=>obtain⟨j,h1,h2⟩:=hc;exact⟨j,h1,Cq.RR q h2⟩
theorem Gy(R:Md c N σ a w)(h:Yo P (dJ P) N o σ K):o.wp P a w (aAG c N K) Q:=by
 let g:Gh:={ val:=λ_=>undef,fp:=λ_=>[],S:=λb=>b<w.heap.size,Q:=⟨λ_=>True,w.heap.size,none,slP P⟩ }
 have R0:lI P w.heap.size ⟨w,⟨λ_=>True,w.heap.size,none,slP P⟩,noK,Xd⟩ N g ⟨σ.t,hz,λ_=>.unk⟩ a w []:=by refine⟨R.defers,R.size,Below.refl _ _,⟨λ_ _=>trivial,rfl,λ_ U=>(by cases U)⟩,λ_ x=>x.elim,⟨qf _,λ_ _ _=>trivial,λ_ x=>x,λi=>trivial,λi b I=>absurd rfl I,λi j b _ I=>absurd rfl I,?_,Co.nil _ _,jF,λi C=>(by obtain⟨_,_,_,C⟩:=C;cases C),qf _⟩,λt=> ?_,⟨rfl,.inl rfl⟩,λ_=>trivial⟩;(rintro i j _ ⟨_,_,_,C⟩;cases C);·exact nN.RR ⟨λ_=>True,w.heap.size,none,slP P⟩ ((R.flat t).turn (show kL gz { g with Q:=gz.Q } hz hz w w from⟨λ_ x=>False.elim x,λ_ x=>False.elim x,λ_=>qf _,λi e sz xs dp _ hr=>(by cases hr),λi t cs _ U=>(by cases U),rfl⟩))
 refine Oper.wp_mono ?_ (aAh (VF (Q:=Q) R0 h))
 rintro a' w' ⟨⟨s',hs',g',R'⟩,hp⟩
 split at hs'
 ·rename_i d C;obtain⟨⟨hs,hf,hN⟩,hK⟩:=hs';rcases hp with⟨u,rfl⟩|hp;(rw[C]at R'⊢;refine⟨_,hK,(R.grow R'.below).NK hN ?_⟩;have J:=R'.tmp d;rw[Hq R.size hN]at J;simp only[if_true]at J;exact UG J hf);·exact absurd R'.defers hp
 ·exact hs'.elim
theorem Md.change{w':World}{U:List D}(R:Md c N σ a w)(hF:Frm c.F w w')(hr:E1 w' U c.vals c.Fs):Md c N (σ.turn U) a w':=by
 refine⟨R.defers,R.size,R.frm.trans hF,R.nodup,λb hb=>hF.Yk (R.Yk b hb),hr,λt=>(R.flat t).aFO _,λt x J=> ?_⟩
 rw[MSt.VI]at J
 have hx':σ.m t=some x/\∀i z j q,x≠ .sub i z j q:=by
  cases I:σ.m t with
  |none=>rw[I]at J;cases J
  |some y=>rw[I]at J;cases y<;>simp only[MV.oR]at J<;>cases J<;>exact⟨rfl,λ_ _ _ _ e=>by cases e⟩
 have I:=R.mv t x hx'.1
 cases x with
 |top i=>exact I
 |agg=>exact I
 |tops C n=>exact I
 |el i sz j C=>exact I
 |bx C=>
  obtain⟨B,ty,h1,h2,h3⟩:=I
  exact⟨B,ty,h1,(hF.out B (F7 h2) h3).trans h2,h3⟩
 |sub i sz j C=>exact absurd rfl (hx'.2 i sz j C)
theorem tC(a:Act)(t:Nat):a.eval (.tmp t)=a.tmps.getD t undef:=by simp[Act.eval]
theorem aBl{t:TypeId}{I:TI}(C:dJ P t=some I)(j:I.agg=false){b off:Nat}{v:Value}(hc:w.cell? ⟨b,off,none⟩=some v):(Instr.loadAt t (.pointer (some ⟨b,off,none⟩))).run P w=.ok v w:=by obtain⟨i,d,z,h1,h2,h3,h4,h5,h6,h7,h8,h9⟩:=(dI C).ok;have hag':=T7 h4;simp only[Instr.loadAt,Instr.sureAddr,loadVar,qs,qu,qh,EX h2 w,hag',j,if_false,run_load,hc,qD]
theorem aCY{t:TypeId}{J:TI}(I:dJ P t=some J)(C:J.agg=true){b off:Nat}{cells:List Value}(U:Dw w b off cells)(hlen:cells.length=J.size):(Instr.loadAt t (.pointer (some ⟨b,off,none⟩))).run P w=.ok (.agg cells.toArray) w:=by obtain⟨i,d,z,h1,h2,h3,h4,h5,h6,h7,h8,h9⟩:=(dI I).ok;have hag':=T7 h4;have hrun:=run_loadCells_list (P:=P) w ⟨b,off,none⟩ cells (λj u hu=>by rw[Addr.add_lit];exact U j u hu);simp only[Instr.loadAt,Instr.sureAddr,loadVar,qs,qu,qh,EX h2 w,hag',C,if_true,sizeOf,typeInfo,run_program,h1,h7,<-hlen,hrun]
theorem Md.Uy(R:Md c N σ a w){i:Nat}{d:D}(J:σ.ds[i]? =some d){v:Value}(U:c.vals[i]? =some v):∃j,Rep w d v j/\j.Nodup/\(∀b∈j,Qu w b)/\(∀b∈j,b∈c.F)/\
  ∀(w':World) (C:D),Rep w' C v j->(∀b∈c.F,b∉j->w'.heap[b]? =w.heap[b]?)->E1 w' (σ.ds.set i C) c.vals c.Fs:=by
 obtain⟨j,k1,k2,k3,I,k5⟩:=R.rep.upd R.nodup U J
 exact⟨j,k2,k3,λb hb=>R.Yk b (I b hb),I,k5⟩
theorem IF{d:D}{v:Value}(h:nN gz hz w (.v false [.dat d]) v)(j:d.flat=true):Rep w d v []/\v.cells= #[v]:=by obtain⟨C,I,e1,⟨F,h1,_⟩,_⟩:=h;simp at e1;obtain⟨rfl,rfl⟩:=e1;have:=Ho h1 j;subst this;exact⟨h1,Mk h1.one⟩
theorem Tk{t:Nat}{k:IntKind}{n:Int}(R:Md c N σ a w)(h:σ.t t=.v false [.dat (.int k n)]):a.tmps.getD t undef=.int k n:=by have:=R.flat t;rw[h]at this;have:=(IF this rfl).1;simp only[Rep]at this;exact this.1
end
section
variable {P:Program}{c:MCx}{N:Nat}{σ:MSt}{a:Act}{w:World}{K:MSt->Prop}{Q:Exit->Act->World->Prop}{o:Oper}
theorem Pk{f:FuncId}{as:Array Operand}{ts:Array TypeId}{x y d:Nat}{v:Value}{Fi:List Nat}{ys ys':List (List D)}{k k':Int}{ds':List D}(ho:o.op=.call { callee:=.value (.func f),args:=as,argTypes:=ts })(has:as.toList=[.tmp x,.tmp y])(hd:o.dst=some d)
  (R:Md c N σ a w)(hx:a.tmps.getD x undef=v)(hy:σ.t y=.v false [.dat (.int .i64 k)])(hc:tE P f false [.sl ys] [.sl ys'] k k')(hN:d<N)(hr:Rep w (.sl ys) v Fi)(hn:Fi.Nodup)(hu:∀b∈Fi,Qu w b)(hs:∀b∈Fi,b∈c.F)
  (hnew:∀w':World,Rep w' (.sl ys') v Fi->(∀b∈c.F,b∉Fi->w'.heap[b]? =w.heap[b]?)->E1 w' ds' c.vals c.Fs)(hK:K ((σ.turn ds').NK d (one (.int .i64 k')))):o.wp P a w (aAG c N K) Q:=by
 unfold Oper.wp
 have has':as= #[.tmp x,.tmp y]:=RY has
 have hrun:(execOp a.eval o).run P w=.ok (.enter f #[v,.int .i64 k]) w:=by
  have e1:a.eval (.tmp x)=v:=by rw[tC,hx]
  have e2:a.eval (.tmp y)=.int .i64 k:=by rw[tC,Tk R hy]
  subst has'
  simp only[execOp,ho,resolve,Deferred.ofValue,invoke]
  simp[Dn hc.1,Act.eval]at e1 e2⊢
  simp[e1,e2]
 rw[hrun]
 unfold Oper.upon
 have hA:ZU w v false [.sl ys] [Fi]:=⟨v,[],Fi,[],rfl,rfl,hr,rfl,rfl⟩
 refine(hc.2 w v [Fi] hA (by simpa using hn) (by simpa using hu)).mono ?_
 rintro e w' ⟨rfl,h2,h3⟩
 obtain⟨v',vs',G1,G2,e1,e2,h4,e3,e4⟩:=h2
 simp only[List.cons.injEq]at e1 e2
 obtain⟨rfl,rfl⟩:=e1
 obtain⟨rfl,rfl⟩:=e2
 rw[show[Fi].flatten=Fi from by simp]at h3
 have hlt:∀b∈c.F,b<w.heap.size:=R.rep.lt
 have hF:Frm c.F w w':=h3.mono hs
 show aAG c N K (a.put o.dst (.int .i64 k')) w'
 rw[hd]
 exact⟨_,hK,(R.change hF (hnew w' h4 λb hb hn'=>h3.out b (hlt b hb) hn')).NK hN (⟨_,[],rfl,⟨[],by simp[Rep],jF⟩,rfl⟩)⟩
theorem WT{s:St}{C:St->Prop}(x:Operand){b:Bool}{cs:List SC}{k:SV->Prog}(j:Yh s.t x=.v b cs):ex P (vOp x k) s C=ex P (k (.v b cs)) s C:=by
 cases x with
 |tmp i=>simp only[vOp,ex];rw[show s.t i=_ from j]
 |const c=>simp only[vOp];rw[show cst c=_ from j]
 |func f=>simp only[vOp];rw[show SV.v false [.dat (.fn f [])]=_ from j]
 |global g=>cases j
theorem ZY (R:Md c N σ a w) (h:Zk P (dJ P) N o σ K):o.wp P a w (aAG c N K) Q:=by
 unfold Zk wI at h
 split at h
 ·-- move
  rename_i x C
  split at h
  ·split at h;(rename_i mv d J I;refine rO (v:=a.tmps.getD x undef) (w':=w) ?_ ?_;(simp [execOp,C,Act.eval]);·rw [I];exact ⟨_,h.2,R.Ny h.1 (R.mv x mv J)⟩);·exact h.elim
  ·split at h;(rename_i d I;refine Gy R ?_;unfold Yo;simp only [AU,C,vOp,ex,put,I,h.1.2,if_true,St.GA];exact ⟨⟨trivial,h.1.1,trivial⟩,h.2⟩);·exact h.elim
 ·-- move of a constant
  rename_i cv C
  split at h
  ·rename_i d I;refine Gy R ?_;unfold Yo;simp only [AU,C,vOp,ex,put,I,h.1.2,if_true,St.GA];exact ⟨⟨trivial,h.1.1,trivial⟩,h.2⟩
  ·exact h.elim
 ·-- assign
  rename_i x C
  split at h
  ·split at h;(rename_i mv d J I;refine rO (v:=a.tmps.getD x undef) (w':=w) ?_ ?_;(simp [execOp,C,Act.eval]);·rw [I];exact ⟨_,h.2,R.Ny h.1 (R.mv x mv J)⟩);·exact h.elim
  ·split at h;(rename_i d I;refine Gy R ?_;unfold Yo;simp only [AU,C,vOp,ex,put,I,h.1.2,if_true,St.GA];exact ⟨⟨trivial,h.1.1,trivial⟩,h.2⟩);·exact h.elim
 ·-- assign of a constant
  rename_i cv C
  split at h
  ·rename_i d I;refine Gy R ?_;unfold Yo;simp only [AU,C,vOp,ex,put,I,h.1.2,if_true,St.GA];exact ⟨⟨trivial,h.1.1,trivial⟩,h.2⟩
  ·exact h.elim
 ·-- binOp
  rename_i op ty x y ty2 C
  split at h
  ·rename_i k m hx;split at h;(rename_i k' n hy;split at h;(rename_i r hr;split at h;(rename_i d I;obtain ⟨⟨rfl,hf,hN⟩,hK⟩:=h;refine Gy R ?_;unfold Yo;simp only [AU,C];rw [WT x (show Yh (St.mk σ.t hz (λ_=>.unk)).t x=_ from hx),WT y (show Yh (St.mk σ.t hz (λ_=>.unk)).t y=_ from hy)];simp only [true_or,if_true,hr,ex,put,I,hN,St.GA];exact ⟨⟨trivial,hf,trivial⟩,hK⟩);·exact h.elim);·exact h.elim);·exact h.elim
  ·exact h.elim
 ·-- convert
  rename_i sy ty x C
  split at h
  ·rename_i ts hts;split at h;(rename_i k sz0 by0 z0 cm0 sl0 htt;split at h;(rename_i k0 n hx;split at h;(rename_i d I;refine Gy R ?_;unfold Yo;simp only [AU,C,hts,htt];rw [WT x (show Yh (St.mk σ.t hz (λ_=>.unk)).t x=_ from hx)];simp only [ex,put,I,h.1,if_true,St.GA];exact ⟨⟨trivial,rfl,trivial⟩,h.2⟩);·exact h.elim);·exact h.elim);·exact h.elim
  ·exact h.elim
 ·-- box
  rename_i t x C
  split at h
  ·rename_i d J I
   have hx:a.tmps.getD x undef = .agg c.vals.toArray:=R.mv x _ J
   have hb:Below w.heap.size w (w.alloc (.cells c.vals.toArray t)):=(Below.refl _ _).alloc (qf _) _
   refine rO (v:=.pointer (some ⟨w.heap.size,0,none⟩)) (w':=w.alloc (.cells c.vals.toArray t)) ?_ ?_
   ·have hx':a.eval (.tmp x) = .agg c.vals.toArray:=by rw [tC,hx]
    simp [execOp,C,Instr.box,newVar,newRow,hx',Value.cells]
   ·rw [I];refine ⟨_,h.2,(R.grow hb).Ny h.1 ⟨w.heap.size,t,rfl,heap_alloc_new w _,λJ => ?_⟩⟩;exact absurd (R.rep.lt _ J) (Nat.lt_irrefl _)
  ·exact h.elim
 ·-- fieldAddr
  rename_i s x f C
  split at h
  ·rename_i mv d J I
   split at h
   ·rename_i fs sz0 by0 z0 cm0 sl0 hti
    obtain ⟨i,dd,z,h1,h2,h3,h4,h5,h6,h7,h8,h9⟩:=(dI hti).ok
    split at h
    ·rename_i off sz ag hf
     obtain ⟨fields,fld,fi,rfl,k1,k2,k3,k4,k5,dsc,hdsc⟩:=Su (t:=s) h4 hf
     have hrun : ∀b o',0<sz->a.eval (.tmp x) = .pointer (some ⟨b,o',none⟩)->(execOp a.eval o).run P w = .ok (.value (.pointer (some ⟨b,o'+off,none⟩))) w:=by
      intro b o' hpos hx
      have hne : ¬fi.size=0:=by omega
      simp [execOp,C,hx,Instr.fieldAt,run_underlying h2,k1,Instr.sureAddr,fieldPlace,sizeOf,typeInfo,k3,hne,Addr.add_lit,k2]
     have U:=R.mv x mv J
     split at h
     ·obtain ⟨b,o0,n,cp,e1,e2⟩:=U;obtain ⟨⟨hpos,hN⟩,h⟩:=h;refine rO (hrun b _ hpos (by rw [tC,e2])) ?_;rw [I];exact ⟨_,h,R.Ny hN ⟨b,o0,n,cp,e1,by simp [qy]⟩⟩
     ·obtain ⟨B,ty,e1,e2,e3⟩:=U;obtain ⟨⟨hpos,hN⟩,h⟩:=h;refine rO (hrun B _ hpos (by rw [tC,e1])) ?_;rw [I];exact ⟨_,h,R.Ny hN ⟨B,ty,rfl,e2,e3⟩⟩
     ·exact h.elim
    ·exact h.elim
   ·exact h.elim
  ·exact h.elim
 ·-- load
  rename_i t x C
  split at h
  ·rename_i mv d J I
   split at h
   ·rename_i ti hti
    have U:=R.mv x mv J
    have hrun : ∀b off v,ti.agg=false->a.eval (.tmp x) = .pointer (some ⟨b,off,none⟩)->w.cell? ⟨b,off,none⟩=some v->(execOp a.eval o).run P w = .ok (.value v) w:=by intro b off v hag hx hc;simp only [execOp,C,hx,qs,aBl hti hag hc,qh,qu]
    split at h
    ·rename_i i z j q;split at h;(rename_i xs hds;split at h;(rename_i y hy;obtain ⟨⟨⟨hs1,hag,hN⟩,hyl,hq⟩,h⟩:=h;obtain ⟨b,o0,n,cp,e1,e2⟩:=U;obtain ⟨Fi,k2,k3,k4,k5,k6⟩:=R.Uy hds e1;obtain ⟨v,Gi,m1,m2,m3,m4,m5⟩:=k2.under k3 hy (qF (show q<y.length by omega));rw [hyl] at m1;refine rO (hrun b _ v hag (by rw [tC,e2]) m1) ?_;rw [I];exact ⟨_,h,R.Ny hN ⟨b,o0,n,cp,e1,m1⟩⟩);·exact h.elim);·exact h.elim
    ·rename_i q
     obtain ⟨B,ty,e1,e2,e3⟩:=U
     have hlen:=R.rep.length
     split at h
     ·rename_i hag
      obtain ⟨⟨hN,hq0⟩,h⟩:=h
      have hl:Dw w B q ((c.vals.drop q).take ti.size):=by have:=((Sv e2).drop q).take ti.size;rw [qo] at this;simpa using this
      refine rO (v:=.agg ((c.vals.drop q).take ti.size).toArray) (w':=w) ?_ ?_
      ·simp only [execOp,C,tC,e1,qs,aCY hti hag hl (by rw [qU,qV];omega),qh,qu]
      ·rw [I];exact ⟨_,h,R.Ny hN rfl⟩
     obtain ⟨⟨⟨hs1,hag,hN⟩,hq0⟩,h⟩:=h
     have hq:c.vals[q]? = some c.vals[q]:=qF (by rw [hlen];exact hq0)
     refine rO (hrun B q c.vals[q] hag (by rw [tC,e1]) ?_) ?_
     ·rw [cell_of_row w B _ _ ty (0,0) e2];simp [hq]
     ·rw [I];exact ⟨_,h,R.Ny hN hq⟩
    ·exact h.elim
   ·exact h.elim
  ·exact h.elim
 ·-- indexAddr
  rename_i t x ix C
  split at h
  ·rename_i i d J I
   split at h
   ·rename_i e sz0 by0 z0 cm0 sl0 hti
    obtain ⟨ii,dd,z,h1,h2,h3,h4,h5,h6,h7,h8,h9⟩:=(dI hti).ok
    obtain rfl:=C3 h4
    split at h
    ·rename_i te hte
     obtain ⟨ie,de,ze,e1,e2,e3,e4,e5,e6,e7,e8,e9⟩:=(dI hte).ok
     split at h
     ·rename_i kk j hj
      split at h
      ·rename_i xs hds
       split at h
       ·rename_i y hy
        obtain ⟨⟨hj0,hyl,hN⟩,h⟩:=h
        have U:c.vals[i]? = some (a.tmps.getD x undef):=R.mv x _ J
        obtain ⟨Fi,k2,k3,k4,k5,k6⟩:=R.Uy hds U
        simp only [Rep] at k2
        obtain ⟨ad,n,cp,p1,p2,p3,p4⟩:=k2
        have hlt:j.toNat<xs.length:=(qd.1 hy).1
        rcases p4 with ⟨p4,_⟩ | ⟨b,off,cells,sz,G,rfl,q2,q3,q4,q5,q6,q7⟩
        ·omega
        ·have hlt':j<(n:Int):=by omega
         refine rO (v:=.pointer (some ⟨b,off+j.toNat*te.size,none⟩)) (w':=w) ?_ ?_
         ·have x1:a.eval (.tmp x) = .slice (some ⟨b,off,none⟩) n cp:=by rw [tC,p1]
          have x2:a.eval (.tmp ix) = .int kk j:=by rw [tC,Tk R hj]
          simp [execOp,C,x1,x2,Instr.indexAt,asIntOf,run_underlying h2,sizeOf,typeInfo,e1,e7,hj0,hlt',Addr.add_lit]
         ·rw [I];exact ⟨_,h,R.Ny hN ⟨b,off,n,cp,by rw [U,p1],jF⟩⟩
       ·exact h.elim
      ·exact h.elim
     ·exact h.elim
    ·exact h.elim
   ·exact h.elim
  ·exact h.elim
 ·-- store
  rename_i t p x C
  split at h
  ·rename_i i z j q J I
   split at h
   ·rename_i ti hti
    split at h
    ·rename_i d hx
     split at h
     ·rename_i xs hds
      split at h
      ·rename_i y hy
       split at h
       ·rename_i qq hqq
        obtain ⟨⟨hs1,hdf,hyl,hqf⟩,h⟩:=h
        obtain ⟨b,o0,n,cp,e1,e2⟩:=R.mv p _ J
        obtain ⟨Fi,k2,k3,k4,k5,k6⟩:=R.Uy hds e1
        have hxv:=R.flat x
        rw [hx] at hxv
        obtain ⟨v1,v2⟩:=IF hxv hdf
        have hbF:b∈Fi:=by simp only [Rep] at k2;obtain ⟨ad,n',c',p1,p2,p3,p4⟩:=k2;cases p1;have hlt:j<xs.length:=(qd.1 hy).1;rcases p4 with ⟨p4,_⟩ | ⟨g,off,cells,sz,G,q1,q2,rfl,_⟩;(omega);·cases q1;simp
        obtain ⟨cur,et,hcur⟩:=k4 b hbF
        obtain ⟨m1,m2,m3⟩:=k2.store k3 hcur hy hqq hqf v1
        rw [hyl] at m1 m2
        have hvx:(a.eval (.tmp x)).cells = #[a.tmps.getD x undef]:=by rw [tC];exact v2
        have hrun:=JU (P:=P) (w:=w) (v:=a.eval (.tmp x)) (off:=o0+j*z+q) hti hcur (by rw [hvx,hs1];rfl) (by rw [hvx];intro u hu;rw [qQ.1 hu];exact v1.one) (by rw [hs1];exact m1)
        rw [hvx,hs1] at hrun
        have nM:(cur.toList.take (o0+j*z+q)++(#[a.tmps.getD x undef].toList++cur.toList.drop (o0+j*z+q+1)))=cur.toList.set (o0+j*z+q) (a.tmps.getD x undef):=by rw [List.set_eq_take_append_cons_drop,if_pos (by simpa using m1)];simp
        rw [nM] at hrun
        refine Tl (w':=w.setRow b (cur.toList.set (o0+j*z+q) (a.tmps.getD x undef)).toArray) ?_ I ?_
        ·simp only [execOp,C,tC,e2,qs];rw [tC] at hrun;simp only [hrun,qh,qu]
        ·have hoth : ∀k,k≠b->(w.setRow b (cur.toList.set (o0+j*z+q) (a.tmps.getD x undef)).toArray).heap[k]? = w.heap[k]? := λk hk=>setRow_other w b k _ hk
         refine ⟨_,h,R.change ⟨rfl,rfl,rfl,by rw [setRow_size];exact qf _,λk hk hn=>hoth k λe=>hn (e ▸ k5 b hbF),λk hk cur0 e0 hc0 => ?_⟩ (k6 _ _ m2 λk hk hn=>hoth k λe=>hn (e ▸ hbF))⟩
         by_cases hkb:k=b
         ·subst hkb;rw [hcur] at hc0;cases hc0;exact ⟨_,setRow_heap w k cur _ et _ hcur,jF⟩
         ·exact ⟨cur0,(hoth k hkb).trans hc0,rfl⟩
       ·exact h.elim
      ·exact h.elim
     ·exact h.elim
    ·exact h.elim
   ·exact h.elim
  ·exact h.elim
 ·-- len
  rename_i as ts C
  split at h
  ·rename_i x t has hts
   have has':=SA has
   have hts':=SA hts
   subst has' hts'
   split at h
   ·rename_i i d J I
    split at h
    ·rename_i e sz0 by0 z0 cm0 sl0 hti
     obtain ⟨ii,dd,z,h1,h2,h3,h4,_⟩:=(dI hti).ok
     obtain rfl:=C3 h4
     split at h
     ·rename_i xs hds
      have U:c.vals[i]? = some (a.tmps.getD x undef):=R.mv x _ J
      obtain ⟨Fi,k2,k3,k4,k5,k6⟩:=R.Uy hds U
      simp only [Rep] at k2
      obtain ⟨ad,n,cp,p1,p2,p3,p4⟩:=k2
      refine rO (v:=.int .i64 n) (w':=w) ?_ ?_
      ·have x1:a.eval (.tmp x) = .slice ad n cp:=by rw [tC,p1]
       simp [execOp,C,resolve,invoke,builtin,Builtin.len_,x1,run_underlying h2,goInt]
      ·rw [I,p2];exact ⟨_,h.2,R.NK h.1 ⟨_,[],rfl,⟨[],by simp [Rep],jF⟩,rfl⟩⟩
     ·exact h.elim
    ·exact h.elim
   ·exact h.elim
  ·exact h.elim
 ·-- call
  rename_i f as ts C
  split at h
  ·rename_i x y has
   split at h
   ·rename_i i d J I;split at h;(rename_i k hy;split at h;(rename_i ys hds;obtain ⟨ys',k',hc,hN,hK⟩:=h;have U:c.vals[i]? = some (a.tmps.getD x undef):=R.mv x _ J;obtain ⟨Fi,k2,k3,k4,k5,k6⟩:=R.Uy hds U;exact Pk C has I R rfl hy hc hN k2 k3 k4 k5 (λw' hr hb=>k6 w' _ hr hb) hK);·exact h.elim);·exact h.elim
   ·rename_i off n d J I
    split at h
    ·rename_i k hy
     obtain ⟨es,k',hc,⟨hN,hle⟩,hK⟩:=h
     have hx:a.tmps.getD x undef = .agg ((c.vals.drop off).take n).toArray:=R.mv x _ J
     obtain ⟨m1,m2,m3,m4⟩:=E1.mid off n R.rep R.nodup hle
     unfold Oper.wp
     have has':as = #[.tmp x,.tmp y]:=RY has
     have hrun:(execOp a.eval o).run P w = .ok (.enter f #[.agg ((c.vals.drop off).take n).toArray,.int .i64 k]) w:=by
      have e1:a.eval (.tmp x) = .agg ((c.vals.drop off).take n).toArray:=by rw [tC,hx]
      have e2:a.eval (.tmp y) = .int .i64 k:=by rw [tC,Tk R hy]
      subst has'
      simp only [execOp,C,resolve,Deferred.ofValue,invoke]
      simp [Dn hc.1,Act.eval] at e1 e2 ⊢
      simp [e1,e2]
     rw [hrun]
     unfold Oper.upon
     refine (hc.2 w _ ((c.Fs.drop off).take n) ⟨_,rfl,by simpa using m1⟩ m2 (λb hb=>R.Yk b (m3 b hb))).mono ?_
     rintro e w' ⟨rfl,h2,h3⟩
     obtain ⟨cs,e1,h4⟩:=h2
     cases e1
     have hlt : ∀b∈c.F,b<w.heap.size:=R.rep.lt
     have hF:Frm c.F w w':=h3.mono m3
     show aAG c N K (a.put o.dst (.int .i64 k')) w'
     rw [I]
     exact ⟨_,hK,(R.change hF (m4 w' es (by simpa using h4) λb hb hn'=>h3.out b (hlt b hb) hn')).NK hN (⟨_,[],rfl,⟨[],by simp [Rep],jF⟩,rfl⟩)⟩
    ·exact h.elim
   ·rename_i i z j q d J I
    split at h
    ·rename_i k hy
     split at h
     ·rename_i xs hds
      split at h
      ·rename_i e he
       split at h
       ·rename_i ys hq
        obtain ⟨ys',k',hc,⟨hel,hN⟩,hK⟩:=h
        obtain ⟨b,o0,n,cp,e1,e2⟩:=R.mv x _ J
        obtain ⟨Fi,k2,k3,k4,k5,k6⟩:=R.Uy hds e1
        obtain ⟨v,Gi,m1,m2,m3,m4,m5⟩:=k2.under k3 he hq
        rw [hel] at m1
        have hv:a.tmps.getD x undef=v:=by rw [e2] at m1;simpa using m1
        refine Pk C has I R hv hy hc hN m2 m3 (λb hb=>k4 b (m4 b hb)) (λb hb=>k5 b (m4 b hb)) (λw' hr hb => ?_) hK
        refine k6 w' _ (m5 w' _ hr λb' hb' hn=>hb b' (k5 b' hb') hn) λb' hb' hn=>hb b' hb' λJ=>hn (m4 b' J)
       ·exact h.elim
      ·exact h.elim
     ·exact h.elim
    ·exact h.elim
   ·exact h.elim
  ·exact Gy R h
 ·exact Gy R h
