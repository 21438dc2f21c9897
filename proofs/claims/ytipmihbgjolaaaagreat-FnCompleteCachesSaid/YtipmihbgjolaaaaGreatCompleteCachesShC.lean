/-
  Helper text. No conditions.
-/
import Derived.Test.YtipmihbgjolaaaaGreatCompleteCachesShB
import Derived.Deep.LoopGhost
import Derived.LoopN
set_option linter.unusedVariables false
set_option linter.unusedSimpArgs false
namespace Go.Sh
open Go.RowKit
section
variable {P:Program} {base N:Nat} {w0:W0} {w:World} {g:Gh} {s:St} {a:Act} {K:St->Prop} {Q:Exit->Act->World->Prop} {o:Oper} {pool:List Nat}
theorem K4 {t:TypeId} {ti:TI} (hti:fN P t=some ti) {b off:Nat} {v:Value} {cur:Array Value} {e:TypeId} (hw:w.heap[b]? = some (.cells cur e (0,0))) (hsz:v.cells.size=ti.size) (hone : ∀u∈v.cells.toList,u.oneCell'=true) (hfit:off+ti.size<=cur.size) :
  (Instr.storeAt t (.pointer (some ⟨b,off,none⟩)) v).run P w = .ok () (w.setRow b (cur.toList.take off++(v.cells.toList++cur.toList.drop (off+ti.size))).toArray):=by
 obtain ⟨i,d,z,h1,h2,h3,h4,h5,h6,h7,h8,h9⟩:=(dP hti).ok
 have hst:=run_storeCells_at P b off e v.cells.toList 0 cur w hw (by simp [hsz];omega) hone
 simp only [Nat.add_zero,Array.length_toList,hsz,qS] at hst
 simp only [Instr.storeAt,Instr.sureAddr,storeVar,Sem.run_bind,Sem.run_pure,Result.andThen_ok,sizeOf,typeInfo,run_program,h1,h7,hsz,ne_eq,not_true_eq_false,if_false,hst]
theorem Cl : ∀ {ds es:List D} {vs:List Value} {F:List Nat},aJ w (ds++es) vs F -> ∃F1 F2,F=F1++F2/\aJ w ds (vs.take ds.length) F1/\aJ w es (vs.drop ds.length) F2
 | [],es,vs,F,h=>⟨[],F,rfl,by simp [aJ],by simpa using h⟩
 | d::ds,es,vs,F,h=>by simp only [List.cons_append,aJ] at h;obtain ⟨v,vs',F1,F2,rfl,rfl,h3,h4⟩:=h;obtain ⟨G1,G2,rfl,k1,k2⟩:=Cl h4;refine ⟨F1++G1,G2,qd,?_,by simpa using k2⟩;simp only [qJ,List.take_succ_cons,aJ];exact ⟨v,vs'.take ds.length,F1,G1,rfl,rfl,h3,k1⟩
theorem OJ (off n:Nat) {ds:List D} {vs:List Value} {F:List Nat} (h:aJ w ds vs F) (hle:off+n<=ds.length) :
  ∃Fa Fb Fc,F=Fa++(Fb++Fc)/\aJ w (ds.take off) (vs.take off) Fa/\aJ w (ds.drop (off+n)) (vs.drop (off+n)) Fc:=by
 have h1:ds=ds.take off++((ds.drop off).take n++ds.drop (off+n)):=by rw [<-List.drop_drop,List.take_append_drop,List.take_append_drop]
 rw [h1] at h
 obtain ⟨Fa,F',rfl,k1,k2⟩:=Cl h
 obtain ⟨Fb,Fc,rfl,k3,k4⟩:=Cl k2
 have e1:(ds.take off).length=off:=by rw [qT];omega
 have e2:((ds.drop off).take n).length=n:=by rw [qT,qU];omega
 rw [e1] at k1
 rw [e1,e2,List.drop_drop] at k4
 exact ⟨Fa,Fb,Fc,rfl,k1,k4⟩
theorem Sa {L:TL} {m:Bool} {ts:Lb} (off n:Nat) {ds:List D} {vs:List Value} {F:List Nat} (h:xZ L m w ts ds vs F) (hle:off+n<=ds.length) :
  ∃Fa Fb Fc,F=Fa++(Fb++Fc)/\xZ L m w ts (ds.take off) (vs.take off) Fa/\xZ L m w (ts.drop (off+n)) (ds.drop (off+n)) (vs.drop (off+n)) Fc:=by
 cases m with
 | false=>exact OJ off n h hle
 | true =>
  have h1:ds=ds.take off++((ds.drop off).take n++ds.drop (off+n)):=by rw [<-List.drop_drop,List.take_append_drop,List.take_append_drop]
  have h':bT L w ds ts vs F:=h
  rw [h1] at h'
  obtain ⟨Fa,F',rfl,k1,k2⟩:=bT.split h'
  obtain ⟨Fb,Fc,rfl,k3,k4⟩:=bT.split k2
  have e1:(ds.take off).length=off:=by rw [qT];omega
  have e2:((ds.drop off).take n).length=n:=by rw [qT,qU];omega
  rw [e1] at k1
  rw [e1,e2,List.drop_drop,List.drop_drop] at k4
  exact ⟨Fa,Fb,Fc,rfl,k1,k4⟩
theorem setRow_size (w:World) (b:Nat) (cs:Array Value):(w.setRow b cs).heap.size=w.heap.size:=by simp [World.setRow]
theorem Fh {w0:World} {b:Nat} (hb:Below base w0 w) (hle:base<=b) (cs:Array Value):Below base w0 (w.setRow b cs):=
 hb.trans ⟨rfl,rfl,rfl,by rw [setRow_size];exact Nat.le_refl _,λk hk=>setRow_other w b k cs qb⟩
theorem Ok {F1 Fa Fb Fc F3 F:List Nat} (h:(F1++((Fa++(Fb++Fc))++F3)).Nodup) (hF:F.Nodup) (hd : ∀x∈F,x∉F1++((Fa++(Fb++Fc))++F3)):(F1++((Fa++(F++Fc))++F3)).Nodup:=by simp only [List.nodup_append,qP,not_or] at *;grind
theorem Ut {t:TypeId} {x y:Operand} (ho:o.op = .store t x y) (R:mJ P base w0 N g s a w []) (h:ex P (AL (fN P) N o) s K):o.wp P a w (Aft P base w0 N K) Q:=by
 simp only [AL,ho] at h
 split at h
 ·rename_i ti hdst hti
  obtain ⟨sp,q1,q2⟩:=bX R h
  obtain ⟨sv,q3,q4⟩:=bX R q2
  have fin : ∀ {b off:Nat} {w':World} {s':St},a.eval x = .pointer (some ⟨b,off,none⟩)->(Instr.storeAt t (.pointer (some ⟨b,off,none⟩)) (a.eval y)).run P w = .ok () w'->K s'->Rel P base w0 N s' a w'->o.wp P a w (Aft P base w0 N K) Q:=by intro b off w' s' hx hrun hk hR;refine Wc (w':=w') ?_ hdst ⟨s',hk,hR⟩;simp only [execOp,ho,hx,Sem.run_bind,hrun,Result.andThen_ok,Sem.run_pure]
  unfold KM at q4
  split at q4
  ·rename_i i ver off ag cs
   obtain ⟨hone,hle,hcap⟩:=eE q1
   simp only [ex] at q4
   split at q4
   ·rename_i t' cells hh
    split at q4
    ·rename_i hc
     obtain ⟨b,hb1,hb2⟩:=hcap hc.1 _ _ hh
     have hob:=R.inv.obj i
     rw [hh] at hob
     obtain ⟨b',vals,h3,h4,h5,h6⟩:=hob
     have hbb:b'=b:=by rw [hb1] at h3;simp at h3;exact h3.symm
     subst hbb
     have hlv:=h6.length
     have hvc:=DZ q3
     have hlc:=hvc.length
     simp only [Array.length_toList] at hlv hlc
     have hlive:live s.h i:=by unfold live;rw [hh];simp
     have hown:Bj (g.val i)=some b':=by rw [h3];rfl
     have hnS:=R.inv.mtb i b' hlive hown
     let w':=w.setRow b' (vals.toList.take off++((a.eval y).cells.toList++vals.toList.drop (off+ti.size))).toArray
     have hrun:=K4 (w:=w) (v:=a.eval y) (off:=off) hti h5 qb hvc.one qb
     have hoth : ∀k,k≠b'->w'.heap[k]? = w.heap[k]? := λk hk=>setRow_other w b' k _ hk
     have T:kL g { g with fp:=E8 g.fp i (g.fp i) } s.h (sB s.h i ((s.h i).1,.box t' (cells.take off++(cs++cells.drop (off+ti.size))))) w w':=
      kL.D4 hnS hoth (by intro e sz xs dp hh';cases hh') (by intro t0 cs0 hh';cases hh';exact ⟨_,hh⟩)
     have I':=R.inv.D4 (i:=i) (b:=b') (F:=g.fp i) (pool':=[]) (w':=w') hlive hown (setRow_size _ _ _) hoth T
      ⟨b',_,h3,h4,setRow_heap w b' vals _ t' _ h5,by
       have:=((h6.take off).append (hvc.append (h6.drop (off+ti.size)))).sN T
       simpa using this⟩ qd List.nodup_nil (by rintro ⟨_,_,_,hh'⟩;cases hh')
     rw [hc.1] at T I'
     exact fin hb2 hrun q4 ⟨_,R.sN T rfl (Fh R.below (R.q.2.1 ▸ h4) _) I'⟩
    ·exact q4.elim
   ·exact q4.elim
  ·rename_i i ver j off ag cs
   simp only [ex] at q4
   split at q4
   rotate_left
   ·exact q4.elim
   rename_i e0 sz0 xs0 dp0 hh0
   split at q4
   rotate_left
   ·exact q4.elim
   rename_i te hte
   obtain ⟨g2,s2,ds,b2,F,pool2,k1,k2,k3,k3t,k4,k5,k6⟩:=Ec R (DZ q3) q4
   have q1':=eE (q1.sN k3)
   obtain ⟨hone,hle,hcap⟩:=q1'
   simp only [ex] at k1
   split at k1
   ·rename_i e sz xs dp hh
    split at k1
    ·rename_i hc
     obtain ⟨hcv,hcl,hce⟩:=hc
     subst hce
     have hc:(s2.h i).1=ver/\cs.length=ti.size:=⟨hcv,hcl⟩
     obtain ⟨b,n,c,hb1,hb2⟩:=hcap hc.1 _ _ _ _ hh
     split at k1
     ·rename_i z hz
      split at k1
      ·rename_i hzl
       have hob:=k2.inv.obj i
       rw [hh] at hob
       obtain ⟨cells,p1,p2,p3,p4,p5⟩:=hob
       rcases p1.2 with ⟨p6,_⟩ | ⟨gg,cap,cur,p6,p7,p8,p9,aa,ae,af⟩
       ·rw [hb1] at p6;cases p6
       rw [hb1] at p6
       simp at p6
       obtain ⟨rfl,rfl,rfl⟩:=p6
       have hlive:live s2.h i:=by unfold live;rw [hh];simp
       have hown:Bj (g2.val i)=some b:=by rw [hb1];rfl
       have hnS:=k2.inv.mtb i b hlive hown
       have p3w:=p3
       obtain ⟨v1,v2,v3,F1,F2,F3,rfl,hF,hl1,hr1m,hr2m,hr3m⟩:=p3.at_ p2 hz
       have hr1:=hr1m.rep
       have hr2:=hr2m.rep
       have hr3:=hr3m.rep
       have hlz:z.length=sz:=p2 z (List.mem_of_getElem? hz)
       have hl2:=hr2.length
       have hjlt:j<xs.length:=(List.getElem?_eq_some_iff.1 hz).1
       have hvl:=k4.length
       have hcl:=(DZ q3).length
       simp only [Array.length_toList] at hcl hvl
       obtain ⟨Fa,Fb,Fc,rfl,hram,hrcm⟩:=Sa off ti.size hr2m hzl
       have hra:=hram.rep
       have hrc:=hrcm.rep
       have hcur:cur.toList=(v1++(v2++v3))++cur.toList.drop (xs.length*sz):=by rw [<-af,List.take_append_drop]
       generalize hrest:cur.toList.drop (xs.length*sz)=rest at hcur
       have hclen:(v1++(v2++v3)).length=xs.length*sz:=p1.1
       simp only [qE] at hclen
       have ht:cur.toList.take (j*sz+off)=v1++v2.take off:=by rw [hcur,qS,qS,List.take_append,hl1,List.take_of_length_le qb,show j*sz+off-j*sz=off from by omega,List.take_append_of_le_length qb]
       have hd:cur.toList.drop (j*sz+off+ti.size)=v2.drop (off+ti.size)++(v3++rest):=by rw [hcur,qS,qS,List.drop_append,hl1,List.drop_of_length_le qb,show j*sz+off+ti.size-j*sz=off+ti.size from by omega,List.drop_append_of_le_length qb];rfl
       have hszc:cur.size=cur.toList.length:=by simp
       have hfit:j*sz+off+ti.size<=cur.size:=by rw [hszc,hcur];simp only [qE];omega
       have hrun:=K4 (w:=w) (v:=a.eval y) (off:=j*sz+off) hti p8 qb (DZ q3).one hfit
       rw [ht,hd] at hrun
       generalize hnew:(v1++v2.take off++((a.eval y).cells.toList++(v2.drop (off+ti.size)++(v3++rest))))=new at hrun
       have hoth : ∀k,k≠b->(w.setRow b new.toArray).heap[k]? = w.heap[k]? := λk hk=>setRow_other w b k _ hk
       generalize hz':z.take off++(ds++z.drop (off+ti.size))=z' at k1
       have hrz:aJ w z' (v2.take off++((a.eval y).cells.toList++v2.drop (off+ti.size))) (Fa++(F++Fc)):=by rw [<-hz'];exact hra.append (k4.append hrc)
       have hlz':z'.length=sz:=by have:=hrz.length;rw [<-this];simp only [qE,qT,qU,Array.length_toList];omega
       have sB:xs.set j z'=xs.take j++z'::xs.drop (j+1):=by rw [List.set_eq_take_append_cons_drop,if_pos hjlt]
       have hrow:aV w (xs.set j z') (v1++((v2.take off++((a.eval y).cells.toList++v2.drop (off+ti.size)))++v3)) (F1++((Fa++(F++Fc))++F3)):=by rw [sB];refine hr1.append ?_;simp only [aV];exact ⟨_,v3,_,F3,rfl,rfl,hrz,hr3⟩
       have hrowM:dB g2.Q.L (dp&&b2) w e (xs.set j z') (v1++((v2.take off++((a.eval y).cells.toList++v2.drop (off+ti.size)))++v3)) (F1++((Fa++(F++Fc))++F3)):=by
        rw [sB]
        refine dB.append (hr1m.PC λhd=>(by simp at hd;exact hd.1)) (dB.append (xs:=[z']) (ys:=xs.drop (j+1)) (dB.one ?_) (hr3m.PC λhd=>(by simp at hd;exact hd.1)))
        rw [<-hz']
        have htk:(z.take off).length=off:=by rw [qT];omega
        refine xZ.append (hram.PC λhd=>(by simp at hd;exact hd.1)) ?_
        rw [htk]
        have hdl:ds.length=ti.size:=by have:=k4.length;simp only [Array.length_toList] at this;omega
        refine xZ.append ?_ ?_
        ·cases hdb:(dp&&b2) with
         | false=>exact k4
         | true =>
          simp at hdb
          refine bT.toL k2 hte off ?_
          rw [k3.Q]
          exact (k6 hdb.2).2
        ·rw [hdl,List.drop_drop];exact hrcm.PC λhd=>(by simp at hd;exact hd.1)
       have hFS : ∀x∈F1++((Fa++(F++Fc))++F3),g2.S x:=by intro x hx;simp only [qP] at hx;rcases hx with hx | ((hx | hx | hx) | hx);(exact p4 x (by rw [hF];simp [hx]));(exact p4 x (by rw [hF];simp [hx]));(exact k5 x hx);(exact p4 x (by rw [hF];simp [hx]));·exact p4 x (by rw [hF];simp [hx])
       have hxs' : ∀x∈xs.set j z',x.length=sz:=by intro x hx;rcases List.mem_or_eq_of_mem_set hx with hx | rfl;(exact p2 x hx);·exact hlz'
       have T:kL g2 { g2 with fp:=E8 g2.fp i (F1++((Fa++(F++Fc))++F3)) } s2.h (Sh.sB s2.h i ((s2.h i).1,.row e sz (xs.set j z') (dp&&b2))) w (w.setRow b new.toArray):=
        kL.D4 hnS hoth (by intro e0 sz0 xs0 dp0 hh';cases hh';exact ⟨_,_,hh⟩) (by intro t0 cs0 hh';cases hh')
       have hown':(dp&&b2)=true->Ac base (w.setRow b new.toArray) (F1++((Fa++(F++Fc))++F3)):=by
        intro hdb
        simp at hdb
        have hp:=(k6 hdb.2).1
        simp only [List.nil_append] at hp
        have hof:=p5 hdb.1
        have hpd:=k2.inv.pool_dis i ⟨e,sz,xs,by rw [hh,hdb.1]⟩
        have hpo:=k2.inv.pool_own
        rw [hp] at hpd hpo
        refine ⟨?_,?_⟩
        ·have hn1:=hof.1
         rw [hF] at hn1
         have hn2:=hpo.1
         have hdis : ∀x∈F,x∉F1++((Fa++(Fb++Fc))++F3):=λx hx hx'=>hpd x (by rw [hF];exact hx') hx
         exact Ok hn1 hn2 hdis
        ·intro x hx
         have hxS:=hFS x hx
         have hxb:x≠b:=λe=>hnS (e ▸ hxS)
         simp only [qP] at hx
         rcases hx with hx | ((hx | hx | hx) | hx)
         ·exact ⟨(hof.2 x (by rw [hF];simp [hx])).1,(hof.2 x (by rw [hF];simp [hx])).2.AH (hoth x hxb)⟩
         ·exact ⟨(hof.2 x (by rw [hF];simp [hx])).1,(hof.2 x (by rw [hF];simp [hx])).2.AH (hoth x hxb)⟩
         ·exact ⟨(hpo.2 x hx).1,(hpo.2 x hx).2.AH (hoth x hxb)⟩
         ·exact ⟨(hof.2 x (by rw [hF];simp [hx])).1,(hof.2 x (by rw [hF];simp [hx])).2.AH (hoth x hxb)⟩
         ·exact ⟨(hof.2 x (by rw [hF];simp [hx])).1,(hof.2 x (by rw [hF];simp [hx])).2.AH (hoth x hxb)⟩
       have hnl:(v1++((v2.take off++((a.eval y).cells.toList++v2.drop (off+ti.size)))++v3)).length=xs.length*sz:=by have:=aV.length hrow hxs';rw [this,qN]
       have hneweq:new=(v1++((v2.take off++((a.eval y).cells.toList++v2.drop (off+ti.size)))++v3))++rest:=by rw [<-hnew];simp
       have hls:(xs.set j z').length=xs.length:=qN
       have hsz1:new.length=cur.toList.length:=by rw [hneweq,hcur,qE,hnl,qE,qE,qE];omega
       have hor:(w.setRow b new.toArray).ownsRow base e sz (g2.val i) (xs.set j z').length (v1++((v2.take off++((a.eval y).cells.toList++v2.drop (off+ti.size)))++v3)):=by rw [hls];refine ⟨hnl,.inr ⟨b,c,new.toArray,hb1,p7,setRow_heap w b cur _ e _ p8,p9,aa,?_,?_⟩⟩;(rw [List.size_toArray,hsz1,<-hszc,ae]);·show new.toArray.toList.take _=_;rw [List.toList_toArray,hneweq];exact List.take_left' hnl
       have I':=k2.inv.D4 (i:=i) (b:=b) (F:=F1++((Fa++(F++Fc))++F3)) (pool':=[]) (w':=w.setRow b new.toArray) hlive hown (setRow_size _ _ _) hoth T
        ⟨_,hor,hxs',by
         show dB _ _ _ _ _ _ (E8 g2.fp i _ i)
         rw [dS]
         exact hrowM.AH λx hx=>T.Sw x (hFS x hx),by
         show ∀x∈E8 g2.fp i _ i,g2.S x
         rw [dS]
         exact hFS,by
         show (dp&&b2)=true->Ac base _ (E8 g2.fp i _ i)
         rw [dS]
         exact hown'⟩ qd List.nodup_nil (by
         rintro ⟨e0,sz0,xs0,hh'⟩ x hx
         simp at hh'
         have hp:=(k6 hh'.2.2.2.2).1
         simp only [List.nil_append] at hp
         refine ⟨?_,qd⟩
         simp only [qP] at hx
         have hdr:iV s2.h i:=⟨e,sz,xs,by rw [hh,hh'.2.2.2.1]⟩
         rcases hx with hx | ((hx | hx | hx) | hx)
         ·exact .inr ⟨hdr,by rw [hF];simp [hx]⟩
         ·exact .inr ⟨hdr,by rw [hF];simp [hx]⟩
         ·exact .inl (by rw [hp];exact hx)
         ·exact .inr ⟨hdr,by rw [hF];simp [hx]⟩
         ·exact .inr ⟨hdr,by rw [hF];simp [hx]⟩)
       rw [hc.1] at T I'
       exact fin hb2 hrun k1 ⟨_,k2.sN T rfl (Fh k2.below (Nat.le_trans k2.fbb p7) _) I'⟩
      ·exact k1.elim
     ·exact k1.elim
    ·exact k1.elim
   ·exact k1.elim
  ·exact q4.elim
 ·exact h.elim
end
end Go.Sh
namespace Go.Sh
open Go.RowKit
section
variable {P:Program} {base N:Nat} {w0:W0} {w:World} {g:Gh} {s:St} {a:Act} {K:St->Prop} {Q:Exit->Act->World->Prop} {o:Oper} {pool:List Nat}
theorem flat_get (l:List Value) : ∀(n k:Nat),(List.replicate n l).flatten[k]? = if k<n*l.length then l[k%l.length]? else none
 | 0,k=>by simp
 | n+1,k=>by
  rw [List.replicate_succ,List.flatten_cons,List.getElem?_append]
  by_cases h:k<l.length
  ·rw [if_pos h,if_pos (by rw [Nat.add_mul];omega),Nat.mod_eq_of_lt h]
  ·rw [if_neg h,flat_get l n (k-l.length)]
   have e:(k-l.length)%l.length=k%l.length:=by rw [<-Nat.mod_eq_sub_mod qb]
   rw [e]
   have:(k-l.length<n*l.length)↔(k<(n+1)*l.length):=by rw [Nat.add_mul];omega
   simp only [this]
theorem OM (z:Array Value) (n:Nat):(madeCells z (n*z.size)).toList=(List.replicate n z.toList).flatten:=by
 apply List.ext_getElem?
 intro k
 rw [flat_get,madeCells,Array.length_toList]
 by_cases h:k<n*z.size
 ·rw [if_pos h]
  have hz:0<z.size:=by rcases Nat.eq_zero_or_pos z.size with h0 | h0;(rw [h0] at h;omega);·exact h0
  have hm:k%z.size<z.size:=Nat.mod_lt _ hz
  simp [h,hm]
 ·rw [if_neg h];simp;omega
theorem MG {cs:List SC} {vs:List Value} (h:aT g s.h w cs vs) : ∀n,aT g s.h w (List.replicate n cs).flatten (List.replicate n vs).flatten
 | 0=>by simp [aT]
 | n+1=>by rw [List.replicate_succ,List.replicate_succ,List.flatten_cons,List.flatten_cons];exact h.append (MG h n)
theorem Oc (place:Nat->Option (Nat×Nat)) : ∀(parts:List (Nat×Value)) (vals vals':Array Value),Instr.fill place vals parts=some vals'->vals'.size=vals.size
 | [],vals,vals',h=>by simp [Instr.fill] at h;rw [h]
 | (i,v)::rest,vals,vals',h=>by unfold Instr.fill at h;split at h;(cases h);·rename_i off sz hp;split at h;(cases h);·have:=Oc place rest _ vals' h;rw [this];have:=(Great.foldl_set off v.cells.toList 0 vals).1;rw [<-Array.foldl_toList,Array.toList_zipIdx];exact this
theorem QG (sz:Nat) : ∀(n:Nat) {ds:List D} {vs:List Value} {F:List Nat},aJ w ds vs F->ds.length=n*sz->aV w (rows sz n ds) vs F/\(rows sz n ds).length=n /\ ∀x∈rows sz n ds,x.length=sz
 | 0,ds,vs,F,h,hl=>by have hd:ds=[]:=List.eq_nil_of_length_eq_zero (by simpa using hl);subst hd;simp only [aJ] at h;simp [rows,aV,h.1,h.2]
 | n+1,ds,vs,F,h,hl=>by
  have hsp:ds=ds.take sz++ds.drop sz:=(List.take_append_drop _ _).symm
  rw [hsp] at h
  obtain ⟨F1,F2,rfl,h1,h2⟩:=Cl h
  have e1:(ds.take sz).length=sz:=by rw [qT];rw [Nat.add_mul] at hl;omega
  rw [e1] at h1 h2
  obtain ⟨k1,k2,k3⟩:=QG sz n h2 (by rw [qU];rw [Nat.add_mul] at hl;omega)
  refine ⟨?_,by simp [rows,k2],?_⟩
  ·simp only [rows,aV];exact ⟨vs.take sz,vs.drop sz,F1,F2,(List.take_append_drop _ _).symm,rfl,h1,k1⟩
  ·intro x hx;simp only [rows,List.mem_cons] at hx;rcases hx with rfl | hx;(exact e1);·exact k3 x hx
theorem bT.lab {L:TL} : ∀ {ds:List D} {l r:Lb} {vs:List Value} {F:List Nat},bT L w ds (l++r) vs F->ds.length<=l.length->bT L w ds l vs F
 | [],l,r,vs,F,h,_=>by simp only [bT] at h ⊢;exact h
 | d::ds,[],r,vs,F,h,hl=>by simp at hl
 | d::ds,x::l,r,vs,F,h,hl=>by simp only [bT] at h ⊢;obtain ⟨v,vs',F1,F2,h1,h2,h3,h4⟩:=h;exact ⟨v,vs',F1,F2,h1,h2,h3,bT.lab h4 (by simpa using hl)⟩
theorem Oi {L:TL} {e:TypeId} (sz:Nat) : ∀(n:Nat) {ds:List D} {vs:List Value} {F:List Nat},bT L w ds (List.replicate n (L e)).flatten vs F->ds.length=n*sz->(L e=[]\/(L e).length=sz)->jW L w (rows sz n ds) e vs F
 | 0,ds,vs,F,h,hl,_=>by have hd:ds=[]:=List.eq_nil_of_length_eq_zero (by simpa using hl);subst hd;simp only [bT] at h;simp [rows,jW,h.1,h.2]
 | n+1,ds,vs,F,h,hl,hL=>by
  have hsp:ds=ds.take sz++ds.drop sz:=(List.take_append_drop _ _).symm
  rw [hsp] at h
  obtain ⟨F1,F2,rfl,h1,h2⟩:=bT.split h
  have e1:(ds.take sz).length=sz:=by rw [qT];rw [Nat.add_mul] at hl;omega
  rw [e1] at h1 h2
  have e2:(List.replicate (n+1) (L e)).flatten=L e++(List.replicate n (L e)).flatten:=by rw [List.replicate_succ,List.flatten_cons]
  rw [e2] at h1 h2
  have h3:bT L w (ds.take sz) (L e) (vs.take sz) F1:=by
   rcases hL with hL | hL
   ·have e3 : ∀m,(List.replicate m (L e)).flatten=[]:=λm=>by rw [hL];simp
    rw [e3,qW] at h1
    exact h1
   ·exact h1.lab qb
  have h4:bT L w (ds.drop sz) (List.replicate n (L e)).flatten (vs.drop sz) F2:=by
   rcases hL with hL | hL
   ·have e3 : ∀m,(List.replicate m (L e)).flatten=[]:=λm=>by rw [hL];simp
    rw [e3] at h2 ⊢
    rw [hL] at h2
    simpa using h2
   ·rw [<-hL,List.drop_left] at h2;rw [<-hL];exact h2
  have k1:=Oi sz n h4 (by rw [qU];rw [Nat.add_mul] at hl;omega) hL
  simp only [rows,jW]
  exact ⟨vs.take sz,vs.drop sz,F1,F2,(List.take_append_drop _ _).symm,rfl,h3,k1⟩
theorem MA (R:mJ P base w0 N g s a w pool) (j:Nat) (e:TypeId) (sz n:Nat) (vals:Array Value) (xs:List (List D)) (dp:Bool) (F:List Nat) (hn:xs.length=n) (hsz:vals.size=n*sz) (hm:n<=maxLen) (hx : ∀x∈xs,x.length=sz)
  (hr:dB g.Q.L dp w e xs vals.toList F) (hF : ∀b∈F,g.S b) (hd:dp=true->F.Nodup /\ ∀b∈F,b∈pool) :
  ∃g',mJ P base w0 N g' (s.fH j ((s.h j).1+1,.row e sz xs dp)) a (w.alloc (.cells vals e)) []/\uN g' (s.fH j ((s.h j).1+1,.row e sz xs dp)).h (w.alloc (.cells vals e)) (.v false [.row j ((s.h j).1+1)]) (.slice (some ⟨w.heap.size,0,none⟩) n n):=by
 have hs:w.heap.size<=(w.alloc (.cells vals e)).heap.size:=by simp
 have hbl : ∀b,b<w.heap.size->(w.alloc (.cells vals e)).heap[b]? = w.heap[b]? := λb hb=>Below.heap_alloc w _ b hb
 have I1:=R.inv.grow hs hbl
 have T1:kL g g s.h s.h w (w.alloc (.cells vals e)):=kL.grow R.inv.S_lt hbl
 have hfree:D3 g s.h w.heap.size:=⟨λhS=>absurd (R.inv.S_lt _ hS) qb,λj hl hb=>absurd (R.inv.EP hl hb).2.lt qb⟩
 have I2:=I1.Dc (i:=j) (v:=.slice (some ⟨w.heap.size,0,none⟩) n n) (e:=e) (sz:=sz) (xs:=xs) (dp:=dp) (cells:=vals.toList) (F:=F) (pool':=[])
  (by rw [hn];exact ⟨by simp [hsz],.inr ⟨w.heap.size,n,vals,rfl,R.inv.base_le,heap_alloc_new w _,Nat.le_refl _,hm,hsz,by rw [List.take_of_length_le];simp [hsz]⟩⟩) hx
  (hr.AH λb hb=>T1.Sw b (hF b hb)) hF (by intro b hb;simp [Bj] at hb;subst hb;exact hfree) qd List.nodup_nil (λh=>⟨(hd h).1,λb hb=>⟨(hd h).2 b hb,qd⟩⟩)
 have T2:=kL.create (g:=g) (h:=s.h) (w:=w.alloc (.cells vals e)) j (.slice (some ⟨w.heap.size,0,none⟩) n n) F (.row e sz xs dp)
 refine ⟨_,R.sN (T1.trans T2) rfl (R.below.alloc (Nat.le_trans R.fbb R.inv.base_le) _) I2,⟨_,[],rfl,⟨rfl,?_,?_⟩,rfl⟩⟩
 ·show _<=(sB s.h j _ j).1;rw [bM];exact Nat.le_refl _
 ·intro _ e' sz' xs' dp' _;show _=E8 g.val _ _ _;rw [dS]
theorem Lf {t e:TypeId} {ie:TypeInfo} (hu:P.underlying t=some (.slice e)) (hie:P.info? e=some ie) (parts:Array (Nat×Value)) (cells:Array Value) (h:Instr.fill (λi=>some (i*ie.size,ie.size)) #[] parts.toList=some cells) (w:World) :
  (Instr.buildSlice t 0 parts).run P w = .ok (.slice (some ⟨w.heap.size,0,none⟩) 0 0) (w.alloc (.cells cells e)):=by
 have h0:(Array.range 0) = #[]:=rfl
 simp [Instr.buildSlice,run_underlying hu,sizeOf,typeInfo,hie,h0,h,newRow]
theorem L9 {t:TypeId} {len:Nat} {parts:Array (Nat×Operand)} (ho:o.op = .buildSlice t len parts) (R:mJ P base w0 N g s a w []) (h:ex P (AL (fN P) N o) s K):o.wp P a w (Aft P base w0 N K) Q:=by
 simp only [AL,ho] at h
 split at h
 ·rename_i d e sz0 by0 z0 cm0 sl0 hd hti
  obtain ⟨i,dd,z,h1,h2,h3,h4,_⟩:=(dP hti).ok
  obtain rfl:=Ch h4
  split at h
  ·rename_i te hte
   obtain ⟨ie,de,ze,e1,e2,e3,e4,e5,e6,e7,e8,e9⟩:=(dP hte).ok
   split at h
   ·rename_i hlim
    have hz:aT g s.h w ((List.replicate len te.zero).flatten) (madeCells ze.cells (len*ze.cells.size)).toList:=by rw [OM];exact MG (Eh e5 _ _ _) len
    obtain ⟨cs,vals',k1,k2,k3⟩:=En R _ hz h
    obtain ⟨g2,s2,ds,b,F,pool2,m1,m2,m3,m3t,m4,m5,m6⟩:=Ec R k2 k3
    simp only [ex] at m1
    have hsz:vals'.size=len*te.size:=by rw [Oc _ _ _ _ k1,size_madeCells,e6,e7]
    have hdl:ds.length=len*te.size:=by rw [<-m4.length];simpa using hsz
    obtain ⟨r1,r2,r3⟩:=QG te.size len m4 hdl
    have hlm:len<=maxLen:=by simp only [maxLen];have:=Nat.le_mul_of_pos_right len hlim.2.1;omega
    obtain ⟨g3,R3,hv⟩:=MA m2 (rid d 0) e te.size len vals' (rows te.size len ds) b F r2 hsz hlm r3 (by
     cases hb:b with
     | false=>exact r1
     | true =>
      have hs:=(m6 hb).2
      rw [<-m3.Q] at hs
      rcases m2.lab.2 with hl | hl
      ·have hlb:g2.Q.L e=te.sl:=by rw [m2.lab.1,hl];exact (dP hte).sl.symm
       exact Oi te.size len (by rw [hlb];exact hs) hdl (by rw [hlb];exact hlim.2.2)
      ·rw [m2.lab.1,hl];exact dB.Sx r1) m5 (λhb=>by
     have hp:=(m6 hb).1
     simp only [List.nil_append] at hp
     have hpo:=m2.inv.pool_own.1
     rw [hp] at hpo ⊢
     exact ⟨hpo,λ_ x=>x⟩)
    obtain ⟨s4,p1,p2⟩:=B1 R3 hv m1
    refine C4 (v:=.slice (some ⟨w.heap.size,0,none⟩) len len) (w':=w.alloc (.cells vals' e)) ?_ ⟨s4,p1,g3,hd ▸ p2⟩
    have hpl:(parts.map λ(i,x)=>(i,a.eval x)).toList=parts.toList.map λx=>(x.1,a.eval x.2):=by rw [Array.toList_map]
    rw [e6] at k1
    by_cases h0:len*ie.size=0
    ·have hfill:Instr.fill (λi=>some (i*ie.size,ie.size)) #[] (parts.map λ(i,x)=>(i,a.eval x)).toList=some vals':=by
      rw [hpl]
      have:madeCells ze.cells (len*ie.size) = #[]:=Array.eq_empty_of_size_eq_zero (by rw [size_madeCells,h0])
      rw [this,<-e7] at k1
      exact k1
     have hl0:len=0:=by rcases Nat.mul_eq_zero.1 h0 with h' | h';(exact h');·omega
     have hrun:=Lf (P:=P) h2 e1 _ vals' hfill w
     subst hl0
     simp only [execOp,ho,Sem.run_bind,hrun,Result.andThen_ok,Sem.run_pure]
    ·have hrun:=run_buildSlice (P:=P) w t e len (parts.map λ(i,x)=>(i,a.eval x)) vals' ie ze h2 e1 e3 (by rw [e7];omega) h0 (by rw [hpl,e7];rw [e7] at k1;exact k1);simp only [execOp,ho,Sem.run_bind,hrun,Result.andThen_ok,Sem.run_pure]
   ·exact h.elim
  ·exact h.elim
 ·exact h.elim
theorem QW : ∀ {vs:List Value} {cs:List SC} (ts:Lb),NB vs=some cs -> ∃ds b,(∀k:List D->Bool->Prog,Bw cs ts k=k ds b) /\ ∀w:World,aJ w ds vs [] /\ ∀L:TL,b=true->bT L w ds ts vs []
 | [],cs,ts,h=>by simp [NB] at h;subst h;exact ⟨[],true,λk=>rfl,λw=>⟨by simp [aJ],λL _=>by simp [bT]⟩⟩
 | v::vs,cs,ts,h=>by
  simp only [NB] at h
  split at h
  ·rename_i c cs' hc hcs
   cases h
   obtain ⟨ds,b,k1,k2⟩:=QW ts.tail hcs
   have one : ∃d b',(∀k:List D->Bool->Prog,Bw (c::cs') ts k=k (d::ds) b') /\ ∀w:World,Rep w d v [] /\ ∀L:TL,b'=true->b=true/\Cx L w d (lab ts) v []:=by
    unfold aAX at hc
    split at hc<;>cases hc
    ·rename_i kk nn;exact ⟨.int kk nn,b,λk=>by simp [Bw,k1,D.flat],λw=>⟨by simp [Rep],λL hb=>⟨hb,by simp [Cx]⟩⟩⟩
    ·rename_i bb;exact ⟨.bool bb,b,λk=>by simp [Bw,k1,D.flat],λw=>⟨by simp [Rep],λL hb=>⟨hb,by simp [Cx]⟩⟩⟩
    ·rename_i ss;exact ⟨.str ss,b,λk=>by simp [Bw,k1,D.flat],λw=>⟨by simp [Rep],λL hb=>⟨hb,by simp [Cx]⟩⟩⟩
    ·refine ⟨.sl [],b,λk=>by simp [Bw,k1],λw=>⟨by simp only [Rep];exact ⟨none,0,0,rfl,rfl,Nat.le_refl _,.inl qd⟩,λL hb=>⟨hb,?_⟩⟩⟩
     cases lab ts with
     | none=>simp only [Cx,Rep];exact ⟨none,0,0,rfl,rfl,Nat.le_refl _,.inl qd⟩
     | some t=>simp only [Cx];exact ⟨[],[],World.ownsRow_nil w 0 t.1 t.2,qd,rfl,by simp [jW]⟩
   obtain ⟨d,b',m1,m2⟩:=one
   exact ⟨d::ds,b',m1,λw=>⟨by simp only [aJ];exact ⟨v,vs,[],[],rfl,rfl,(m2 w).1,(k2 w).1⟩,λL hb=>by obtain ⟨n1,n2⟩:=(m2 w).2 L hb;simp only [bT];exact ⟨v,vs,[],[],rfl,rfl,n2,(k2 w).2 L n1⟩⟩⟩
  ·cases h
theorem Rt {L:TL} {b:Bool} {e:TypeId} {ds:List D} {vs:List Value} (h:xZ L b w (L e) ds vs []) : ∀n,dB L b w e (List.replicate n ds) (List.replicate n vs).flatten []
 | 0=>by simpa using dB.nil
 | n+1=>by rw [List.replicate_succ,List.replicate_succ,List.flatten_cons];exact dB.append (xs:=[ds]) (F:=[]) (G:=[]) (dB.one h) (Rt h n)
theorem NK {t:TypeId} {l c:Operand} (ho:o.op = .makeSlice t l c) (R:mJ P base w0 N g s a w []) (h:ex P (AL (fN P) N o) s K):o.wp P a w (Aft P base w0 N K) Q:=by
 simp only [AL,ho] at h
 split at h
 ·rename_i d e sz0 by0 z0 cm0 sl0 hd hti
  obtain ⟨i,dd,z,h1,h2,h3,h4,_⟩:=(dP hti).ok
  obtain rfl:=Ch h4
  split at h
  ·rename_i te hte
   obtain ⟨ie,de,ze,e1,e2,e3,e4,e5,e6,e7,e8,e9⟩:=(dP hte).ok
   obtain ⟨sl,q1,q2⟩:=bX R h
   obtain ⟨sc,q3,q4⟩:=bX R q2
   split at q4
   ·rename_i k n k' m
    obtain ⟨⟨rfl,hn,hby,aa,hpos⟩,q4⟩:=q4
    obtain ⟨ds,b,k1,k2⟩:=QW te.sl e5
    rw [k1] at q4
    simp only [ex] at q4
    have hdl:ds.length=te.size:=by have:=(k2 w).1.length;simp only [Array.length_toList] at this;omega
    have hmade:(madeCells ze.cells (n.toNat*ie.size)).toList=(List.replicate n.toNat ze.cells.toList).flatten:=by rw [<-e6];exact OM _ _
    obtain ⟨g3,R3,hv⟩:=MA R (rid d 0) e te.size n.toNat (madeCells ze.cells (n.toNat*ie.size)) (List.replicate n.toNat ds) b [] qd (by rw [size_madeCells,e7]) (by simp only [maxLen];omega)
     (by intro x hx;rw [(List.mem_replicate.1 hx).2];exact hdl) (by
      rw [hmade]
      refine Rt ?_ _
      cases hb:b with
      | false=>exact (k2 w).1
      | true =>
       have:=bT.toL R hte 0 (by rw [List.drop_zero];exact (k2 w).2 _ hb)
       rw [List.drop_zero] at this
       exact this) qd (λ_=>⟨List.nodup_nil,qd⟩)
    obtain ⟨s4,p1,p2⟩:=B1 R3 hv q4
    refine C4 (v:=.slice (some ⟨w.heap.size,0,none⟩) n.toNat n.toNat) (w':=w.alloc (.cells (madeCells ze.cells (n.toNat*ie.size)) e)) ?_ ⟨s4,p1,g3,hd ▸ p2⟩
    have hb:(ie.bytes:Int)*n<=281474976710656:=by
     have h':((ie.bytes*n.toNat:Nat):Int)<=140737488355328:=by rw [e8,Nat.mul_comm];omega
     rw [Int.natCast_mul,Int.toNat_of_nonneg hn] at h'
     omega
    have hrun:=run_make (P:=P) w t e ie ze h2 e1 e3 k k' n n hn (Int.le_refl _) hb aa
    simp only [execOp,ho,mK q1,mK q3,Sem.run_bind,hrun,Result.andThen_ok,Sem.run_pure]
   ·exact q4.elim
  ·exact h.elim
 ·exact h.elim
end
end Go.Sh
namespace Go.Sh
open Go.RowKit Go.Lib
theorem Ce (zc:Array Value) (k:Nat):(Builtin.zeroCells zc k).size=k*zc.size:=by
 unfold Builtin.zeroCells
 induction k with
 | zero=>simp
 | succ k ih=>simp [Nat.succ_mul]
theorem Qn {P:Program} (w:World) (t e ty:TypeId) (z:Value) (ht:P.underlying t=some (.slice e)) (hv : ∀w,(zeroValue e).run P w = .ok z w) (b o n c:Nat) (cur:Array Value) (te:TypeId) (hn:0<n) (hb:w.heap[b]? = some (.cells cur te (0,0))) (hfit:o+n*z.cells.size<=cur.size) (h1 : ∀u∈(Builtin.zeroCells z.cells n).toList,u.oneCell'=true) :
  (Builtin.clear_ #[t] ty #[.slice (some ⟨b,o,none⟩) n c]).run P w = .ok (.tuple #[]) (w.setRow b (cur.toList.take o++(Builtin.zeroCells z.cells n).toList++cur.toList.drop (o+(Builtin.zeroCells z.cells n).toList.length)).toArray):=by
 have hst:=run_storeCells_at P b o te (Builtin.zeroCells z.cells n).toList 0 cur w hb (by rw [Array.length_toList,Ce,Nat.add_zero];exact hfit) h1
 simp only [Nat.add_zero] at hst
 obtain ⟨m,rfl⟩ : ∃m,n=m+1:=⟨n-1,qb⟩
 simp [Builtin.clear_,run_underlying ht,hv,hst]
theorem Hz {zc:Array Value} {k:Nat} {u:Value} (h1 : ∀x∈zc.toList,x.oneCell'=true) (h:u∈(Builtin.zeroCells zc k).toList):u.oneCell'=true:=by
 obtain ⟨j,hj,rfl⟩:=List.mem_iff_getElem.1 h
 have hj':j<k*zc.size:=by rw [Array.length_toList,Ce] at hj;exact hj
 have hz:0<zc.size:=by rcases Nat.eq_zero_or_pos zc.size with h0 | h0;(rw [h0] at hj';omega);·exact h0
 have hm:j%zc.size<zc.size:=Nat.mod_lt _ hz
 have e:(Builtin.zeroCells zc k).toList[j]=zc[j%zc.size]:=by simp [Builtin.zeroCells,getElem!_pos zc (j%zc.size) hm]
 rw [e]
 exact h1 _ qd
section
variable {P:Program} {base N:Nat} {w0:W0} {w:World} {g:Gh} {s:St} {a:Act} {K:St->Prop} {Q:Exit->Act->World->Prop} {o:Oper}
theorem TE {as:Array Operand} {ts:Array TypeId} (ho:o.op = .call { callee:=.builtin .clear,args:=as,argTypes:=ts }) (R:mJ P base w0 N g s a w []) (h:ex P (AL (fN P) N o) s K):o.wp P a w (Aft P base w0 N K) Q:=by
 simp only [AL,ho] at h
 split at h
 ·rename_i x t hs ht
  have hs:=WQ hs
  have ht:=WQ ht
  subst hs ht
  split at h
  ·rename_i e sz0 by0 z0 cm0 sl0 hti
   split at h
   ·rename_i te hte
    obtain ⟨sv,q1,q2⟩:=bX R h
    unfold QA at q2
    split at q2
    ·rename_i i ver lo n hd
     simp only [ex] at q2
     split at q2
     ·rename_i e' sz' xs dp hh
      split at q2
      ·rename_i hc
       obtain ⟨hv,he,hz⟩:=hc
       simp only [ex] at q2
       obtain ⟨⟨hfl,hln⟩,q3⟩:=q2
       subst he hz
       obtain ⟨h1,h2,h3⟩:=eE q1
       obtain ⟨ad,c,hval,k2,k3,k4⟩:=h3 hv _ _ _ _ hh
       have hflat:dp=true -> ∀y∈xs,y.all D.flat=true:=λhd'=>by rw [if_pos hd'] at hfl;exact List.all_eq_true.1 hfl
       have hob:=R.inv.obj i
       rw [hh] at hob
       obtain ⟨cells,p1,p2,p3,p4,p5⟩:=hob
       have hlive:live s.h i:=by unfold live;rw [hh];simp
       have hsi:s.h i=(ver,.row e' te.size xs dp):=by rw [<-hv,<-hh]
       obtain ⟨it,dt,zt,u1,u2,u3,u4,_⟩:=(dP hti).ok
       have hus:P.underlying t=some (.slice e'):=by rw [u2,Ch u4]
       obtain ⟨ie,de,ze,e1,e2,e3,e4,e5,e6,e7,_⟩:=(dP hte).ok
       have zv : ∀w,(zeroValue e').run P w = .ok ze w:=λw=>by simp [zeroValue,typeInfo,e1,e3]
       have fin : ∀w',(Builtin.clear_ #[t] o.type #[a.eval x]).run P w = .ok (.tuple #[]) w'->Rel P base w0 N (s.fH i (ver,.row e' te.size (xs.take lo++List.replicate n (List.replicate te.size .opq)) dp)) a w'->o.wp P a w (Aft P base w0 N K) Q:=by intro w' hrun hR;refine C4 (v:=.tuple #[]) (w':=w') ?_ ⟨_,q3,?_⟩;(simp [execOp,ho,resolve,invoke,builtin,hrun]);·rw [hd];exact hR
       rcases Nat.eq_zero_or_pos n with h0 | hn
       ·subst h0
        refine fin w ?_ ?_
        ·rw [hval];cases ad<;>simp [Builtin.clear_,run_underlying hus]
        ·have e0:xs.take lo++List.replicate 0 (List.replicate te.size D.opq)=xs:=by
          rw [List.replicate_zero,qW,List.take_of_length_le qb]
         rw [e0]
         have e9:s.fH i (ver,.row e' te.size xs dp)=s:=by rw [<-hsi];unfold St.fH;congr 1;funext j;by_cases hj:j=i;(rw [if_pos hj,hj]);·rw [if_neg hj]
         rw [e9]
         exact ⟨g,R⟩
       ·rcases k3 with k3 | ⟨b,m,c',k5,k6,k7⟩
        ·omega
        rcases p1.2 with ⟨hnil,_⟩ | ⟨b',cap,cur,hv1,hb1,hb2,hb3,hb4,hb5,htk⟩
        ·rw [hnil] at k5;cases k5
        have hbb:b'=b:=by rw [k5] at hv1;simp at hv1;exact hv1.1.symm
        subst hbb
        have hown:Bj (g.val i)=some b':=by rw [k5];rfl
        have hnS:=R.inv.mtb i b' hlive hown
        have hzs:ze.cells.size=te.size:=e6.trans e7
        have hz1 : ∀u∈ze.cells.toList,u.oneCell'=true:=(Eh e5 g s.h w).one
        have hcl:cells.length=xs.length*te.size:=p1.1
        have hle:xs.length*te.size<=cap*te.size:=Nat.mul_le_mul_right _ hb3
        have hlm:lo*te.size+n*te.size=xs.length*te.size:=by rw [<-Nat.add_mul,hln]
        have hrun:=Qn (P:=P) w t e' o.type ze hus zv b' (lo*te.size) n c cur e' hn hb2 (by rw [hzs,hb5];omega) (λu hu=>Hz hz1 hu)
        have hzl:(Builtin.zeroCells ze.cells n).toList.length=n*te.size:=by rw [Array.length_toList,Ce,hzs]
        have hoth : ∀k,k≠b'->(w.setRow b' (cur.toList.take (lo*te.size)++(Builtin.zeroCells ze.cells n).toList++cur.toList.drop (lo*te.size+(Builtin.zeroCells ze.cells n).toList.length)).toArray).heap[k]? = w.heap[k]? := λk hk=>setRow_other w b' k _ hk
        have hxs' : ∀y∈xs.take lo++List.replicate n (List.replicate te.size D.opq),y.length=te.size:=by intro y hy;rcases List.mem_append.1 hy with hy | hy;(exact p2 y (List.mem_of_mem_take hy));·rw [(List.mem_replicate.1 hy).2,List.length_replicate]
        have hls:(xs.take lo++List.replicate n (List.replicate te.size D.opq)).length=xs.length:=by simp only [qE,qT,List.length_replicate];omega
        have hsp:aV w (xs.take lo++xs.drop lo) cells (g.fp i):=by rw [List.take_append_drop];exact p3.rep
        obtain ⟨v1,v2,F1,F2,hcs,hF,m1,m2⟩:=aV.split hsp
        have hF1:dp=true->F1=[]:=λhd'=>NG m1 λy hy=>hflat hd' y (List.mem_of_mem_take hy)
        have hv1l:v1.length=lo*te.size:=by
         have:=aV.length m1 λy hy=>p2 y (List.mem_of_mem_take hy)
         rw [this,qT,Nat.min_eq_left qb]
        have htk1:cur.toList.take (lo*te.size)=v1:=by
         have:cur.toList.take (lo*te.size)=cells.take (lo*te.size):=by rw [<-htk,List.take_take,Nat.min_eq_left qb]
         rw [this,hcs,<-hv1l,List.take_left]
        have hrow:aV w (xs.take lo++List.replicate n (List.replicate te.size D.opq)) (v1++(Builtin.zeroCells ze.cells n).toList) (F1++[]):=
         aV.append m1 (Hk hzl λu hu=>Hz hz1 hu)
        have hnl:(v1++(Builtin.zeroCells ze.cells n).toList).length=xs.length*te.size:=by rw [qE,hv1l,hzl,hlm]
        have hor:(w.setRow b' (cur.toList.take (lo*te.size)++(Builtin.zeroCells ze.cells n).toList++cur.toList.drop (lo*te.size+(Builtin.zeroCells ze.cells n).toList.length)).toArray).ownsRow base e' te.size (g.val i) (xs.take lo++List.replicate n (List.replicate te.size D.opq)).length (v1++(Builtin.zeroCells ze.cells n).toList):=by rw [hls];refine ⟨hnl,.inr ⟨b',cap,_,hv1,hb1,setRow_heap w b' cur _ e' _ hb2,hb3,hb4,?_,?_⟩⟩;(simp only [List.size_toArray,qE,qT,qU,hzl,Array.length_toList,hb5];omega);·rw [List.toList_toArray,htk1];exact List.take_left' hnl
        have T:kL g { g with fp:=E8 g.fp i (F1++[]) } s.h (Sh.sB s.h i ((s.h i).1,.row e' te.size (xs.take lo++List.replicate n (List.replicate te.size D.opq)) dp)) w _:=
         kL.D4 hnS hoth (by intro e0 sz0 xs0 dp0 hh';cases hh';exact ⟨_,_,hh⟩) (by intro t0 cs0 hh';cases hh')
        have hrow2:dB g.Q.L dp (w.setRow b' (cur.toList.take (lo*te.size)++(Builtin.zeroCells ze.cells n).toList++cur.toList.drop (lo*te.size+(Builtin.zeroCells ze.cells n).toList.length)).toArray) e' (xs.take lo++List.replicate n (List.replicate te.size D.opq)) (v1++(Builtin.zeroCells ze.cells n).toList) (F1++[]):=by
         have hk:=aV.AH _ _ _ hrow λb hb=>T.Sw b (p4 b (by rw [hF];simp at hb;simp [hb]))
         cases hdp:dp with
         | false=>exact hk
         | true =>
          refine dB.flat hk λy hy => ?_
          rcases List.mem_append.1 hy with hy | hy
          ·exact hflat hdp y (List.mem_of_mem_take hy)
          ·exact Rp _ _ y hy
        have I':=R.inv.D4 (i:=i) (b:=b') (F:=F1++[]) (pool':=[]) hlive hown (setRow_size _ _ _) hoth T
         ⟨_,hor,hxs',by
          show dB _ _ _ _ _ _ (E8 g.fp i _ i)
          rw [dS]
          exact hrow2,by
          show ∀x∈E8 g.fp i _ i,g.S x
          rw [dS]
          exact λx hx=>p4 x (by rw [hF];simp at hx;simp [hx]),by
          show dp=true->Ac base _ (E8 g.fp i _ i)
          rw [dS]
          intro hdp
          rw [hF1 hdp]
          exact Ac.nil _ _⟩ qd List.nodup_nil (by
          rintro ⟨e1,z1,xs1,hh'⟩ x hx
          simp at hh'
          rw [hF1 hh'.2.2.2] at hx
          simp at hx)
        rw [hv] at T I'
        refine fin _ (by rw [hval,k7];exact hrun) ⟨_,R.sN T rfl (Fh R.below (Nat.le_trans R.fbb hb1) _) I'⟩
      ·exact q2.elim
     ·exact q2.elim
    ·exact q2.elim
   ·exact h.elim
  ·exact h.elim
 ·exact h.elim
end
end Go.Sh
namespace Go.Sh
open Go.RowKit
section
variable {P:Program} {base N:Nat} {w0:W0} {w:World} {g:Gh} {s:St} {a:Act} {K:St->Prop} {Q:Exit->Act->World->Prop} {o:Oper}
theorem Xv (R:mJ P base w0 N g s a w []) (h:ex P (AL (fN P) N o) s K):o.wp P a w (Aft P base w0 N K) Q:=by
 cases hop:o.op with
 | move x=>exact XK (.inl hop) R (by simpa only [AL,hop] using h)
 | assign x=>exact XK (.inr hop) R (by simpa only [AL,hop] using h)
 | pick c x y=>exact Xk hop R h
 | alloc t=>exact UG hop R h
 | box t x=>exact Yl hop R h
 | build t ps=>exact Ul hop R h
 | buildSlice t l ps=>exact L9 hop R h
 | load t x=>exact V8 hop R h
 | store t x y=>exact Ut hop R h
 | binOp op t x y ty=>exact S9 hop R h
 | unOp op t x =>
  cases op with
  | not=>exact Zd hop R h
  | neg=>exact YB hop R h
  | _=>exact (by simp only [AL,hop,ex] at h)
 | convert t u x=>exact PO hop R h
 | makeFunc fn f c =>
  cases fn with
  | func f=>exact Ow hop R h
  | _=>exact (by simp only [AL,hop,ex] at h)
 | makeSlice t l c=>exact NK hop R h
 | slice t x l hh m =>
  cases m with
  | none=>exact Tz hop R h
  | some m=>exact (by simp only [AL,hop,ex] at h)
 | fieldAddr t x f=>exact MW hop R h
 | field t x f=>exact TV hop R h
 | indexAddr t x i=>exact MZ hop R h
 | index t x i=>exact T8 hop R h
 | extract x i=>exact PN hop R h
 | nilCheck x=>exact OL hop R h
 | call c =>
  obtain ⟨callee,as,ts⟩:=c
  cases callee with
  | value f =>
   cases f with
   | tmp t=>exact RU hop R h
   | func f=>exact RV hop R h trivial
   | _=>exact (by simp only [AL,hop,ex] at h)
  | invoke r m=>exact (by simp only [AL,hop,ex] at h)
  | builtin b =>
   cases b with
   | len=>exact XY hop R h
   | min=>exact YN hop R h
   | max=>exact Yp hop R h
   | append=>exact Sf hop R h
   | clear=>exact TE hop R h
   | _=>exact (by simp only [AL,hop,ex] at h)
 | _=>exact (by simp only [AL,hop,ex] at h)
theorem VX {b:Bool} {t:Nat} (h:a.tmps.getD t undef = .bool b):a.tmps[t]? = some (.bool b):=by
 rw [Array.getD_eq_getD_getElem?] at h
 cases hh:a.tmps[t]? with
 | none=>rw [hh] at h;simp [undef] at h
 | some v=>rw [hh] at h;simp at h;rw [h]
theorem P2 {ops:Array Oper} {i:Nat} (hi:ops[i]? = some o) (R:Rel P base w0 N s a w) (h:ex P (evG (fN P) N ops o) s K):wpOp P ops Q i (Aft P base w0 N K) a w:=by
 obtain ⟨g,R⟩:=R
 unfold wpOp
 simp only [hi]
 unfold evG at h
 split at h
 ·rename_i hg;rw [if_pos (by simp [Region.wanted,hg])];exact .inl (Xv R h)
 ·rename_i j want hg
  split at h
  ·rename_i t ht
   simp only [ex] at h
   have htm:=R.tmp t
   have skip:Region.wanted o (yielded ops a.tmps)=false->ex P (put N o.dst .undef) s K->(if Region.wanted o (yielded ops a.tmps)=true then o.wp P a w (Aft P base w0 N K) Q\/o.asks P a w/\LetsOut Q else Aft P base w0 N K (a.put o.dst undef) w):=by intro hw hk;rw [if_neg (by rw [hw];simp)];obtain ⟨s',h1,h2⟩:=B1 R (sv:=.undef) (v:=undef) rfl hk;exact ⟨s',h1,g,h2⟩
   split at h
   ·rename_i b hb
    rw [hb] at htm
    have hv:=VX (CQ htm)
    have hy:yielded ops a.tmps j=some b:=by unfold yielded;rw [ht];simp [hv]
    split at h
    ·rename_i hbw;rw [if_pos (by simp [Region.wanted,hg,hy,hbw])];exact .inl (Xv R h)
    ·rename_i hbw;exact skip (by simp [Region.wanted,hg,hy,hbw]) h
   ·rename_i hb
    rw [hb] at htm
    have hv:a.tmps.getD t undef=undef:=htm
    have hy:yielded ops a.tmps j=none:=by
     unfold yielded;rw [ht]
     simp only [qA]
     cases hh:a.tmps[t]? with
     | none=>rfl
     | some v =>
      rw [Array.getD_eq_getD_getElem?,hh] at hv
      simp at hv
      rw [hv]
      rfl
    exact skip (by simp [Region.wanted,hg,hy]) h
   ·exact h.elim
  ·exact h.elim
theorem Ql {ops:Array Oper} {K:St->Prop} : ∀(l:List Oper) (i:Nat) {s:St} {a:Act} {w:World},ops.toList.drop i=l->Rel P base w0 N s a w->sO P (fN P) N ops l s K ->
  (∀s' a' w',K s'->Rel P base w0 N s' a' w'->Q .normal a' w')->wpOps P ops Q (List.range' i l.length) a w
 | [],i,s,a,w,hl,R,h,hq=>by simp only [qK,List.range'_zero,wpOps];exact hq s a w h R
 | o::l,i,s,a,w,hl,R,h,hq=>by
  simp only [qJ,List.range'_succ]
  rw [wpOps_cons]
  have hi:ops[i]? = some o:=by
   have:(ops.toList.drop i)[0]? = some o:=by rw [hl];rfl
   rw [List.getElem?_drop] at this
   simpa using this
  have hl':ops.toList.drop (i+1)=l:=by rw [<-List.drop_drop,hl];rfl
  refine wpOp_mono ?_ (P2 hi R h)
  rintro a' w' ⟨s',k1,k2⟩
  exact Ql l (i+1) hl' k2 k1 hq
theorem SJ {ops:Array Oper} {id:Nat} {K:St->Prop} (R:Rel P base w0 N s a w) (h:sO P (fN P) N ops ops.toList s K) (hq : ∀s' a' w',K s'->Rel P base w0 N s' a' w'->Q .normal a' w'):(Code.region id ops false).wp P Q a w:=by refine wp_region ?_;have:=Ql (Q:=Q) ops.toList 0 qd R h hq;rwa [Array.length_toList,<-List.range_eq_range'] at this
end
end Go.Sh
namespace Go.Sh
open Go.RowKit
inductive Run (P:Program):Prog->St->St->List Loc->List Loc->Prop where
 | done (s:St):Run P .done s s [] []
 | getT {t:Nat} {k:SV->Prog} {s s':St} {R W:List Loc} (h:Run P (k (s.t t)) s s' R W):Run P (.getT t k) s s' (.t t::R) W
 | Gu {t:Nat} {v:SV} {k:Prog} {s s':St} {R W:List Loc} (h:Run P k (s.Gu t v) s' R W):Run P (.Gu t v k) s s' R (.t t::W)
 | getH {i:Nat} {k:Nat×CT->Prog} {s s':St} {R W:List Loc} (h:Run P (k (s.h i)) s s' R W):Run P (.getH i k) s s' (.h i::R) W
 | fH {i:Nat} {x:Nat×CT} {k:Prog} {s s':St} {R W:List Loc} (h:Run P k (s.fH i x) s' R W):Run P (.fH i x k) s s' R (.h i::W)
 | call {f:FuncId} {args:List (Bool×List D)} {k:List (Bool×List RC)->Prog} {rs:List (Bool×List RC)} {s s':St} {R W:List Loc} (hc:kR P f args rs) (h:Run P (k rs) s s' R W):Run P (.call f args k) s s' R W
 | must {p:Prop} {k:Prog} {s s':St} {R W:List Loc} (hp:p) (h:Run P k s s' R W):Run P (.must p k) s s' R W
def Agr (s τ:St):Loc->Prop
 | .t i=>s.t i=τ.t i
 | .h i=>s.h i=τ.h i
 | .f i=>s.fr i=τ.fr i
theorem Agr.symm {s τ:St} {l:Loc} (h:Agr s τ l):Agr τ s l:=by cases l<;>exact Eq.symm h
theorem Agr.trans {s τ u:St} {l:Loc} (h:Agr s τ l) (k:Agr τ u l):Agr s u l:=by cases l<;>exact Eq.trans h k
theorem Agr.aCS {s:St} {l:Loc}:Agr s s l:=by cases l<;>rfl
theorem St.ext' {s τ:St} (h : ∀l,Agr s τ l):s=τ:=by
 cases s with
 | mk t1 h1 f1=>cases τ with
  | mk t2 h2 f2 =>
   have e1:t1=t2:=funext λi=>h (.t i)
   have e2:h1=h2:=funext λi=>h (.h i)
   have e3:f1=f2:=funext λi=>h (.f i)
   rw [e1,e2,e3]
theorem Ro {s τ:St} {t:Nat} {v:SV} {l:Loc} (h:l = .t t\/Agr s τ l):Agr (s.Gu t v) (τ.Gu t v) l:=by
 cases l with
 | t i =>
  show (s.Gu t v).t i=(τ.Gu t v).t i
  rw [St.JE,St.JE]
  by_cases hi:i=t
  ·simp [hi]
  ·rcases h with h | h;(cases h;exact absurd rfl hi);·simp only [hi,if_false];exact h
 | h i =>
  rcases h with h | h
  ·cases h
  ·exact h
 | f i =>
  rcases h with h | h
  ·cases h
  ·exact h
theorem Ri {s τ:St} {t:Nat} {v:Nat×CT} {l:Loc} (h:l = .h t\/Agr s τ l):Agr (s.fH t v) (τ.fH t v) l:=by
 cases l with
 | h i =>
  show (s.fH t v).h i=(τ.fH t v).h i
  rw [St.K7,St.K7]
  by_cases hi:i=t
  ·simp [hi]
  ·rcases h with h | h;(cases h;exact absurd rfl hi);·simp only [hi,if_false];exact h
 | t i =>
  rcases h with h | h
  ·cases h
  ·exact h
 | f i =>
  rcases h with h | h
  ·cases h
  ·exact h
theorem H4 {s:St} {t:Nat} {v:SV} {l:Loc} (h:l ≠ .t t):Agr s (s.Gu t v) l:=by
 cases l with
 | t i =>
  show s.t i=(s.Gu t v).t i
  rw [St.JE,if_neg (λe=>h (by rw [e]))]
 | h i=>rfl
 | f i=>rfl
theorem Hn {s:St} {t:Nat} {v:Nat×CT} {l:Loc} (h:l ≠ .h t):Agr s (s.fH t v) l:=by
 cases l with
 | h i =>
  show s.h i=(s.fH t v).h i
  rw [St.K7,if_neg (λe=>h (by rw [e]))]
 | t i=>rfl
 | f i=>rfl
theorem Run.loc {P:Program} {p:Prog} {s s':St} {R W:List Loc} (h:Run P p s s' R W):(∀l,l∉W->Agr s s' l) /\
  ∀τ:St,(∀l∈R,Agr s τ l) -> ∃τ',Run P p τ τ' R W/\(∀l∈W,Agr s' τ' l) /\ ∀l,l∉W->Agr τ τ' l:=by
 induction h with
 | done s=>exact ⟨λ_ _=>Agr.aCS,λτ _=>⟨τ,.done τ,qd,λ_ _=>Agr.aCS⟩⟩
 | @getT t k s s' R W h ih =>
  refine ⟨ih.1,λτ hτ => ?_⟩
  obtain ⟨τ',k1,k2,k3⟩:=ih.2 τ λl hl=>hτ l (by simp [hl])
  have e:s.t t=τ.t t:=hτ (.t t) qd
  rw [e] at k1
  exact ⟨τ',.getT k1,k2,k3⟩
 | @Gu t v k s s' R W h ih =>
  refine ⟨λl hl => ?_,λτ hτ => ?_⟩
  ·have h1:l ≠ .t t:=λe=>hl (by simp [e])
   have h2:l∉W:=λe=>hl (by simp [e])
   exact (H4 h1).trans (ih.1 l h2)
  ·obtain ⟨τ',k1,k2,k3⟩:=ih.2 (τ.Gu t v) λl hl=>Ro (.inr (hτ l hl))
   refine ⟨τ',.Gu k1,λl hl => ?_,λl hl => ?_⟩
   ·by_cases hw:l∈W
    ·exact k2 l hw
    ·have hlt:l = .t t:=by
      rcases List.mem_cons.1 hl with h | h
      ·exact h
      ·exact absurd h hw
     exact ((ih.1 l hw).symm.trans (Ro (.inl hlt))).trans (k3 l hw)
   ·have h1:l ≠ .t t:=λe=>hl (by simp [e])
    have h2:l∉W:=λe=>hl (by simp [e])
    exact (H4 h1).trans (k3 l h2)
 | @getH i k s s' R W h ih =>
  refine ⟨ih.1,λτ hτ => ?_⟩
  obtain ⟨τ',k1,k2,k3⟩:=ih.2 τ λl hl=>hτ l (by simp [hl])
  have e:s.h i=τ.h i:=hτ (.h i) qd
  rw [e] at k1
  exact ⟨τ',.getH k1,k2,k3⟩
 | @fH t v k s s' R W h ih =>
  refine ⟨λl hl => ?_,λτ hτ => ?_⟩
  ·have h1:l ≠ .h t:=λe=>hl (by simp [e])
   have h2:l∉W:=λe=>hl (by simp [e])
   exact (Hn h1).trans (ih.1 l h2)
  ·obtain ⟨τ',k1,k2,k3⟩:=ih.2 (τ.fH t v) λl hl=>Ri (.inr (hτ l hl))
   refine ⟨τ',.fH k1,λl hl => ?_,λl hl => ?_⟩
   ·by_cases hw:l∈W
    ·exact k2 l hw
    ·have hlt:l = .h t:=by
      rcases List.mem_cons.1 hl with h | h
      ·exact h
      ·exact absurd h hw
     exact ((ih.1 l hw).symm.trans (Ri (.inl hlt))).trans (k3 l hw)
   ·have h1:l ≠ .h t:=λe=>hl (by simp [e])
    have h2:l∉W:=λe=>hl (by simp [e])
    exact (Hn h1).trans (k3 l h2)
 | call hc h ih =>
  refine ⟨ih.1,λτ hτ => ?_⟩
  obtain ⟨τ',k1,k2,k3⟩:=ih.2 τ hτ
  exact ⟨τ',.call hc k1,k2,k3⟩
 | must hp h ih =>
  refine ⟨ih.1,λτ hτ => ?_⟩
  obtain ⟨τ',k1,k2,k3⟩:=ih.2 τ hτ
  exact ⟨τ',.must hp k1,k2,k3⟩
def aAB (R W R' W':List Loc):Prop:=(∀l∈W,l∉R'/\l∉W') /\ ∀l∈W',l∉R
theorem Run.swap {P:Program} {p q:Prog} {s s1 s2:St} {R W R' W':List Loc} (h:Run P p s s1 R W) (k:Run P q s1 s2 R' W') (ha:aAB R W R' W') :
  ∃s1',Run P q s s1' R' W'/\Run P p s1' s2 R W:=by
 have hl:=h.loc
 have kl:=k.loc
 obtain ⟨s1',q1,q2,q3⟩:=kl.2 s λl hl'=>(hl.1 l λhw=>(ha.1 l hw).1 hl').symm
 obtain ⟨s2',p1,p2,p3⟩:=hl.2 s1' λl hl'=>q3 l λhw=>ha.2 l hw hl'
 refine ⟨s1',q1,?_⟩
 have:s2'=s2:=by
  refine St.ext' λl => ?_
  by_cases hw:l∈W
  ·exact (p2 l hw).symm.trans (kl.1 l (ha.1 l hw).2)
  ·by_cases hw':l∈W';(exact (p3 l hw).symm.trans (q2 l hw').symm);·exact (p3 l hw).symm.trans ((q3 l hw').symm.trans ((hl.1 l hw).trans (kl.1 l hw')))
 rw [<-this]
 exact p1
theorem Run.ex {P:Program} {p:Prog} {s s':St} {R W:List Loc} (h:Run P p s s' R W):Sh.ex P p s λτ=>τ=s':=by
 induction h with
 | done s=>rfl
 | getT h ih=>exact ih
 | Gu h ih=>exact ih
 | getH h ih=>exact ih
 | fH h ih=>exact ih
 | call hc h ih=>exact ⟨_,hc,ih⟩
 | must hp h ih=>exact ⟨hp,ih⟩
def exF (P:Program):Prog->St->List Loc->List Loc->(St->List Loc->List Loc->Prop)->Prop
 | .done,s,R,W,K=>K s R W
 | .fail,_,_,_,_=>False
 | .getT t k,s,R,W,K=>exF P (k (s.t t)) s (.t t::R) W K
 | .Gu t v k,s,R,W,K=>exF P k (s.Gu t v) R (.t t::W) K
 | .getH i k,s,R,W,K=>exF P (k (s.h i)) s (.h i::R) W K
 | .fH i x k,s,R,W,K=>exF P k (s.fH i x) R (.h i::W) K
 | .call f args k,s,R,W,K=>∃rs,kR P f args rs/\exF P (k rs) s R W K
 | .must p k,s,R,W,K=>p/\exF P k s R W K
theorem Ha {P:Program} : ∀(p:Prog) {s:St} {R W:List Loc} {K:St->List Loc->List Loc->Prop},exF P p s R W K -> ∃s' R' W',Run P p s s' R' W'/\K s' (R'.reverse++R) (W'.reverse++W)
 | .done,s,R,W,K,h=>⟨s,[],[],.done s,h⟩
 | .fail,_,_,_,_,h=>h.elim
 | .getT t k,s,R,W,K,h=>by obtain ⟨s',R',W',h1,h2⟩:=Ha (k (s.t t)) h;exact ⟨s',_,_,.getT h1,by simpa using h2⟩
 | .Gu t v k,s,R,W,K,h=>by obtain ⟨s',R',W',h1,h2⟩:=Ha k h;exact ⟨s',_,_,.Gu h1,by simpa using h2⟩
 | .getH i k,s,R,W,K,h=>by obtain ⟨s',R',W',h1,h2⟩:=Ha (k (s.h i)) h;exact ⟨s',_,_,.getH h1,by simpa using h2⟩
 | .fH i x k,s,R,W,K,h=>by obtain ⟨s',R',W',h1,h2⟩:=Ha k h;exact ⟨s',_,_,.fH h1,by simpa using h2⟩
 | .call f args k,s,R,W,K,⟨rs,hc,h⟩=>by obtain ⟨s',R',W',h1,h2⟩:=Ha (k rs) h;exact ⟨s',_,_,.call hc h1,h2⟩
 | .must p k,s,R,W,K,⟨hp,h⟩=>by obtain ⟨s',R',W',h1,h2⟩:=Ha k h;exact ⟨s',_,_,.must hp h1,h2⟩
abbrev Fp:=List Loc×List Loc
def Dk (P:Program) (T:N3) (N:Nat) (ops:Array Oper):List Oper->St->List Fp->(St->List Fp->Prop)->Prop
 | [],s,acc,K=>K s acc
 | o::rest,s,acc,K=>exF P (evG T N ops o) s [] [] λs' R W=>Dk P T N ops rest s' (acc++[(R,W)]) K
def R7:List Oper->List (List Nat)->List (List Nat)
 | [],acc=>acc
 | o::rest,acc =>
  let es:=(o.after.toList.filter λe=>Region.binds .any e).map (·.on)
  R7 rest (acc++[es++es.flatMap λe=>acc.getD e []])
def KR (x y:Fp):Bool:=x.2.any (λl=>y.1.contains l||y.2.contains l)||y.2.any (λl=>x.1.contains l)
def IL (ops:Array Oper):Bool:=(List.range ops.size).all λi=>((ops[i]?).map λo=>o.after.toList.all λe => !Region.binds .any e||decide (e.on<i)).getD true
def G9 (ops:Array Oper) (fps:List Fp):Bool:=
 IL ops&&(List.range ops.size).all λj=>(List.range j).all λi => !KR (fps.getD i ([],[])) (fps.getD j ([],[]))||((R7 ops.toList []).getD j []).contains i
end Go.Sh
namespace Go.Sh
open Go.RowKit
section
variable {P:Program} {T:N3} {base N:Nat} {w0:W0} {Q:Exit->Act->World->Prop} {ops:Array Oper} {fps:List Fp}
def oP (o:Oper):List Nat:=(o.after.toList.filter λe=>Region.binds .any e).map (·.on)
theorem QD : ∀(l:List Oper) (acc:List (List Nat)),∃ext,R7 l acc=acc++ext/\ext.length=l.length
 | [],acc=>⟨[],by simp [R7],rfl⟩
 | o::rest,acc=>by obtain ⟨ext,h1,h2⟩:=QD rest (acc++[oP o++(oP o).flatMap λe=>acc.getD e []]);refine ⟨(oP o++(oP o).flatMap λe=>acc.getD e [])::ext,?_,by simp [h2]⟩;show R7 rest (acc++[oP o++(oP o).flatMap λe=>acc.getD e []])=_;rw [h1];simp
theorem TZ : ∀(l:List Oper) (acc:List (List Nat)) (k:Nat) (o:Oper),l[k]? = some o ->
  (R7 l acc).getD (acc.length+k) []=oP o++(oP o).flatMap λe=>((R7 l acc).take (acc.length+k)).getD e []
 | [],acc,k,o,h=>by simp at h
 | o'::rest,acc,0,o,h=>by
  simp at h
  subst h
  obtain ⟨ext,h1,h2⟩:=QD rest (acc++[oP o'++(oP o').flatMap λe=>acc.getD e []])
  show (R7 rest (acc++[oP o'++(oP o').flatMap λe=>acc.getD e []])).getD (acc.length+0) []=oP o'++(oP o').flatMap λe=>((R7 rest (acc++[oP o'++(oP o').flatMap λe=>acc.getD e []])).take (acc.length+0)).getD e []
  rw [h1]
  simp
 | o'::rest,acc,k+1,o,h=>by simp at h;have:=TZ rest (acc++[oP o'++(oP o').flatMap λe=>acc.getD e []]) k o h;simp only [qE,List.length_singleton] at this;rw [show acc.length+1+k=acc.length+(k+1) from by omega] at this;exact this
theorem NT (he:IL ops=true) {j:Nat} {o:Oper} (ho:ops[j]? = some o) : ∀e∈oP o,e<j:=by intro e hm;unfold oP at hm;obtain ⟨x,hx,rfl⟩:=List.mem_map.1 hm;rw [List.mem_filter] at hx;unfold IL at he;rw [qQ] at he;have hj:j<ops.size:=(Array.getElem?_eq_some_iff.1 ho).1;have:=he j (List.mem_range.2 hj);rw [ho] at this;simp only [Option.map_some,Option.getD_some,qQ] at this;have:=this x hx.1;rw [hx.2] at this;simpa using this
theorem Y0 (he:IL ops=true) {i j:Nat} {o:Oper} (ho:ops[j]? = some o) (h:i∈(R7 ops.toList []).getD j []) : ∃e∈oP o,i=e\/i∈(R7 ops.toList []).getD e []:=by
 have hl:ops.toList[j]? = some o:=by simpa using ho
 have:=TZ ops.toList [] j o hl
 simp only [qK,Nat.zero_add] at this
 rw [this] at h
 rcases List.mem_append.1 h with h | h
 ·exact ⟨i,h,.inl rfl⟩
 ·obtain ⟨e,h1,h2⟩:=List.mem_flatMap.1 h;refine ⟨e,h1,.inr ?_⟩;have hlt:=NT he ho e h1;rw [List.getD_eq_getElem?_getD,List.getElem?_take,if_pos hlt] at h2;rw [List.getD_eq_getElem?_getD];exact h2
theorem Sg (he:IL ops=true) (L:Nat->Prop) (hL : ∀j o,ops[j]? = some o->L j -> ∀e∈oP o,L e) : ∀(j:Nat) (o:Oper),ops[j]? = some o->(∀e∈oP o,L e) -> ∀i∈(R7 ops.toList []).getD j [],L i:=by
 intro j
 induction j using Nat.strongRecOn with
 | _ j ih =>
  intro o ho hd i hi
  obtain ⟨e,h1,h2⟩:=Y0 he ho hi
  rcases h2 with rfl | h2
  ·exact hd i h1
  ·have hlt:=NT he ho e h1;have hj:j<ops.size:=(Array.getElem?_eq_some_iff.1 ho).1;have ho':ops[e]? = some ops[e]:=Array.getElem?_eq_getElem qb;exact ih e hlt _ ho' (hL e _ ho' (hd e h1)) i h2
def Oe (P:Program) (T:N3) (N:Nat) (ops:Array Oper) (fps:List Fp):List Nat->St->St->Prop
 | [],s,s'=>s=s'
 | i::l,s,s'=>∃o s1 R W,ops[i]? = some o/\Run P (evG T N ops o) s s1 R W/\(∀x,x∈R↔x∈(fps.getD i ([],[])).1)/\(∀x,x∈W↔x∈(fps.getD i ([],[])).2)/\Oe P T N ops fps l s1 s'
theorem Po {x y:Fp} {R W R' W':List Loc} (h:KR x y=false) (h1 : ∀l,l∈R↔l∈x.1) (h2 : ∀l,l∈W↔l∈x.2) (h3 : ∀l,l∈R'↔l∈y.1) (h4 : ∀l,l∈W'↔l∈y.2):aAB R W R' W':=by unfold KR at h;rw [Bool.or_eq_false_iff,List.any_eq_false,List.any_eq_false] at h;refine ⟨λl hl => ?_,λl hl hl' => ?_⟩;(have:=h.1 l ((h2 l).1 hl);simp at this;exact ⟨λhh=>this.1 ((h3 l).1 hh),λhh=>this.2 ((h4 l).1 hh)⟩);·have:=h.2 l ((h4 l).1 hl);simp at this;exact this ((h1 l).1 hl')
theorem Oe.front : ∀(A:List Nat) {i:Nat} {B:List Nat} {s s':St},Oe P T N ops fps (A++i::B) s s'->(∀x∈A,KR (fps.getD x ([],[])) (fps.getD i ([],[]))=false) ->
  ∃o s1 R W,ops[i]? = some o/\Run P (evG T N ops o) s s1 R W/\(∀x,x∈R↔x∈(fps.getD i ([],[])).1)/\(∀x,x∈W↔x∈(fps.getD i ([],[])).2)/\Oe P T N ops fps (A++B) s1 s'
 | [],i,B,s,s',h,_=>h
 | x::A,i,B,s,s',h,hm=>by
  obtain ⟨o,s1,R,W,h1,h2,h3,h4,h5⟩:=h
  obtain ⟨oi,s2,R',W',k1,k2,k3,k4,k5⟩:=Oe.front A h5 λy hy=>hm y (by simp [hy])
  obtain ⟨t1,m1,m2⟩:=h2.swap k2 (Po (hm x qd) h3 h4 k3 k4)
  exact ⟨oi,t1,R',W',k1,m1,k3,k4,o,s2,R,W,h1,m2,h3,h4,k5⟩
theorem JC {K:St->List Fp->Prop} : ∀(l:List Oper) (i:Nat) (acc:List Fp) {s:St},ops.toList.drop i=l->acc.length=i->Dk P T N ops l s acc K ->
  ∃s' fps',fps'.take i=acc/\Oe P T N ops fps' (List.range' i l.length) s s'/\K s' fps'
 | [],i,acc,s,hl,ha,h=>⟨s,acc,by rw [<-ha,List.take_length],rfl,h⟩
 | o::l,i,acc,s,hl,ha,h=>by
  obtain ⟨s1,R',W',h1,h2⟩:=Ha _ h
  have hi:ops[i]? = some o:=by
   have:(ops.toList.drop i)[0]? = some o:=by rw [hl];rfl
   rw [List.getElem?_drop] at this
   simpa using this
  have hl':ops.toList.drop (i+1)=l:=by rw [<-List.drop_drop,hl];rfl
  obtain ⟨s',fps',k1,k2,k3⟩:=JC l (i+1) _ hl' (by simp [ha]) h2
  have hat:fps'.getD i ([],[])=(R'.reverse++[],W'.reverse++[]):=by
   have:(fps'.take (i+1))[i]? = some (R'.reverse++[],W'.reverse++[]):=by rw [k1,<-ha];simp
   rw [List.getElem?_take,if_pos qb] at this
   rw [List.getD_eq_getElem?_getD,this];rfl
  refine ⟨s',fps',?_,?_,k3⟩
  ·have:(fps'.take (i+1)).take i=acc:=by rw [k1,<-ha];simp
   rwa [List.take_take,Nat.min_eq_left qb] at this
  ·simp only [qJ,List.range'_succ];exact ⟨o,s1,R',W',hi,h1,by rw [hat];simp,by rw [hat];simp,k2⟩
def left (n:Nat) (listed:Array Bool):List Nat:=(List.range n).filter λi => !listed.getD i true
theorem Gd {n i:Nat} {listed:Array Bool}:i∈left n listed↔i<n/\listed.getD i true=false:=by unfold left;rw [List.mem_filter,qR];simp
theorem Q7 {listed:Array Bool} {n i j:Nat} {d:Bool} (hs:listed.size=n) (hi:i<n):(listed.setIfInBounds i true).getD j d=if j=i then true else listed.getD j d:=by
 simp only [Array.getD_eq_getD_getElem?,Array.getElem?_setIfInBounds]
 by_cases h:i=j
 ·subst h;simp [hs,hi]
 ·have h' : ¬j=i:=λe=>h e.symm
  simp [h,h']
theorem QM {listed:Array Bool} {n i:Nat} {A B:List Nat} (hs:listed.size=n) (hi:i<n) (h:left n listed=A++i::B):left n (listed.setIfInBounds i true)=A++B:=by
 have hnd:(left n listed).Nodup:=List.nodup_range.sublist List.filter_sublist
 have e:left n (listed.setIfInBounds i true)=(left n listed).filter λk=>k != i:=by unfold left;rw [List.filter_filter];congr 1;funext k;rw [Q7 hs hi];by_cases hk:k=i;(simp [hk]);·simp [hk]
 rw [e,h]
 rw [h] at hnd
 rw [List.nodup_append] at hnd
 obtain ⟨_,n2,n3⟩:=hnd
 rw [List.nodup_cons] at n2
 rw [List.filter_append,List.filter_cons]
 have hA:A.filter (λk=>k != i)=A:=List.filter_eq_self.2 λx hx=>by simpa using n3 x hx i qd
 have hB:B.filter (λk=>k != i)=B:=List.filter_eq_self.2 λx hx=>by
  have:x≠i:=λe=>n2.1 (e ▸ hx)
  simpa using this
 simp [hA,hB]
theorem Zp {K:St->Prop} (ho:G9 ops fps=true) {sF:St} (hK:K sF) (hq : ∀s' a' w',K s'->Rel P base w0 N s' a' w'->Q .normal a' w') :
  ∀(fuel:Nat) (listed:Array Bool) (s:St) (a:Act) (w:World),listed.size=ops.size->(left ops.size listed).length<=fuel ->
   (∀j o,ops[j]? = some o->listed.getD j true=true -> ∀e∈oP o,listed.getD e false=true) ->
   Oe P (fN P) N ops fps (left ops.size listed) s sF->Rel P base w0 N s a w->wpAny P .any ops Q fuel listed a w:=by
 have he:IL ops=true:=by unfold G9 at ho;rw [qM] at ho;exact ho.1
 have hp : ∀j,j<ops.size -> ∀i,i<j->KR (fps.getD i ([],[])) (fps.getD j ([],[]))=true->i∈(R7 ops.toList []).getD j []:=by intro j hj i hi hm;unfold G9 at ho;rw [qM,qQ] at ho;have:=ho.2 j (List.mem_range.2 hj);rw [qQ] at this;have:=this i (List.mem_range.2 hi);rw [hm] at this;simpa using this
 have same : ∀ {listed:Array Bool} {j:Nat},listed.size=ops.size->j<ops.size->listed.getD j true=listed.getD j false:=by intro listed j hs hj;simp only [Array.getD_eq_getD_getElem?];rw [Array.getElem?_eq_getElem qb];rfl
 have ready_mem : ∀ {listed:Array Bool} {i:Nat},i∈Region.ready .any ops listed->i∈left ops.size listed /\ ∃o,ops[i]? = some o /\ ∀e∈oP o,listed.getD e false=true:=by intro listed i hi;unfold Region.ready at hi;rw [List.mem_filter,qR] at hi;obtain ⟨h1,h2⟩:=hi;rw [qM] at h2;have ho':ops[i]? = some ops[i]:=Array.getElem?_eq_getElem h1;refine ⟨Gd.2 ⟨h1,by simpa using h2.1⟩,_,ho',?_⟩;have h3:=h2.2;rw [ho'] at h3;simp only [Option.map_some,Option.getD_some] at h3;rw [Array.all_eq_true'] at h3;intro e hm;unfold oP at hm;obtain ⟨x,hx,rfl⟩:=List.mem_map.1 hm;rw [List.mem_filter] at hx;have:=h3 x (by simpa using hx.1);rw [hx.2] at this;simpa using this
 have empty_of : ∀ {listed:Array Bool},listed.size=ops.size->Region.ready .any ops listed=[]->left ops.size listed=[]:=by
  intro listed hs hr
  cases hl:left ops.size listed with
  | nil=>rfl
  | cons i l =>
   exfalso
   have hi:i∈left ops.size listed:=by rw [hl];simp
   obtain ⟨hlt,hun⟩:=Gd.1 hi
   have hmin : ∀k,k<i->listed.getD k true=true:=by
    intro k hk
    cases hg:listed.getD k true with
    | true=>rfl
    | false =>
     have hm:k∈left ops.size listed:=Gd.2 ⟨qb,hg⟩
     have hsorted:(left ops.size listed).Pairwise (· < ·):=List.Pairwise.filter _ List.pairwise_lt_range
     rw [hl] at hm hsorted
     rcases List.mem_cons.1 hm with rfl | hm
     ·omega
     ·have:=(List.pairwise_cons.1 hsorted).1 k hm;omega
   have ho':ops[i]? = some ops[i]:=Array.getElem?_eq_getElem hlt
   have:i∈Region.ready .any ops listed:=by
    unfold Region.ready
    rw [List.mem_filter,qR]
    refine ⟨hlt,?_⟩
    rw [qM]
    refine ⟨by simpa using hun,?_⟩
    rw [ho']
    simp only [Option.map_some,Option.getD_some]
    rw [Array.all_eq_true']
    intro e hem
    cases hb:Region.binds .any e with
    | false=>rfl
    | true =>
     have hel:e.on<i:=NT he ho' e.on (by unfold oP;exact List.mem_map.2 ⟨e,List.mem_filter.2 ⟨by simpa using hem,hb⟩,rfl⟩)
     have:=hmin e.on hel
     rw [same hs qb] at this
     simp [this]
   rw [hr] at this
   simp at this
 intro fuel
 induction fuel with
 | zero =>
  intro listed s a w hs hf hcl hch R
  have hl:left ops.size listed=[]:=List.eq_nil_of_length_eq_zero qb
  refine ⟨?_,?_⟩
  ·cases hr:Region.ready .any ops listed with
   | nil=>rfl
   | cons i l =>
    have:=(ready_mem (listed:=listed) (i:=i) (by rw [hr];simp)).1
    rw [hl] at this
    simp at this
  ·rw [hl] at hch;have:s=sF:=hch;exact hq s a w (this ▸ hK) R
 | succ fuel ih =>
  intro listed s a w hs hf hcl hch R
  refine ⟨λhr => ?_,λi hi => ?_⟩
  ·have hl:=empty_of hs hr;rw [hl] at hch;have:s=sF:=hch;exact hq s a w (this ▸ hK) R
  ·obtain ⟨hil,o,hoi,hed⟩:=ready_mem hi
   obtain ⟨A,B,hAB⟩:=List.append_of_mem hil
   have hlt:=(Gd.1 hil).1
   rw [hAB] at hch
   have hsorted:(left ops.size listed).Pairwise (· < ·):=List.Pairwise.filter _ List.pairwise_lt_range
   have hA : ∀x∈A,x<i/\listed.getD x true=false/\x<ops.size:=by
    intro x hx
    have hm:x∈left ops.size listed:=by rw [hAB];simp [hx]
    rw [hAB,List.pairwise_append] at hsorted
    exact ⟨hsorted.2.2 x hx i qd,(Gd.1 hm).2,(Gd.1 hm).1⟩
   have hno : ∀x∈A,KR (fps.getD x ([],[])) (fps.getD i ([],[]))=false:=by
    intro x hx
    obtain ⟨h1,h2,h3⟩:=hA x hx
    cases hmd:KR (fps.getD x ([],[])) (fps.getD i ([],[])) with
    | false=>rfl
    | true =>
     exfalso
     have hanc:=hp i hlt x h1 hmd
     have:=Sg he (λk=>listed.getD k false=true) (λj o' ho' hj=>by have hj':j<ops.size:=(Array.getElem?_eq_some_iff.1 ho').1;exact hcl j o' ho' (by rw [same hs hj'];exact hj)) i o hoi hed x hanc
     rw [same hs h3] at h2
     rw [h2] at this
     cases this
   obtain ⟨o',s1,Rr,Ww,k1,k2,k3,k4,k5⟩:=Oe.front A hch hno
   have hoo:o'=o:=by rw [hoi] at k1;simpa using k1.symm
   subst hoo
   refine wpOp_mono ?_ (P2 hoi R k2.ex)
   rintro a' w' ⟨s',rfl,R'⟩
   refine ih _ _ a' w' (by simp [hs]) ?_ ?_ ?_ R'
   ·rw [QM hs hlt hAB];rw [hAB] at hf;simp at hf ⊢;omega
   ·intro j oj hoj hj e hem
    rw [Q7 hs hlt] at hj ⊢
    by_cases hji:j=i
    ·subst hji
     have:oj=o':=by rw [hoi] at hoj;simpa using hoj.symm
     subst this
     by_cases hei:e=j
     ·simp [hei]
     ·simp only [hei,if_false];exact hed e hem
    ·simp only [hji,if_false] at hj;by_cases hei:e=i;(simp [hei]);·simp only [hei,if_false];exact hcl j oj hoj hj e hem
   ·rw [QM hs hlt hAB];exact k5
theorem LZ {id:Nat} {K:St->Prop} {s:St} {a:Act} {w:World} (hm:P.follows .mixedOrders=true) (R:Rel P base w0 N s a w)
  (h:Dk P (fN P) N ops ops.toList s [] λs' fps=>G9 ops fps=true/\K s') (hq : ∀s' a' w',K s'->Rel P base w0 N s' a' w'->Q .normal a' w'):(Code.region id ops true).wp P Q a w:=by
 obtain ⟨s',fps',k1,k2,k3,k4⟩:=JC (ops:=ops) ops.toList 0 [] qd rfl h
 refine wp_region_any hm ?_
 have hR:Rel P base w0 N s a { w with drawn:=w.drawn+1 }:=by obtain ⟨g,R⟩:=R;have I':=R.inv.grow (w':={ w with drawn:=w.drawn+1 }) (Nat.le_refl _) (λ_ _=>rfl);exact ⟨g,R.sN (kL.grow R.inv.S_lt λ_ _=>rfl) rfl ⟨R.below.os,R.below.tape,R.below.output,R.below.size,R.below.block⟩ I'⟩
 have hl:left ops.size (Array.replicate ops.size false)=List.range ops.size:=by unfold left;rw [List.filter_eq_self];intro x hx;have:=List.mem_range.1 hx;simp [this]
 refine Zp k3 k4 hq ops.size _ s a _ qd (by rw [hl];simp) ?_ ?_ hR
 ·intro j o ho hj;have hj':j<ops.size:=(Array.getElem?_eq_some_iff.1 ho).1;simp [hj'] at hj
 ·rw [hl,List.range_eq_range'];rw [Array.length_toList] at k2;exact k2
end
end Go.Sh
namespace Go.Sh
open Go.RowKit
section
variable {P:Program} {base N:Nat} {w0:W0}
def SW (P:Program) (base:Nat) (w0:W0) (N:Nat) (c:Code) (s:St) (Q:Exit->St->Prop):Prop:=
 ∀(a:Act) (w:World),Rel P base w0 N s a w->c.wp P (λe a' w'=>∃s',Q e s'/\Rel P base w0 N s' a' w') a w
inductive Fr where
 | code (c:Code)
 | block (id:Nat)
 | inv (J:St->Prop)
def aft (P:Program) (base:Nat) (w0:W0) (N:Nat) (Z:St->Prop):List Fr->Exit->St->Prop
 | [],.normal,s=>Z s
 | [],.ret,s=>Z s
 | [],_,_=>False
 | .code c::k,.normal,s=>SW P base w0 N c s (aft P base w0 N Z k)
 | .code _::k,e,s=>aft P base w0 N Z k e s
 | .block id::k,.exit id',s=>if id'=id then aft P base w0 N Z k .normal s else aft P base w0 N Z k (.exit id') s
 | .block _::k,e,s=>aft P base w0 N Z k e s
 | .inv J::_,.normal,s=>J s
 | .inv _::k,e,s=>aft P base w0 N Z k e s
variable {Z:St->Prop} {k:List Fr} {s:St}
theorem M6 : ∀(k:List Fr),Z s->aft P base w0 N Z k .ret s
 | [],h=>h
 | .code _::k,h=>M6 k h
 | .block _::k,h=>M6 k h
 | .inv _::k,h=>M6 k h
theorem ZL {x y:Code} (h:SW P base w0 N x s (aft P base w0 N Z (.code y::k))):SW P base w0 N (.seq x y) s (aft P base w0 N Z k):=by
 intro a w R
 refine wp_seq (wp_mono (h a w R) ?_)
 rintro e a' w' ⟨s',h1,h2⟩
 cases e with
 | normal=>exact h1 a' w' h2
 | _=>exact ⟨s',h1,h2⟩
theorem Xe {id:Nat} {c:Code} (h:SW P base w0 N c s (aft P base w0 N Z (.block id::k))):SW P base w0 N (.block id c) s (aft P base w0 N Z k):=by
 intro a w R
 refine wp_block (wp_mono (h a w R) ?_)
 rintro e a' w' ⟨s',h1,h2⟩
 cases e with
 | exit id' =>
  show if id'=id then _ else _
  by_cases hid:id'=id
  ·simp only [aft,hid,if_true] at h1 ⊢;exact ⟨s',h1,h2⟩
  ·simp only [aft,hid,if_false] at h1 ⊢;exact ⟨s',h1,h2⟩
 | _=>exact ⟨s',h1,h2⟩
theorem Yz {id:Nat} (h:aft P base w0 N Z k (.exit id) s):SW P base w0 N (.exit id) s (aft P base w0 N Z k):=λa w R=>wp_exit ⟨s,h,R⟩
theorem ZO (h:Z s):SW P base w0 N .ret s (aft P base w0 N Z k):=λa w R=>wp_ret ⟨s,M6 k h,R⟩
theorem Yg (h:aft P base w0 N Z k .normal s):SW P base w0 N .skip s (aft P base w0 N Z k):=λa w R=>wp_skip ⟨s,h,R⟩
theorem Lc {id:Nat} {ops:Array Oper} (h:sO P (fN P) N ops ops.toList s λs'=>aft P base w0 N Z k .normal s'):SW P base w0 N (.region id ops false) s (aft P base w0 N Z k):=
 λa w R=>SJ R h λs' a' w' h1 h2=>⟨s',h1,h2⟩
theorem TP (hm:P.follows .mixedOrders=true) {id:Nat} {ops:Array Oper} (h:Dk P (fN P) N ops ops.toList s [] λs' fps=>G9 ops fps=true/\aft P base w0 N Z k .normal s'):SW P base w0 N (.region id ops true) s (aft P base w0 N Z k):=
 λa w R=>LZ hm R h λs' a' w' h1 h2=>⟨s',h1,h2⟩
theorem P3 {t:Nat} {x y:Code} {b:Bool} (hb:s.t t = .v false [.dat (.bool b)]) (h1:b=true->SW P base w0 N x s (aft P base w0 N Z k)) (h2:b=false->SW P base w0 N y s (aft P base w0 N Z k)):SW P base w0 N (.cond (.tmp t) x y) s (aft P base w0 N Z k):=by intro a w R;obtain ⟨g,R'⟩:=id R;have ht:=R'.tmp t;rw [hb] at ht;have hv:=CQ ht;exact wp_cond_split (t:=b) (by simpa [Act.eval] using hv) (λh=>h1 h a w R) (λh=>h2 h a w R)
theorem IB {c:Code} (I:Nat->St->Prop) (n:Nat) (h0:I n s) (h : ∀m s,I m s->SW P base w0 N c s (aft P base w0 N Z (.inv (λs'=>∃m',m'<m/\I m' s')::k))):SW P base w0 N (.loop c) s (aft P base w0 N Z k):=by
 intro a w R
 refine wp_loop_ghost (λm a w=>∃s,I m s/\Rel P base w0 N s a w) n ⟨s,h0,R⟩ ?_
 rintro m a w ⟨s,h1,R⟩
 refine wp_mono (h m s h1 a w R) ?_
 rintro e a' w' ⟨s',h2,h3⟩
 cases e with
 | normal=>obtain ⟨m',h4,h5⟩:=h2;exact ⟨m',h4,s',h5,h3⟩
 | _=>exact ⟨s',h2,h3⟩
def Dw (T:N3) (s:St):List ResultVar->Option (List (Bool×List SC))
 | []=>some []
 | .tmp t::r=>match s.t t with
  | .v ag cs=>match Dw T s r with
   | some l=>some ((ag,cs)::l)
   | none=>none
  | _=>none
 | .cell p ty::r=>match T ty with
  | some ti=>match s.t p with
   | .v false [.bp i ver 0]=>match s.h i with
    | (v',.box _ cells)=>if v'=ver/\cells.length=ti.size then (match Dw T s r with
      | some l=>some ((ti.agg,cells)::l)
      | none=>none) else none
    | _=>none
   | _=>none
  | none=>none
def C1 (h:Heap):List SC->List RC->Prop
 | [],[]=>True
 | .dat d::cs,.ro d'::rs=>d=d'/\d.flat=true/\C1 h cs rs
 | .dat d::cs,.any d'::rs=>d=d'/\C1 h cs rs
 | .nil::cs,.any d'::rs=>d' = .sl []/\C1 h cs rs
 | .nil::cs,.own _ _ xs::rs=>xs=[]/\C1 h cs rs
 | .row i ver::cs,.own e sz xs::rs=>h i=(ver,.row e sz xs true)/\C1 h cs rs
 | _,_=>False
def HO:List SC->List Nat
 | []=>[]
 | .row i _::cs=>i::HO cs
 | _::cs=>HO cs
def Nt (h:Heap):List (Bool×List SC)->List (Bool×List RC)->Prop
 | [],[]=>True
 | (ag,cs)::xs,(ag',rs)::ys=>ag=ag'/\C1 h cs rs/\Nt h xs ys
 | _,_=>False
def FM:List (Bool×List SC)->List Nat
 | []=>[]
 | x::xs=>HO x.2++FM xs
def Ret (T:N3) (vars:List ResultVar) (rs:List (Bool×List RC)) (s:St):Prop:=
 ∃l,Dw T s vars=some l/\Nt s.h l rs/\(FM l).Nodup/\(AJ rs=true->FM l=[])
section
variable {g:Gh} {h:Heap} {w:World}
def Sv (g:Gh) (i:Nat):List Nat:=(Bj (g.val i)).toList++g.fp i
theorem zS (I:Inv base g h w []) : ∀ {cs:List SC} {rs:List RC} {vs:List Value},aT g h w cs vs->C1 h cs rs->pX g.Q.L base w g.S vs rs ((HO cs).flatMap (Sv g))
 | [],[],vs,hc,_=>by rw [show vs=[] from hc];simp [pX,HO]
 | .dat d::cs,.ro d'::rs,vs,hc,hr=>by obtain ⟨v,vs',rfl,⟨F,h1,h2⟩,h3⟩:=hc;obtain ⟨rfl,hf,hr⟩:=hr;have:=Iy h1 hf;subst this;refine ⟨h1,?_⟩;simp only [HO];exact zS I h3 hr
 | .nil::cs,.own e sz xs::rs,vs,hc,hr=>by obtain ⟨v,vs',rfl,h1,h3⟩:=hc;obtain ⟨rfl,hr⟩:=hr;have:v = .slice none 0 0:=h1;subst this;refine ⟨[],[],_,World.ownsRow_nil w base e sz,qd,by simp [jW],?_,zS I h3 hr⟩;simp [Value.ownBlock,HO]
 | .row i ver::cs,.own e sz xs::rs,vs,hc,hr=>by obtain ⟨v,vs',rfl,⟨h0,h1,h2⟩,h3⟩:=hc;obtain ⟨hi,hr⟩:=hr;have hval:v=g.val i:=h2 (by rw [hi]) e sz xs true (by rw [hi]);have hob:=I.obj i;rw [show (h i).2 = .row e sz xs true from by rw [hi]] at hob;obtain ⟨cells,k1,k2,k3,k4,k5⟩:=hob;rw [<-hval] at k1;refine ⟨cells,g.fp i,_,k1,k2,k3,?_,zS I h3 hr⟩;simp only [HO,List.flatMap_cons,Sv];rw [<-hval,pN k1,qS]
 | .dat d::cs,.any d'::rs,vs,hc,hr=>by obtain ⟨v,vs',rfl,⟨F,h1,h2⟩,h3⟩:=hc;obtain ⟨rfl,hr⟩:=hr;refine ⟨⟨F,h1,h2⟩,?_⟩;simp only [HO];exact zS I h3 hr
 | .nil::cs,.any d'::rs,vs,hc,hr=>by obtain ⟨v,vs',rfl,h1,h3⟩:=hc;obtain ⟨rfl,hr⟩:=hr;refine ⟨⟨[],?_,qd⟩,?_⟩;(rw [show v = .slice none 0 0 from h1];simp only [Rep];exact ⟨none,0,0,rfl,rfl,Nat.le_refl _,.inl qd⟩);·simp only [HO];exact zS I h3 hr
 | .row _ _::_,.any _::_,_,_,h=>h.elim
 | .dat _::_,.own _ _ _::_,_,_,h=>h.elim
 | .nil::_,.ro _::_,_,_,h=>h.elim
 | .row _ _::_,.ro _::_,_,_,h=>h.elim
 | .bp _ _ _::_,_,_,_,h=>h.elim
 | .rp _ _ _ _::_,_,_,_,h=>h.elim
 | .clo _ _::_,_,_,_,h=>h.elim
 | .old _ _ _::_,_,_,_,h=>h.elim
 | .part _ _ _ _::_,_,_,_,h=>h.elim
 | .exa _ _ _::_,_,_,_,h=>h.elim
 | [],_::_,_,_,h=>h.elim
 | .dat _::_,[],_,_,h=>h.elim
 | .nil::_,[],_,_,h=>h.elim
 | .row _ _::_,[],_,_,h=>h.elim
theorem Gb : ∀ {cs:List SC} {rs:List RC},C1 h cs rs -> ∀i∈HO cs,iV h i
 | [],_,_,i,hi=>by simp [HO] at hi
 | .dat d::cs,.ro d'::rs,hr,i,hi=>Gb hr.2.2 i hi
 | .nil::cs,.own e sz xs::rs,hr,i,hi=>Gb hr.2 i hi
 | .dat d::cs,.any d'::rs,hr,i,hi=>Gb hr.2 i hi
 | .nil::cs,.any d'::rs,hr,i,hi=>Gb hr.2 i hi
 | .row _ _::_,.any _::_,h,_,_=>h.elim
 | .row j ver::cs,.own e sz xs::rs,hr,i,hi=>by rcases List.mem_cons.1 hi with rfl | hi;(exact ⟨e,sz,xs,by rw [hr.1]⟩);·exact Gb hr.2 i hi
 | .dat _::_,.own _ _ _::_,h,_,_=>h.elim
 | .nil::_,.ro _::_,h,_,_=>h.elim
 | .row _ _::_,.ro _::_,h,_,_=>h.elim
 | .bp _ _ _::_,_,h,_,_=>h.elim
 | .rp _ _ _ _::_,_,h,_,_=>h.elim
 | .clo _ _::_,_,h,_,_=>h.elim
 | .old _ _ _::_,_,h,_,_=>h.elim
 | .part _ _ _ _::_,_,h,_,_=>h.elim
 | .exa _ _ _::_,_,h,_,_=>h.elim
 | .dat _::_,[],h,_,_=>h.elim
 | .nil::_,[],h,_,_=>h.elim
 | .row _ _::_,[],h,_,_=>h.elim
theorem VT (I:Inv base g h w []) {i:Nat} (hd:iV h i):Ac base w (Sv g i):=by
 obtain ⟨e,sz,xs,hi⟩:=hd
 have hl:live h i:=by unfold live;rw [hi];simp
 have hob:=I.obj i
 rw [hi] at hob
 obtain ⟨cells,k1,k2,k3,k4,k5⟩:=hob
 have ho:=k5 rfl
 refine ⟨?_,?_⟩
 ·unfold Sv
  rw [List.nodup_append]
  refine ⟨by cases Bj (g.val i)<;>simp,ho.1,?_⟩
  rintro x hx y hy rfl
  have hb:Bj (g.val i)=some x:=by simpa using hx
  exact I.mtb i x hl hb (k4 x hy)
 ·intro b hb
  unfold Sv at hb
  rcases List.mem_append.1 hb with hb | hb
  ·have hb':Bj (g.val i)=some b:=by simpa using hb
   refine ⟨?_,(I.EP hl hb').2⟩
   rcases k1.2 with ⟨h2,_⟩ | ⟨gg,cap,cur,h2,h3,_⟩
   ·rw [h2] at hb';simp [Bj] at hb'
   ·rw [h2] at hb';simp [Bj] at hb';subst hb';exact h3
  ·exact ho.2 b hb
theorem R6 (I:Inv base g h w []) {i j:Nat} (hne:i≠j) (hi:iV h i) (hj:iV h j) : ∀b∈Sv g i,b∉Sv g j:=by
 have hS : ∀i,iV h i -> ∀b∈g.fp i,g.S b:=by rintro i ⟨e,sz,xs,hh⟩ b hb;have:=I.obj i;rw [hh] at this;obtain ⟨_,_,_,_,h4,_⟩:=this;exact h4 b hb
 intro b hb hb'
 unfold Sv at hb hb'
 rcases List.mem_append.1 hb with hb | hb<;>rcases List.mem_append.1 hb' with hb' | hb'
 ·exact I.inj i j b hne (H9 hi) (H9 hj) (by simpa using hb) (by simpa using hb')
 ·exact I.mtb i b (H9 hi) (by simpa using hb) (hS j hj b hb')
 ·exact I.mtb j b (H9 hj) (by simpa using hb') (hS i hi b hb)
 ·exact I.dis i j hne hi hj b hb hb'
theorem TD (I:Inv base g h w []) : ∀ {ids:List Nat},ids.Nodup->(∀i∈ids,iV h i)->Ac base w (ids.flatMap (Sv g))
 | [],_,_=>by simpa using Ac.nil base w
 | i::ids,hn,hd=>by
  rw [List.nodup_cons] at hn
  have h1:=VT I (hd i qd)
  have h2:=TD I hn.2 λj hj=>hd j (by simp [hj])
  rw [List.flatMap_cons]
  refine ⟨?_,λb hb => ?_⟩
  ·rw [List.nodup_append];refine ⟨h1.1,h2.1,?_⟩;rintro x hx y hy rfl;obtain ⟨j,hj,hxj⟩:=List.mem_flatMap.1 hy;exact R6 I (show i≠j from λe=>hn.1 (by rw [e];exact hj)) (hd i qd) (hd j (by simp [hj])) x hx hxj
  ·rcases List.mem_append.1 hb with hb | hb;(exact h1.2 b hb);·exact h2.2 b hb
end
theorem Ih {P:Program} {w:World} {α:Type} (f:α->Sem Value) : ∀(l:List α) (vs:List Value),l.length=vs.length->(∀(i:Nat) (x:α) (v:Value),l[i]? = some x->vs[i]? = some v->(f x).run P w = .ok v w)->(l.mapM f).run P w = .ok vs w
 | [],[],_,_=>by simp
 | [],v::vs,h,_=>by simp at h
 | x::l,[],h,_=>by simp at h
 | x::l,v::vs,h,hf=>by
  have h0:=hf 0 x v rfl rfl
  have ih:=Ih f l vs (by simpa using h) λi y u hy hu=>hf (i+1) y u (by simpa using hy) (by simpa using hu)
  simp [List.mapM_cons,h0,ih]
theorem C7 {s:St} {a:Act} {w:World} {g:Gh} (R:mJ P base w0 N g s a w []) : ∀ {vars:List ResultVar} {l:List (Bool×List SC)},Dw (fN P) s vars=some l ->
  ∃vs:List Value,vs.length=vars.length/\Dn g s.h w l vs /\ ∀(i:Nat) (x:ResultVar) (v:Value),vars[i]? = some x->vs[i]? = some v ->
   (match x with | .tmp t=>(pure (a.tmps.getD t undef):Sem Value) | .cell p t=>(do loadVar t (<-asAddr (a.tmps.getD p undef)):Sem Value)).run P w = .ok v w
 | [],l,h=>by simp [Dw] at h;subst h;exact ⟨[],rfl,rfl,qd⟩
 | .tmp t::r,l,h=>by
  simp only [Dw] at h
  split at h
  ·rename_i ag cs hs
   split at h
   ·rename_i l' hl
    cases h
    obtain ⟨vs,h1,h2,h3⟩:=C7 R hl
    have ht:=R.tmp t
    rw [hs] at ht
    refine ⟨a.tmps.getD t undef::vs,by simp [h1],⟨_,vs,rfl,ht,h2⟩,?_⟩
    intro i x v hx hv
    cases i with
    | zero=>simp at hx hv;subst hx hv;simp
    | succ i=>exact h3 i x v (by simpa using hx) (by simpa using hv)
   ·cases h
  ·cases h
 | .cell p ty::r,l,h=>by
  simp only [Dw] at h
  split at h
  ·rename_i ti hti
   split at h
   ·rename_i i ver hs
    split at h
    ·rename_i v' tt cells hh
     split at h
     ·rename_i hc
      split at h
      ·rename_i l' hl
       cases h
       obtain ⟨vs,h1,h2,h3⟩:=C7 R hl
       have ht:=R.tmp p
       rw [hs] at ht
       obtain ⟨hone,hle,hcap⟩:=eE ht
       obtain ⟨b,e3,e4⟩:=hcap (by rw [hh];exact hc.1) tt cells (by rw [hh])
       have hob:=R.inv.obj i
       rw [show (s.h i).2 = .box tt cells from by rw [hh]] at hob
       obtain ⟨b',vals,k3,k4,k5,k6⟩:=hob
       have hbb:b'=b:=by rw [e3] at k3;simp at k3;exact k3.symm
       subst hbb
       obtain ⟨v,hrun,hv⟩:=Px (g:=g) (s:=s) (w:=w) hti (Uy k5) (by rw [k6.length];exact hc.2) k6
       refine ⟨v::vs,by simp [h1],⟨_,vs,rfl,hv,h2⟩,?_⟩
       intro j x u hx hu
       cases j with
       | zero =>
        simp at hx hu
        subst hx hu
        have e4':a.tmps[p]?.getD undef = .pointer (some ⟨b',0,none⟩):=by simpa using e4
        simp only [Instr.loadAt,Instr.sureAddr,Sem.run_bind,Sem.run_pure,Result.andThen_ok] at hrun
        simp [e4',asAddr,hrun]
       | succ j=>exact h3 j x u (by simpa using hx) (by simpa using hu)
      ·cases h
     ·cases h
    ·cases h
   ·cases h
  ·cases h
theorem Ld {g:Gh} {h:Heap} {w:World} (I:Inv base g h w []) : ∀ {l:List (Bool×List SC)} {rs:List (Bool×List RC)} {vs:List Value},Dn g h w l vs->Nt h l rs->CI g.Q.L base w g.S vs rs ((FM l).flatMap (Sv g)) /\ ∀i∈FM l,iV h i
 | [],[],vs,hv,_=>by rw [show vs=[] from hv];simp [CI,FM]
 | (ag,cs)::l,(ag',r)::rs,vs,hv,hr=>by
  obtain ⟨v,vs',rfl,h1,h2⟩:=hv
  obtain ⟨rfl,h3,h4⟩:=hr
  obtain ⟨k1,k2⟩:=Ld I h2 h4
  refine ⟨⟨(HO cs).flatMap (Sv g),(FM l).flatMap (Sv g),by simp [FM],?_,k1⟩,?_⟩
  ·cases ag with
   | false=>exact zS I h1 h3
   | true=>obtain ⟨us,rfl,hc⟩:=h1;exact ⟨us,rfl,zS I hc h3⟩
  ·intro i hi;simp only [FM] at hi;rcases List.mem_append.1 hi with hi | hi;(exact Gb h3 i hi);·exact k2 i hi
 | [],_::_,_,_,h=>h.elim
 | _::_,[],_,_,h=>h.elim
theorem GG {L:TL} {w:World} {X:Nat->Prop} : ∀ {vs:List Value} {rs:List (Bool×List RC)} {F:List Nat},CI L base w X vs rs F->vs.length=rs.length
 | [],[],_,_=>rfl
 | v::vs,r::rs,F,⟨F1,F2,_,_,h⟩=>by simp [GG h]
 | [],_::_,_,h=>h.elim
 | _::_,[],_,h=>h.elim
theorem Qi {s:St} {a:Act} {w:World} {fn:Func} {rs:List (Bool×List RC)} (R:Rel P base w0 N s a w) (h:Ret (fN P) fn.results.toList rs s) : ∃v,(results fn a.tmps).run P w = .ok v w/\JB w0.Q.L base w v rs w0.Q:=by
 obtain ⟨g,R⟩:=R
 obtain ⟨l,h1,h2,h3,h3a⟩:=h
 obtain ⟨vs,k1,k2,k3⟩:=C7 R h1
 obtain ⟨m1,m2⟩:=Ld R.inv k2 h2
 rw [R.lab.1] at m1
 have hown:=TD R.inv h3 m2
 have hlen:=GG m1
 have hrun:=Ih (P:=P) (w:=w) (λx=>match x with | .tmp t=>(pure (a.tmps.getD t undef):Sem Value) | .cell p t=>(do loadVar t (<-asAddr (a.tmps.getD p undef)):Sem Value)) fn.results.toList vs (by rw [k1]) k3
 have hrun':(results fn a.tmps).run P w = .ok (if h:vs.toArray.size=1 then vs.toArray[0] else .tuple vs.toArray) w:=by unfold results;rw [<-Array.toArray_toList (xs:=fn.results)];rw [List.mapM_toArray];simp only [Sem.run_bind,Sem.run_map,Sem.run_pure];exact (congrArg (λr:Result (List Value)=>(r.andThen λa w'=>Result.ok a.toArray w').andThen λa w'=>Result.ok (if h:a.size=1 then a[0] else Value.tuple a) w') hrun).trans rfl
 refine ⟨_,hrun',(FM l).flatMap (Sv g),g.S,hown,λb hb=>⟨?_,R.inv.S_lt b hb⟩,λhh=>by rw [h3a hh];rfl,?_⟩
 ·rcases Nat.lt_or_ge b base with hlt | hge;(exact .inl (R.q.1 b (R.inv.S_old b hb hlt)));·exact .inr hge
 match rs,m1,hlen with
 | [r],m1,hlen =>
  match vs,m1 with
  | [v],m1 =>
   obtain ⟨F1,F2,e1,e2,e3⟩:=m1
   have:F2=[]:=e3
   subst this
   simp only [qW] at e1
   rw [e1]
   show Lk _ _ _ _ _ _ _
   simpa using e2
 | [],m1,hlen =>
  have : ¬vs.toArray.size=1:=by simp [hlen]
  rw [dif_neg this]
  exact ⟨_,rfl,m1⟩
 | r1::r2::rs,m1,hlen =>
  have : ¬vs.toArray.size=1:=by simp [hlen]
  rw [dif_neg this]
  exact ⟨_,rfl,m1⟩
def init (args:List (Bool×List D)):St:=
 { t:=λi=>match args[i]? with | some (ag,ds)=>.v ag (ds.map .dat) | none=>.undef,h:=λ_=>(0,.none) }
theorem args_at {w:World} : ∀ {vs:List Value} {xs:List (Bool×List D)} {F:List Nat},xJ w vs xs F->vs.length=xs.length /\ ∀(i:Nat) (x:Bool×List D),xs[i]? = some x -> ∃v Fi,vs[i]? = some v/\QZ w v x Fi /\ ∀b∈Fi,b∈F
 | [],[],_,_=>⟨rfl,qd⟩
 | v::vs,x::xs,F,⟨F1,F2,e,h1,h2⟩=>by
  obtain ⟨k1,k2⟩:=args_at h2
  refine ⟨by simp [k1],λi y hy => ?_⟩
  subst e
  cases i with
  | zero=>simp at hy;subst hy;exact ⟨v,F1,qd,h1,λb hb=>by simp [hb]⟩
  | succ i=>obtain ⟨u,Fi,m1,m2,m3⟩:=k2 i y (by simpa using hy);exact ⟨u,Fi,by simpa using m1,m2,λb hb=>by simp [m3 b hb]⟩
 | [],_::_,_,h=>h.elim
 | _::_,[],_,h=>h.elim
theorem He {w:World} : ∀ {vs:List Value} {xs:List (Bool×List D)} {F:List Nat},xJ w vs xs F -> ∀b∈F,b<w.heap.size
 | [],[],F,h=>by rw [show F=[] from h];simp
 | v::vs,x::xs,F,⟨F1,F2,e,h1,h2⟩=>by
  subst e
  intro b hb
  rcases List.mem_append.1 hb with hb | hb
  ·obtain ⟨ag,ds⟩:=x
   cases ag with
   | true=>obtain ⟨cs,rfl,hr⟩:=h1;exact aJ.lt ds _ F1 hr b hb
   | false=>obtain ⟨d,rfl,hr⟩:=h1;exact Rep.lt d v F1 hr b hb
  ·exact He h2 b hb
 | [],_::_,_,h=>h.elim
 | _::_,[],_,h=>h.elim
theorem QK {fn:Func} {args:List (Bool×List D)} {w:World} {vs:Array Value} {Fa:List Nat} (ha:xJ w vs.toList args Fa) (hn:args.length<=fn.ntmps) :
  Rel P w.heap.size ⟨w,⟨λb=>b∈Fa,w.heap.size,none,slP P⟩,noK,PT⟩ fn.ntmps (init args) { tmps:=vs++Array.replicate (fn.ntmps-vs.size) undef,defers:=[] } w:=by
 obtain ⟨hlen,hat⟩:=args_at ha
 have hlen':vs.size=args.length:=by simpa using hlen
 have hFlt:=He ha
 let g:Gh:={ val:=λ_=>undef,fp:=λ_=>[],S:=λb=>b∈Fa,Q:=⟨λb=>b∈Fa,w.heap.size,none,slP P⟩ }
 refine ⟨g,rfl,qc,Below.refl _ _,⟨λ_ x=>x,rfl,λ_ hx=>(by cases hx)⟩,λ_ x=>x.elim,⟨Nat.le_refl _,λ_ x _=>x,hFlt,λi=>trivial,λi b hl=>absurd rfl hl,λi j b _ hl=>absurd rfl hl,?_,Ac.nil _ _,qd,λi hd=>(by obtain ⟨_,_,_,hd⟩:=hd;cases hd),Nat.le_refl _⟩,λt => ?_,⟨rfl,.inl rfl⟩,λ_=>trivial⟩
 ·rintro i j _ ⟨_,_,_,hd⟩;cases hd
 ·show uN g _ w (match args[t]? with | some (ag,ds)=>.v ag (ds.map .dat) | none=>.undef) _
  cases ht:args[t]? with
  | none =>
   have hge:args.length<=t:=List.getElem?_eq_none_iff.1 ht
   show _=undef
   simp only [Array.getD_eq_getD_getElem?,Array.getElem?_append]
   rw [if_neg qb]
   by_cases h2:t-vs.size<fn.ntmps-vs.size
   ·simp [h2]
   ·rw [Array.getElem?_eq_none qc];rfl
  | some x =>
   obtain ⟨v,Fi,h1,h2,hFi⟩:=hat t x ht
   have hlt:t<vs.size:=by have:=(List.getElem?_eq_some_iff.1 ht).1;omega
   have hv:(vs++Array.replicate (fn.ntmps-vs.size) undef).getD t undef=v:=by
    simp only [Array.getD_eq_getD_getElem?,Array.getElem?_append]
    rw [if_pos hlt]
    have:vs[t]? = some v:=by simpa using h1
    rw [this];rfl
   rw [hv]
   obtain ⟨ag,ds⟩:=x
   cases ag with
   | false =>
    obtain ⟨d,rfl,hr⟩:=h2
    exact ⟨v,[],rfl,⟨Fi,hr,hFi⟩,rfl⟩
   | true =>
    obtain ⟨cs,rfl,hr⟩:=h2
    exact ⟨cs,rfl,aT.GA hr hFi⟩
theorem U5 {f : FuncId} {fn : Func} {c : Code} {args : List (Bool × List D)} {rs : List (Bool × List RC)} (hf : P.funcs[f]? = some fn) (hb : fn.body = some c) (hnm : (fn.name == "runtime.NumGoroutine") = false) (hn : args.length <= fn.ntmps)
  (h : ∀(base:Nat) (w0:W0),SW P base w0 fn.ntmps c (init args) (aft P base w0 fn.ntmps (Ret (fN P) fn.results.toList rs) [])):kR P f args rs:=by
 refine .inl ⟨⟨fn,c,hf,hb,hnm⟩,λw vs Fa ha => ?_⟩
 obtain ⟨hlen,hat⟩:=args_at ha
 have hlen':vs.size=args.length:=by simpa using hlen
 refine calls_of_wp hf hb ?_
 have hFlt:=He ha
 have R:=QK (P:=P) (fn:=fn) ha hn
 refine wp_mono (h w.heap.size ⟨w,⟨λb=>b∈Fa,w.heap.size,none,slP P⟩,noK,PT⟩ _ w R) ?_
 rintro e a' w' ⟨s',h1,R'⟩
 have fin:Ret (fN P) fn.results.toList rs s'->a'.defers=[] /\ ∃v,(results fn a'.tmps).run P w' = .ok v w' /\ ∃v',Ending.returned v = .returned v'/\JB (slP P) w.heap.size w' v' rs (λb=>b∈Fa)/\Below w.heap.size w w':=by intro hr;obtain ⟨v,k1,k2⟩:=Qi R' hr;obtain ⟨g',R''⟩:=R';exact ⟨R''.defers,v,k1,v,rfl,k2,R''.below⟩
 cases e with
 | normal=>exact fin h1
 | ret=>exact fin h1
 | exit id=>exact h1.elim
 | goto l=>exact h1.elim
 | panic c=>exact h1.elim
 | outgrown=>exact h1.elim
end
end Go.Sh
