/-
  Helper text. No conditions.
-/
import Derived.Test.YtipmihbgjolaaaaGreatStorageShB
import Derived.Deep.LoopGhost
import Derived.LoopN
set_option linter.unusedVariables false
set_option linter.unusedSimpArgs false
namespace Go.Sh
open Go.RowKit
section
variable {P:Program}{base N:Nat}{w0:W0}{w:World}{g:Gh}{s:St}{a:Act}{K:St->Prop}{Q:Exit->Act->World->Prop}{o:Oper}{pool:List Nat}
theorem GZ{t:TypeId}{I:TI}(J:jP P t=some I){b off:Nat}{v:Value}{cur:Array Value}{e:TypeId}(U:w.heap[b]? =some (.cells cur e (0,0)))(j:v.cells.size=I.size)(hone:∀u∈v.cells.toList,u.oneCell'=true)(hfit:off+I.size<=cur.size):
  (Instr.storeAt t (.pointer (some ⟨b,off,none⟩)) v).run P w=.ok () (w.setRow b (cur.toList.take off++(v.cells.toList++cur.toList.drop (off+I.size))).toArray):=by
 obtain⟨i,d,z,h1,h2,h3,h4,h5,h6,h7,h8,h9⟩:=(cY J).ok
 have C:=run_storeCells_at P b off e v.cells.toList 0 cur w U (by simp[j];omega) hone
 simp only[Nat.add_zero,Array.length_toList,j,qS]at C
 simp only[Instr.storeAt,Instr.sureAddr,storeVar,Sem.run_bind,Sem.run_pure,Result.andThen_ok,sizeOf,typeInfo,run_program,h1,h7,j,ne_eq,not_true_eq_false,if_false,C]
theorem yV:∀{ds es:List D} {C:List Value} {F:List Nat},aG w (ds++es) C F->∃j I,F=j++I/\aG w ds (C.take ds.length) j/\aG w es (C.drop ds.length) I
 |[],es,C,F,h=>⟨[],F,rfl,by simp[aG],by simpa using h⟩
 |d::ds,es,C,F,h=>by simp only[List.cons_append,aG]at h;obtain⟨v,J,j,I,rfl,rfl,h3,h4⟩:=h;obtain⟨U,G2,rfl,k1,k2⟩:=yV h4;refine⟨j++U,G2,qe,?_,by simpa using k2⟩;simp only[qJ,List.take_succ_cons,aG];exact⟨v,J.take ds.length,j,U,rfl,rfl,h3,k1⟩
theorem JY(off n:Nat){ds:List D}{vs:List Value}{F:List Nat}(h:aG w ds vs F)(hle:off+n<=ds.length):
  ∃C I j,F=C++(I++j)/\aG w (ds.take off) (vs.take off) C/\aG w (ds.drop (off+n)) (vs.drop (off+n)) j:=by
 have h1:ds=ds.take off++((ds.drop off).take n++ds.drop (off+n)):=by rw[<-List.drop_drop,List.take_append_drop,List.take_append_drop]
 rw[h1]at h
 obtain⟨C,F',rfl,J,k2⟩:=yV h
 obtain⟨I,j,rfl,k3,U⟩:=yV k2
 have e1:(ds.take off).length=off:=by rw[qU];omega
 have e2:((ds.drop off).take n).length=n:=by rw[qU,qV];omega
 rw[e1]at J
 rw[e1,e2,List.drop_drop]at U
 exact⟨C,I,j,rfl,J,U⟩
theorem MX{L:TL}{m:Bool}{ts:Lb}(off n:Nat){ds:List D}{vs:List Value}{F:List Nat}(h:sX L m w ts ds vs F)(hle:off+n<=ds.length):
  ∃C I j,F=C++(I++j)/\sX L m w ts (ds.take off) (vs.take off) C/\sX L m w (ts.drop (off+n)) (ds.drop (off+n)) (vs.drop (off+n)) j:=by
 cases m with
 |false=>exact JY off n h hle
 |true=>
  have h1:ds=ds.take off++((ds.drop off).take n++ds.drop (off+n)):=by rw[<-List.drop_drop,List.take_append_drop,List.take_append_drop]
  have J:bJ L w ds ts vs F:=h
  rw[h1]at J
  obtain⟨C,F',rfl,U,k2⟩:=bJ.split J
  obtain⟨I,j,rfl,k3,k4⟩:=bJ.split k2
  have e1:(ds.take off).length=off:=by rw[qU];omega
  have e2:((ds.drop off).take n).length=n:=by rw[qU,qV];omega
  rw[e1]at U
  rw[e1,e2,List.drop_drop,List.drop_drop]at k4
  exact⟨C,I,j,rfl,U,k4⟩
theorem setRow_size(w:World)(b:Nat)(cs:Array Value):(w.setRow b cs).heap.size=w.heap.size:=by simp[World.setRow]
theorem BW{j:World}{b:Nat}(C:Below base j w)(hle:base<=b)(cs:Array Value):Below base j (w.setRow b cs):=
 C.trans ⟨rfl,rfl,rfl,by rw[setRow_size];exact Nat.le_refl _,λk I=>setRow_other w b k cs qc⟩
theorem JI{C Fa J j I F:List Nat}(h:(C++((Fa++(J++j))++I)).Nodup)(hF:F.Nodup)(U:∀x∈F,x∉C++((Fa++(J++j))++I)):(C++((Fa++(F++j))++I)).Nodup:=by simp only[List.nodup_append,qP,not_or]at*;grind
theorem OV{t:TypeId}{x y:Operand}(ho:o.op=.store t x y)(R:jS P base w0 N g s a w [])(h:ex P (vT (jP P) N o) s K):o.wp P a w (Aft P base w0 N K) Q:=by
 simp only[vT,ho]at h
 split at h
 ·rename_i U hdst hti
  obtain⟨sp,q1,q2⟩:=bK R h
  obtain⟨sv,q3,q4⟩:=bK R q2
  have fin:∀{b off:Nat} {w':World} {s':St},a.eval x=.pointer (some ⟨b,off,none⟩)->(Instr.storeAt t (.pointer (some ⟨b,off,none⟩)) (a.eval y)).run P w=.ok () w'->K s'->Rel P base w0 N s' a w'->o.wp P a w (Aft P base w0 N K) Q:=by intro b off w' s' C hrun hk hR;refine Qp (w':=w') ?_ hdst ⟨s',hk,hR⟩;simp only[execOp,ho,C,Sem.run_bind,hrun,Result.andThen_ok,Sem.run_pure]
  unfold GJ at q4
  split at q4
  ·rename_i i ver off ag cs
   obtain⟨hone,hle,hcap⟩:=dH q1
   simp only[ex]at q4
   split at q4
   ·rename_i t' cells hh
    split at q4
    ·rename_i hc
     obtain⟨b,hb1,hb2⟩:=hcap hc.1 _ _ hh
     have hob:=R.inv.obj i
     rw[hh]at hob
     obtain⟨b',vals,h3,h4,h5,h6⟩:=hob
     have hbb:b'=b:=by rw[hb1]at h3;simp at h3;exact h3.symm
     subst hbb
     have hlv:=h6.length
     have hvc:=AX q3
     have hlc:=hvc.length
     simp only[Array.length_toList]at hlv hlc
     have hlive:live s.h i:=by unfold live;rw[hh];simp
     have hown:wV (g.val i)=some b':=by rw[h3];rfl
     have hnS:=R.inv.mtb i b' hlive hown
     let w':=w.setRow b' (vals.toList.take off++((a.eval y).cells.toList++vals.toList.drop (off+U.size))).toArray
     have hrun:=GZ (w:=w) (v:=a.eval y) (off:=off) hti h5 qc hvc.one qc
     have hoth:∀k,k≠b'->w'.heap[k]? =w.heap[k]? :=λk hk=>setRow_other w b' k _ hk
     have T:iC g { g with fp:=BT g.fp i (g.fp i) } s.h (nP s.h i ((s.h i).1,.box t' (cells.take off++(cs++cells.drop (off+U.size))))) w w':=
      iC.A4 hnS hoth (by intro e sz xs dp I;cases I) (by intro t0 cs0 I;cases I;exact⟨_,hh⟩)
     have I':=R.inv.A4 (i:=i) (b:=b') (F:=g.fp i) (pool':=[]) (w':=w') hlive hown (setRow_size _ _ _) hoth T
      ⟨b',_,h3,h4,setRow_heap w b' vals _ t' _ h5,by
       have:=((h6.take off).append (hvc.append (h6.drop (off+U.size)))).nV T
       simpa using this⟩ qe List.nodup_nil (by rintro⟨_,_,_,I⟩;cases I)
     rw[hc.1]at T I'
     exact fin hb2 hrun q4 ⟨_,R.nV T rfl (BW R.below (R.q.2.1 ▸ h4) _) I'⟩
    ·exact q4.elim
   ·exact q4.elim
  ·rename_i i ver j off ag cs
   simp only[ex]at q4
   split at q4
   rotate_left
   ·exact q4.elim
   rename_i e0 sz0 xs0 dp0 hh0
   split at q4
   rotate_left
   ·exact q4.elim
   rename_i te hte
   obtain⟨g2,s2,ds,b2,F,pool2,k1,k2,k3,k3t,k4,k5,k6⟩:=Bg R (AX q3) q4
   have q1':=dH (q1.nV k3)
   obtain⟨hone,hle,hcap⟩:=q1'
   simp only[ex]at k1
   split at k1
   ·rename_i e sz xs dp hh
    split at k1
    ·rename_i hc
     obtain⟨hcv,hcl,hce⟩:=hc
     subst hce
     have hc:(s2.h i).1=ver/\cs.length=U.size:=⟨hcv,hcl⟩
     obtain⟨b,n,c,hb1,hb2⟩:=hcap hc.1 _ _ _ _ hh
     split at k1
     ·rename_i z hz
      split at k1
      ·rename_i hzl
       have hob:=k2.inv.obj i
       rw[hh]at hob
       obtain⟨cells,p1,p2,p3,p4,p5⟩:=hob
       rcases p1.2 with⟨p6,_⟩|⟨gg,cap,J,p6,p7,p8,p9,aa,ae,af⟩
       ·rw[hb1]at p6;cases p6
       rw[hb1]at p6
       simp at p6
       obtain⟨rfl,rfl,rfl⟩:=p6
       have hlive:live s2.h i:=by unfold live;rw[hh];simp
       have hown:wV (g2.val i)=some b:=by rw[hb1];rfl
       have hnS:=k2.inv.mtb i b hlive hown
       have p3w:=p3
       obtain⟨v1,v2,v3,F1,F2,F3,rfl,hF,hl1,hr1m,hr2m,hr3m⟩:=p3.at_ p2 hz
       have hr1:=hr1m.rep
       have hr2:=hr2m.rep
       have hr3:=hr3m.rep
       have hlz:z.length=sz:=p2 z (List.mem_of_getElem? hz)
       have hl2:=hr2.length
       have hjlt:j<xs.length:=(List.getElem?_eq_some_iff.1 hz).1
       have hvl:=k4.length
       have hcl:=(AX q3).length
       simp only[Array.length_toList]at hcl hvl
       obtain⟨Fa,Fb,Fc,rfl,hram,hrcm⟩:=MX off U.size hr2m hzl
       have hra:=hram.rep
       have hrc:=hrcm.rep
       have hcur:J.toList=(v1++(v2++v3))++J.toList.drop (xs.length*sz):=by rw[<-af,List.take_append_drop]
       generalize hrest:J.toList.drop (xs.length*sz)=rest at hcur
       have hclen:(v1++(v2++v3)).length=xs.length*sz:=p1.1
       simp only[qE]at hclen
       have ht:J.toList.take (j*sz+off)=v1++v2.take off:=by rw[hcur,qS,qS,List.take_append,hl1,List.take_of_length_le qc,show j*sz+off-j*sz=off from by omega,List.take_append_of_le_length qc]
       have hd:J.toList.drop (j*sz+off+U.size)=v2.drop (off+U.size)++(v3++rest):=by rw[hcur,qS,qS,List.drop_append,hl1,List.drop_of_length_le qc,show j*sz+off+U.size-j*sz=off+U.size from by omega,List.drop_append_of_le_length qc];rfl
       have hszc:J.size=J.toList.length:=by simp
       have hfit:j*sz+off+U.size<=J.size:=by rw[hszc,hcur];simp only[qE];omega
       have hrun:=GZ (w:=w) (v:=a.eval y) (off:=j*sz+off) hti p8 qc (AX q3).one hfit
       rw[ht,hd]at hrun
       generalize hnew:(v1++v2.take off++((a.eval y).cells.toList++(v2.drop (off+U.size)++(v3++rest))))=new at hrun
       have hoth:∀k,k≠b->(w.setRow b new.toArray).heap[k]? =w.heap[k]? :=λk hk=>setRow_other w b k _ hk
       generalize hz':z.take off++(ds++z.drop (off+U.size))=z' at k1
       have hrz:aG w z' (v2.take off++((a.eval y).cells.toList++v2.drop (off+U.size))) (Fa++(F++Fc)):=by rw[<-hz'];exact hra.append (k4.append hrc)
       have hlz':z'.length=sz:=by have:=hrz.length;rw[<-this];simp only[qE,qU,qV,Array.length_toList];omega
       have nP:xs.set j z'=xs.take j++z'::xs.drop (j+1):=by rw[List.set_eq_take_append_cons_drop,if_pos hjlt]
       have hrow:aQ w (xs.set j z') (v1++((v2.take off++((a.eval y).cells.toList++v2.drop (off+U.size)))++v3)) (F1++((Fa++(F++Fc))++F3)):=by rw[nP];refine hr1.append ?_;simp only[aQ];exact⟨_,v3,_,F3,rfl,rfl,hrz,hr3⟩
       have hrowM:cF g2.Q.L (dp&&b2) w e (xs.set j z') (v1++((v2.take off++((a.eval y).cells.toList++v2.drop (off+U.size)))++v3)) (F1++((Fa++(F++Fc))++F3)):=by
        rw[nP]
        refine cF.append (hr1m.KI λhd=>(by simp at hd;exact hd.1)) (cF.append (xs:=[z']) (ys:=xs.drop (j+1)) (cF.one ?_) (hr3m.KI λhd=>(by simp at hd;exact hd.1)))
        rw[<-hz']
        have htk:(z.take off).length=off:=by rw[qU];omega
        refine sX.append (hram.KI λhd=>(by simp at hd;exact hd.1)) ?_
        rw[htk]
        have hdl:ds.length=U.size:=by have:=k4.length;simp only[Array.length_toList]at this;omega
        refine sX.append ?_ ?_
        ·cases hdb:(dp&&b2)with
         |false=>exact k4
         |true=>
          simp at hdb
          refine bJ.toL k2 hte off ?_
          rw[k3.Q]
          exact(k6 hdb.2).2
        ·rw[hdl,List.drop_drop];exact hrcm.KI λhd=>(by simp at hd;exact hd.1)
       have hFS:∀x∈F1++((Fa++(F++Fc))++F3),g2.S x:=by intro x C;simp only[qP]at C;rcases C with C|((C|C|C)|C);(exact p4 x (by rw[hF];simp[C]));(exact p4 x (by rw[hF];simp[C]));(exact k5 x C);(exact p4 x (by rw[hF];simp[C]));·exact p4 x (by rw[hF];simp[C])
       have hxs':∀x∈xs.set j z',x.length=sz:=by intro x C;rcases List.mem_or_eq_of_mem_set C with C|rfl;(exact p2 x C);·exact hlz'
       have T:iC g2 { g2 with fp:=BT g2.fp i (F1++((Fa++(F++Fc))++F3)) } s2.h (Sh.nP s2.h i ((s2.h i).1,.row e sz (xs.set j z') (dp&&b2))) w (w.setRow b new.toArray):=
        iC.A4 hnS hoth (by intro e0 sz0 xs0 dp0 I;cases I;exact⟨_,_,hh⟩) (by intro t0 cs0 I;cases I)
       have hown':(dp&&b2)=true->vF base (w.setRow b new.toArray) (F1++((Fa++(F++Fc))++F3)):=by
        intro hdb
        simp at hdb
        have hp:=(k6 hdb.2).1
        simp only[List.nil_append]at hp
        have hof:=p5 hdb.1
        have hpd:=k2.inv.pool_dis i ⟨e,sz,xs,by rw[hh,hdb.1]⟩
        have hpo:=k2.inv.pool_own
        rw[hp]at hpd hpo
        refine⟨?_,?_⟩
        ·have hn1:=hof.1
         rw[hF]at hn1
         have hn2:=hpo.1
         have hdis:∀x∈F,x∉F1++((Fa++(Fb++Fc))++F3):=λx C hx'=>hpd x (by rw[hF];exact hx') C
         exact JI hn1 hn2 hdis
        ·intro x C
         have hxS:=hFS x C
         have hxb:x≠b:=λe=>hnS (e ▸ hxS)
         simp only[qP]at C
         rcases C with C|((C|C|C)|C)
         ·exact⟨(hof.2 x (by rw[hF];simp[C])).1,(hof.2 x (by rw[hF];simp[C])).2.vY (hoth x hxb)⟩
         ·exact⟨(hof.2 x (by rw[hF];simp[C])).1,(hof.2 x (by rw[hF];simp[C])).2.vY (hoth x hxb)⟩
         ·exact⟨(hpo.2 x C).1,(hpo.2 x C).2.vY (hoth x hxb)⟩
         ·exact⟨(hof.2 x (by rw[hF];simp[C])).1,(hof.2 x (by rw[hF];simp[C])).2.vY (hoth x hxb)⟩
         ·exact⟨(hof.2 x (by rw[hF];simp[C])).1,(hof.2 x (by rw[hF];simp[C])).2.vY (hoth x hxb)⟩
       have hnl:(v1++((v2.take off++((a.eval y).cells.toList++v2.drop (off+U.size)))++v3)).length=xs.length*sz:=by have:=aQ.length hrow hxs';rw[this,qN]
       have hneweq:new=(v1++((v2.take off++((a.eval y).cells.toList++v2.drop (off+U.size)))++v3))++rest:=by rw[<-hnew];simp
       have hls:(xs.set j z').length=xs.length:=qN
       have hsz1:new.length=J.toList.length:=by rw[hneweq,hcur,qE,hnl,qE,qE,qE];omega
       have hor:(w.setRow b new.toArray).ownsRow base e sz (g2.val i) (xs.set j z').length (v1++((v2.take off++((a.eval y).cells.toList++v2.drop (off+U.size)))++v3)):=by rw[hls];refine⟨hnl,.inr ⟨b,c,new.toArray,hb1,p7,setRow_heap w b J _ e _ p8,p9,aa,?_,?_⟩⟩;(rw[List.size_toArray,hsz1,<-hszc,ae]);·show new.toArray.toList.take _=_;rw[List.toList_toArray,hneweq];exact List.take_left' hnl
       have I':=k2.inv.A4 (i:=i) (b:=b) (F:=F1++((Fa++(F++Fc))++F3)) (pool':=[]) (w':=w.setRow b new.toArray) hlive hown (setRow_size _ _ _) hoth T
        ⟨_,hor,hxs',by
         show cF _ _ _ _ _ _ (BT g2.fp i _ i)
         rw[cZ]
         exact hrowM.vY λx C=>T.Sw x (hFS x C),by
         show ∀x∈BT g2.fp i _ i,g2.S x
         rw[cZ]
         exact hFS,by
         show(dp&&b2)=true->vF base _ (BT g2.fp i _ i)
         rw[cZ]
         exact hown'⟩ qe List.nodup_nil (by
         rintro⟨e0,sz0,xs0,I⟩ x C
         simp at I
         have hp:=(k6 I.2.2.2.2).1
         simp only[List.nil_append]at hp
         refine⟨?_,qe⟩
         simp only[qP]at C
         have hdr:gD s2.h i:=⟨e,sz,xs,by rw[hh,I.2.2.2.1]⟩
         rcases C with C|((C|C|C)|C)
         ·exact .inr ⟨hdr,by rw[hF];simp[C]⟩
         ·exact .inr ⟨hdr,by rw[hF];simp[C]⟩
         ·exact .inl (by rw[hp];exact C)
         ·exact .inr ⟨hdr,by rw[hF];simp[C]⟩
         ·exact .inr ⟨hdr,by rw[hF];simp[C]⟩)
       rw[hc.1]at T I'
       exact fin hb2 hrun k1 ⟨_,k2.nV T rfl (BW k2.below (Nat.le_trans k2.fbb p7) _) I'⟩
      ·exact k1.elim
     ·exact k1.elim
    ·exact k1.elim
   ·exact k1.elim
  ·exact q4.elim
 ·exact h.elim
end
end Go.Sh
namespace Go.Sh
open Go.RowKit
section
variable {P:Program}{base N:Nat}{w0:W0}{w:World}{g:Gh}{s:St}{a:Act}{K:St->Prop}{Q:Exit->Act->World->Prop}{o:Oper}{pool:List Nat}
theorem flat_get(l:List Value):∀(n k:Nat),(List.replicate n l).flatten[k]? =if k<n*l.length then l[k%l.length]? else none
 |0,k=>by simp
 |n+1,k=>by
  rw[List.replicate_succ,List.flatten_cons,List.getElem?_append]
  by_cases h:k<l.length
  ·rw[if_pos h,if_pos (by rw[Nat.add_mul];omega),Nat.mod_eq_of_lt h]
  ·rw[if_neg h,flat_get l n (k-l.length)]
   have e:(k-l.length)%l.length=k%l.length:=by rw[<-Nat.mod_eq_sub_mod qc]
   rw[e]
   have:(k-l.length<n*l.length)↔(k<(n+1)*l.length):=by rw[Nat.add_mul];omega
   simp only[this]
theorem J1(z:Array Value)(n:Nat):(madeCells z (n*z.size)).toList=(List.replicate n z.toList).flatten:=by
 apply List.ext_getElem?
 intro k
 rw[flat_get,madeCells,Array.length_toList]
 by_cases h:k<n*z.size
 ·rw[if_pos h]
  have j:0<z.size:=by rcases Nat.eq_zero_or_pos z.size with h0|h0;(rw[h0]at h;omega);·exact h0
  have C:k%z.size<z.size:=Nat.mod_lt _ j
  simp[h,C]
 ·rw[if_neg h];simp;omega
theorem Ib{cs:List SC}{vs:List Value}(h:aR g s.h w cs vs):∀n,aR g s.h w (List.replicate n cs).flatten (List.replicate n vs).flatten
 |0=>by simp[aR]
 |n+1=>by rw[List.replicate_succ,List.replicate_succ,List.flatten_cons,List.flatten_cons];exact h.append (Ib h n)
theorem Jy(place:Nat->Option (Nat×Nat)):∀(parts:List (Nat×Value)) (vals vals':Array Value),Instr.fill place vals parts=some vals'->vals'.size=vals.size
 |[],vals,vals',h=>by simp[Instr.fill]at h;rw[h]
 |(i,v)::rest,vals,vals',h=>by unfold Instr.fill at h;split at h;(cases h);·rename_i j sz C;split at h;(cases h);·have:=Jy place rest _ vals' h;rw[this];have:=(Great.foldl_set j v.cells.toList 0 vals).1;rw[<-Array.foldl_toList,Array.toList_zipIdx];exact this
theorem LF(sz:Nat):∀(n:Nat) {ds:List D} {j:List Value} {F:List Nat},aG w ds j F->ds.length=n*sz->aQ w (rows sz n ds) j F/\(rows sz n ds).length=n/\∀x∈rows sz n ds,x.length=sz
 |0,ds,j,F,h,C=>by have hd:ds=[]:=List.eq_nil_of_length_eq_zero (by simpa using C);subst hd;simp only[aG]at h;simp[rows,aQ,h.1,h.2]
 |n+1,ds,j,F,h,C=>by
  have J:ds=ds.take sz++ds.drop sz:=(List.take_append_drop _ _).symm
  rw[J]at h
  obtain⟨F1,F2,rfl,h1,U⟩:=yV h
  have e1:(ds.take sz).length=sz:=by rw[qU];rw[Nat.add_mul]at C;omega
  rw[e1]at h1 U
  obtain⟨k1,k2,k3⟩:=LF sz n U (by rw[qV];rw[Nat.add_mul]at C;omega)
  refine⟨?_,by simp[rows,k2],?_⟩
  ·simp only[rows,aQ];exact⟨j.take sz,j.drop sz,F1,F2,(List.take_append_drop _ _).symm,rfl,h1,k1⟩
  ·intro x I;simp only[rows,List.mem_cons]at I;rcases I with rfl|I;(exact e1);·exact k3 x I
theorem bJ.lab{L:TL}:∀{ds:List D} {l r:Lb} {j:List Value} {F:List Nat},bJ L w ds (l++r) j F->ds.length<=l.length->bJ L w ds l j F
 |[],l,r,j,F,h,_=>by simp only[bJ]at h⊢;exact h
 |d::ds,[],r,j,F,h,C=>by simp at C
 |d::ds,x::l,r,j,F,h,C=>by simp only[bJ]at h⊢;obtain⟨v,I,F1,J,h1,U,h3,h4⟩:=h;exact⟨v,I,F1,J,h1,U,h3,bJ.lab h4 (by simpa using C)⟩
theorem JG{L:TL}{e:TypeId}(sz:Nat):∀(n:Nat) {ds:List D} {C:List Value} {F:List Nat},bJ L w ds (List.replicate n (L e)).flatten C F->ds.length=n*sz->(L e=[]\/(L e).length=sz)->gX L w (rows sz n ds) e C F
 |0,ds,C,F,h,U,_=>by have hd:ds=[]:=List.eq_nil_of_length_eq_zero (by simpa using U);subst hd;simp only[bJ]at h;simp[rows,gX,h.1,h.2]
 |n+1,ds,C,F,h,U,j=>by
  have hsp:ds=ds.take sz++ds.drop sz:=(List.take_append_drop _ _).symm
  rw[hsp]at h
  obtain⟨F1,F2,rfl,J,I⟩:=bJ.split h
  have e1:(ds.take sz).length=sz:=by rw[qU];rw[Nat.add_mul]at U;omega
  rw[e1]at J I
  have e2:(List.replicate (n+1) (L e)).flatten=L e++(List.replicate n (L e)).flatten:=by rw[List.replicate_succ,List.flatten_cons]
  rw[e2]at J I
  have h3:bJ L w (ds.take sz) (L e) (C.take sz) F1:=by
   rcases j with j|j
   ·have e3:∀m,(List.replicate m (L e)).flatten=[]:=λm=>by rw[j];simp
    rw[e3,qX]at J
    exact J
   ·exact J.lab qc
  have h4:bJ L w (ds.drop sz) (List.replicate n (L e)).flatten (C.drop sz) F2:=by
   rcases j with j|j
   ·have e3:∀m,(List.replicate m (L e)).flatten=[]:=λm=>by rw[j];simp
    rw[e3]at I⊢
    rw[j]at I
    simpa using I
   ·rw[<-j,List.drop_left]at I;rw[<-j];exact I
  have k1:=JG sz n h4 (by rw[qV];rw[Nat.add_mul]at U;omega) j
  simp only[rows,gX]
  exact⟨C.take sz,C.drop sz,F1,F2,(List.take_append_drop _ _).symm,rfl,h3,k1⟩
theorem H6(R:jS P base w0 N g s a w pool)(j:Nat)(e:TypeId)(sz n:Nat)(vals:Array Value)(xs:List (List D))(dp:Bool)(F:List Nat)(hn:xs.length=n)(I:vals.size=n*sz)(hm:n<=maxLen)(hx:∀x∈xs,x.length=sz)
  (hr:cF g.Q.L dp w e xs vals.toList F)(U:∀b∈F,g.S b)(hd:dp=true->F.Nodup/\∀b∈F,b∈pool):
  ∃g',jS P base w0 N g' (s.eV j ((s.h j).1+1,.row e sz xs dp)) a (w.alloc (.cells vals e)) []/\sU g' (s.eV j ((s.h j).1+1,.row e sz xs dp)).h (w.alloc (.cells vals e)) (.v false [.row j ((s.h j).1+1)]) (.slice (some ⟨w.heap.size,0,none⟩) n n):=by
 have hs:w.heap.size<=(w.alloc (.cells vals e)).heap.size:=by simp
 have J:∀b,b<w.heap.size->(w.alloc (.cells vals e)).heap[b]? =w.heap[b]? :=λb C=>Below.heap_alloc w _ b C
 have I1:=R.inv.grow hs J
 have T1:iC g g s.h s.h w (w.alloc (.cells vals e)):=iC.grow R.inv.S_lt J
 have hfree:A3 g s.h w.heap.size:=⟨λhS=>absurd (R.inv.S_lt _ hS) qc,λj hl C=>absurd (R.inv.BI hl C).2.lt qc⟩
 have I2:=I1.Af (i:=j) (v:=.slice (some ⟨w.heap.size,0,none⟩) n n) (e:=e) (sz:=sz) (xs:=xs) (dp:=dp) (cells:=vals.toList) (F:=F) (pool':=[])
  (by rw[hn];exact⟨by simp[I],.inr ⟨w.heap.size,n,vals,rfl,R.inv.base_le,heap_alloc_new w _,Nat.le_refl _,hm,I,by rw[List.take_of_length_le];simp[I]⟩⟩) hx
  (hr.vY λb C=>T1.Sw b (U b C)) U (by intro b C;simp[wV]at C;subst C;exact hfree) qe List.nodup_nil (λh=>⟨(hd h).1,λb C=>⟨(hd h).2 b C,qe⟩⟩)
 have T2:=iC.create (g:=g) (h:=s.h) (w:=w.alloc (.cells vals e)) j (.slice (some ⟨w.heap.size,0,none⟩) n n) F (.row e sz xs dp)
 refine⟨_,R.nV (T1.trans T2) rfl (R.below.alloc (Nat.le_trans R.fbb R.inv.base_le) _) I2,⟨_,[],rfl,⟨rfl,?_,?_⟩,rfl⟩⟩
 ·show _<=(nP s.h j _ j).1;rw[bE];exact Nat.le_refl _
 ·intro _ e' sz' xs' dp' _;show _=BT g.val _ _ _;rw[cZ]
theorem G6{t e:TypeId}{C:TypeInfo}(J:P.underlying t=some (.slice e))(j:P.info? e=some C)(parts:Array (Nat×Value))(cells:Array Value)(h:Instr.fill (λi=>some (i*C.size,C.size)) #[] parts.toList=some cells)(w:World):
  (Instr.buildSlice t 0 parts).run P w=.ok (.slice (some ⟨w.heap.size,0,none⟩) 0 0) (w.alloc (.cells cells e)):=by
 have I:(Array.range 0)= #[]:=rfl
 simp[Instr.buildSlice,run_underlying J,sizeOf,typeInfo,j,I,h,newRow]
theorem HK{t:TypeId}{len:Nat}{parts:Array (Nat×Operand)}(ho:o.op=.buildSlice t len parts)(R:jS P base w0 N g s a w [])(h:ex P (vT (jP P) N o) s K):o.wp P a w (Aft P base w0 N K) Q:=by
 simp only[vT,ho]at h
 split at h
 ·rename_i d e sz0 by0 z0 cm0 sl0 hd hti
  obtain⟨i,dd,z,h1,h2,h3,h4,_⟩:=(cY hti).ok
  obtain rfl:=yR h4
  split at h
  ·rename_i j hte
   obtain⟨ie,de,ze,e1,e2,e3,e4,e5,e6,U,e8,e9⟩:=(cY hte).ok
   split at h
   ·rename_i hlim
    have hz:aR g s.h w ((List.replicate len j.zero).flatten) (madeCells ze.cells (len*ze.cells.size)).toList:=by rw[J1];exact Ib (Bi e5 _ _ _) len
    obtain⟨cs,vals',C,k2,k3⟩:=Bn R _ hz h
    obtain⟨g2,s2,ds,b,F,pool2,m1,J,m3,m3t,m4,m5,m6⟩:=Bg R k2 k3
    simp only[ex]at m1
    have hsz:vals'.size=len*j.size:=by rw[Jy _ _ _ _ C,size_madeCells,e6,U]
    have hdl:ds.length=len*j.size:=by rw[<-m4.length];simpa using hsz
    obtain⟨r1,r2,r3⟩:=LF j.size len m4 hdl
    have hlm:len<=maxLen:=by simp only[maxLen];have:=Nat.le_mul_of_pos_right len hlim.2.1;omega
    obtain⟨g3,R3,hv⟩:=H6 J (rid d 0) e j.size len vals' (rows j.size len ds) b F r2 hsz hlm r3 (by
     cases hb:b with
     |false=>exact r1
     |true=>
      have hs:=(m6 hb).2
      rw[<-m3.Q]at hs
      rcases J.lab.2 with hl|hl
      ·have hlb:g2.Q.L e=j.sl:=by rw[J.lab.1,hl];exact(cY hte).sl.symm
       exact JG j.size len (by rw[hlb];exact hs) hdl (by rw[hlb];exact hlim.2.2)
      ·rw[J.lab.1,hl];exact cF.Nf r1) m5 (λhb=>by
     have hp:=(m6 hb).1
     simp only[List.nil_append]at hp
     have I:=J.inv.pool_own.1
     rw[hp]at I⊢
     exact⟨I,λ_ x=>x⟩)
    obtain⟨s4,p1,p2⟩:=yC R3 hv m1
    refine Aa (v:=.slice (some ⟨w.heap.size,0,none⟩) len len) (w':=w.alloc (.cells vals' e)) ?_ ⟨s4,p1,g3,hd ▸ p2⟩
    have hpl:(parts.map λ(i,x)=>(i,a.eval x)).toList=parts.toList.map λx=>(x.1,a.eval x.2):=by rw[Array.toList_map]
    rw[e6]at C
    by_cases h0:len*ie.size=0
    ·have hfill:Instr.fill (λi=>some (i*ie.size,ie.size)) #[] (parts.map λ(i,x)=>(i,a.eval x)).toList=some vals':=by
      rw[hpl]
      have:madeCells ze.cells (len*ie.size)= #[]:=Array.eq_empty_of_size_eq_zero (by rw[size_madeCells,h0])
      rw[this,<-U]at C
      exact C
     have hl0:len=0:=by rcases Nat.mul_eq_zero.1 h0 with h'|h';(exact h');·omega
     have hrun:=G6 (P:=P) h2 e1 _ vals' hfill w
     subst hl0
     simp only[execOp,ho,Sem.run_bind,hrun,Result.andThen_ok,Sem.run_pure]
    ·have hrun:=run_buildSlice (P:=P) w t e len (parts.map λ(i,x)=>(i,a.eval x)) vals' ie ze h2 e1 e3 (by rw[U];omega) h0 (by rw[hpl,U];rw[U]at C;exact C);simp only[execOp,ho,Sem.run_bind,hrun,Result.andThen_ok,Sem.run_pure]
   ·exact h.elim
  ·exact h.elim
 ·exact h.elim
theorem LX:∀{C:List Value} {I:List SC} (ts:Lb),I4 C=some I->∃ds b,(∀k:List D->Bool->Prog,xE I ts k=k ds b)/\∀w:World,aG w ds C []/\∀L:TL,b=true->bJ L w ds ts C []
 |[],I,ts,h=>by simp[I4]at h;subst h;exact⟨[],true,λk=>rfl,λw=>⟨by simp[aG],λL _=>by simp[bJ]⟩⟩
 |v::C,I,ts,h=>by
  simp only[I4]at h
  split at h
  ·rename_i c cs' hc hcs
   cases h
   obtain⟨ds,b,U,k2⟩:=LX ts.tail hcs
   have one:∃d J,(∀k:List D->Bool->Prog,xE (c::cs') ts k=k (d::ds) J)/\∀w:World,Rep w d v []/\∀L:TL,J=true->b=true/\zK L w d (lab ts) v []:=by
    unfold TW at hc
    split at hc<;>cases hc
    ·rename_i kk nn;exact⟨.int kk nn,b,λk=>by simp[xE,U,D.flat],λw=>⟨by simp[Rep],λL j=>⟨j,by simp[zK]⟩⟩⟩
    ·rename_i bb;exact⟨.bool bb,b,λk=>by simp[xE,U,D.flat],λw=>⟨by simp[Rep],λL j=>⟨j,by simp[zK]⟩⟩⟩
    ·rename_i ss;exact⟨.str ss,b,λk=>by simp[xE,U,D.flat],λw=>⟨by simp[Rep],λL j=>⟨j,by simp[zK]⟩⟩⟩
    ·refine⟨.sl [],b,λk=>by simp[xE,U],λw=>⟨by simp only[Rep];exact⟨none,0,0,rfl,rfl,Nat.le_refl _,.inl qe⟩,λL j=>⟨j,?_⟩⟩⟩
     cases lab ts with
     |none=>simp only[zK,Rep];exact⟨none,0,0,rfl,rfl,Nat.le_refl _,.inl qe⟩
     |some t=>simp only[zK];exact⟨[],[],World.ownsRow_nil w 0 t.1 t.2,qe,rfl,by simp[gX]⟩
   obtain⟨d,J,m1,m2⟩:=one
   exact⟨d::ds,J,m1,λw=>⟨by simp only[aG];exact⟨v,C,[],[],rfl,rfl,(m2 w).1,(k2 w).1⟩,λL j=>by obtain⟨n1,n2⟩:=(m2 w).2 L j;simp only[bJ];exact⟨v,C,[],[],rfl,rfl,n2,(k2 w).2 L n1⟩⟩⟩
  ·cases h
theorem Mr{L:TL}{b:Bool}{e:TypeId}{ds:List D}{vs:List Value}(h:sX L b w (L e) ds vs []):∀n,cF L b w e (List.replicate n ds) (List.replicate n vs).flatten []
 |0=>by simpa using cF.nil
 |n+1=>by rw[List.replicate_succ,List.replicate_succ,List.flatten_cons];exact cF.append (xs:=[ds]) (F:=[]) (G:=[]) (cF.one h) (Mr h n)
theorem Je{t:TypeId}{l c:Operand}(ho:o.op=.makeSlice t l c)(R:jS P base w0 N g s a w [])(h:ex P (vT (jP P) N o) s K):o.wp P a w (Aft P base w0 N K) Q:=by
 simp only[vT,ho]at h
 split at h
 ·rename_i d e sz0 by0 z0 cm0 sl0 hd hti
  obtain⟨i,dd,z,h1,h2,h3,h4,_⟩:=(cY hti).ok
  obtain rfl:=yR h4
  split at h
  ·rename_i te J
   obtain⟨C,de,I,e1,e2,e3,e4,e5,e6,e7,e8,e9⟩:=(cY J).ok
   obtain⟨sl,q1,q2⟩:=bK R h
   obtain⟨sc,q3,j⟩:=bK R q2
   split at j
   ·rename_i k n k' m
    obtain⟨⟨rfl,hn,hby,aa,hpos⟩,j⟩:=j
    obtain⟨ds,b,k1,U⟩:=LX te.sl e5
    rw[k1]at j
    simp only[ex]at j
    have hdl:ds.length=te.size:=by have:=(U w).1.length;simp only[Array.length_toList]at this;omega
    have hmade:(madeCells I.cells (n.toNat*C.size)).toList=(List.replicate n.toNat I.cells.toList).flatten:=by rw[<-e6];exact J1 _ _
    obtain⟨g3,R3,hv⟩:=H6 R (rid d 0) e te.size n.toNat (madeCells I.cells (n.toNat*C.size)) (List.replicate n.toNat ds) b [] qe (by rw[size_madeCells,e7]) (by simp only[maxLen];omega)
     (by intro x hx;rw[(List.mem_replicate.1 hx).2];exact hdl) (by
      rw[hmade]
      refine Mr ?_ _
      cases hb:b with
      |false=>exact(U w).1
      |true=>
       have:=bJ.toL R J 0 (by rw[List.drop_zero];exact(U w).2 _ hb)
       rw[List.drop_zero]at this
       exact this) qe (λ_=>⟨List.nodup_nil,qe⟩)
    obtain⟨s4,p1,p2⟩:=yC R3 hv j
    refine Aa (v:=.slice (some ⟨w.heap.size,0,none⟩) n.toNat n.toNat) (w':=w.alloc (.cells (madeCells I.cells (n.toNat*C.size)) e)) ?_ ⟨s4,p1,g3,hd ▸ p2⟩
    have hb:(C.bytes:Int)*n<=281474976710656:=by
     have h':((C.bytes*n.toNat:Nat):Int)<=140737488355328:=by rw[e8,Nat.mul_comm];omega
     rw[Int.natCast_mul,Int.toNat_of_nonneg hn]at h'
     omega
    have hrun:=run_make (P:=P) w t e C I h2 e1 e3 k k' n n hn (Int.le_refl _) hb aa
    simp only[execOp,ho,jQ q1,jQ q3,Sem.run_bind,hrun,Result.andThen_ok,Sem.run_pure]
   ·exact j.elim
  ·exact h.elim
 ·exact h.elim
end
end Go.Sh
namespace Go.Sh
open Go.RowKit Go.Lib
theorem yP(j:Array Value)(k:Nat):(Builtin.zeroCells j k).size=k*j.size:=by
 unfold Builtin.zeroCells
 induction k with
 |zero=>simp
 |succ k C=>simp[Nat.succ_mul]
theorem Lk{P:Program}(w:World)(t e ty:TypeId)(z:Value)(U:P.underlying t=some (.slice e))(hv:∀w,(zeroValue e).run P w=.ok z w)(b o n c:Nat)(cur:Array Value)(C:TypeId)(hn:0<n)(I:w.heap[b]? =some (.cells cur C (0,0)))(hfit:o+n*z.cells.size<=cur.size)(J:∀u∈(Builtin.zeroCells z.cells n).toList,u.oneCell'=true):
  (Builtin.clear_ #[t] ty #[.slice (some ⟨b,o,none⟩) n c]).run P w=.ok (.tuple #[]) (w.setRow b (cur.toList.take o++(Builtin.zeroCells z.cells n).toList++cur.toList.drop (o+(Builtin.zeroCells z.cells n).toList.length)).toArray):=by
 have j:=run_storeCells_at P b o C (Builtin.zeroCells z.cells n).toList 0 cur w I (by rw[Array.length_toList,yP,Nat.add_zero];exact hfit) J
 simp only[Nat.add_zero]at j
 obtain⟨m,rfl⟩:∃m,n=m+1:=⟨n-1,qc⟩
 simp[Builtin.clear_,run_underlying U,hv,j]
theorem DO{C:Array Value}{k:Nat}{u:Value}(U:∀x∈C.toList,x.oneCell'=true)(h:u∈(Builtin.zeroCells C k).toList):u.oneCell'=true:=by
 obtain⟨j,J,rfl⟩:=List.mem_iff_getElem.1 h
 have I:j<k*C.size:=by rw[Array.length_toList,yP]at J;exact J
 have hz:0<C.size:=by rcases Nat.eq_zero_or_pos C.size with h0|h0;(rw[h0]at I;omega);·exact h0
 have hm:j%C.size<C.size:=Nat.mod_lt _ hz
 have e:(Builtin.zeroCells C k).toList[j]=C[j%C.size]:=by simp[Builtin.zeroCells,getElem!_pos C (j%C.size) hm]
 rw[e]
 exact U _ qe
section
variable {P:Program}{base N:Nat}{w0:W0}{w:World}{g:Gh}{s:St}{a:Act}{K:St->Prop}{Q:Exit->Act->World->Prop}{o:Oper}
theorem N6{as:Array Operand}{ts:Array TypeId}(ho:o.op=.call { callee:=.builtin .clear,args:=as,argTypes:=ts })(R:jS P base w0 N g s a w [])(h:ex P (vT (jP P) N o) s K):o.wp P a w (Aft P base w0 N K) Q:=by
 simp only[vT,ho]at h
 split at h
 ·rename_i x t hs ht
  have hs:=QU hs
  have ht:=QU ht
  subst hs ht
  split at h
  ·rename_i e sz0 by0 z0 cm0 sl0 hti
   split at h
   ·rename_i te hte
    obtain⟨sv,q1,q2⟩:=bK R h
    unfold Lv at q2
    split at q2
    ·rename_i i ver lo n hd
     simp only[ex]at q2
     split at q2
     ·rename_i e' sz' xs dp hh
      split at q2
      ·rename_i hc
       obtain⟨hv,he,hz⟩:=hc
       simp only[ex]at q2
       obtain⟨⟨hfl,hln⟩,q3⟩:=q2
       subst he hz
       obtain⟨h1,h2,h3⟩:=dH q1
       obtain⟨ad,c,hval,k2,k3,k4⟩:=h3 hv _ _ _ _ hh
       have hflat:dp=true->∀y∈xs,y.all D.flat=true:=λhd'=>by rw[if_pos hd']at hfl;exact List.all_eq_true.1 hfl
       have hob:=R.inv.obj i
       rw[hh]at hob
       obtain⟨cells,p1,p2,p3,p4,p5⟩:=hob
       have hlive:live s.h i:=by unfold live;rw[hh];simp
       have hsi:s.h i=(ver,.row e' te.size xs dp):=by rw[<-hv,<-hh]
       obtain⟨it,dt,zt,u1,u2,u3,u4,_⟩:=(cY hti).ok
       have hus:P.underlying t=some (.slice e'):=by rw[u2,yR u4]
       obtain⟨ie,de,ze,e1,e2,e3,e4,e5,e6,e7,_⟩:=(cY hte).ok
       have zv:∀w,(zeroValue e').run P w=.ok ze w:=λw=>by simp[zeroValue,typeInfo,e1,e3]
       have fin:∀w',(Builtin.clear_ #[t] o.type #[a.eval x]).run P w=.ok (.tuple #[]) w'->Rel P base w0 N (s.eV i (ver,.row e' te.size (xs.take lo++List.replicate n (List.replicate te.size .opq)) dp)) a w'->o.wp P a w (Aft P base w0 N K) Q:=by intro w' hrun hR;refine Aa (v:=.tuple #[]) (w':=w') ?_ ⟨_,q3,?_⟩;(simp[execOp,ho,resolve,invoke,builtin,hrun]);·rw[hd];exact hR
       rcases Nat.eq_zero_or_pos n with h0|hn
       ·subst h0
        refine fin w ?_ ?_
        ·rw[hval];cases ad<;>simp[Builtin.clear_,run_underlying hus]
        ·have e0:xs.take lo++List.replicate 0 (List.replicate te.size D.opq)=xs:=by
          rw[List.replicate_zero,qX,List.take_of_length_le qc]
         rw[e0]
         have e9:s.eV i (ver,.row e' te.size xs dp)=s:=by rw[<-hsi];unfold St.eV;congr 1;funext j;by_cases hj:j=i;(rw[if_pos hj,hj]);·rw[if_neg hj]
         rw[e9]
         exact⟨g,R⟩
       ·rcases k3 with k3|⟨b,m,c',k5,k6,k7⟩
        ·omega
        rcases p1.2 with⟨hnil,_⟩|⟨b',cap,cur,hv1,hb1,hb2,hb3,hb4,hb5,htk⟩
        ·rw[hnil]at k5;cases k5
        have hbb:b'=b:=by rw[k5]at hv1;simp at hv1;exact hv1.1.symm
        subst hbb
        have hown:wV (g.val i)=some b':=by rw[k5];rfl
        have hnS:=R.inv.mtb i b' hlive hown
        have hzs:ze.cells.size=te.size:=e6.trans e7
        have hz1:∀u∈ze.cells.toList,u.oneCell'=true:=(Bi e5 g s.h w).one
        have hcl:cells.length=xs.length*te.size:=p1.1
        have hle:xs.length*te.size<=cap*te.size:=Nat.mul_le_mul_right _ hb3
        have hlm:lo*te.size+n*te.size=xs.length*te.size:=by rw[<-Nat.add_mul,hln]
        have hrun:=Lk (P:=P) w t e' o.type ze hus zv b' (lo*te.size) n c cur e' hn hb2 (by rw[hzs,hb5];omega) (λu hu=>DO hz1 hu)
        have hzl:(Builtin.zeroCells ze.cells n).toList.length=n*te.size:=by rw[Array.length_toList,yP,hzs]
        have hoth:∀k,k≠b'->(w.setRow b' (cur.toList.take (lo*te.size)++(Builtin.zeroCells ze.cells n).toList++cur.toList.drop (lo*te.size+(Builtin.zeroCells ze.cells n).toList.length)).toArray).heap[k]? =w.heap[k]? :=λk hk=>setRow_other w b' k _ hk
        have hxs':∀y∈xs.take lo++List.replicate n (List.replicate te.size D.opq),y.length=te.size:=by intro y hy;rcases List.mem_append.1 hy with hy|hy;(exact p2 y (List.mem_of_mem_take hy));·rw[(List.mem_replicate.1 hy).2,List.length_replicate]
        have hls:(xs.take lo++List.replicate n (List.replicate te.size D.opq)).length=xs.length:=by simp only[qE,qU,List.length_replicate];omega
        have hsp:aQ w (xs.take lo++xs.drop lo) cells (g.fp i):=by rw[List.take_append_drop];exact p3.rep
        obtain⟨v1,v2,F1,F2,hcs,hF,m1,m2⟩:=aQ.split hsp
        have hF1:dp=true->F1=[]:=λhd'=>I9 m1 λy hy=>hflat hd' y (List.mem_of_mem_take hy)
        have hv1l:v1.length=lo*te.size:=by
         have:=aQ.length m1 λy hy=>p2 y (List.mem_of_mem_take hy)
         rw[this,qU,Nat.min_eq_left qc]
        have htk1:cur.toList.take (lo*te.size)=v1:=by
         have:cur.toList.take (lo*te.size)=cells.take (lo*te.size):=by rw[<-htk,List.take_take,Nat.min_eq_left qc]
         rw[this,hcs,<-hv1l,List.take_left]
        have hrow:aQ w (xs.take lo++List.replicate n (List.replicate te.size D.opq)) (v1++(Builtin.zeroCells ze.cells n).toList) (F1++[]):=
         aQ.append m1 (DD hzl λu hu=>DO hz1 hu)
        have hnl:(v1++(Builtin.zeroCells ze.cells n).toList).length=xs.length*te.size:=by rw[qE,hv1l,hzl,hlm]
        have hor:(w.setRow b' (cur.toList.take (lo*te.size)++(Builtin.zeroCells ze.cells n).toList++cur.toList.drop (lo*te.size+(Builtin.zeroCells ze.cells n).toList.length)).toArray).ownsRow base e' te.size (g.val i) (xs.take lo++List.replicate n (List.replicate te.size D.opq)).length (v1++(Builtin.zeroCells ze.cells n).toList):=by rw[hls];refine⟨hnl,.inr ⟨b',cap,_,hv1,hb1,setRow_heap w b' cur _ e' _ hb2,hb3,hb4,?_,?_⟩⟩;(simp only[List.size_toArray,qE,qU,qV,hzl,Array.length_toList,hb5];omega);·rw[List.toList_toArray,htk1];exact List.take_left' hnl
        have T:iC g { g with fp:=BT g.fp i (F1++[]) } s.h (Sh.nP s.h i ((s.h i).1,.row e' te.size (xs.take lo++List.replicate n (List.replicate te.size D.opq)) dp)) w _:=
         iC.A4 hnS hoth (by intro e0 sz0 xs0 dp0 hh';cases hh';exact⟨_,_,hh⟩) (by intro t0 cs0 hh';cases hh')
        have hrow2:cF g.Q.L dp (w.setRow b' (cur.toList.take (lo*te.size)++(Builtin.zeroCells ze.cells n).toList++cur.toList.drop (lo*te.size+(Builtin.zeroCells ze.cells n).toList.length)).toArray) e' (xs.take lo++List.replicate n (List.replicate te.size D.opq)) (v1++(Builtin.zeroCells ze.cells n).toList) (F1++[]):=by
         have hk:=aQ.vY _ _ _ hrow λb hb=>T.Sw b (p4 b (by rw[hF];simp at hb;simp[hb]))
         cases hdp:dp with
         |false=>exact hk
         |true=>
          refine cF.flat hk λy hy=> ?_
          rcases List.mem_append.1 hy with hy|hy
          ·exact hflat hdp y (List.mem_of_mem_take hy)
          ·exact Mp _ _ y hy
        have I':=R.inv.A4 (i:=i) (b:=b') (F:=F1++[]) (pool':=[]) hlive hown (setRow_size _ _ _) hoth T
         ⟨_,hor,hxs',by
          show cF _ _ _ _ _ _ (BT g.fp i _ i)
          rw[cZ]
          exact hrow2,by
          show ∀x∈BT g.fp i _ i,g.S x
          rw[cZ]
          exact λx hx=>p4 x (by rw[hF];simp at hx;simp[hx]),by
          show dp=true->vF base _ (BT g.fp i _ i)
          rw[cZ]
          intro hdp
          rw[hF1 hdp]
          exact vF.nil _ _⟩ qe List.nodup_nil (by
          rintro⟨e1,z1,xs1,hh'⟩ x hx
          simp at hh'
          rw[hF1 hh'.2.2.2]at hx
          simp at hx)
        rw[hv]at T I'
        refine fin _ (by rw[hval,k7];exact hrun) ⟨_,R.nV T rfl (BW R.below (Nat.le_trans R.fbb hb1) _) I'⟩
      ·exact q2.elim
     ·exact q2.elim
    ·exact q2.elim
   ·exact h.elim
  ·exact h.elim
 ·exact h.elim
end
end Go.Sh
namespace Go.Sh
open Go.RowKit
section
variable {P:Program}{base N:Nat}{w0:W0}{w:World}{g:Gh}{s:St}{a:Act}{K:St->Prop}{Q:Exit->Act->World->Prop}{o:Oper}
theorem Rk(R:jS P base w0 N g s a w [])(h:ex P (vT (jP P) N o) s K):o.wp P a w (Aft P base w0 N K) Q:=by
 cases hop:o.op with
 |move x=>exact Ru (.inl hop) R (by simpa only[vT,hop]using h)
 |assign x=>exact Ru (.inr hop) R (by simpa only[vT,hop]using h)
 |pick c x y=>exact Re hop R h
 |alloc t=>exact O4 hop R h
 |box t x=>exact RY hop R h
 |build t j=>exact OO hop R h
 |buildSlice t l j=>exact HK hop R h
 |load t x=>exact Qm hop R h
 |store t x y=>exact OV hop R h
 |binOp op t x y ty=>exact NC hop R h
 |unOp op t x=>
  cases op with
  |not=>exact SP hop R h
  |neg=>exact Sg hop R h
  |_=>exact(by simp only[vT,hop,ex]at h)
 |convert t u x=>exact KU hop R h
 |makeFunc fn f c=>
  cases fn with
  |func f=>exact JQ hop R h
  |_=>exact(by simp only[vT,hop,ex]at h)
 |makeSlice t l c=>exact Je hop R h
 |slice t x l C m=>
  cases m with
  |none=>exact N1 hop R h
  |some m=>exact(by simp only[vT,hop,ex]at h)
 |fieldAddr t x f=>exact It hop R h
 |field t x f=>exact On hop R h
 |indexAddr t x i=>exact Iw hop R h
 |index t x i=>exact OB hop R h
 |extract x i=>exact KT hop R h
 |nilCheck x=>exact J0 hop R h
 |call c=>
  obtain⟨callee,as,ts⟩:=c
  cases callee with
  |value f=>
   cases f with
   |tmp t=>exact ML hop R h
   |func f=>exact MM hop R h trivial
   |_=>exact(by simp only[vT,hop,ex]at h)
  |invoke r m=>exact(by simp only[vT,hop,ex]at h)
  |builtin b=>
   cases b with
   |len=>exact RJ hop R h
   |min=>exact Ss hop R h
   |max=>exact R0 hop R h
   |append=>exact M0 hop R h
   |clear=>exact N6 hop R h
   |_=>exact(by simp only[vT,hop,ex]at h)
 |_=>exact(by simp only[vT,hop,ex]at h)
theorem Qc{b:Bool}{t:Nat}(h:a.tmps.getD t undef=.bool b):a.tmps[t]? =some (.bool b):=by
 rw[Array.getD_eq_getD_getElem?]at h
 cases hh:a.tmps[t]? with
 |none=>rw[hh]at h;simp[undef]at h
 |some v=>rw[hh]at h;simp at h;rw[h]
theorem OA{ops:Array Oper}{i:Nat}(hi:ops[i]? =some o)(R:Rel P base w0 N s a w)(h:ex P (evG (jP P) N ops o) s K):wpOp P ops Q i (Aft P base w0 N K) a w:=by
 obtain⟨g,R⟩:=R
 unfold wpOp
 simp only[hi]
 unfold evG at h
 split at h
 ·rename_i J;rw[if_pos (by simp[Region.wanted,J])];exact .inl (Rk R h)
 ·rename_i j want J
  split at h
  ·rename_i t ht
   simp only[ex]at h
   have C:=R.tmp t
   have skip:Region.wanted o (yielded ops a.tmps)=false->ex P (put N o.dst .undef) s K->(if Region.wanted o (yielded ops a.tmps)=true then o.wp P a w (Aft P base w0 N K) Q\/o.asks P a w/\LetsOut Q else Aft P base w0 N K (a.put o.dst undef) w):=by intro hw hk;rw[if_neg (by rw[hw];simp)];obtain⟨s',h1,h2⟩:=yC R (sv:=.undef) (v:=undef) rfl hk;exact⟨s',h1,g,h2⟩
   split at h
   ·rename_i b hb
    rw[hb]at C
    have U:=Qc (Aw C)
    have hy:yielded ops a.tmps j=some b:=by unfold yielded;rw[ht];simp[U]
    split at h
    ·rename_i I;rw[if_pos (by simp[Region.wanted,J,hy,I])];exact .inl (Rk R h)
    ·rename_i I;exact skip (by simp[Region.wanted,J,hy,I]) h
   ·rename_i hb
    rw[hb]at C
    have U:a.tmps.getD t undef=undef:=C
    have hy:yielded ops a.tmps j=none:=by
     unfold yielded;rw[ht]
     simp only[qA]
     cases hh:a.tmps[t]? with
     |none=>rfl
     |some v=>
      rw[Array.getD_eq_getD_getElem?,hh]at U
      simp at U
      rw[U]
      rfl
    exact skip (by simp[Region.wanted,J,hy]) h
   ·exact h.elim
  ·exact h.elim
theorem Ps{ops:Array Oper}{K:St->Prop}:∀(l:List Oper) (i:Nat) {s:St} {a:Act} {w:World},ops.toList.drop i=l->Rel P base w0 N s a w->A6 P (jP P) N ops l s K->
  (∀I C w',K I->Rel P base w0 N I C w'->Q .normal C w')->wpOps P ops Q (List.range' i l.length) a w
 |[],i,s,a,w,U,R,h,j=>by simp only[qK,List.range'_zero,wpOps];exact j s a w h R
 |o::l,i,s,a,w,U,R,h,j=>by
  simp only[qJ,List.range'_succ]
  rw[wpOps_cons]
  have hi:ops[i]? =some o:=by
   have:(ops.toList.drop i)[0]? =some o:=by rw[U];rfl
   rw[List.getElem?_drop]at this
   simpa using this
  have J:ops.toList.drop (i+1)=l:=by rw[<-List.drop_drop,U];rfl
  refine wpOp_mono ?_ (OA hi R h)
  rintro C w' ⟨I,k1,k2⟩
  exact Ps l (i+1) J k2 k1 j
theorem Np{ops:Array Oper}{id:Nat}{K:St->Prop}(R:Rel P base w0 N s a w)(h:A6 P (jP P) N ops ops.toList s K)(C:∀s' j w',K s'->Rel P base w0 N s' j w'->Q .normal j w'):(Code.region id ops false).wp P Q a w:=by refine wp_region ?_;have:=Ps (Q:=Q) ops.toList 0 qe R h C;rwa [Array.length_toList,<-List.range_eq_range']at this
end
end Go.Sh
namespace Go.Sh
open Go.RowKit
inductive Run (P:Program):Prog->St->St->List Loc->List Loc->Prop where
 |done (s:St):Run P .done s s [] []
 |getT {t:Nat} {k:SV->Prog} {s s':St} {R W:List Loc} (h:Run P (k (s.t t)) s s' R W):Run P (.getT t k) s s' (.t t::R) W
 |C8 {t:Nat} {v:SV} {k:Prog} {s s':St} {R W:List Loc} (h:Run P k (s.C8 t v) s' R W):Run P (.C8 t v k) s s' R (.t t::W)
 |getH {i:Nat} {k:Nat×At->Prog} {s s':St} {R W:List Loc} (h:Run P (k (s.h i)) s s' R W):Run P (.getH i k) s s' (.h i::R) W
 |eV {i:Nat} {x:Nat×At} {k:Prog} {s s':St} {R W:List Loc} (h:Run P k (s.eV i x) s' R W):Run P (.eV i x k) s s' R (.h i::W)
 |call {f:FuncId} {args:List (Bool×List D)} {k:List (Bool×List RC)->Prog} {rs:List (Bool×List RC)} {s s':St} {R W:List Loc} (hc:kM P f args rs) (h:Run P (k rs) s s' R W):Run P (.call f args k) s s' R W
 |must {p:Prop} {k:Prog} {s s':St} {R W:List Loc} (hp:p) (h:Run P k s s' R W):Run P (.must p k) s s' R W
def Agr(s τ:St):Loc->Prop
 | .t i=>s.t i=τ.t i
 | .h i=>s.h i=τ.h i
 | .f i=>s.fr i=τ.fr i
theorem Agr.symm{s τ:St}{l:Loc}(h:Agr s τ l):Agr τ s l:=by cases l<;>exact Eq.symm h
theorem Agr.trans{s τ u:St}{l:Loc}(h:Agr s τ l)(k:Agr τ u l):Agr s u l:=by cases l<;>exact Eq.trans h k
theorem Agr.Vr{s:St}{l:Loc}:Agr s s l:=by cases l<;>rfl
theorem St.ext'{s τ:St}(h:∀l,Agr s τ l):s=τ:=by
 cases s with
 |mk t1 C f1=>cases τ with
  |mk t2 j f2=>
   have e1:t1=t2:=funext λi=>h (.t i)
   have e2:C=j:=funext λi=>h (.h i)
   have e3:f1=f2:=funext λi=>h (.f i)
   rw[e1,e2,e3]
theorem Mo{s τ:St}{t:Nat}{v:SV}{l:Loc}(h:l=.t t\/Agr s τ l):Agr (s.C8 t v) (τ.C8 t v) l:=by
 cases l with
 |t i=>
  show(s.C8 t v).t i=(τ.C8 t v).t i
  rw[St.FC,St.FC]
  by_cases hi:i=t
  ·simp[hi]
  ·rcases h with h|h;(cases h;exact absurd rfl hi);·simp only[hi,if_false];exact h
 |h i=>
  rcases h with h|h
  ·cases h
  ·exact h
 |f i=>
  rcases h with h|h
  ·cases h
  ·exact h
theorem Mi{s τ:St}{t:Nat}{v:Nat×At}{l:Loc}(h:l=.h t\/Agr s τ l):Agr (s.eV t v) (τ.eV t v) l:=by
 cases l with
 |h i=>
  show(s.eV t v).h i=(τ.eV t v).h i
  rw[St.G0,St.G0]
  by_cases hi:i=t
  ·simp[hi]
  ·rcases h with h|h;(cases h;exact absurd rfl hi);·simp only[hi,if_false];exact h
 |t i=>
  rcases h with h|h
  ·cases h
  ·exact h
 |f i=>
  rcases h with h|h
  ·cases h
  ·exact h
theorem Eb{s:St}{t:Nat}{v:SV}{l:Loc}(h:l≠ .t t):Agr s (s.C8 t v) l:=by
 cases l with
 |t i=>
  show s.t i=(s.C8 t v).t i
  rw[St.FC,if_neg (λe=>h (by rw[e]))]
 |h i=>rfl
 |f i=>rfl
theorem DF{s:St}{t:Nat}{v:Nat×At}{l:Loc}(h:l≠ .h t):Agr s (s.eV t v) l:=by
 cases l with
 |h i=>
  show s.h i=(s.eV t v).h i
  rw[St.G0,if_neg (λe=>h (by rw[e]))]
 |t i=>rfl
 |f i=>rfl
theorem Run.loc{P:Program}{p:Prog}{s s':St}{R W:List Loc}(h:Run P p s s' R W):(∀l,l∉W->Agr s s' l)/\
  ∀τ:St,(∀l∈R,Agr s τ l)->∃τ',Run P p τ τ' R W/\(∀l∈W,Agr s' τ' l)/\∀l,l∉W->Agr τ τ' l:=by
 induction h with
 |done s=>exact⟨λ_ _=>Agr.Vr,λτ _=>⟨τ,.done τ,qe,λ_ _=>Agr.Vr⟩⟩
 |@getT t k s s' R W h C=>
  refine⟨C.1,λτ J=> ?_⟩
  obtain⟨τ',U,k2,I⟩:=C.2 τ λl j=>J l (by simp[j])
  have e:s.t t=τ.t t:=J (.t t) qe
  rw[e]at U
  exact⟨τ',.getT U,k2,I⟩
 |@C8 t v k s s' R W h C=>
  refine⟨λl j=> ?_,λτ J=> ?_⟩
  ·have h1:l≠ .t t:=λe=>j (by simp[e])
   have h2:l∉W:=λe=>j (by simp[e])
   exact(Eb h1).trans (C.1 l h2)
  ·obtain⟨τ',U,k2,I⟩:=C.2 (τ.C8 t v) λl j=>Mo (.inr (J l j))
   refine⟨τ',.C8 U,λl j=> ?_,λl j=> ?_⟩
   ·by_cases hw:l∈W
    ·exact k2 l hw
    ·have hlt:l=.t t:=by
      rcases List.mem_cons.1 j with h|h
      ·exact h
      ·exact absurd h hw
     exact((C.1 l hw).symm.trans (Mo (.inl hlt))).trans (I l hw)
   ·have h1:l≠ .t t:=λe=>j (by simp[e])
    have h2:l∉W:=λe=>j (by simp[e])
    exact(Eb h1).trans (I l h2)
 |@getH i k s s' R W h C=>
  refine⟨C.1,λτ J=> ?_⟩
  obtain⟨τ',U,k2,I⟩:=C.2 τ λl j=>J l (by simp[j])
  have e:s.h i=τ.h i:=J (.h i) qe
  rw[e]at U
  exact⟨τ',.getH U,k2,I⟩
 |@eV t v k s s' R W h C=>
  refine⟨λl j=> ?_,λτ J=> ?_⟩
  ·have h1:l≠ .h t:=λe=>j (by simp[e])
   have h2:l∉W:=λe=>j (by simp[e])
   exact(DF h1).trans (C.1 l h2)
  ·obtain⟨τ',U,k2,I⟩:=C.2 (τ.eV t v) λl j=>Mi (.inr (J l j))
   refine⟨τ',.eV U,λl j=> ?_,λl j=> ?_⟩
   ·by_cases hw:l∈W
    ·exact k2 l hw
    ·have hlt:l=.h t:=by
      rcases List.mem_cons.1 j with h|h
      ·exact h
      ·exact absurd h hw
     exact((C.1 l hw).symm.trans (Mi (.inl hlt))).trans (I l hw)
   ·have h1:l≠ .h t:=λe=>j (by simp[e])
    have h2:l∉W:=λe=>j (by simp[e])
    exact(DF h1).trans (I l h2)
 |call hc h C=>
  refine⟨C.1,λτ J=> ?_⟩
  obtain⟨τ',U,k2,I⟩:=C.2 τ J
  exact⟨τ',.call hc U,k2,I⟩
 |must hp h C=>
  refine⟨C.1,λτ J=> ?_⟩
  obtain⟨τ',U,k2,I⟩:=C.2 τ J
  exact⟨τ',.must hp U,k2,I⟩
def TD(R W C j:List Loc):Prop:=(∀l∈W,l∉C/\l∉j)/\∀l∈j,l∉R
theorem Run.swap{P:Program}{p q:Prog}{s s1 s2:St}{R W R' J:List Loc}(h:Run P p s s1 R W)(k:Run P q s1 s2 R' J)(ha:TD R W R' J):
  ∃j,Run P q s j R' J/\Run P p j s2 R W:=by
 have hl:=h.loc
 have kl:=k.loc
 obtain⟨j,q1,q2,q3⟩:=kl.2 s λl I=>(hl.1 l λC=>(ha.1 l C).1 I).symm
 obtain⟨U,p1,p2,p3⟩:=hl.2 j λl I=>q3 l λC=>ha.2 l C I
 refine⟨j,q1,?_⟩
 have:U=s2:=by
  refine St.ext' λl=> ?_
  by_cases C:l∈W
  ·exact(p2 l C).symm.trans (kl.1 l (ha.1 l C).2)
  ·by_cases hw':l∈J;(exact(p3 l C).symm.trans (q2 l hw').symm);·exact(p3 l C).symm.trans ((q3 l hw').symm.trans ((hl.1 l C).trans (kl.1 l hw')))
 rw[<-this]
 exact p1
theorem Run.ex{P:Program}{p:Prog}{s s':St}{R W:List Loc}(h:Run P p s s' R W):Sh.ex P p s λτ=>τ=s':=by
 induction h with
 |done s=>rfl
 |getT h j=>exact j
 |C8 h j=>exact j
 |getH h j=>exact j
 |eV h j=>exact j
 |call I h j=>exact⟨_,I,j⟩
 |must C h j=>exact⟨C,j⟩
def exF(P:Program):Prog->St->List Loc->List Loc->(St->List Loc->List Loc->Prop)->Prop
 | .done,s,R,W,K=>K s R W
 | .fail,_,_,_,_=>False
 | .getT t k,s,R,W,K=>exF P (k (s.t t)) s (.t t::R) W K
 | .C8 t v k,s,R,W,K=>exF P k (s.C8 t v) R (.t t::W) K
 | .getH i k,s,R,W,K=>exF P (k (s.h i)) s (.h i::R) W K
 | .eV i x k,s,R,W,K=>exF P k (s.eV i x) R (.h i::W) K
 | .call f args k,s,R,W,K=>∃j,kM P f args j/\exF P (k j) s R W K
 | .must p k,s,R,W,K=>p/\exF P k s R W K
theorem Dw{P:Program}:∀(p:Prog) {s:St} {R W:List Loc} {K:St->List Loc->List Loc->Prop},exF P p s R W K->∃j U J,Run P p s j U J/\K j (U.reverse++R) (J.reverse++W)
 | .done,s,R,W,K,h=>⟨s,[],[],.done s,h⟩
 | .fail,_,_,_,_,h=>h.elim
 | .getT t k,s,R,W,K,h=>by obtain⟨j,U,J,I,C⟩:=Dw (k (s.t t)) h;exact⟨j,_,_,.getT I,by simpa using C⟩
 | .C8 t v k,s,R,W,K,h=>by obtain⟨j,U,J,I,C⟩:=Dw k h;exact⟨j,_,_,.C8 I,by simpa using C⟩
 | .getH i k,s,R,W,K,h=>by obtain⟨j,U,J,I,C⟩:=Dw (k (s.h i)) h;exact⟨j,_,_,.getH I,by simpa using C⟩
 | .eV i x k,s,R,W,K,h=>by obtain⟨j,U,J,I,C⟩:=Dw k h;exact⟨j,_,_,.eV I,by simpa using C⟩
 | .call f args k,s,R,W,K,⟨rs,hc,h⟩=>by obtain⟨j,U,J,I,C⟩:=Dw (k rs) h;exact⟨j,_,_,.call hc I,C⟩
 | .must p k,s,R,W,K,⟨hp,h⟩=>by obtain⟨j,U,J,I,C⟩:=Dw k h;exact⟨j,_,_,.must hp I,C⟩
abbrev Fp:=List Loc×List Loc
def Ao(P:Program)(T:KK)(N:Nat)(ops:Array Oper):List Oper->St->List Fp->(St->List Fp->Prop)->Prop
 |[],s,j,K=>K s j
 |o::rest,s,j,K=>exF P (evG T N ops o) s [] [] λC R W=>Ao P T N ops rest C (j++[(R,W)]) K
def MU:List Oper->List (List Nat)->List (List Nat)
 |[],j=>j
 |o::rest,j=>
  let es:=(o.after.toList.filter λe=>Region.binds .any e).map (·.on)
  MU rest (j++[es++es.flatMap λe=>j.getD e []])
def GO(x y:Fp):Bool:=x.2.any (λl=>y.1.contains l||y.2.contains l)||y.2.any (λl=>x.1.contains l)
def ED(ops:Array Oper):Bool:=(List.range ops.size).all λi=>((ops[i]?).map λo=>o.after.toList.all λe=> !Region.binds .any e||decide (e.on<i)).getD true
def Dv(ops:Array Oper)(C:List Fp):Bool:=
 ED ops&&(List.range ops.size).all λj=>(List.range j).all λi=> !GO (C.getD i ([],[])) (C.getD j ([],[]))||((MU ops.toList []).getD j []).contains i
end Go.Sh
namespace Go.Sh
open Go.RowKit
section
variable {P:Program}{T:KK}{base N:Nat}{w0:W0}{Q:Exit->Act->World->Prop}{ops:Array Oper}{fps:List Fp}
def lM(o:Oper):List Nat:=(o.after.toList.filter λe=>Region.binds .any e).map (·.on)
theorem Ly:∀(l:List Oper) (j:List (List Nat)),∃ext,MU l j=j++ext/\ext.length=l.length
 |[],j=>⟨[],by simp[MU],rfl⟩
 |o::rest,j=>by obtain⟨ext,I,C⟩:=Ly rest (j++[lM o++(lM o).flatMap λe=>j.getD e []]);refine⟨(lM o++(lM o).flatMap λe=>j.getD e [])::ext,?_,by simp[C]⟩;show MU rest (j++[lM o++(lM o).flatMap λe=>j.getD e []])=_;rw[I];simp
theorem Ou:∀(l:List Oper) (j:List (List Nat)) (k:Nat) (o:Oper),l[k]? =some o->
  (MU l j).getD (j.length+k) []=lM o++(lM o).flatMap λe=>((MU l j).take (j.length+k)).getD e []
 |[],j,k,o,h=>by simp at h
 |C::rest,j,0,o,h=>by
  simp at h
  subst h
  obtain⟨ext,I,J⟩:=Ly rest (j++[lM C++(lM C).flatMap λe=>j.getD e []])
  show(MU rest (j++[lM C++(lM C).flatMap λe=>j.getD e []])).getD (j.length+0) []=lM C++(lM C).flatMap λe=>((MU rest (j++[lM C++(lM C).flatMap λe=>j.getD e []])).take (j.length+0)).getD e []
  rw[I]
  simp
 |C::rest,j,k+1,o,h=>by simp at h;have:=Ou rest (j++[lM C++(lM C).flatMap λe=>j.getD e []]) k o h;simp only[qE,List.length_singleton]at this;rw[show j.length+1+k=j.length+(k+1)from by omega]at this;exact this
theorem Jm(he:ED ops=true){j:Nat}{o:Oper}(I:ops[j]? =some o):∀e∈lM o,e<j:=by intro e J;unfold lM at J;obtain⟨x,C,rfl⟩:=List.mem_map.1 J;rw[List.mem_filter]at C;unfold ED at he;rw[qQ]at he;have U:j<ops.size:=(Array.getElem?_eq_some_iff.1 I).1;have:=he j (List.mem_range.2 U);rw[I]at this;simp only[Option.map_some,Option.getD_some,qQ]at this;have:=this x C.1;rw[C.2]at this;simpa using this
theorem SD(he:ED ops=true){i j:Nat}{o:Oper}(J:ops[j]? =some o)(h:i∈(MU ops.toList []).getD j []):∃e∈lM o,i=e\/i∈(MU ops.toList []).getD e []:=by
 have hl:ops.toList[j]? =some o:=by simpa using J
 have:=Ou ops.toList [] j o hl
 simp only[qK,Nat.zero_add]at this
 rw[this]at h
 rcases List.mem_append.1 h with h|h
 ·exact⟨i,h,.inl rfl⟩
 ·obtain⟨e,U,I⟩:=List.mem_flatMap.1 h;refine⟨e,U,.inr ?_⟩;have C:=Jm he J e U;rw[List.getD_eq_getElem?_getD,List.getElem?_take,if_pos C]at I;rw[List.getD_eq_getElem?_getD];exact I
theorem M1(he:ED ops=true)(L:Nat->Prop)(hL:∀j o,ops[j]? =some o->L j->∀e∈lM o,L e):∀(j:Nat) (o:Oper),ops[j]? =some o->(∀e∈lM o,L e)->∀i∈(MU ops.toList []).getD j [],L i:=by
 intro j
 induction j using Nat.strongRecOn with
 |_ j ih=>
  intro o U hd i hi
  obtain⟨e,h1,I⟩:=SD he U hi
  rcases I with rfl|I
  ·exact hd i h1
  ·have J:=Jm he U e h1;have hj:j<ops.size:=(Array.getElem?_eq_some_iff.1 U).1;have C:ops[e]? =some ops[e]:=Array.getElem?_eq_getElem qc;exact ih e J _ C (hL e _ C (hd e h1)) i I
def JB(P:Program)(T:KK)(N:Nat)(ops:Array Oper)(j:List Fp):List Nat->St->St->Prop
 |[],s,C=>s=C
 |i::l,s,C=>∃o s1 R W,ops[i]? =some o/\Run P (evG T N ops o) s s1 R W/\(∀x,x∈R↔x∈(j.getD i ([],[])).1)/\(∀x,x∈W↔x∈(j.getD i ([],[])).2)/\JB P T N ops j l s1 C
theorem Ky{x y:Fp}{R W U J:List Loc}(h:GO x y=false)(h1:∀l,l∈R↔l∈x.1)(h2:∀l,l∈W↔l∈x.2)(h3:∀l,l∈U↔l∈y.1)(h4:∀l,l∈J↔l∈y.2):TD R W U J:=by unfold GO at h;rw[Bool.or_eq_false_iff,List.any_eq_false,List.any_eq_false]at h;refine⟨λl I=> ?_,λl I C=> ?_⟩;(have:=h.1 l ((h2 l).1 I);simp at this;exact⟨λj=>this.1 ((h3 l).1 j),λj=>this.2 ((h4 l).1 j)⟩);·have:=h.2 l ((h4 l).1 I);simp at this;exact this ((h1 l).1 C)
theorem JB.front:∀(A:List Nat) {i:Nat} {B:List Nat} {s j:St},JB P T N ops fps (A++i::B) s j->(∀x∈A,GO (fps.getD x ([],[])) (fps.getD i ([],[]))=false)->
  ∃o s1 R W,ops[i]? =some o/\Run P (evG T N ops o) s s1 R W/\(∀x,x∈R↔x∈(fps.getD i ([],[])).1)/\(∀x,x∈W↔x∈(fps.getD i ([],[])).2)/\JB P T N ops fps (A++B) s1 j
 |[],i,B,s,j,h,_=>h
 |x::A,i,B,s,j,h,J=>by
  obtain⟨o,s1,R,W,h1,h2,I,h4,h5⟩:=h
  obtain⟨oi,s2,R',W',k1,k2,C,U,k5⟩:=JB.front A h5 λy hy=>J y (by simp[hy])
  obtain⟨t1,m1,m2⟩:=h2.swap k2 (Ky (J x qe) I h4 C U)
  exact⟨oi,t1,R',W',k1,m1,C,U,o,s2,R,W,h1,m2,I,h4,k5⟩
theorem Fz{K:St->List Fp->Prop}:∀(l:List Oper) (i:Nat) (j:List Fp) {s:St},ops.toList.drop i=l->j.length=i->Ao P T N ops l s j K->
  ∃J fps',fps'.take i=j/\JB P T N ops fps' (List.range' i l.length) s J/\K J fps'
 |[],i,j,s,hl,C,h=>⟨s,j,by rw[<-C,List.take_length],rfl,h⟩
 |o::l,i,j,s,hl,C,h=>by
  obtain⟨s1,R',U,h1,h2⟩:=Dw _ h
  have hi:ops[i]? =some o:=by
   have:(ops.toList.drop i)[0]? =some o:=by rw[hl];rfl
   rw[List.getElem?_drop]at this
   simpa using this
  have hl':ops.toList.drop (i+1)=l:=by rw[<-List.drop_drop,hl];rfl
  obtain⟨J,fps',k1,k2,k3⟩:=Fz l (i+1) _ hl' (by simp[C]) h2
  have I:fps'.getD i ([],[])=(R'.reverse++[],U.reverse++[]):=by
   have:(fps'.take (i+1))[i]? =some (R'.reverse++[],U.reverse++[]):=by rw[k1,<-C];simp
   rw[List.getElem?_take,if_pos qc]at this
   rw[List.getD_eq_getElem?_getD,this];rfl
  refine⟨J,fps',?_,?_,k3⟩
  ·have:(fps'.take (i+1)).take i=j:=by rw[k1,<-C];simp
   rwa [List.take_take,Nat.min_eq_left qc]at this
  ·simp only[qJ,List.range'_succ];exact⟨o,s1,R',U,hi,h1,by rw[I];simp,by rw[I];simp,k2⟩
def left(n:Nat)(listed:Array Bool):List Nat:=(List.range n).filter λi=> !listed.getD i true
theorem CD{n i:Nat}{listed:Array Bool}:i∈left n listed↔i<n/\listed.getD i true=false:=by unfold left;rw[List.mem_filter,qR];simp
theorem L8{listed:Array Bool}{n i j:Nat}{d:Bool}(I:listed.size=n)(J:i<n):(listed.setIfInBounds i true).getD j d=if j=i then true else listed.getD j d:=by
 simp only[Array.getD_eq_getD_getElem?,Array.getElem?_setIfInBounds]
 by_cases h:i=j
 ·subst h;simp[I,J]
 ·have C:¬j=i:=λe=>h e.symm
  simp[h,C]
theorem LO{listed:Array Bool}{n i:Nat}{A B:List Nat}(hs:listed.size=n)(U:i<n)(h:left n listed=A++i::B):left n (listed.setIfInBounds i true)=A++B:=by
 have j:(left n listed).Nodup:=List.nodup_range.sublist List.filter_sublist
 have e:left n (listed.setIfInBounds i true)=(left n listed).filter λk=>k !=i:=by unfold left;rw[List.filter_filter];congr 1;funext k;rw[L8 hs U];by_cases hk:k=i;(simp[hk]);·simp[hk]
 rw[e,h]
 rw[h]at j
 rw[List.nodup_append]at j
 obtain⟨_,I,n3⟩:=j
 rw[List.nodup_cons]at I
 rw[List.filter_append,List.filter_cons]
 have hA:A.filter (λk=>k !=i)=A:=List.filter_eq_self.2 λx C=>by simpa using n3 x C i qe
 have J:B.filter (λk=>k !=i)=B:=List.filter_eq_self.2 λx C=>by
  have:x≠i:=λe=>I.1 (e ▸ C)
  simpa using this
 simp[hA,J]
theorem S0{K:St->Prop}(ho:Dv ops fps=true){sF:St}(hK:K sF)(hq:∀s' a' w',K s'->Rel P base w0 N s' a' w'->Q .normal a' w'):
  ∀(fuel:Nat) (listed:Array Bool) (s:St) (a:Act) (w:World),listed.size=ops.size->(left ops.size listed).length<=fuel->
   (∀j o,ops[j]? =some o->listed.getD j true=true->∀e∈lM o,listed.getD e false=true)->
   JB P (jP P) N ops fps (left ops.size listed) s sF->Rel P base w0 N s a w->wpAny P .any ops Q fuel listed a w:=by
 have he:ED ops=true:=by unfold Dv at ho;rw[qM]at ho;exact ho.1
 have hp:∀j,j<ops.size->∀i,i<j->GO (fps.getD i ([],[])) (fps.getD j ([],[]))=true->i∈(MU ops.toList []).getD j []:=by intro j hj i hi hm;unfold Dv at ho;rw[qM,qQ]at ho;have:=ho.2 j (List.mem_range.2 hj);rw[qQ]at this;have:=this i (List.mem_range.2 hi);rw[hm]at this;simpa using this
 have same:∀{listed:Array Bool} {j:Nat},listed.size=ops.size->j<ops.size->listed.getD j true=listed.getD j false:=by intro listed j hs hj;simp only[Array.getD_eq_getD_getElem?];rw[Array.getElem?_eq_getElem qc];rfl
 have ready_mem:∀{listed:Array Bool} {i:Nat},i∈Region.ready .any ops listed->i∈left ops.size listed/\∃o,ops[i]? =some o/\∀e∈lM o,listed.getD e false=true:=by intro listed i hi;unfold Region.ready at hi;rw[List.mem_filter,qR]at hi;obtain⟨h1,h2⟩:=hi;rw[qM]at h2;have C:ops[i]? =some ops[i]:=Array.getElem?_eq_getElem h1;refine⟨CD.2 ⟨h1,by simpa using h2.1⟩,_,C,?_⟩;have h3:=h2.2;rw[C]at h3;simp only[Option.map_some,Option.getD_some]at h3;rw[Array.all_eq_true']at h3;intro e hm;unfold lM at hm;obtain⟨x,hx,rfl⟩:=List.mem_map.1 hm;rw[List.mem_filter]at hx;have:=h3 x (by simpa using hx.1);rw[hx.2]at this;simpa using this
 have empty_of:∀{listed:Array Bool},listed.size=ops.size->Region.ready .any ops listed=[]->left ops.size listed=[]:=by
  intro listed hs hr
  cases hl:left ops.size listed with
  |nil=>rfl
  |cons i l=>
   exfalso
   have hi:i∈left ops.size listed:=by rw[hl];simp
   obtain⟨J,hun⟩:=CD.1 hi
   have hmin:∀k,k<i->listed.getD k true=true:=by
    intro k hk
    cases hg:listed.getD k true with
    |true=>rfl
    |false=>
     have hm:k∈left ops.size listed:=CD.2 ⟨qc,hg⟩
     have hsorted:(left ops.size listed).Pairwise (· < ·):=List.Pairwise.filter _ List.pairwise_lt_range
     rw[hl]at hm hsorted
     rcases List.mem_cons.1 hm with rfl|hm
     ·omega
     ·have:=(List.pairwise_cons.1 hsorted).1 k hm;omega
   have C:ops[i]? =some ops[i]:=Array.getElem?_eq_getElem J
   have:i∈Region.ready .any ops listed:=by
    unfold Region.ready
    rw[List.mem_filter,qR]
    refine⟨J,?_⟩
    rw[qM]
    refine⟨by simpa using hun,?_⟩
    rw[C]
    simp only[Option.map_some,Option.getD_some]
    rw[Array.all_eq_true']
    intro e hem
    cases hb:Region.binds .any e with
    |false=>rfl
    |true=>
     have hel:e.on<i:=Jm he C e.on (by unfold lM;exact List.mem_map.2 ⟨e,List.mem_filter.2 ⟨by simpa using hem,hb⟩,rfl⟩)
     have:=hmin e.on hel
     rw[same hs qc]at this
     simp[this]
   rw[hr]at this
   simp at this
 intro fuel
 induction fuel with
 |zero=>
  intro listed s a w hs hf hcl I R
  have hl:left ops.size listed=[]:=List.eq_nil_of_length_eq_zero qc
  refine⟨?_,?_⟩
  ·cases hr:Region.ready .any ops listed with
   |nil=>rfl
   |cons i l=>
    have:=(ready_mem (listed:=listed) (i:=i) (by rw[hr];simp)).1
    rw[hl]at this
    simp at this
  ·rw[hl]at I;have:s=sF:=I;exact hq s a w (this ▸ hK) R
 |succ fuel ih=>
  intro listed s a w hs hf hcl I R
  refine⟨λhr=> ?_,λi hi=> ?_⟩
  ·have hl:=empty_of hs hr;rw[hl]at I;have:s=sF:=I;exact hq s a w (this ▸ hK) R
  ·obtain⟨hil,o,hoi,hed⟩:=ready_mem hi
   obtain⟨A,B,U⟩:=List.append_of_mem hil
   have J:=(CD.1 hil).1
   rw[U]at I
   have hsorted:(left ops.size listed).Pairwise (· < ·):=List.Pairwise.filter _ List.pairwise_lt_range
   have hA:∀x∈A,x<i/\listed.getD x true=false/\x<ops.size:=by
    intro x hx
    have hm:x∈left ops.size listed:=by rw[U];simp[hx]
    rw[U,List.pairwise_append]at hsorted
    exact⟨hsorted.2.2 x hx i qe,(CD.1 hm).2,(CD.1 hm).1⟩
   have hno:∀x∈A,GO (fps.getD x ([],[])) (fps.getD i ([],[]))=false:=by
    intro x hx
    obtain⟨h1,h2,h3⟩:=hA x hx
    cases hmd:GO (fps.getD x ([],[])) (fps.getD i ([],[]))with
    |false=>rfl
    |true=>
     exfalso
     have hanc:=hp i J x h1 hmd
     have:=M1 he (λk=>listed.getD k false=true) (λj o' C hj=>by have hj':j<ops.size:=(Array.getElem?_eq_some_iff.1 C).1;exact hcl j o' C (by rw[same hs hj'];exact hj)) i o hoi hed x hanc
     rw[same hs h3]at h2
     rw[h2]at this
     cases this
   obtain⟨o',s1,Rr,Ww,k1,k2,k3,k4,k5⟩:=JB.front A I hno
   have hoo:o'=o:=by rw[hoi]at k1;simpa using k1.symm
   subst hoo
   refine wpOp_mono ?_ (OA hoi R k2.ex)
   rintro a' w' ⟨s',rfl,R'⟩
   refine ih _ _ a' w' (by simp[hs]) ?_ ?_ ?_ R'
   ·rw[LO hs J U];rw[U]at hf;simp at hf⊢;omega
   ·intro j oj hoj hj e hem
    rw[L8 hs J]at hj⊢
    by_cases hji:j=i
    ·subst hji
     have:oj=o':=by rw[hoi]at hoj;simpa using hoj.symm
     subst this
     by_cases hei:e=j
     ·simp[hei]
     ·simp only[hei,if_false];exact hed e hem
    ·simp only[hji,if_false]at hj;by_cases hei:e=i;(simp[hei]);·simp only[hei,if_false];exact hcl j oj hoj hj e hem
   ·rw[LO hs J U];exact k5
theorem HF{id:Nat}{K:St->Prop}{s:St}{a:Act}{w:World}(hm:P.follows .mixedOrders=true)(R:Rel P base w0 N s a w)
  (h:Ao P (jP P) N ops ops.toList s [] λs' I=>Dv ops I=true/\K s')(hq:∀s' J w',K s'->Rel P base w0 N s' J w'->Q .normal J w'):(Code.region id ops true).wp P Q a w:=by
 obtain⟨s',fps',k1,k2,k3,k4⟩:=Fz (ops:=ops) ops.toList 0 [] qe rfl h
 refine wp_region_any hm ?_
 have hR:Rel P base w0 N s a { w with drawn:=w.drawn+1 }:=by obtain⟨g,R⟩:=R;have I':=R.inv.grow (w':={ w with drawn:=w.drawn+1 }) (Nat.le_refl _) (λ_ _=>rfl);exact⟨g,R.nV (iC.grow R.inv.S_lt λ_ _=>rfl) rfl ⟨R.below.os,R.below.tape,R.below.output,R.below.size,R.below.block⟩ I'⟩
 have U:left ops.size (Array.replicate ops.size false)=List.range ops.size:=by unfold left;rw[List.filter_eq_self];intro x hx;have:=List.mem_range.1 hx;simp[this]
 refine S0 k3 k4 hq ops.size _ s a _ qe (by rw[U];simp) ?_ ?_ hR
 ·intro j o ho hj;have C:j<ops.size:=(Array.getElem?_eq_some_iff.1 ho).1;simp[C]at hj
 ·rw[U,List.range_eq_range'];rw[Array.length_toList]at k2;exact k2
end
end Go.Sh
namespace Go.Sh
open Go.RowKit
section
variable {P:Program}{base N:Nat}{w0:W0}
def SW(P:Program)(base:Nat)(j:W0)(N:Nat)(c:Code)(s:St)(Q:Exit->St->Prop):Prop:=
 ∀(a:Act) (w:World),Rel P base j N s a w->c.wp P (λe I J=>∃C,Q e C/\Rel P base j N C I J) a w
inductive Fr where
 |code (c:Code)
 |block (id:Nat)
 |inv (J:St->Prop)
def aft(P:Program)(base:Nat)(j:W0)(N:Nat)(Z:St->Prop):List Fr->Exit->St->Prop
 |[],.normal,s=>Z s
 |[],.ret,s=>Z s
 |[],_,_=>False
 | .code c::k,.normal,s=>SW P base j N c s (aft P base j N Z k)
 | .code _::k,e,s=>aft P base j N Z k e s
 | .block id::k,.exit C,s=>if C=id then aft P base j N Z k .normal s else aft P base j N Z k (.exit C) s
 | .block _::k,e,s=>aft P base j N Z k e s
 | .inv J::_,.normal,s=>J s
 | .inv _::k,e,s=>aft P base j N Z k e s
variable {Z:St->Prop}{k:List Fr}{s:St}
theorem IC:∀(k:List Fr),Z s->aft P base w0 N Z k .ret s
 |[],h=>h
 | .code _::k,h=>IC k h
 | .block _::k,h=>IC k h
 | .inv _::k,h=>IC k h
theorem Tg{x y:Code}(h:SW P base w0 N x s (aft P base w0 N Z (.code y::k))):SW P base w0 N (.seq x y) s (aft P base w0 N Z k):=by
 intro a w R
 refine wp_seq (wp_mono (h a w R) ?_)
 rintro e a' w' ⟨s',h1,h2⟩
 cases e with
 |normal=>exact h1 a' w' h2
 |_=>exact⟨s',h1,h2⟩
theorem Q8{id:Nat}{c:Code}(h:SW P base w0 N c s (aft P base w0 N Z (.block id::k))):SW P base w0 N (.block id c) s (aft P base w0 N Z k):=by
 intro a w R
 refine wp_block (wp_mono (h a w R) ?_)
 rintro e a' w' ⟨s',h1,h2⟩
 cases e with
 |exit j=>
  show if j=id then _ else _
  by_cases hid:j=id
  ·simp only[aft,hid,if_true]at h1⊢;exact⟨s',h1,h2⟩
  ·simp only[aft,hid,if_false]at h1⊢;exact⟨s',h1,h2⟩
 |_=>exact⟨s',h1,h2⟩
theorem Se{id:Nat}(h:aft P base w0 N Z k (.exit id) s):SW P base w0 N (.exit id) s (aft P base w0 N Z k):=λa w R=>wp_exit ⟨s,h,R⟩
theorem Ti(h:Z s):SW P base w0 N .ret s (aft P base w0 N Z k):=λa w R=>wp_ret ⟨s,IC k h,R⟩
theorem RT(h:aft P base w0 N Z k .normal s):SW P base w0 N .skip s (aft P base w0 N Z k):=λa w R=>wp_skip ⟨s,h,R⟩
theorem Kb{id:Nat}{ops:Array Oper}(h:A6 P (jP P) N ops ops.toList s λs'=>aft P base w0 N Z k .normal s'):SW P base w0 N (.region id ops false) s (aft P base w0 N Z k):=
 λa w R=>Np R h λs' I J C j=>⟨s',C,j⟩
theorem Oh(J:P.follows .mixedOrders=true){id:Nat}{ops:Array Oper}(h:Ao P (jP P) N ops ops.toList s [] λs' j=>Dv ops j=true/\aft P base w0 N Z k .normal s'):SW P base w0 N (.region id ops true) s (aft P base w0 N Z k):=
 λa w R=>HF J R h λs' U w' I C=>⟨s',I,C⟩
theorem K0{t:Nat}{x y:Code}{b:Bool}(I:s.t t=.v false [.dat (.bool b)])(J:b=true->SW P base w0 N x s (aft P base w0 N Z k))(C:b=false->SW P base w0 N y s (aft P base w0 N Z k)):SW P base w0 N (.cond (.tmp t) x y) s (aft P base w0 N Z k):=by intro a w R;obtain⟨g,U⟩:=id R;have j:=U.tmp t;rw[I]at j;have hv:=Aw j;exact wp_cond_split (t:=b) (by simpa[Act.eval]using hv) (λh=>J h a w R) (λh=>C h a w R)
theorem Dk{c:Code}(I:Nat->St->Prop)(n:Nat)(C:I n s)(h:∀m s,I m s->SW P base w0 N c s (aft P base w0 N Z (.inv (λs'=>∃j,j<m/\I j s')::k))):SW P base w0 N (.loop c) s (aft P base w0 N Z k):=by
 intro a w R
 refine wp_loop_ghost (λm a w=>∃s,I m s/\Rel P base w0 N s a w) n ⟨s,C,R⟩ ?_
 rintro m a w ⟨s,h1,R⟩
 refine wp_mono (h m s h1 a w R) ?_
 rintro e a' w' ⟨s',h2,h3⟩
 cases e with
 |normal=>obtain⟨j,U,J⟩:=h2;exact⟨j,U,s',J,h3⟩
 |_=>exact⟨s',h2,h3⟩
def A7(T:KK)(s:St):List ResultVar->Option (List (Bool×List SC))
 |[]=>some []
 | .tmp t::r=>match s.t t with
  | .v J C=>match A7 T s r with
   |some l=>some ((J,C)::l)
   |none=>none
  |_=>none
 | .cell p ty::r=>match T ty with
  |some j=>match s.t p with
   | .v false [.bp i ver 0]=>match s.h i with
    |(I,.box _ cells)=>if I=ver/\cells.length=j.size then(match A7 T s r with
      |some l=>some ((j.agg,cells)::l)
      |none=>none)else none
    |_=>none
   |_=>none
  |none=>none
def zX(h:Heap):List SC->List RC->Prop
 |[],[]=>True
 | .dat d::C,.ro I::j=>d=I/\d.flat=true/\zX h C j
 | .dat d::C,.any I::j=>d=I/\zX h C j
 | .nil::C,.any I::j=>I=.sl []/\zX h C j
 | .nil::C,.own _ _ J::j=>J=[]/\zX h C j
 | .row i ver::C,.own e sz J::j=>h i=(ver,.row e sz J true)/\zX h C j
 |_,_=>False
def D0:List SC->List Nat
 |[]=>[]
 | .row i _::j=>i::D0 j
 |_::j=>D0 j
def IV(h:Heap):List (Bool×List SC)->List (Bool×List RC)->Prop
 |[],[]=>True
 |(C,U)::J,(j,I)::ys=>C=j/\zX h U I/\IV h J ys
 |_,_=>False
def Cj:List (Bool×List SC)->List Nat
 |[]=>[]
 |x::j=>D0 x.2++Cj j
def Ret(T:KK)(vars:List ResultVar)(j:List (Bool×List RC))(s:St):Prop:=
 ∃l,A7 T s vars=some l/\IV s.h l j/\(Cj l).Nodup/\(vQ j=true->Cj l=[])
section
variable {g:Gh}{h:Heap}{w:World}
def Nd(g:Gh)(i:Nat):List Nat:=(wV (g.val i)).toList++g.fp i
theorem uJ(I:Inv base g h w []):∀{cs:List SC} {rs:List RC} {U:List Value},aR g h w cs U->zX h cs rs->mM g.Q.L base w g.S U rs ((D0 cs).flatMap (Nd g))
 |[],[],U,C,_=>by rw[show U=[]from C];simp[mM,D0]
 | .dat d::cs,.ro d'::rs,U,C,j=>by obtain⟨v,vs',rfl,⟨F,h1,h2⟩,J⟩:=C;obtain⟨rfl,hf,j⟩:=j;have:=Es h1 hf;subst this;refine⟨h1,?_⟩;simp only[D0];exact uJ I J j
 | .nil::cs,.own e sz xs::rs,U,C,j=>by obtain⟨v,vs',rfl,h1,J⟩:=C;obtain⟨rfl,j⟩:=j;have:v=.slice none 0 0:=h1;subst this;refine⟨[],[],_,World.ownsRow_nil w base e sz,qe,by simp[gX],?_,uJ I J j⟩;simp[Value.ownBlock,D0]
 | .row i ver::cs,.own e sz xs::rs,U,C,j=>by obtain⟨v,vs',rfl,⟨h0,h1,h2⟩,J⟩:=C;obtain⟨hi,j⟩:=j;have hval:v=g.val i:=h2 (by rw[hi]) e sz xs true (by rw[hi]);have hob:=I.obj i;rw[show(h i).2=.row e sz xs true from by rw[hi]]at hob;obtain⟨cells,k1,k2,k3,k4,k5⟩:=hob;rw[<-hval]at k1;refine⟨cells,g.fp i,_,k1,k2,k3,?_,uJ I J j⟩;simp only[D0,List.flatMap_cons,Nd];rw[<-hval,mF k1,qS]
 | .dat d::cs,.any d'::rs,U,C,j=>by obtain⟨v,vs',rfl,⟨F,h1,h2⟩,J⟩:=C;obtain⟨rfl,j⟩:=j;refine⟨⟨F,h1,h2⟩,?_⟩;simp only[D0];exact uJ I J j
 | .nil::cs,.any d'::rs,U,C,j=>by obtain⟨v,vs',rfl,h1,J⟩:=C;obtain⟨rfl,j⟩:=j;refine⟨⟨[],?_,qe⟩,?_⟩;(rw[show v=.slice none 0 0 from h1];simp only[Rep];exact⟨none,0,0,rfl,rfl,Nat.le_refl _,.inl qe⟩);·simp only[D0];exact uJ I J j
 | .row _ _::_,.any _::_,_,_,h=>h.elim
 | .dat _::_,.own _ _ _::_,_,_,h=>h.elim
 | .nil::_,.ro _::_,_,_,h=>h.elim
 | .row _ _::_,.ro _::_,_,_,h=>h.elim
 | .bp _ _ _::_,_,_,_,h=>h.elim
 | .rp _ _ _ _::_,_,_,_,h=>h.elim
 | .clo _ _::_,_,_,_,h=>h.elim
 | .old _ _ _::_,_,_,_,h=>h.elim
 | .part _ _ _ _::_,_,_,_,h=>h.elim
 | .exa _ _ _::_,_,_,_,h=>h.elim
 |[],_::_,_,_,h=>h.elim
 | .dat _::_,[],_,_,h=>h.elim
 | .nil::_,[],_,_,h=>h.elim
 | .row _ _::_,[],_,_,h=>h.elim
theorem CB:∀{J:List SC} {U:List RC},zX h J U->∀i∈D0 J,gD h i
 |[],_,_,i,C=>by simp[D0]at C
 | .dat d::J,.ro d'::U,I,i,C=>CB I.2.2 i C
 | .nil::J,.own e sz xs::U,I,i,C=>CB I.2 i C
 | .dat d::J,.any d'::U,I,i,C=>CB I.2 i C
 | .nil::J,.any d'::U,I,i,C=>CB I.2 i C
 | .row _ _::_,.any _::_,h,_,_=>h.elim
 | .row j ver::J,.own e sz xs::U,I,i,C=>by rcases List.mem_cons.1 C with rfl|C;(exact⟨e,sz,xs,by rw[I.1]⟩);·exact CB I.2 i C
 | .dat _::_,.own _ _ _::_,h,_,_=>h.elim
 | .nil::_,.ro _::_,h,_,_=>h.elim
 | .row _ _::_,.ro _::_,h,_,_=>h.elim
 | .bp _ _ _::_,_,h,_,_=>h.elim
 | .rp _ _ _ _::_,_,h,_,_=>h.elim
 | .clo _ _::_,_,h,_,_=>h.elim
 | .old _ _ _::_,_,h,_,_=>h.elim
 | .part _ _ _ _::_,_,h,_,_=>h.elim
 | .exa _ _ _::_,_,h,_,_=>h.elim
 | .dat _::_,[],h,_,_=>h.elim
 | .nil::_,[],h,_,_=>h.elim
 | .row _ _::_,[],h,_,_=>h.elim
theorem Qa(I:Inv base g h w []){i:Nat}(hd:gD h i):vF base w (Nd g i):=by
 obtain⟨e,sz,xs,hi⟩:=hd
 have hl:live h i:=by unfold live;rw[hi];simp
 have J:=I.obj i
 rw[hi]at J
 obtain⟨cells,k1,k2,k3,k4,k5⟩:=J
 have ho:=k5 rfl
 refine⟨?_,?_⟩
 ·unfold Nd
  rw[List.nodup_append]
  refine⟨by cases wV (g.val i)<;>simp,ho.1,?_⟩
  rintro x hx y hy rfl
  have C:wV (g.val i)=some x:=by simpa using hx
  exact I.mtb i x hl C (k4 x hy)
 ·intro b C
  unfold Nd at C
  rcases List.mem_append.1 C with C|C
  ·have j:wV (g.val i)=some b:=by simpa using C
   refine⟨?_,(I.BI hl j).2⟩
   rcases k1.2 with⟨U,_⟩|⟨gg,cap,cur,U,h3,_⟩
   ·rw[U]at j;simp[wV]at j
   ·rw[U]at j;simp[wV]at j;subst j;exact h3
  ·exact ho.2 b C
theorem MT(I:Inv base g h w []){i j:Nat}(U:i≠j)(hi:gD h i)(hj:gD h j):∀b∈Nd g i,b∉Nd g j:=by
 have hS:∀i,gD h i->∀b∈g.fp i,g.S b:=by rintro i ⟨e,sz,xs,hh⟩ b J;have:=I.obj i;rw[hh]at this;obtain⟨_,_,_,_,h4,_⟩:=this;exact h4 b J
 intro b J C
 unfold Nd at J C
 rcases List.mem_append.1 J with J|J<;>rcases List.mem_append.1 C with C|C
 ·exact I.inj i j b U (Eg hi) (Eg hj) (by simpa using J) (by simpa using C)
 ·exact I.mtb i b (Eg hi) (by simpa using J) (hS j hj b C)
 ·exact I.mtb j b (Eg hj) (by simpa using C) (hS i hi b J)
 ·exact I.dis i j U hi hj b J C
theorem N5(I:Inv base g h w []):∀{ids:List Nat},ids.Nodup->(∀i∈ids,gD h i)->vF base w (ids.flatMap (Nd g))
 |[],_,_=>by simpa using vF.nil base w
 |i::ids,hn,J=>by
  rw[List.nodup_cons]at hn
  have h1:=Qa I (J i qe)
  have h2:=N5 I hn.2 λj U=>J j (by simp[U])
  rw[List.flatMap_cons]
  refine⟨?_,λb C=> ?_⟩
  ·rw[List.nodup_append];refine⟨h1.1,h2.1,?_⟩;rintro x hx y hy rfl;obtain⟨j,U,hxj⟩:=List.mem_flatMap.1 hy;exact MT I (show i≠j from λe=>hn.1 (by rw[e];exact U)) (J i qe) (J j (by simp[U])) x hx hxj
  ·rcases List.mem_append.1 C with C|C;(exact h1.2 b C);·exact h2.2 b C
end
theorem Jk{P:Program}{w:World}{α:Type}(f:α->Sem Value):∀(l:List α) (j:List Value),l.length=j.length->(∀(i:Nat) (x:α) (v:Value),l[i]? =some x->j[i]? =some v->(f x).run P w=.ok v w)->(l.mapM f).run P w=.ok j w
 |[],[],_,_=>by simp
 |[],v::j,h,_=>by simp at h
 |x::l,[],h,_=>by simp at h
 |x::l,v::j,h,C=>by
  have U:=C 0 x v rfl rfl
  have I:=Jk f l j (by simpa using h) λi y u hy J=>C (i+1) y u (by simpa using hy) (by simpa using J)
  simp[List.mapM_cons,U,I]
theorem CF{s:St}{a:Act}{w:World}{g:Gh}(R:jS P base w0 N g s a w []):∀{vars:List ResultVar} {l:List (Bool×List SC)},A7 (jP P) s vars=some l->
  ∃C:List Value,C.length=vars.length/\Aq g s.h w l C/\∀(i:Nat) (x:ResultVar) (v:Value),vars[i]? =some x->C[i]? =some v->
   (match x with| .tmp t=>(pure (a.tmps.getD t undef):Sem Value)| .cell p t=>(do loadVar t (<-asAddr (a.tmps.getD p undef)):Sem Value)).run P w=.ok v w
 |[],l,h=>by simp[A7]at h;subst h;exact⟨[],rfl,rfl,qe⟩
 | .tmp t::r,l,h=>by
  simp only[A7]at h
  split at h
  ·rename_i ag cs hs
   split at h
   ·rename_i l' hl
    cases h
    obtain⟨C,h1,h2,h3⟩:=CF R hl
    have U:=R.tmp t
    rw[hs]at U
    refine⟨a.tmps.getD t undef::C,by simp[h1],⟨_,C,rfl,U,h2⟩,?_⟩
    intro i x v I hv
    cases i with
    |zero=>simp at I hv;subst I hv;simp
    |succ i=>exact h3 i x v (by simpa using I) (by simpa using hv)
   ·cases h
  ·cases h
 | .cell p ty::r,l,h=>by
  simp only[A7]at h
  split at h
  ·rename_i ti hti
   split at h
   ·rename_i i ver hs
    split at h
    ·rename_i v' tt cells hh
     split at h
     ·rename_i hc
      split at h
      ·rename_i l' hl
       cases h
       obtain⟨C,h1,h2,h3⟩:=CF R hl
       have U:=R.tmp p
       rw[hs]at U
       obtain⟨hone,hle,hcap⟩:=dH U
       obtain⟨b,e3,e4⟩:=hcap (by rw[hh];exact hc.1) tt cells (by rw[hh])
       have J:=R.inv.obj i
       rw[show(s.h i).2=.box tt cells from by rw[hh]]at J
       obtain⟨b',vals,k3,k4,k5,k6⟩:=J
       have hbb:b'=b:=by rw[e3]at k3;simp at k3;exact k3.symm
       subst hbb
       obtain⟨v,hrun,hv⟩:=KE (g:=g) (s:=s) (w:=w) hti (OZ k5) (by rw[k6.length];exact hc.2) k6
       refine⟨v::C,by simp[h1],⟨_,C,rfl,hv,h2⟩,?_⟩
       intro j x u I hu
       cases j with
       |zero=>
        simp at I hu
        subst I hu
        have e4':a.tmps[p]?.getD undef=.pointer (some ⟨b',0,none⟩):=by simpa using e4
        simp only[Instr.loadAt,Instr.sureAddr,Sem.run_bind,Sem.run_pure,Result.andThen_ok]at hrun
        simp[e4',asAddr,hrun]
       |succ j=>exact h3 j x u (by simpa using I) (by simpa using hu)
      ·cases h
     ·cases h
    ·cases h
   ·cases h
  ·cases h
theorem G5{g:Gh}{h:Heap}{w:World}(I:Inv base g h w []):∀{l:List (Bool×List SC)} {J:List (Bool×List RC)} {C:List Value},Aq g h w l C->IV h l J->zO g.Q.L base w g.S C J ((Cj l).flatMap (Nd g))/\∀i∈Cj l,gD h i
 |[],[],C,hv,_=>by rw[show C=[]from hv];simp[zO,Cj]
 |(ag,cs)::l,(ag',r)::J,C,hv,hr=>by
  obtain⟨v,vs',rfl,h1,h2⟩:=hv
  obtain⟨rfl,U,h4⟩:=hr
  obtain⟨k1,k2⟩:=G5 I h2 h4
  refine⟨⟨(D0 cs).flatMap (Nd g),(Cj l).flatMap (Nd g),by simp[Cj],?_,k1⟩,?_⟩
  ·cases ag with
   |false=>exact uJ I h1 U
   |true=>obtain⟨us,rfl,hc⟩:=h1;exact⟨us,rfl,uJ I hc U⟩
  ·intro i j;simp only[Cj]at j;rcases List.mem_append.1 j with j|j;(exact CB U i j);·exact k2 i j
 |[],_::_,_,_,h=>h.elim
 |_::_,[],_,_,h=>h.elim
theorem C3{L:TL}{w:World}{X:Nat->Prop}:∀{C:List Value} {j:List (Bool×List RC)} {F:List Nat},zO L base w X C j F->C.length=j.length
 |[],[],_,_=>rfl
 |v::C,r::j,F,⟨J,I,_,_,h⟩=>by simp[C3 h]
 |[],_::_,_,h=>h.elim
 |_::_,[],_,h=>h.elim
theorem Le{s:St}{a:Act}{w:World}{fn:Func}{I:List (Bool×List RC)}(R:Rel P base w0 N s a w)(h:Ret (jP P) fn.results.toList I s):∃v,(results fn a.tmps).run P w=.ok v w/\Fw w0.Q.L base w v I w0.Q:=by
 obtain⟨g,R⟩:=R
 obtain⟨l,h1,h2,h3,J⟩:=h
 obtain⟨C,k1,k2,k3⟩:=CF R h1
 obtain⟨j,m2⟩:=G5 R.inv k2 h2
 rw[R.lab.1]at j
 have hown:=N5 R.inv h3 m2
 have hlen:=C3 j
 have hrun:=Jk (P:=P) (w:=w) (λx=>match x with| .tmp t=>(pure (a.tmps.getD t undef):Sem Value)| .cell p t=>(do loadVar t (<-asAddr (a.tmps.getD p undef)):Sem Value)) fn.results.toList C (by rw[k1]) k3
 have hrun':(results fn a.tmps).run P w=.ok (if h:C.toArray.size=1 then C.toArray[0]else .tuple C.toArray) w:=by unfold results;rw[<-Array.toArray_toList (xs:=fn.results)];rw[List.mapM_toArray];simp only[Sem.run_bind,Sem.run_map,Sem.run_pure];exact(congrArg (λr:Result (List Value)=>(r.andThen λa U=>Result.ok a.toArray U).andThen λa U=>Result.ok (if h:a.size=1 then a[0]else Value.tuple a) U) hrun).trans rfl
 refine⟨_,hrun',(Cj l).flatMap (Nd g),g.S,hown,λb hb=>⟨?_,R.inv.S_lt b hb⟩,λhh=>by rw[J hh];rfl,?_⟩
 ·rcases Nat.lt_or_ge b base with hlt|hge;(exact .inl (R.q.1 b (R.inv.S_old b hb hlt)));·exact .inr hge
 match I,j,hlen with
 |[r],j,hlen=>
  match C,j with
  |[v],j=>
   obtain⟨F1,F2,e1,e2,e3⟩:=j
   have:F2=[]:=e3
   subst this
   simp only[qX]at e1
   rw[e1]
   show Ha _ _ _ _ _ _ _
   simpa using e2
 |[],j,hlen=>
  have:¬C.toArray.size=1:=by simp[hlen]
  rw[dif_neg this]
  exact⟨_,rfl,j⟩
 |r1::r2::I,j,hlen=>
  have:¬C.toArray.size=1:=by simp[hlen]
  rw[dif_neg this]
  exact⟨_,rfl,j⟩
def init(args:List (Bool×List D)):St:=
 { t:=λi=>match args[i]? with|some (j,ds)=>.v j (ds.map .dat)|none=>.undef,h:=λ_=>(0,.none) }
theorem args_at{w:World}:∀{I:List Value} {C:List (Bool×List D)} {F:List Nat},sH w I C F->I.length=C.length/\∀(i:Nat) (x:Bool×List D),C[i]? =some x->∃v j,I[i]? =some v/\L2 w v x j/\∀b∈j,b∈F
 |[],[],_,_=>⟨rfl,qe⟩
 |v::I,x::C,F,⟨F1,F2,e,h1,h2⟩=>by
  obtain⟨k1,k2⟩:=args_at h2
  refine⟨by simp[k1],λi y U=> ?_⟩
  subst e
  cases i with
  |zero=>simp at U;subst U;exact⟨v,F1,qe,h1,λb J=>by simp[J]⟩
  |succ i=>obtain⟨u,j,m1,m2,m3⟩:=k2 i y (by simpa using U);exact⟨u,j,by simpa using m1,m2,λb J=>by simp[m3 b J]⟩
 |[],_::_,_,h=>h.elim
 |_::_,[],_,h=>h.elim
theorem E8{w:World}:∀{vs:List Value} {I:List (Bool×List D)} {F:List Nat},sH w vs I F->∀b∈F,b<w.heap.size
 |[],[],F,h=>by rw[show F=[]from h];simp
 |v::vs,x::I,F,⟨U,F2,e,J,h2⟩=>by
  subst e
  intro b j
  rcases List.mem_append.1 j with j|j
  ·obtain⟨ag,ds⟩:=x
   cases ag with
   |true=>obtain⟨cs,rfl,C⟩:=J;exact aG.lt ds _ U C b j
   |false=>obtain⟨d,rfl,C⟩:=J;exact Rep.lt d v U C b j
  ·exact E8 h2 b j
 |[],_::_,_,h=>h.elim
 |_::_,[],_,h=>h.elim
theorem LJ{fn:Func}{args:List (Bool×List D)}{w:World}{vs:Array Value}{Fa:List Nat}(ha:sH w vs.toList args Fa)(hn:args.length<=fn.ntmps):
  Rel P w.heap.size ⟨w,⟨λb=>b∈Fa,w.heap.size,none,slP P⟩,noK,MV⟩ fn.ntmps (init args) { tmps:=vs++Array.replicate (fn.ntmps-vs.size) undef,defers:=[] } w:=by
 obtain⟨hlen,hat⟩:=args_at ha
 have hlen':vs.size=args.length:=by simpa using hlen
 have hFlt:=E8 ha
 let g:Gh:={ val:=λ_=>undef,fp:=λ_=>[],S:=λb=>b∈Fa,Q:=⟨λb=>b∈Fa,w.heap.size,none,slP P⟩ }
 refine⟨g,rfl,qd,Below.refl _ _,⟨λ_ x=>x,rfl,λ_ hx=>(by cases hx)⟩,λ_ x=>x.elim,⟨Nat.le_refl _,λ_ x _=>x,hFlt,λi=>trivial,λi b hl=>absurd rfl hl,λi j b _ hl=>absurd rfl hl,?_,vF.nil _ _,qe,λi C=>(by obtain⟨_,_,_,C⟩:=C;cases C),Nat.le_refl _⟩,λt=> ?_,⟨rfl,.inl rfl⟩,λ_=>trivial⟩
 ·rintro i j _ ⟨_,_,_,C⟩;cases C
 ·show sU g _ w (match args[t]? with|some (U,ds)=>.v U (ds.map .dat)|none=>.undef) _
  cases ht:args[t]? with
  |none=>
   have hge:args.length<=t:=List.getElem?_eq_none_iff.1 ht
   show _=undef
   simp only[Array.getD_eq_getD_getElem?,Array.getElem?_append]
   rw[if_neg qc]
   by_cases J:t-vs.size<fn.ntmps-vs.size
   ·simp[J]
   ·rw[Array.getElem?_eq_none qd];rfl
  |some x=>
   obtain⟨v,Fi,h1,J,I⟩:=hat t x ht
   have hlt:t<vs.size:=by have:=(List.getElem?_eq_some_iff.1 ht).1;omega
   have hv:(vs++Array.replicate (fn.ntmps-vs.size) undef).getD t undef=v:=by
    simp only[Array.getD_eq_getD_getElem?,Array.getElem?_append]
    rw[if_pos hlt]
    have:vs[t]? =some v:=by simpa using h1
    rw[this];rfl
   rw[hv]
   obtain⟨U,ds⟩:=x
   cases U with
   |false=>
    obtain⟨d,rfl,hr⟩:=J
    exact⟨v,[],rfl,⟨Fi,hr,I⟩,rfl⟩
   |true=>
    obtain⟨cs,rfl,hr⟩:=J
    exact⟨cs,rfl,aR.DQ hr I⟩
theorem Pv {f : FuncId} {fn : Func} {c : Code} {args : List (Bool × List D)} {rs : List (Bool × List RC)} (hf : P.funcs[f]? = some fn) (hb : fn.body = some c) (hnm : (fn.name == "runtime.NumGoroutine") = false) (hn : args.length <= fn.ntmps)
  (h : ∀(base:Nat) (w0:W0),SW P base w0 fn.ntmps c (init args) (aft P base w0 fn.ntmps (Ret (jP P) fn.results.toList rs) [])):kM P f args rs:=by
 refine .inl ⟨⟨fn,c,hf,hb,hnm⟩,λw vs Fa ha => ?_⟩
 obtain ⟨hlen,hat⟩:=args_at ha
 have hlen':vs.size=args.length:=by simpa using hlen
 refine calls_of_wp hf hb ?_
 have hFlt:=E8 ha
 have R:=LJ (P:=P) (fn:=fn) ha hn
 refine wp_mono (h w.heap.size ⟨w,⟨λb=>b∈Fa,w.heap.size,none,slP P⟩,noK,MV⟩ _ w R) ?_
 rintro e a' w' ⟨s',h1,R'⟩
 have fin:Ret (jP P) fn.results.toList rs s'->a'.defers=[] /\ ∃v,(results fn a'.tmps).run P w' = .ok v w' /\ ∃v',Ending.returned v = .returned v'/\Fw (slP P) w.heap.size w' v' rs (λb=>b∈Fa)/\Below w.heap.size w w':=by intro hr;obtain ⟨v,k1,k2⟩:=Le R' hr;obtain ⟨g',R''⟩:=R';exact ⟨R''.defers,v,k1,v,rfl,k2,R''.below⟩
 cases e with
 | normal=>exact fin h1
 | ret=>exact fin h1
 | exit id=>exact h1.elim
 | goto l=>exact h1.elim
 | panic c=>exact h1.elim
 | outgrown=>exact h1.elim
end
end Go.Sh
