/-
  Helper text. No conditions.
-/
import Derived.Test.YtndidbigdalbnaaGreatNotesShB
import Derived.Deep.LoopGhost
import Derived.LoopN
set_option linter.all false
namespace Go.Sh
open Go.RowKit
section
variable {P:Program}{base N:Nat}{w0:W0}{w:World}{g:Gh}{s:St}{a:Act}{K:St->Prop}{Q:Exit->Act->World->Prop}{o:Oper}{pool:List Nat}
theorem OU{t:TypeId}{I:TI}(J:fM P t=some I){b off:Nat}{v:Value}{cur:Array Value}{e:TypeId}(U:w.heap[b]? =some (.cells cur e (0,0)))(j:v.cells.size=I.size)(hone:∀u∈v.cells.toList,u.oneCell'=true)(hfit:off+I.size<=cur.size):
  (Instr.storeAt t (.pointer (some ⟨b,off,none⟩)) v).run P w=.ok () (w.setRow b (cur.toList.take off++(v.cells.toList++cur.toList.drop (off+I.size))).toArray):=by
 obtain⟨i,d,z,h1,h2,h3,h4,h5,h6,h7,h8,h9⟩:=(eH J).ok
 have C:=run_storeCells_at P b off e v.cells.toList 0 cur w U (by simp[j];omega) hone
 simp only[Nat.add_zero,qn,j,qT]at C
 simp only[Instr.storeAt,Instr.sureAddr,storeVar,qs,qu,qi,sizeOf,typeInfo,run_program,h1,h7,j,ne_eq,not_true_eq_false,jH,C]
theorem ER:∀{ds es:List D} {vs:List Value} {F:List Nat},aM w (ds++es) vs F->∃j C,F=j++C/\aM w ds (vs.take ds.length) j/\aM w es (vs.drop ds.length) C
 |[],es,vs,F,h=>⟨[],F,rfl,wK,wM⟩
 |d::ds,es,vs,F,h=>by simp only[jQ,aM]at h;obtain⟨v,I,j,C,rfl,rfl,h3,h4⟩:=h;obtain⟨J,U,rfl,k1,k2⟩:=ER h4;refine⟨j++J,U,wb,?_,by simpa using k2⟩;simp only[qJ,List.take_succ_cons,aM];exact⟨v,I.take ds.length,j,J,rfl,rfl,h3,k1⟩
theorem SX(off n:Nat){ds:List D}{vs:List Value}{F:List Nat}(h:aM w ds vs F)(hle:off+n<=ds.length):
  ∃j I C,F=j++(I++C)/\aM w (ds.take off) (vs.take off) j/\aM w (ds.drop (off+n)) (vs.drop (off+n)) C:=by
 have h1:ds=ds.take off++((ds.drop off).take n++ds.drop (off+n)):=by rw[<-List.drop_drop,qo,qo]
 rw[h1]at h
 obtain⟨j,F',rfl,J,k2⟩:=ER h
 obtain⟨I,C,rfl,k3,U⟩:=ER k2
 have e1:(ds.take off).length=off:=by rw[qV];omega
 have e2:((ds.drop off).take n).length=n:=by rw[qV,qW];omega
 rw[e1]at J
 rw[e1,e2,List.drop_drop]at U
 exact⟨j,I,C,rfl,J,U⟩
theorem WD{L:TL}{m:Bool}{ts:Lb}(off n:Nat){ds:List D}{vs:List Value}{F:List Nat}(h:Bf L m w ts ds vs F)(hle:off+n<=ds.length):
  ∃j I C,F=j++(I++C)/\Bf L m w ts (ds.take off) (vs.take off) j/\Bf L m w (ts.drop (off+n)) (ds.drop (off+n)) (vs.drop (off+n)) C:=by
 cases m with
 |false=>exact SX off n h hle
 |true=>
  have h1:ds=ds.take off++((ds.drop off).take n++ds.drop (off+n)):=by rw[<-List.drop_drop,qo,qo]
  have J:cM L w ds ts vs F:=h
  rw[h1]at J
  obtain⟨j,F',rfl,U,k2⟩:=cM.split J
  obtain⟨I,C,rfl,k3,k4⟩:=cM.split k2
  have e1:(ds.take off).length=off:=by rw[qV];omega
  have e2:((ds.drop off).take n).length=n:=by rw[qV,qW];omega
  rw[e1]at U
  rw[e1,e2,List.drop_drop,List.drop_drop]at k4
  exact⟨j,I,C,rfl,U,k4⟩
theorem setRow_size(w:World)(b:Nat)(cs:Array Value):(w.setRow b cs).heap.size=w.heap.size:=by simp[World.setRow]
theorem IB{j:World}{b:Nat}(hb:Below base j w)(hle:base<=b)(cs:Array Value):Below base j (w.setRow b cs):=
 hb.trans ⟨rfl,rfl,rfl,by rw[setRow_size];exact qg _,λk hk=>setRow_other w b k cs wg⟩
theorem SD{j Fa J I C F:List Nat}(h:(j++((Fa++(J++I))++C)).Nodup)(U:F.Nodup)(hd:∀x∈F,x∉j++((Fa++(J++I))++C)):(j++((Fa++(F++I))++C)).Nodup:=by simp only[qt,qP,not_or]at*;grind
theorem YS{t:TypeId}{x y:Operand}(ho:o.op=.store t x y)(R:nV P base w0 N g s a w [])(h:ex P (CN (fM P) N o) s K):o.wp P a w (Aft P base w0 N K) Q:=by
 simp only[CN,ho]at h
 split at h
 ·rename_i ti hdst hti
  obtain⟨sp,q1,q2⟩:=cN R h
  obtain⟨sv,q3,q4⟩:=cN R q2
  have fin:∀{b off:Nat} {w':World} {s':St},a.eval x=.pointer (some ⟨b,off,none⟩)->(Instr.storeAt t (.pointer (some ⟨b,off,none⟩)) (a.eval y)).run P w=.ok () w'->K s'->Rel P base w0 N s' a w'->o.wp P a w (Aft P base w0 N K) Q:=by intro b off w' s' C hrun hk hR;refine aAU (w':=w') ?_ hdst ⟨s',hk,hR⟩;simp only[execOp,ho,C,qs,hrun,qi,qu]
  unfold Ox at q4
  split at q4
  ·rename_i i ver off ag cs
   obtain⟨hone,hle,hcap⟩:=eZ q1
   simp only[ex]at q4
   split at q4
   ·rename_i t' cells hh
    split at q4
    ·rename_i hc
     obtain⟨b,hb1,hb2⟩:=hcap hc.1 _ _ hh
     have hob:=R.inv.obj i
     rw[hh]at hob
     obtain⟨b',vals,h3,h4,h5,h6⟩:=hob
     have hbb:b'=b:=by rw[hb1]at h3;simp at h3;exact h3.symm
     subst hbb
     have hlv:=h6.length
     have hvc:=G8 q3
     have hlc:=hvc.length
     simp only[qn]at hlv hlc
     have hlive:live s.h i:=by unfold live;rw[hh];simp
     have hown:Ds (g.val i)=some b':=by rw[h3];rfl
     have hnS:=R.inv.mtb i b' hlive hown
     let w':=w.setRow b' (vals.toList.take off++((a.eval y).cells.toList++vals.toList.drop (off+ti.size))).toArray
     have hrun:=OU (w:=w) (v:=a.eval y) (off:=off) hti h5 wg hvc.one wg
     have hoth:∀k,k≠b'->w'.heap[k]? =w.heap[k]? :=λk hk=>setRow_other w b' k _ hk
     have T:mA g { g with fp:=Iw g.fp i (g.fp i) } s.h (pZ s.h i ((s.h i).1,.box t' (cells.take off++(cs++cells.drop (off+ti.size))))) w w':=
      mA.Hd hnS hoth (by intro e sz xs dp I;cases I) (by intro t0 cs0 I;cases I;exact⟨_,hh⟩)
     have I':=R.inv.Hd (i:=i) (b:=b') (F:=g.fp i) (pool':=[]) (w':=w') hlive hown (setRow_size _ _ _) hoth T
      ⟨b',_,h3,h4,setRow_heap w b' vals _ t' _ h5,by
       have:=((h6.take off).append (hvc.append (h6.drop (off+ti.size)))).turn T
       simpa using this⟩ wb jb (by rintro⟨_,_,_,I⟩;cases I)
     rw[hc.1]at T I'
     exact fin hb2 hrun q4 ⟨_,R.turn T rfl (IB R.below (R.q.2.1 ▸ h4) _) I'⟩
    ·exact q4.elim
   ·exact q4.elim
  ·rename_i i ver j off ag cs
   simp only[ex]at q4
   split at q4
   rotate_left
   ·exact q4.elim
   rename_i e0 sz0 xs0 dp0 hh0
   split at q4
   rotate_left
   ·exact q4.elim
   rename_i te hte
   obtain⟨g2,s2,ds,b2,F,pool2,k1,k2,k3,k3t,k4,k5,k6⟩:=Hr R (G8 q3) q4
   have q1':=eZ (q1.turn k3)
   obtain⟨hone,hle,hcap⟩:=q1'
   simp only[ex]at k1
   split at k1
   ·rename_i e sz xs dp hh
    split at k1
    ·rename_i hc
     obtain⟨hcv,hcl,hce⟩:=hc
     subst hce
     have hc:(s2.h i).1=ver/\cs.length=ti.size:=⟨hcv,hcl⟩
     obtain⟨b,n,c,hb1,hb2⟩:=hcap hc.1 _ _ _ _ hh
     split at k1
     ·rename_i z hz
      split at k1
      ·rename_i hzl
       have hob:=k2.inv.obj i
       rw[hh]at hob
       obtain⟨cells,p1,p2,p3,p4,p5⟩:=hob
       rcases p1.2 with⟨p6,_⟩|⟨gg,cap,J,p6,p7,p8,p9,aa,ae,af⟩
       ·rw[hb1]at p6;cases p6
       rw[hb1]at p6
       simp at p6
       obtain⟨rfl,rfl,rfl⟩:=p6
       have hlive:live s2.h i:=by unfold live;rw[hh];simp
       have hown:Ds (g2.val i)=some b:=by rw[hb1];rfl
       have hnS:=k2.inv.mtb i b hlive hown
       have p3w:=p3
       obtain⟨v1,v2,v3,F1,F2,F3,rfl,hF,hl1,hr1m,hr2m,hr3m⟩:=p3.at_ p2 hz
       have hr1:=hr1m.rep
       have hr2:=hr2m.rep
       have hr3:=hr3m.rep
       have hlz:z.length=sz:=p2 z (jD hz)
       have hl2:=hr2.length
       have hjlt:j<xs.length:=(qe.1 hz).1
       have hvl:=k4.length
       have hcl:=(G8 q3).length
       simp only[qn]at hcl hvl
       obtain⟨Fa,Fb,Fc,rfl,hram,hrcm⟩:=WD off ti.size hr2m hzl
       have hra:=hram.rep
       have hrc:=hrcm.rep
       have hcur:J.toList=(v1++(v2++v3))++J.toList.drop (xs.length*sz):=by rw[<-af,qo]
       generalize hrest:J.toList.drop (xs.length*sz)=rest at hcur
       have hclen:(v1++(v2++v3)).length=xs.length*sz:=p1.1
       simp only[qE]at hclen
       have ht:J.toList.take (j*sz+off)=v1++v2.take off:=by rw[hcur,qT,qT,List.take_append,hl1,jf wg,show j*sz+off-j*sz=off from by omega,jX wg]
       have hd:J.toList.drop (j*sz+off+ti.size)=v2.drop (off+ti.size)++(v3++rest):=by rw[hcur,qT,qT,List.drop_append,hl1,List.drop_of_length_le wg,show j*sz+off+ti.size-j*sz=off+ti.size from by omega,List.drop_append_of_le_length wg];rfl
       have hszc:J.size=J.toList.length:=by simp
       have hfit:j*sz+off+ti.size<=J.size:=by rw[hszc,hcur];simp only[qE];omega
       have hrun:=OU (w:=w) (v:=a.eval y) (off:=j*sz+off) hti p8 wg (G8 q3).one hfit
       rw[ht,hd]at hrun
       generalize hnew:(v1++v2.take off++((a.eval y).cells.toList++(v2.drop (off+ti.size)++(v3++rest))))=new at hrun
       have hoth:∀k,k≠b->(w.setRow b new.toArray).heap[k]? =w.heap[k]? :=λk hk=>setRow_other w b k _ hk
       generalize hz':z.take off++(ds++z.drop (off+ti.size))=z' at k1
       have hrz:aM w z' (v2.take off++((a.eval y).cells.toList++v2.drop (off+ti.size))) (Fa++(F++Fc)):=by rw[<-hz'];exact hra.append (k4.append hrc)
       have hlz':z'.length=sz:=by have:=hrz.length;rw[<-this];simp only[qE,qV,qW,qn];omega
       have pZ:xs.set j z'=xs.take j++z'::xs.drop (j+1):=by rw[List.set_eq_take_append_cons_drop,jF hjlt]
       have hrow:bC w (xs.set j z') (v1++((v2.take off++((a.eval y).cells.toList++v2.drop (off+ti.size)))++v3)) (F1++((Fa++(F++Fc))++F3)):=by rw[pZ];refine hr1.append ?_;simp only[bC];exact⟨_,v3,_,F3,rfl,rfl,hrz,hr3⟩
       have hrowM:dR g2.Q.L (dp&&b2) w e (xs.set j z') (v1++((v2.take off++((a.eval y).cells.toList++v2.drop (off+ti.size)))++v3)) (F1++((Fa++(F++Fc))++F3)):=by
        rw[pZ]
        refine dR.append (hr1m.TU λhd=>(by simp at hd;exact hd.1)) (dR.append (xs:=[z']) (ys:=xs.drop (j+1)) (dR.one ?_) (hr3m.TU λhd=>(by simp at hd;exact hd.1)))
        rw[<-hz']
        have htk:(z.take off).length=off:=by rw[qV];omega
        refine Bf.append (hram.TU λhd=>(by simp at hd;exact hd.1)) ?_
        rw[htk]
        have hdl:ds.length=ti.size:=by have:=k4.length;simp only[qn]at this;omega
        refine Bf.append ?_ ?_
        ·cases hdb:(dp&&b2)with
         |false=>exact k4
         |true=>
          simp at hdb
          refine cM.toL k2 hte off ?_
          rw[k3.Q]
          exact(k6 hdb.2).2
        ·rw[hdl,List.drop_drop];exact hrcm.TU λhd=>(by simp at hd;exact hd.1)
       have hFS:∀x∈F1++((Fa++(F++Fc))++F3),g2.S x:=by intro x C;simp only[qP]at C;rcases C with C|((C|C|C)|C);(exact p4 x (by rw[hF];simp[C]));(exact p4 x (by rw[hF];simp[C]));(exact k5 x C);(exact p4 x (by rw[hF];simp[C]));·exact p4 x (by rw[hF];simp[C])
       have hxs':∀x∈xs.set j z',x.length=sz:=by intro x C;rcases jE C with C|rfl;(exact p2 x C);·exact hlz'
       have T:mA g2 { g2 with fp:=Iw g2.fp i (F1++((Fa++(F++Fc))++F3)) } s2.h (Sh.pZ s2.h i ((s2.h i).1,.row e sz (xs.set j z') (dp&&b2))) w (w.setRow b new.toArray):=
        mA.Hd hnS hoth (by intro e0 sz0 xs0 dp0 I;cases I;exact⟨_,_,hh⟩) (by intro t0 cs0 I;cases I)
       have hown':(dp&&b2)=true->Ck base (w.setRow b new.toArray) (F1++((Fa++(F++Fc))++F3)):=by
        intro hdb
        simp at hdb
        have hp:=(k6 hdb.2).1
        simp only[jP]at hp
        have U:=p5 hdb.1
        have hpd:=k2.inv.pool_dis i ⟨e,sz,xs,by rw[hh,hdb.1]⟩
        have hpo:=k2.inv.pool_own
        rw[hp]at hpd hpo
        refine⟨?_,?_⟩
        ·have hn1:=U.1
         rw[hF]at hn1
         have hn2:=hpo.1
         have hdis:∀x∈F,x∉F1++((Fa++(Fb++Fc))++F3):=λx C hx'=>hpd x (by rw[hF];exact hx') C
         exact SD hn1 hn2 hdis
        ·intro x C
         have hxS:=hFS x C
         have hxb:x≠b:=λe=>hnS (e ▸ hxS)
         simp only[qP]at C
         rcases C with C|((C|C|C)|C)
         ·exact⟨(U.2 x (by rw[hF];simp[C])).1,(U.2 x (by rw[hF];simp[C])).2.B8 (hoth x hxb)⟩
         ·exact⟨(U.2 x (by rw[hF];simp[C])).1,(U.2 x (by rw[hF];simp[C])).2.B8 (hoth x hxb)⟩
         ·exact⟨(hpo.2 x C).1,(hpo.2 x C).2.B8 (hoth x hxb)⟩
         ·exact⟨(U.2 x (by rw[hF];simp[C])).1,(U.2 x (by rw[hF];simp[C])).2.B8 (hoth x hxb)⟩
         ·exact⟨(U.2 x (by rw[hF];simp[C])).1,(U.2 x (by rw[hF];simp[C])).2.B8 (hoth x hxb)⟩
       have hnl:(v1++((v2.take off++((a.eval y).cells.toList++v2.drop (off+ti.size)))++v3)).length=xs.length*sz:=by have:=bC.length hrow hxs';rw[this,qN]
       have hneweq:new=(v1++((v2.take off++((a.eval y).cells.toList++v2.drop (off+ti.size)))++v3))++rest:=by rw[<-hnew];simp
       have hls:(xs.set j z').length=xs.length:=qN
       have hsz1:new.length=J.toList.length:=by rw[hneweq,hcur,qE,hnl,qE,qE,qE];omega
       have hor:(w.setRow b new.toArray).ownsRow base e sz (g2.val i) (xs.set j z').length (v1++((v2.take off++((a.eval y).cells.toList++v2.drop (off+ti.size)))++v3)):=by rw[hls];refine⟨hnl,.inr ⟨b,c,new.toArray,hb1,p7,setRow_heap w b J _ e _ p8,p9,aa,?_,?_⟩⟩;(rw[jZ,hsz1,<-hszc,ae]);·show new.toArray.toList.take _=_;rw[List.toList_toArray,hneweq];exact List.take_left' hnl
       have I':=k2.inv.Hd (i:=i) (b:=b) (F:=F1++((Fa++(F++Fc))++F3)) (pool':=[]) (w':=w.setRow b new.toArray) hlive hown (setRow_size _ _ _) hoth T
        ⟨_,hor,hxs',by
         show dR _ _ _ _ _ _ (Iw g2.fp i _ i)
         rw[eM]
         exact hrowM.B8 λx C=>T.Sw x (hFS x C),by
         show ∀x∈Iw g2.fp i _ i,g2.S x
         rw[eM]
         exact hFS,by
         show(dp&&b2)=true->Ck base _ (Iw g2.fp i _ i)
         rw[eM]
         exact hown'⟩ wb jb (by
         rintro⟨e0,sz0,xs0,I⟩ x C
         simp at I
         have hp:=(k6 I.2.2.2.2).1
         simp only[jP]at hp
         refine⟨?_,wb⟩
         simp only[qP]at C
         have hdr:kB s2.h i:=⟨e,sz,xs,by rw[hh,I.2.2.2.1]⟩
         rcases C with C|((C|C|C)|C)
         ·exact .inr ⟨hdr,by rw[hF];simp[C]⟩
         ·exact .inr ⟨hdr,by rw[hF];simp[C]⟩
         ·exact .inl (by rw[hp];exact C)
         ·exact .inr ⟨hdr,by rw[hF];simp[C]⟩
         ·exact .inr ⟨hdr,by rw[hF];simp[C]⟩)
       rw[hc.1]at T I'
       exact fin hb2 hrun k1 ⟨_,k2.turn T rfl (IB k2.below (qh k2.fbb p7) _) I'⟩
      ·exact k1.elim
     ·exact k1.elim
    ·exact k1.elim
   ·exact k1.elim
  ·exact q4.elim
 ·exact h.elim
end
section
variable {P:Program}{base N:Nat}{w0:W0}{w:World}{g:Gh}{s:St}{a:Act}{K:St->Prop}{Q:Exit->Act->World->Prop}{o:Oper}{pool:List Nat}
theorem flat_get(l:List Value):∀(n k:Nat),(List.replicate n l).flatten[k]? =if k<n*l.length then l[k%l.length]? else none
 |0,k=>by simp
 |n+1,k=>by
  rw[List.replicate_succ,List.flatten_cons,List.getElem?_append]
  by_cases h:k<l.length
  ·rw[jF h,jF (by rw[Nat.add_mul];omega),Nat.mod_eq_of_lt h]
  ·rw[jG h,flat_get l n (k-l.length)]
   have e:(k-l.length)%l.length=k%l.length:=by rw[<-Nat.mod_eq_sub_mod wg]
   rw[e]
   have:(k-l.length<n*l.length)↔(k<(n+1)*l.length):=by rw[Nat.add_mul];omega
   simp only[this]
theorem S1(z:Array Value)(n:Nat):(madeCells z (n*z.size)).toList=(List.replicate n z.toList).flatten:=by
 apply List.ext_getElem?
 intro k
 rw[flat_get,madeCells,qn]
 by_cases h:k<n*z.size
 ·rw[jF h]
  have C:0<z.size:=by rcases Nat.eq_zero_or_pos z.size with h0|h0;(rw[h0]at h;omega);·exact h0
  have j:k%z.size<z.size:=Nat.mod_lt _ C
  simp[h,j]
 ·rw[jG h];simp;omega
theorem Qx{cs:List SC}{vs:List Value}(h:aU g s.h w cs vs):∀n,aU g s.h w (List.replicate n cs).flatten (List.replicate n vs).flatten
 |0=>by simp[aU]
 |n+1=>by rw[List.replicate_succ,List.replicate_succ,List.flatten_cons,List.flatten_cons];exact h.append (Qx h n)
theorem Sl(place:Nat->Option (Nat×Nat)):∀(parts:List (Nat×Value)) (vals vals':Array Value),Instr.fill place vals parts=some vals'->vals'.size=vals.size
 |[],vals,vals',h=>by simp[Instr.fill]at h;rw[h]
 |(i,v)::rest,vals,vals',h=>by unfold Instr.fill at h;split at h;(cases h);·rename_i j sz C;split at h;(cases h);·have:=Sl place rest _ vals' h;rw[this];have:=(Great.foldl_set j v.cells.toList 0 vals).1;rw[<-Array.foldl_toList,Array.toList_zipIdx];exact this
theorem U5(sz:Nat):∀(n:Nat) {ds:List D} {vs:List Value} {F:List Nat},aM w ds vs F->ds.length=n*sz->bC w (rows sz n ds) vs F/\(rows sz n ds).length=n/\∀x∈rows sz n ds,x.length=sz
 |0,ds,vs,F,h,j=>by have hd:ds=[]:=ql (by simpa using j);subst hd;simp only[aM]at h;simp[rows,bC,h.1,h.2]
 |n+1,ds,vs,F,h,j=>by
  have I:ds=ds.take sz++ds.drop sz:=(qo _ _).symm
  rw[I]at h
  obtain⟨J,U,rfl,h1,h2⟩:=ER h
  have e1:(ds.take sz).length=sz:=by rw[qV];rw[Nat.add_mul]at j;omega
  rw[e1]at h1 h2
  obtain⟨k1,k2,k3⟩:=U5 sz n h2 (by rw[qW];rw[Nat.add_mul]at j;omega)
  refine⟨?_,by simp[rows,k2],?_⟩
  ·simp only[rows,bC];exact⟨vs.take sz,vs.drop sz,J,U,(qo _ _).symm,rfl,h1,k1⟩
  ·intro x C;simp only[rows,qq]at C;rcases C with rfl|C;(exact e1);·exact k3 x C
theorem cM.lab{L:TL}:∀{ds:List D} {l r:Lb} {vs:List Value} {F:List Nat},cM L w ds (l++r) vs F->ds.length<=l.length->cM L w ds l vs F
 |[],l,r,vs,F,h,_=>by simp only[cM]at h⊢;exact h
 |d::ds,[],r,vs,F,h,j=>by simp at j
 |d::ds,x::l,r,vs,F,h,j=>by simp only[cM]at h⊢;obtain⟨v,C,I,J,h1,h2,h3,h4⟩:=h;exact⟨v,C,I,J,h1,h2,h3,cM.lab h4 (by simpa using j)⟩
theorem Sy{L:TL}{e:TypeId}(sz:Nat):∀(n:Nat) {ds:List D} {vs:List Value} {F:List Nat},cM L w ds (List.replicate n (L e)).flatten vs F->ds.length=n*sz->(L e=[]\/(L e).length=sz)->nQ L w (rows sz n ds) e vs F
 |0,ds,vs,F,h,C,_=>by have hd:ds=[]:=ql (by simpa using C);subst hd;simp only[cM]at h;simp[rows,nQ,h.1,h.2]
 |n+1,ds,vs,F,h,C,j=>by
  have I:ds=ds.take sz++ds.drop sz:=(qo _ _).symm
  rw[I]at h
  obtain⟨J,U,rfl,h1,h2⟩:=cM.split h
  have e1:(ds.take sz).length=sz:=by rw[qV];rw[Nat.add_mul]at C;omega
  rw[e1]at h1 h2
  have e2:(List.replicate (n+1) (L e)).flatten=L e++(List.replicate n (L e)).flatten:=by rw[List.replicate_succ,List.flatten_cons]
  rw[e2]at h1 h2
  have h3:cM L w (ds.take sz) (L e) (vs.take sz) J:=by
   rcases j with j|j
   ·have e3:∀m,(List.replicate m (L e)).flatten=[]:=λm=>by rw[j];simp
    rw[e3,qY]at h1
    exact h1
   ·exact h1.lab wg
  have h4:cM L w (ds.drop sz) (List.replicate n (L e)).flatten (vs.drop sz) U:=by
   rcases j with j|j
   ·have e3:∀m,(List.replicate m (L e)).flatten=[]:=λm=>by rw[j];simp
    rw[e3]at h2⊢
    rw[j]at h2
    simpa using h2
   ·rw[<-j,List.drop_left]at h2;rw[<-j];exact h2
  have k1:=Sy sz n h4 (by rw[qW];rw[Nat.add_mul]at C;omega) j
  simp only[rows,nQ]
  exact⟨vs.take sz,vs.drop sz,J,U,(qo _ _).symm,rfl,h3,k1⟩
theorem Qq(R:nV P base w0 N g s a w pool)(j:Nat)(e:TypeId)(sz n:Nat)(vals:Array Value)(xs:List (List D))(dp:Bool)(F:List Nat)(hn:xs.length=n)(C:vals.size=n*sz)(hm:n<=maxLen)(hx:∀x∈xs,x.length=sz)
  (hr:dR g.Q.L dp w e xs vals.toList F)(hF:∀b∈F,g.S b)(hd:dp=true->F.Nodup/\∀b∈F,b∈pool):
  ∃U,nV P base w0 N U (s.fL j ((s.h j).1+1,.row e sz xs dp)) a (w.alloc (.cells vals e)) []/\yM U (s.fL j ((s.h j).1+1,.row e sz xs dp)).h (w.alloc (.cells vals e)) (.v false [.row j ((s.h j).1+1)]) (.slice (some ⟨w.heap.size,0,none⟩) n n):=by
 have hs:w.heap.size<=(w.alloc (.cells vals e)).heap.size:=by simp
 have I:∀b,b<w.heap.size->(w.alloc (.cells vals e)).heap[b]? =w.heap[b]? :=λb hb=>Below.heap_alloc w _ b hb
 have I1:=R.inv.grow hs I
 have J:mA g g s.h s.h w (w.alloc (.cells vals e)):=mA.grow R.inv.S_lt I
 have hfree:Hc g s.h w.heap.size:=⟨λhS=>absurd (R.inv.S_lt _ hS) wg,λj hl hb=>absurd (R.inv.H5 hl hb).2.lt wg⟩
 have I2:=I1.FY (i:=j) (v:=.slice (some ⟨w.heap.size,0,none⟩) n n) (e:=e) (sz:=sz) (xs:=xs) (dp:=dp) (cells:=vals.toList) (F:=F) (pool':=[])
  (by rw[hn];exact⟨by simp[C],.inr ⟨w.heap.size,n,vals,rfl,R.inv.base_le,heap_alloc_new w _,qg _,hm,C,by rw[jf];simp[C]⟩⟩) hx
  (hr.B8 λb hb=>J.Sw b (hF b hb)) hF (by intro b hb;simp[Ds]at hb;subst hb;exact hfree) wb jb (λh=>⟨(hd h).1,λb hb=>⟨(hd h).2 b hb,wb⟩⟩)
 have T2:=mA.create (g:=g) (h:=s.h) (w:=w.alloc (.cells vals e)) j (.slice (some ⟨w.heap.size,0,none⟩) n n) F (.row e sz xs dp)
 refine⟨_,R.turn (J.trans T2) rfl (R.below.alloc (qh R.fbb R.inv.base_le) _) I2,⟨_,[],rfl,⟨rfl,?_,?_⟩,rfl⟩⟩
 ·show _<=(pZ s.h j _ j).1;rw[bR];exact qg _
 ·intro _ e' sz' xs' dp' _;show _=Iw g.val _ _ _;rw[eM]
theorem O5{t e:TypeId}{C:TypeInfo}(J:P.underlying t=some (.slice e))(j:P.info? e=some C)(parts:Array (Nat×Value))(cells:Array Value)(h:Instr.fill (λi=>some (i*C.size,C.size)) #[] parts.toList=some cells)(w:World):
  (Instr.buildSlice t 0 parts).run P w=.ok (.slice (some ⟨w.heap.size,0,none⟩) 0 0) (w.alloc (.cells cells e)):=by
 have I:(Array.range 0)= #[]:=rfl
 simp[Instr.buildSlice,run_underlying J,sizeOf,typeInfo,j,I,h,newRow]
theorem PX{t:TypeId}{len:Nat}{parts:Array (Nat×Operand)}(ho:o.op=.buildSlice t len parts)(R:nV P base w0 N g s a w [])(h:ex P (CN (fM P) N o) s K):o.wp P a w (Aft P base w0 N K) Q:=by
 simp only[CN,ho]at h
 split at h
 ·rename_i d e sz0 by0 z0 cm0 sl0 hd hti
  obtain⟨i,dd,z,h1,h2,h3,h4,_⟩:=(eH hti).ok
  obtain rfl:=EL h4
  split at h
  ·rename_i j hte
   obtain⟨ie,de,ze,e1,e2,e3,e4,e5,e6,e7,e8,e9⟩:=(eH hte).ok
   split at h
   ·rename_i hlim
    have hz:aU g s.h w ((List.replicate len j.zero).flatten) (madeCells ze.cells (len*ze.cells.size)).toList:=by rw[S1];exact Qx (Hv e5 _ _ _) len
    obtain⟨cs,vals',C,k2,k3⟩:=HD R _ hz h
    obtain⟨g2,s2,ds,b,F,pool2,m1,m2,m3,m3t,m4,m5,m6⟩:=Hr R k2 k3
    simp only[ex]at m1
    have hsz:vals'.size=len*j.size:=by rw[Sl _ _ _ _ C,size_madeCells,e6,e7]
    have I:ds.length=len*j.size:=by rw[<-m4.length];simpa using hsz
    obtain⟨r1,r2,r3⟩:=U5 j.size len m4 I
    have hlm:len<=maxLen:=by simp only[maxLen];have:=Nat.le_mul_of_pos_right len hlim.2.1;omega
    obtain⟨g3,R3,hv⟩:=Qq m2 (rid d 0) e j.size len vals' (rows j.size len ds) b F r2 hsz hlm r3 (by
     cases hb:b with
     |false=>exact r1
     |true=>
      have hs:=(m6 hb).2
      rw[<-m3.Q]at hs
      rcases m2.lab.2 with hl|hl
      ·have J:g2.Q.L e=j.sl:=by rw[m2.lab.1,hl];exact(eH hte).sl.symm
       exact Sy j.size len (by rw[J];exact hs) I (by rw[J];exact hlim.2.2)
      ·rw[m2.lab.1,hl];exact dR.WX r1) m5 (λhb=>by
     have hp:=(m6 hb).1
     simp only[jP]at hp
     have hpo:=m2.inv.pool_own.1
     rw[hp]at hpo⊢
     exact⟨hpo,λ_ x=>x⟩)
    obtain⟨s4,p1,p2⟩:=Eo R3 hv m1
    refine FN (v:=.slice (some ⟨w.heap.size,0,none⟩) len len) (w':=w.alloc (.cells vals' e)) ?_ ⟨s4,p1,g3,hd ▸ p2⟩
    have U:(parts.map λ(i,x)=>(i,a.eval x)).toList=parts.toList.map λx=>(x.1,a.eval x.2):=by rw[Array.toList_map]
    rw[e6]at C
    by_cases h0:len*ie.size=0
    ·have hfill:Instr.fill (λi=>some (i*ie.size,ie.size)) #[] (parts.map λ(i,x)=>(i,a.eval x)).toList=some vals':=by
      rw[U]
      have:madeCells ze.cells (len*ie.size)= #[]:=Array.eq_empty_of_size_eq_zero (by rw[size_madeCells,h0])
      rw[this,<-e7]at C
      exact C
     have hl0:len=0:=by rcases Nat.mul_eq_zero.1 h0 with h'|h';(exact h');·omega
     have hrun:=O5 (P:=P) h2 e1 _ vals' hfill w
     subst hl0
     simp only[execOp,ho,qs,hrun,qi,qu]
    ·have hrun:=run_buildSlice (P:=P) w t e len (parts.map λ(i,x)=>(i,a.eval x)) vals' ie ze h2 e1 e3 (by rw[e7];omega) h0 (by rw[U,e7];rw[e7]at C;exact C);simp only[execOp,ho,qs,hrun,qi,qu]
   ·exact h.elim
  ·exact h.elim
 ·exact h.elim
theorem Vk:∀{vs:List Value} {cs:List SC} (ts:Lb),Ru vs=some cs->∃ds b,(∀k:List D->Bool->Prog,DD cs ts k=k ds b)/\∀w:World,aM w ds vs []/\∀L:TL,b=true->cM L w ds ts vs []
 |[],cs,ts,h=>by simp[Ru]at h;subst h;exact⟨[],true,λk=>rfl,λw=>⟨wK,λL _=>by simp[cM]⟩⟩
 |v::vs,cs,ts,h=>by
  simp only[Ru]at h
  split at h
  ·rename_i c I hc J
   cases h
   obtain⟨ds,b,C,U⟩:=Vk ts.tail J
   have one:∃d j,(∀k:List D->Bool->Prog,DD (c::I) ts k=k (d::ds) j)/\∀w:World,Rep w d v []/\∀L:TL,j=true->b=true/\E4 L w d (lab ts) v []:=by
    unfold aEo at hc
    split at hc<;>cases hc
    ·rename_i kk nn;exact⟨.int kk nn,b,λk=>by simp[DD,C,D.flat],λw=>⟨wW,λL hb=>⟨hb,by simp[E4]⟩⟩⟩
    ·rename_i bb;exact⟨.bool bb,b,λk=>by simp[DD,C,D.flat],λw=>⟨wW,λL hb=>⟨hb,by simp[E4]⟩⟩⟩
    ·rename_i ss;exact⟨.str ss,b,λk=>by simp[DD,C,D.flat],λw=>⟨wW,λL hb=>⟨hb,by simp[E4]⟩⟩⟩
    ·refine⟨.sl [],b,λk=>by simp[DD,C],λw=>⟨by simp only[Rep];exact⟨none,0,0,rfl,rfl,qg _,.inl wb⟩,λL hb=>⟨hb,?_⟩⟩⟩
     cases lab ts with
     |none=>simp only[E4,Rep];exact⟨none,0,0,rfl,rfl,qg _,.inl wb⟩
     |some t=>simp only[E4];exact⟨[],[],World.ownsRow_nil w 0 t.1 t.2,wb,rfl,wU⟩
   obtain⟨d,j,m1,m2⟩:=one
   exact⟨d::ds,j,m1,λw=>⟨by simp only[aM];exact⟨v,vs,[],[],rfl,rfl,(m2 w).1,(U w).1⟩,λL hb=>by obtain⟨n1,n2⟩:=(m2 w).2 L hb;simp only[cM];exact⟨v,vs,[],[],rfl,rfl,n2,(U w).2 L n1⟩⟩⟩
  ·cases h
theorem VW{L:TL}{b:Bool}{e:TypeId}{ds:List D}{vs:List Value}(h:Bf L b w (L e) ds vs []):∀n,dR L b w e (List.replicate n ds) (List.replicate n vs).flatten []
 |0=>by simpa using dR.nil
 |n+1=>by rw[List.replicate_succ,List.replicate_succ,List.flatten_cons];exact dR.append (xs:=[ds]) (F:=[]) (G:=[]) (dR.one h) (VW h n)
theorem RK{t:TypeId}{l c:Operand}(ho:o.op=.makeSlice t l c)(R:nV P base w0 N g s a w [])(h:ex P (CN (fM P) N o) s K):o.wp P a w (Aft P base w0 N K) Q:=by
 simp only[CN,ho]at h
 split at h
 ·rename_i d e sz0 by0 z0 cm0 sl0 hd hti
  obtain⟨i,dd,z,h1,h2,h3,h4,_⟩:=(eH hti).ok
  obtain rfl:=EL h4
  split at h
  ·rename_i te I
   obtain⟨C,de,J,e1,e2,e3,e4,e5,e6,e7,e8,e9⟩:=(eH I).ok
   obtain⟨sl,q1,q2⟩:=cN R h
   obtain⟨sc,q3,j⟩:=cN R q2
   split at j
   ·rename_i k n k' m
    obtain⟨⟨rfl,hn,hby,aa,hpos⟩,j⟩:=j
    obtain⟨ds,b,k1,k2⟩:=Vk te.sl e5
    rw[k1]at j
    simp only[ex]at j
    have U:ds.length=te.size:=by have:=(k2 w).1.length;simp only[qn]at this;omega
    have hmade:(madeCells J.cells (n.toNat*C.size)).toList=(List.replicate n.toNat J.cells.toList).flatten:=by rw[<-e6];exact S1 _ _
    obtain⟨g3,R3,hv⟩:=Qq R (rid d 0) e te.size n.toNat (madeCells J.cells (n.toNat*C.size)) (List.replicate n.toNat ds) b [] wb (by rw[size_madeCells,e7]) (by simp only[maxLen];omega)
     (by intro x hx;rw[(List.mem_replicate.1 hx).2];exact U) (by
      rw[hmade]
      refine VW ?_ _
      cases hb:b with
      |false=>exact(k2 w).1
      |true=>
       have:=cM.toL R I 0 (by rw[List.drop_zero];exact(k2 w).2 _ hb)
       rw[List.drop_zero]at this
       exact this) wb (λ_=>⟨jb,wb⟩)
    obtain⟨s4,p1,p2⟩:=Eo R3 hv j
    refine FN (v:=.slice (some ⟨w.heap.size,0,none⟩) n.toNat n.toNat) (w':=w.alloc (.cells (madeCells J.cells (n.toNat*C.size)) e)) ?_ ⟨s4,p1,g3,hd ▸ p2⟩
    have hb:(C.bytes:Int)*n<=281474976710656:=by
     have h':((C.bytes*n.toNat:Nat):Int)<=140737488355328:=by rw[e8,Nat.mul_comm];omega
     rw[Int.natCast_mul,jT hn]at h'
     omega
    have hrun:=run_make (P:=P) w t e C J h2 e1 e3 k k' n n hn (Int.le_refl _) hb aa
    simp only[execOp,ho,oN q1,oN q3,qs,hrun,qi,qu]
   ·exact j.elim
  ·exact h.elim
 ·exact h.elim
end
open Go.Lib
theorem EJ(j:Array Value)(k:Nat):(Builtin.zeroCells j k).size=k*j.size:=by
 unfold Builtin.zeroCells
 induction k with
 |zero=>simp
 |succ k C=>simp[Nat.succ_mul]
theorem UJ{P:Program}(w:World)(t e ty:TypeId)(z:Value)(I:P.underlying t=some (.slice e))(J:∀w,(zeroValue e).run P w=.ok z w)(b o n c:Nat)(cur:Array Value)(C:TypeId)(U:0<n)(hb:w.heap[b]? =some (.cells cur C (0,0)))(hfit:o+n*z.cells.size<=cur.size)(h1:∀u∈(Builtin.zeroCells z.cells n).toList,u.oneCell'=true):
  (Builtin.clear_ #[t] ty #[.slice (some ⟨b,o,none⟩) n c]).run P w=.ok (.tuple #[]) (w.setRow b (cur.toList.take o++(Builtin.zeroCells z.cells n).toList++cur.toList.drop (o+(Builtin.zeroCells z.cells n).toList.length)).toArray):=by
 have j:=run_storeCells_at P b o C (Builtin.zeroCells z.cells n).toList 0 cur w hb (by rw[qn,EJ,Nat.add_zero];exact hfit) h1
 simp only[Nat.add_zero]at j
 obtain⟨m,rfl⟩:∃m,n=m+1:=⟨n-1,wg⟩
 simp[Builtin.clear_,run_underlying I,J,j]
theorem K5{C:Array Value}{k:Nat}{u:Value}(h1:∀x∈C.toList,x.oneCell'=true)(h:u∈(Builtin.zeroCells C k).toList):u.oneCell'=true:=by
 obtain⟨j,J,rfl⟩:=List.mem_iff_getElem.1 h
 have I:j<k*C.size:=by rw[qn,EJ]at J;exact J
 have hz:0<C.size:=by rcases Nat.eq_zero_or_pos C.size with h0|h0;(rw[h0]at I;omega);·exact h0
 have U:j%C.size<C.size:=Nat.mod_lt _ hz
 have e:(Builtin.zeroCells C k).toList[j]=C[j%C.size]:=by simp[Builtin.zeroCells,getElem!_pos C (j%C.size) U]
 rw[e]
 exact h1 _ wb
section
variable {P:Program}{base N:Nat}{w0:W0}{w:World}{g:Gh}{s:St}{a:Act}{K:St->Prop}{Q:Exit->Act->World->Prop}{o:Oper}
theorem Ya{as:Array Operand}{ts:Array TypeId}(ho:o.op=.call { callee:=.builtin .clear,args:=as,argTypes:=ts })(R:nV P base w0 N g s a w [])(h:ex P (CN (fM P) N o) s K):o.wp P a w (Aft P base w0 N K) Q:=by
 simp only[CN,ho]at h
 split at h
 ·rename_i x t hs ht
  have hs:=aA8 hs
  have ht:=aA8 ht
  subst hs ht
  split at h
  ·rename_i e sz0 by0 z0 cm0 sl0 hti
   split at h
   ·rename_i te hte
    obtain⟨sv,q1,q2⟩:=cN R h
    unfold UY at q2
    split at q2
    ·rename_i i ver lo n hd
     simp only[ex]at q2
     split at q2
     ·rename_i e' sz' xs dp hh
      split at q2
      ·rename_i hc
       obtain⟨hv,he,hz⟩:=hc
       simp only[ex]at q2
       obtain⟨⟨hfl,hln⟩,q3⟩:=q2
       subst he hz
       obtain⟨h1,h2,h3⟩:=eZ q1
       obtain⟨ad,c,hval,k2,k3,k4⟩:=h3 hv _ _ _ _ hh
       have hflat:dp=true->∀y∈xs,y.all D.flat=true:=λhd'=>by rw[jF hd']at hfl;exact qR.1 hfl
       have hob:=R.inv.obj i
       rw[hh]at hob
       obtain⟨cells,p1,p2,p3,p4,p5⟩:=hob
       have hlive:live s.h i:=by unfold live;rw[hh];simp
       have hsi:s.h i=(ver,.row e' te.size xs dp):=by rw[<-hv,<-hh]
       obtain⟨it,dt,zt,u1,u2,u3,u4,_⟩:=(eH hti).ok
       have hus:P.underlying t=some (.slice e'):=by rw[u2,EL u4]
       obtain⟨ie,de,ze,e1,e2,e3,e4,e5,e6,e7,_⟩:=(eH hte).ok
       have zv:∀w,(zeroValue e').run P w=.ok ze w:=λw=>by simp[zeroValue,typeInfo,e1,e3]
       have fin:∀w',(Builtin.clear_ #[t] o.type #[a.eval x]).run P w=.ok (.tuple #[]) w'->Rel P base w0 N (s.fL i (ver,.row e' te.size (xs.take lo++List.replicate n (List.replicate te.size .opq)) dp)) a w'->o.wp P a w (Aft P base w0 N K) Q:=by intro w' hrun hR;refine FN (v:=.tuple #[]) (w':=w') ?_ ⟨_,q3,?_⟩;(simp[execOp,ho,resolve,invoke,builtin,hrun]);·rw[hd];exact hR
       rcases Nat.eq_zero_or_pos n with h0|hn
       ·subst h0
        refine fin w ?_ ?_
        ·rw[hval];cases ad<;>simp[Builtin.clear_,run_underlying hus]
        ·have e0:xs.take lo++List.replicate 0 (List.replicate te.size D.opq)=xs:=by
          rw[List.replicate_zero,qY,jf wg]
         rw[e0]
         have e9:s.fL i (ver,.row e' te.size xs dp)=s:=by rw[<-hsi];unfold St.fL;congr 1;funext j;by_cases hj:j=i;(rw[jF hj,hj]);·rw[jG hj]
         rw[e9]
         exact⟨g,R⟩
       ·rcases k3 with k3|⟨b,m,c',k5,k6,k7⟩
        ·omega
        rcases p1.2 with⟨hnil,_⟩|⟨b',cap,cur,hv1,hb1,hb2,hb3,hb4,hb5,htk⟩
        ·rw[hnil]at k5;cases k5
        have hbb:b'=b:=by rw[k5]at hv1;simp at hv1;exact hv1.1.symm
        subst hbb
        have hown:Ds (g.val i)=some b':=by rw[k5];rfl
        have hnS:=R.inv.mtb i b' hlive hown
        have hzs:ze.cells.size=te.size:=e6.trans e7
        have hz1:∀u∈ze.cells.toList,u.oneCell'=true:=(Hv e5 g s.h w).one
        have hcl:cells.length=xs.length*te.size:=p1.1
        have hle:xs.length*te.size<=cap*te.size:=qj _ hb3
        have hlm:lo*te.size+n*te.size=xs.length*te.size:=by rw[<-Nat.add_mul,hln]
        have hrun:=UJ (P:=P) w t e' o.type ze hus zv b' (lo*te.size) n c cur e' hn hb2 (by rw[hzs,hb5];omega) (λu hu=>K5 hz1 hu)
        have hzl:(Builtin.zeroCells ze.cells n).toList.length=n*te.size:=by rw[qn,EJ,hzs]
        have hoth:∀k,k≠b'->(w.setRow b' (cur.toList.take (lo*te.size)++(Builtin.zeroCells ze.cells n).toList++cur.toList.drop (lo*te.size+(Builtin.zeroCells ze.cells n).toList.length)).toArray).heap[k]? =w.heap[k]? :=λk hk=>setRow_other w b' k _ hk
        have hxs':∀y∈xs.take lo++List.replicate n (List.replicate te.size D.opq),y.length=te.size:=by intro y hy;rcases qP.1 hy with hy|hy;(exact p2 y (qk hy));·rw[(List.mem_replicate.1 hy).2,jB]
        have hls:(xs.take lo++List.replicate n (List.replicate te.size D.opq)).length=xs.length:=by simp only[qE,qV,jB];omega
        have hsp:bC w (xs.take lo++xs.drop lo) cells (g.fp i):=by rw[qo];exact p3.rep
        obtain⟨v1,v2,F1,F2,hcs,hF,m1,m2⟩:=bC.split hsp
        have hF1:dp=true->F1=[]:=λhd'=>Rz m1 λy hy=>hflat hd' y (qk hy)
        have hv1l:v1.length=lo*te.size:=by
         have:=bC.length m1 λy hy=>p2 y (qk hy)
         rw[this,qV,jW wg]
        have htk1:cur.toList.take (lo*te.size)=v1:=by
         have:cur.toList.take (lo*te.size)=cells.take (lo*te.size):=by rw[<-htk,List.take_take,jW wg]
         rw[this,hcs,<-hv1l,List.take_left]
        have hrow:bC w (xs.take lo++List.replicate n (List.replicate te.size D.opq)) (v1++(Builtin.zeroCells ze.cells n).toList) (F1++[]):=
         bC.append m1 (KP hzl λu hu=>K5 hz1 hu)
        have hnl:(v1++(Builtin.zeroCells ze.cells n).toList).length=xs.length*te.size:=by rw[qE,hv1l,hzl,hlm]
        have hor:(w.setRow b' (cur.toList.take (lo*te.size)++(Builtin.zeroCells ze.cells n).toList++cur.toList.drop (lo*te.size+(Builtin.zeroCells ze.cells n).toList.length)).toArray).ownsRow base e' te.size (g.val i) (xs.take lo++List.replicate n (List.replicate te.size D.opq)).length (v1++(Builtin.zeroCells ze.cells n).toList):=by rw[hls];refine⟨hnl,.inr ⟨b',cap,_,hv1,hb1,setRow_heap w b' cur _ e' _ hb2,hb3,hb4,?_,?_⟩⟩;(simp only[jZ,qE,qV,qW,hzl,qn,hb5];omega);·rw[List.toList_toArray,htk1];exact List.take_left' hnl
        have T:mA g { g with fp:=Iw g.fp i (F1++[]) } s.h (Sh.pZ s.h i ((s.h i).1,.row e' te.size (xs.take lo++List.replicate n (List.replicate te.size D.opq)) dp)) w _:=
         mA.Hd hnS hoth (by intro e0 sz0 xs0 dp0 hh';cases hh';exact⟨_,_,hh⟩) (by intro t0 cs0 hh';cases hh')
        have hrow2:dR g.Q.L dp (w.setRow b' (cur.toList.take (lo*te.size)++(Builtin.zeroCells ze.cells n).toList++cur.toList.drop (lo*te.size+(Builtin.zeroCells ze.cells n).toList.length)).toArray) e' (xs.take lo++List.replicate n (List.replicate te.size D.opq)) (v1++(Builtin.zeroCells ze.cells n).toList) (F1++[]):=by
         have hk:=bC.B8 _ _ _ hrow λb hb=>T.Sw b (p4 b (by rw[hF];simp at hb;simp[hb]))
         cases hdp:dp with
         |false=>exact hk
         |true=>
          refine dR.flat hk λy hy=> ?_
          rcases qP.1 hy with hy|hy
          ·exact hflat hdp y (qk hy)
          ·exact VU _ _ y hy
        have I':=R.inv.Hd (i:=i) (b:=b') (F:=F1++[]) (pool':=[]) hlive hown (setRow_size _ _ _) hoth T
         ⟨_,hor,hxs',by
          show dR _ _ _ _ _ _ (Iw g.fp i _ i)
          rw[eM]
          exact hrow2,by
          show ∀x∈Iw g.fp i _ i,g.S x
          rw[eM]
          exact λx hx=>p4 x (by rw[hF];simp at hx;simp[hx]),by
          show dp=true->Ck base _ (Iw g.fp i _ i)
          rw[eM]
          intro hdp
          rw[hF1 hdp]
          exact Ck.nil _ _⟩ wb jb (by
          rintro⟨e1,z1,xs1,hh'⟩ x hx
          simp at hh'
          rw[hF1 hh'.2.2.2]at hx
          simp at hx)
        rw[hv]at T I'
        refine fin _ (by rw[hval,k7];exact hrun) ⟨_,R.turn T rfl (IB R.below (qh R.fbb hb1) _) I'⟩
      ·exact q2.elim
     ·exact q2.elim
    ·exact q2.elim
   ·exact h.elim
  ·exact h.elim
 ·exact h.elim
end
end Go.Sh
namespace Go.Sh
open Go.RowKit
section
variable {P:Program}{base N:Nat}{w0:W0}{w:World}{g:Gh}{s:St}{a:Act}{K:St->Prop}{Q:Exit->Act->World->Prop}{o:Oper}
theorem aBf(R:nV P base w0 N g s a w [])(h:ex P (CN (fM P) N o) s K):o.wp P a w (Aft P base w0 N K) Q:=by
 cases hop:o.op with
 |move x=>exact aBq (.inl hop) R (by simpa only[CN,hop]using h)
 |assign x=>exact aBq (.inr hop) R (by simpa only[CN,hop]using h)
 |pick c x y=>exact aBV hop R h
 |alloc t=>exact Y4 hop R h
 |box t x=>exact aCT hop R h
 |build t j=>exact YI hop R h
 |buildSlice t l j=>exact PX hop R h
 |load t x=>exact aAR hop R h
 |store t x y=>exact YS hop R h
 |binOp op t x y ty=>exact XA hop R h
 |unOp op t x=>
  cases op with
  |not=>exact aDH hop R h
  |neg=>exact aCf hop R h
  |_=>exact(by simp only[CN,hop,ex]at h)
 |convert t u x=>exact Ub hop R h
 |makeFunc fn f c=>
  cases fn with
  |func f=>exact SL hop R h
  |_=>exact(by simp only[CN,hop,ex]at h)
 |makeSlice t l c=>exact RK hop R h
 |slice t x l C m=>
  cases m with
  |none=>exact X6 hop R h
  |some m=>exact(by simp only[CN,hop,ex]at h)
 |fieldAddr t x f=>exact QT hop R h
 |field t x f=>exact Yn hop R h
 |indexAddr t x i=>exact QV hop R h
 |index t x i=>exact Yv hop R h
 |extract x i=>exact Ua hop R h
 |nilCheck x=>exact S0 hop R h
 |call c=>
  obtain⟨callee,as,ts⟩:=c
  cases callee with
  |value f=>
   cases f with
   |tmp t=>exact Wq hop R h
   |func f=>exact Wr hop R h trivial
   |_=>exact(by simp only[CN,hop,ex]at h)
  |invoke r m=>exact(by simp only[CN,hop,ex]at h)
  |builtin b=>
   cases b with
   |len=>exact aB5 hop R h
   |min=>exact aCo hop R h
   |max=>exact aCX hop R h
   |append=>exact WI hop R h
   |clear=>exact Ya hop R h
   |_=>exact(by simp only[CN,hop,ex]at h)
 |_=>exact(by simp only[CN,hop,ex]at h)
theorem aAB{b:Bool}{t:Nat}(h:a.tmps.getD t undef=.bool b):a.tmps[t]? =some (.bool b):=by
 rw[jN]at h
 cases hh:a.tmps[t]? with
 |none=>rw[hh]at h;simp[undef]at h
 |some v=>rw[hh]at h;simp at h;rw[h]
theorem Uo{ops:Array Oper}{i:Nat}(hi:ops[i]? =some o)(R:Rel P base w0 N s a w)(h:ex P (evG (fM P) N ops o) s K):wpOp P ops Q i (Aft P base w0 N K) a w:=by
 obtain⟨g,R⟩:=R
 unfold wpOp
 simp only[hi]
 unfold evG at h
 split at h
 ·rename_i J;rw[jF (by simp[Region.wanted,J])];exact .inl (aBf R h)
 ·rename_i j want J
  split at h
  ·rename_i t ht
   simp only[ex]at h
   have C:=R.tmp t
   have skip:Region.wanted o (yielded ops a.tmps)=false->ex P (put N o.dst .undef) s K->(if Region.wanted o (yielded ops a.tmps)=true then o.wp P a w (Aft P base w0 N K) Q\/o.asks P a w/\LetsOut Q else Aft P base w0 N K (a.put o.dst undef) w):=by intro hw hk;rw[jG (by rw[hw];simp)];obtain⟨s',h1,h2⟩:=Eo R (sv:=.undef) (v:=undef) rfl hk;exact⟨s',h1,g,h2⟩
   split at h
   ·rename_i b hb
    rw[hb]at C
    have U:=aAB (Fw C)
    have hy:yielded ops a.tmps j=some b:=by unfold yielded;rw[ht];simp[U]
    split at h
    ·rename_i I;rw[jF (by simp[Region.wanted,J,hy,I])];exact .inl (aBf R h)
    ·rename_i I;exact skip (by simp[Region.wanted,J,hy,I]) h
   ·rename_i hb
    rw[hb]at C
    have U:a.tmps.getD t undef=undef:=C
    have hy:yielded ops a.tmps j=none:=by
     unfold yielded;rw[ht]
     simp only[qA]
     cases hh:a.tmps[t]? with
     |none=>rfl
     |some v=>
      rw[jN,hh]at U
      simp at U
      rw[U]
      rfl
    exact skip (by simp[Region.wanted,J,hy]) h
   ·exact h.elim
  ·exact h.elim
theorem UI{ops:Array Oper}{K:St->Prop}:∀(l:List Oper) (i:Nat) {s:St} {a:Act} {w:World},ops.toList.drop i=l->Rel P base w0 N s a w->tQ P (fM P) N ops l s K->
  (∀U j w',K U->Rel P base w0 N U j w'->Q .normal j w')->wpOps P ops Q (List.range' i l.length) a w
 |[],i,s,a,w,C,R,h,J=>by simp only[qK,List.range'_zero,wpOps];exact J s a w h R
 |o::l,i,s,a,w,C,R,h,J=>by
  simp only[qJ,List.range'_succ]
  rw[wpOps_cons]
  have hi:ops[i]? =some o:=by
   have:(ops.toList.drop i)[0]? =some o:=by rw[C];rfl
   rw[List.getElem?_drop]at this
   simpa using this
  have I:ops.toList.drop (i+1)=l:=by rw[<-List.drop_drop,C];rfl
  refine wpOp_mono ?_ (Uo hi R h)
  rintro j w' ⟨U,k1,k2⟩
  exact UI l (i+1) I k2 k1 J
theorem Xb{ops:Array Oper}{id:Nat}{K:St->Prop}(R:Rel P base w0 N s a w)(h:tQ P (fM P) N ops ops.toList s K)(C:∀s' j w',K s'->Rel P base w0 N s' j w'->Q .normal j w'):(Code.region id ops false).wp P Q a w:=by refine wp_region ?_;have:=UI (Q:=Q) ops.toList 0 wb R h C;rwa [qn,<-List.range_eq_range']at this
end
inductive Run (P:Program):Prog->St->St->List Loc->List Loc->Prop where
 |done (s:St):Run P .done s s [] []
 |getT {t:Nat} {k:SV->Prog} {s s':St} {R W:List Loc} (h:Run P (k (s.t t)) s s' R W):Run P (.getT t k) s s' (.t t::R) W
 |Ix {t:Nat} {v:SV} {k:Prog} {s s':St} {R W:List Loc} (h:Run P k (s.Ix t v) s' R W):Run P (.Ix t v k) s s' R (.t t::W)
 |getH {i:Nat} {k:Nat×E7->Prog} {s s':St} {R W:List Loc} (h:Run P (k (s.h i)) s s' R W):Run P (.getH i k) s s' (.h i::R) W
 |fL {i:Nat} {x:Nat×E7} {k:Prog} {s s':St} {R W:List Loc} (h:Run P k (s.fL i x) s' R W):Run P (.fL i x k) s s' R (.h i::W)
 |call {f:FuncId} {args:List (Bool×List D)} {k:List (Bool×List RC)->Prog} {rs:List (Bool×List RC)} {s s':St} {R W:List Loc} (hc:lE P f args rs) (h:Run P (k rs) s s' R W):Run P (.call f args k) s s' R W
 |must {p:Prop} {k:Prog} {s s':St} {R W:List Loc} (hp:p) (h:Run P k s s' R W):Run P (.must p k) s s' R W
def Agr(s τ:St):Loc->Prop
 | .t i=>s.t i=τ.t i
 | .h i=>s.h i=τ.h i
 | .f i=>s.fr i=τ.fr i
theorem Agr.symm{s τ:St}{l:Loc}(h:Agr s τ l):Agr τ s l:=by cases l<;>exact Eq.symm h
theorem Agr.trans{s τ u:St}{l:Loc}(h:Agr s τ l)(k:Agr τ u l):Agr s u l:=by cases l<;>exact Eq.trans h k
theorem Agr.aGn{s:St}{l:Loc}:Agr s s l:=by cases l<;>rfl
theorem St.ext'{s τ:St}(h:∀l,Agr s τ l):s=τ:=by
 cases s with
 |mk t1 h1 f1=>cases τ with
  |mk t2 h2 f2=>
   have e1:t1=t2:=funext λi=>h (.t i)
   have e2:h1=h2:=funext λi=>h (.h i)
   have e3:f1=f2:=funext λi=>h (.f i)
   rw[e1,e2,e3]
theorem VT{s τ:St}{t:Nat}{v:SV}{l:Loc}(h:l=.t t\/Agr s τ l):Agr (s.Ix t v) (τ.Ix t v) l:=by
 cases l with
 |t i=>
  show(s.Ix t v).t i=(τ.Ix t v).t i
  rw[St.M9,St.M9]
  by_cases hi:i=t
  ·simp[hi]
  ·rcases h with h|h;(cases h;exact absurd rfl hi);·simp only[hi,jH];exact h
 |h i=>
  rcases h with h|h
  ·cases h
  ·exact h
 |f i=>
  rcases h with h|h
  ·cases h
  ·exact h
theorem VK{s τ:St}{t:Nat}{v:Nat×E7}{l:Loc}(h:l=.h t\/Agr s τ l):Agr (s.fL t v) (τ.fL t v) l:=by
 cases l with
 |h i=>
  show(s.fL t v).h i=(τ.fL t v).h i
  rw[St.OY,St.OY]
  by_cases hi:i=t
  ·simp[hi]
  ·rcases h with h|h;(cases h;exact absurd rfl hi);·simp only[hi,jH];exact h
 |t i=>
  rcases h with h|h
  ·cases h
  ·exact h
 |f i=>
  rcases h with h|h
  ·cases h
  ·exact h
theorem LR{s:St}{t:Nat}{v:SV}{l:Loc}(h:l≠ .t t):Agr s (s.Ix t v) l:=by
 cases l with
 |t i=>
  show s.t i=(s.Ix t v).t i
  rw[St.M9,jG (λe=>h (by rw[e]))]
 |h i=>rfl
 |f i=>rfl
theorem KT{s:St}{t:Nat}{v:Nat×E7}{l:Loc}(h:l≠ .h t):Agr s (s.fL t v) l:=by
 cases l with
 |h i=>
  show s.h i=(s.fL t v).h i
  rw[St.OY,jG (λe=>h (by rw[e]))]
 |t i=>rfl
 |f i=>rfl
theorem Run.loc{P:Program}{p:Prog}{s s':St}{R W:List Loc}(h:Run P p s s' R W):(∀l,l∉W->Agr s s' l)/\
  ∀τ:St,(∀l∈R,Agr s τ l)->∃τ',Run P p τ τ' R W/\(∀l∈W,Agr s' τ' l)/\∀l,l∉W->Agr τ τ' l:=by
 induction h with
 |done s=>exact⟨λ_ _=>Agr.aGn,λτ _=>⟨τ,.done τ,wb,λ_ _=>Agr.aGn⟩⟩
 |@getT t k s s' R W h C=>
  refine⟨C.1,λτ hτ=> ?_⟩
  obtain⟨τ',I,U,J⟩:=C.2 τ λl j=>hτ l (by simp[j])
  have e:s.t t=τ.t t:=hτ (.t t) wb
  rw[e]at I
  exact⟨τ',.getT I,U,J⟩
 |@Ix t v k s s' R W h C=>
  refine⟨λl j=> ?_,λτ hτ=> ?_⟩
  ·have h1:l≠ .t t:=λe=>j wZ
   have h2:l∉W:=λe=>j wZ
   exact(LR h1).trans (C.1 l h2)
  ·obtain⟨τ',I,U,J⟩:=C.2 (τ.Ix t v) λl j=>VT (.inr (hτ l j))
   refine⟨τ',.Ix I,λl j=> ?_,λl j=> ?_⟩
   ·by_cases hw:l∈W
    ·exact U l hw
    ·have hlt:l=.t t:=by
      rcases qq.1 j with h|h
      ·exact h
      ·exact absurd h hw
     exact((C.1 l hw).symm.trans (VT (.inl hlt))).trans (J l hw)
   ·have h1:l≠ .t t:=λe=>j wZ
    have h2:l∉W:=λe=>j wZ
    exact(LR h1).trans (J l h2)
 |@getH i k s s' R W h C=>
  refine⟨C.1,λτ hτ=> ?_⟩
  obtain⟨τ',I,U,J⟩:=C.2 τ λl j=>hτ l (by simp[j])
  have e:s.h i=τ.h i:=hτ (.h i) wb
  rw[e]at I
  exact⟨τ',.getH I,U,J⟩
 |@fL t v k s s' R W h C=>
  refine⟨λl j=> ?_,λτ hτ=> ?_⟩
  ·have h1:l≠ .h t:=λe=>j wZ
   have h2:l∉W:=λe=>j wZ
   exact(KT h1).trans (C.1 l h2)
  ·obtain⟨τ',I,U,J⟩:=C.2 (τ.fL t v) λl j=>VK (.inr (hτ l j))
   refine⟨τ',.fL I,λl j=> ?_,λl j=> ?_⟩
   ·by_cases hw:l∈W
    ·exact U l hw
    ·have hlt:l=.h t:=by
      rcases qq.1 j with h|h
      ·exact h
      ·exact absurd h hw
     exact((C.1 l hw).symm.trans (VK (.inl hlt))).trans (J l hw)
   ·have h1:l≠ .h t:=λe=>j wZ
    have h2:l∉W:=λe=>j wZ
    exact(KT h1).trans (J l h2)
 |call hc h C=>
  refine⟨C.1,λτ hτ=> ?_⟩
  obtain⟨τ',I,U,J⟩:=C.2 τ hτ
  exact⟨τ',.call hc I,U,J⟩
 |must hp h C=>
  refine⟨C.1,λτ hτ=> ?_⟩
  obtain⟨τ',I,U,J⟩:=C.2 τ hτ
  exact⟨τ',.must hp I,U,J⟩
def aEO(R W C j:List Loc):Prop:=(∀l∈W,l∉C/\l∉j)/\∀l∈j,l∉R
theorem Run.swap{P:Program}{p q:Prog}{s s1 s2:St}{R W U J:List Loc}(h:Run P p s s1 R W)(k:Run P q s1 s2 U J)(ha:aEO R W U J):
  ∃j,Run P q s j U J/\Run P p j s2 R W:=by
 have hl:=h.loc
 have kl:=k.loc
 obtain⟨j,q1,q2,q3⟩:=kl.2 s λl I=>(hl.1 l λC=>(ha.1 l C).1 I).symm
 obtain⟨s2',p1,p2,p3⟩:=hl.2 j λl I=>q3 l λC=>ha.2 l C I
 refine⟨j,q1,?_⟩
 have:s2'=s2:=by
  refine St.ext' λl=> ?_
  by_cases C:l∈W
  ·exact(p2 l C).symm.trans (kl.1 l (ha.1 l C).2)
  ·by_cases hw':l∈J;(exact(p3 l C).symm.trans (q2 l hw').symm);·exact(p3 l C).symm.trans ((q3 l hw').symm.trans ((hl.1 l C).trans (kl.1 l hw')))
 rw[<-this]
 exact p1
theorem Run.ex{P:Program}{p:Prog}{s s':St}{R W:List Loc}(h:Run P p s s' R W):Sh.ex P p s λτ=>τ=s':=by
 induction h with
 |done s=>rfl
 |getT h j=>exact j
 |Ix h j=>exact j
 |getH h j=>exact j
 |fL h j=>exact j
 |call hc h j=>exact⟨_,hc,j⟩
 |must C h j=>exact⟨C,j⟩
def exF(P:Program):Prog->St->List Loc->List Loc->(St->List Loc->List Loc->Prop)->Prop
 | .done,s,R,W,K=>K s R W
 | .fail,_,_,_,_=>False
 | .getT t k,s,R,W,K=>exF P (k (s.t t)) s (.t t::R) W K
 | .Ix t v k,s,R,W,K=>exF P k (s.Ix t v) R (.t t::W) K
 | .getH i k,s,R,W,K=>exF P (k (s.h i)) s (.h i::R) W K
 | .fL i x k,s,R,W,K=>exF P k (s.fL i x) R (.h i::W) K
 | .call f args k,s,R,W,K=>∃j,lE P f args j/\exF P (k j) s R W K
 | .must p k,s,R,W,K=>p/\exF P k s R W K
theorem KF{P:Program}:∀(p:Prog) {s:St} {R W:List Loc} {K:St->List Loc->List Loc->Prop},exF P p s R W K->∃j C I,Run P p s j C I/\K j (C.reverse++R) (I.reverse++W)
 | .done,s,R,W,K,h=>⟨s,[],[],.done s,h⟩
 | .fail,_,_,_,_,h=>h.elim
 | .getT t k,s,R,W,K,h=>by obtain⟨j,C,I,h1,h2⟩:=KF (k (s.t t)) h;exact⟨j,_,_,.getT h1,by simpa using h2⟩
 | .Ix t v k,s,R,W,K,h=>by obtain⟨j,C,I,h1,h2⟩:=KF k h;exact⟨j,_,_,.Ix h1,by simpa using h2⟩
 | .getH i k,s,R,W,K,h=>by obtain⟨j,C,I,h1,h2⟩:=KF (k (s.h i)) h;exact⟨j,_,_,.getH h1,by simpa using h2⟩
 | .fL i x k,s,R,W,K,h=>by obtain⟨j,C,I,h1,h2⟩:=KF k h;exact⟨j,_,_,.fL h1,by simpa using h2⟩
 | .call f args k,s,R,W,K,⟨U,hc,h⟩=>by obtain⟨j,C,I,h1,h2⟩:=KF (k U) h;exact⟨j,_,_,.call hc h1,h2⟩
 | .must p k,s,R,W,K,⟨J,h⟩=>by obtain⟨j,C,I,h1,h2⟩:=KF k h;exact⟨j,_,_,.must J h1,h2⟩
abbrev Fp:=List Loc×List Loc
def EY(P:Program)(T:Sb)(N:Nat)(ops:Array Oper):List Oper->St->List Fp->(St->List Fp->Prop)->Prop
 |[],s,j,K=>K s j
 |o::rest,s,j,K=>exF P (evG T N ops o) s [] [] λC R W=>EY P T N ops rest C (j++[(R,W)]) K
def Wz:List Oper->List (List Nat)->List (List Nat)
 |[],j=>j
 |o::rest,j=>
  let es:=(o.after.toList.filter λe=>Region.binds .any e).map (·.on)
  Wz rest (j++[es++es.flatMap λe=>j.getD e []])
def OK(x y:Fp):Bool:=x.2.any (λl=>y.1.contains l||y.2.contains l)||y.2.any (λl=>x.1.contains l)
def Mt(ops:Array Oper):Bool:=(List.range ops.size).all λi=>((ops[i]?).map λo=>o.after.toList.all λe=> !Region.binds .any e||decide (e.on<i)).getD true
def KE(ops:Array Oper)(C:List Fp):Bool:=
 Mt ops&&(List.range ops.size).all λj=>(List.range j).all λi=> !OK (C.getD i ([],[])) (C.getD j ([],[]))||((Wz ops.toList []).getD j []).contains i
section
variable {P:Program}{T:Sb}{base N:Nat}{w0:W0}{Q:Exit->Act->World->Prop}{ops:Array Oper}{fps:List Fp}
def sG(o:Oper):List Nat:=(o.after.toList.filter λe=>Region.binds .any e).map (·.on)
theorem U3:∀(l:List Oper) (j:List (List Nat)),∃ext,Wz l j=j++ext/\ext.length=l.length
 |[],j=>⟨[],by simp[Wz],rfl⟩
 |o::rest,j=>by obtain⟨ext,h1,h2⟩:=U3 rest (j++[sG o++(sG o).flatMap λe=>j.getD e []]);refine⟨(sG o++(sG o).flatMap λe=>j.getD e [])::ext,?_,by simp[h2]⟩;show Wz rest (j++[sG o++(sG o).flatMap λe=>j.getD e []])=_;rw[h1];simp
theorem Yq:∀(l:List Oper) (j:List (List Nat)) (k:Nat) (o:Oper),l[k]? =some o->
  (Wz l j).getD (j.length+k) []=sG o++(sG o).flatMap λe=>((Wz l j).take (j.length+k)).getD e []
 |[],j,k,o,h=>by simp at h
 |C::rest,j,0,o,h=>by
  simp at h
  subst h
  obtain⟨ext,h1,h2⟩:=U3 rest (j++[sG C++(sG C).flatMap λe=>j.getD e []])
  show(Wz rest (j++[sG C++(sG C).flatMap λe=>j.getD e []])).getD (j.length+0) []=sG C++(sG C).flatMap λe=>((Wz rest (j++[sG C++(sG C).flatMap λe=>j.getD e []])).take (j.length+0)).getD e []
  rw[h1]
  simp
 |C::rest,j,k+1,o,h=>by simp at h;have:=Yq rest (j++[sG C++(sG C).flatMap λe=>j.getD e []]) k o h;simp only[qE,List.length_singleton]at this;rw[show j.length+1+k=j.length+(k+1)from by omega]at this;exact this
theorem RY(he:Mt ops=true){j:Nat}{o:Oper}(J:ops[j]? =some o):∀e∈sG o,e<j:=by intro e I;unfold sG at I;obtain⟨x,C,rfl⟩:=qx.1 I;rw[jC]at C;unfold Mt at he;rw[qR]at he;have U:j<ops.size:=(qm.1 J).1;have:=he j (qS.2 U);rw[J]at this;simp only[Option.map_some,Option.getD_some,qR]at this;have:=this x C.1;rw[C.2]at this;simpa using this
theorem aCy(he:Mt ops=true){i j:Nat}{o:Oper}(I:ops[j]? =some o)(h:i∈(Wz ops.toList []).getD j []):∃e∈sG o,i=e\/i∈(Wz ops.toList []).getD e []:=by
 have J:ops.toList[j]? =some o:=by simpa using I
 have:=Yq ops.toList [] j o J
 simp only[qK,qp]at this
 rw[this]at h
 rcases qP.1 h with h|h
 ·exact⟨i,h,.inl rfl⟩
 ·obtain⟨e,h1,h2⟩:=List.mem_flatMap.1 h;refine⟨e,h1,.inr ?_⟩;have C:=RY he I e h1;rw[List.getD_eq_getElem?_getD,List.getElem?_take,jF C]at h2;rw[List.getD_eq_getElem?_getD];exact h2
theorem WJ(he:Mt ops=true)(L:Nat->Prop)(hL:∀j o,ops[j]? =some o->L j->∀e∈sG o,L e):∀(j:Nat) (o:Oper),ops[j]? =some o->(∀e∈sG o,L e)->∀i∈(Wz ops.toList []).getD j [],L i:=by
 intro j
 induction j using Nat.strongRecOn with
 |_ j ih=>
  intro o J U i hi
  obtain⟨e,h1,h2⟩:=aCy he J hi
  rcases h2 with rfl|h2
  ·exact U i h1
  ·have I:=RY he J e h1;have hj:j<ops.size:=(qm.1 J).1;have C:ops[e]? =some ops[e]:=Array.getElem?_eq_getElem wg;exact ih e I _ C (hL e _ C (U e h1)) i h2
def Sq(P:Program)(T:Sb)(N:Nat)(ops:Array Oper)(j:List Fp):List Nat->St->St->Prop
 |[],s,C=>s=C
 |i::l,s,C=>∃o s1 R W,ops[i]? =some o/\Run P (evG T N ops o) s s1 R W/\(∀x,x∈R↔x∈(j.getD i ([],[])).1)/\(∀x,x∈W↔x∈(j.getD i ([],[])).2)/\Sq P T N ops j l s1 C
theorem TG{x y:Fp}{R W J U:List Loc}(h:OK x y=false)(h1:∀l,l∈R↔l∈x.1)(h2:∀l,l∈W↔l∈x.2)(h3:∀l,l∈J↔l∈y.1)(h4:∀l,l∈U↔l∈y.2):aEO R W J U:=by unfold OK at h;rw[Bool.or_eq_false_iff,List.any_eq_false,List.any_eq_false]at h;refine⟨λl C=> ?_,λl C I=> ?_⟩;(have:=h.1 l ((h2 l).1 C);simp at this;exact⟨λj=>this.1 ((h3 l).1 j),λj=>this.2 ((h4 l).1 j)⟩);·have:=h.2 l ((h4 l).1 C);simp at this;exact this ((h1 l).1 I)
theorem Sq.front:∀(A:List Nat) {i:Nat} {B:List Nat} {s s':St},Sq P T N ops fps (A++i::B) s s'->(∀x∈A,OK (fps.getD x ([],[])) (fps.getD i ([],[]))=false)->
  ∃o s1 R W,ops[i]? =some o/\Run P (evG T N ops o) s s1 R W/\(∀x,x∈R↔x∈(fps.getD i ([],[])).1)/\(∀x,x∈W↔x∈(fps.getD i ([],[])).2)/\Sq P T N ops fps (A++B) s1 s'
 |[],i,B,s,s',h,_=>h
 |x::A,i,B,s,s',h,j=>by
  obtain⟨o,s1,R,W,h1,h2,h3,h4,h5⟩:=h
  obtain⟨oi,s2,J,U,k1,k2,C,I,k5⟩:=Sq.front A h5 λy hy=>j y (by simp[hy])
  obtain⟨t1,m1,m2⟩:=h2.swap k2 (TG (j x wb) h3 h4 C I)
  exact⟨oi,t1,J,U,k1,m1,C,I,o,s2,R,W,h1,m2,h3,h4,k5⟩
theorem M8{K:St->List Fp->Prop}:∀(l:List Oper) (i:Nat) (j:List Fp) {s:St},ops.toList.drop i=l->j.length=i->EY P T N ops l s j K->
  ∃J fps',fps'.take i=j/\Sq P T N ops fps' (List.range' i l.length) s J/\K J fps'
 |[],i,j,s,hl,C,h=>⟨s,j,by rw[<-C,List.take_length],rfl,h⟩
 |o::l,i,j,s,hl,C,h=>by
  obtain⟨s1,U,W',h1,h2⟩:=KF _ h
  have hi:ops[i]? =some o:=by
   have:(ops.toList.drop i)[0]? =some o:=by rw[hl];rfl
   rw[List.getElem?_drop]at this
   simpa using this
  have hl':ops.toList.drop (i+1)=l:=by rw[<-List.drop_drop,hl];rfl
  obtain⟨J,fps',k1,k2,k3⟩:=M8 l (i+1) _ hl' (by simp[C]) h2
  have I:fps'.getD i ([],[])=(U.reverse++[],W'.reverse++[]):=by
   have:(fps'.take (i+1))[i]? =some (U.reverse++[],W'.reverse++[]):=by rw[k1,<-C];simp
   rw[List.getElem?_take,jF wg]at this
   rw[List.getD_eq_getElem?_getD,this];rfl
  refine⟨J,fps',?_,?_,k3⟩
  ·have:(fps'.take (i+1)).take i=j:=by rw[k1,<-C];simp
   rwa [List.take_take,jW wg]at this
  ·simp only[qJ,List.range'_succ];exact⟨o,s1,U,W',hi,h1,by rw[I];simp,by rw[I];simp,k2⟩
def left(n:Nat)(listed:Array Bool):List Nat:=(List.range n).filter λi=> !listed.getD i true
theorem JL{n i:Nat}{listed:Array Bool}:i∈left n listed↔i<n/\listed.getD i true=false:=by unfold left;rw[jC,qS];simp
theorem Vz{listed:Array Bool}{n i j:Nat}{d:Bool}(J:listed.size=n)(I:i<n):(listed.setIfInBounds i true).getD j d=if j=i then true else listed.getD j d:=by
 simp only[jN,Array.getElem?_setIfInBounds]
 by_cases h:i=j
 ·subst h;simp[J,I]
 ·have C:¬j=i:=λe=>h e.symm
  simp[h,C]
theorem Vc{listed:Array Bool}{n i:Nat}{A B:List Nat}(hs:listed.size=n)(hi:i<n)(h:left n listed=A++i::B):left n (listed.setIfInBounds i true)=A++B:=by
 have j:(left n listed).Nodup:=List.nodup_range.sublist List.filter_sublist
 have e:left n (listed.setIfInBounds i true)=(left n listed).filter λk=>k !=i:=by unfold left;rw[List.filter_filter];congr 1;funext k;rw[Vz hs hi];by_cases hk:k=i;(simp[hk]);·simp[hk]
 rw[e,h]
 rw[h]at j
 rw[qt]at j
 obtain⟨_,I,n3⟩:=j
 rw[List.nodup_cons]at I
 rw[List.filter_append,List.filter_cons]
 have J:A.filter (λk=>k !=i)=A:=List.filter_eq_self.2 λx C=>by simpa using n3 x C i wb
 have U:B.filter (λk=>k !=i)=B:=List.filter_eq_self.2 λx C=>by
  have:x≠i:=λe=>I.1 (e ▸ C)
  simpa using this
 simp[J,U]
theorem aDW{K:St->Prop}(ho:KE ops fps=true){sF:St}(hK:K sF)(hq:∀s' a' w',K s'->Rel P base w0 N s' a' w'->Q .normal a' w'):
  ∀(aJ:Nat) (listed:Array Bool) (s:St) (a:Act) (w:World),listed.size=ops.size->(left ops.size listed).length<=aJ->
   (∀j o,ops[j]? =some o->listed.getD j true=true->∀e∈sG o,listed.getD e false=true)->
   Sq P (fM P) N ops fps (left ops.size listed) s sF->Rel P base w0 N s a w->wpAny P .any ops Q aJ listed a w:=by
 have he:Mt ops=true:=by unfold KE at ho;rw[qM]at ho;exact ho.1
 have hp:∀j,j<ops.size->∀i,i<j->OK (fps.getD i ([],[])) (fps.getD j ([],[]))=true->i∈(Wz ops.toList []).getD j []:=by intro j hj i hi hm;unfold KE at ho;rw[qM,qR]at ho;have:=ho.2 j (qS.2 hj);rw[qR]at this;have:=this i (qS.2 hi);rw[hm]at this;simpa using this
 have same:∀{listed:Array Bool} {j:Nat},listed.size=ops.size->j<ops.size->listed.getD j true=listed.getD j false:=by intro listed j hs hj;simp only[jN];rw[Array.getElem?_eq_getElem wg];rfl
 have ready_mem:∀{listed:Array Bool} {i:Nat},i∈Region.ready .any ops listed->i∈left ops.size listed/\∃o,ops[i]? =some o/\∀e∈sG o,listed.getD e false=true:=by intro listed i hi;unfold Region.ready at hi;rw[jC,qS]at hi;obtain⟨h1,h2⟩:=hi;rw[qM]at h2;have C:ops[i]? =some ops[i]:=Array.getElem?_eq_getElem h1;refine⟨JL.2 ⟨h1,by simpa using h2.1⟩,_,C,?_⟩;have h3:=h2.2;rw[C]at h3;simp only[Option.map_some,Option.getD_some]at h3;rw[Array.all_eq_true']at h3;intro e hm;unfold sG at hm;obtain⟨x,hx,rfl⟩:=qx.1 hm;rw[jC]at hx;have:=h3 x (by simpa using hx.1);rw[hx.2]at this;simpa using this
 have empty_of:∀{listed:Array Bool},listed.size=ops.size->Region.ready .any ops listed=[]->left ops.size listed=[]:=by
  intro listed hs hr
  cases hl:left ops.size listed with
  |nil=>rfl
  |cons i l=>
   exfalso
   have hi:i∈left ops.size listed:=by rw[hl];simp
   obtain⟨J,hun⟩:=JL.1 hi
   have hmin:∀k,k<i->listed.getD k true=true:=by
    intro k hk
    cases hg:listed.getD k true with
    |true=>rfl
    |false=>
     have hm:k∈left ops.size listed:=JL.2 ⟨wg,hg⟩
     have hsorted:(left ops.size listed).Pairwise (· < ·):=List.Pairwise.filter _ List.pairwise_lt_range
     rw[hl]at hm hsorted
     rcases qq.1 hm with rfl|hm
     ·omega
     ·have:=(List.pairwise_cons.1 hsorted).1 k hm;omega
   have C:ops[i]? =some ops[i]:=Array.getElem?_eq_getElem J
   have:i∈Region.ready .any ops listed:=by
    unfold Region.ready
    rw[jC,qS]
    refine⟨J,?_⟩
    rw[qM]
    refine⟨by simpa using hun,?_⟩
    rw[C]
    simp only[Option.map_some,Option.getD_some]
    rw[Array.all_eq_true']
    intro e hem
    cases hb:Region.binds .any e with
    |false=>rfl
    |true=>
     have hel:e.on<i:=RY he C e.on (by unfold sG;exact qx.2 ⟨e,jC.2 ⟨by simpa using hem,hb⟩,rfl⟩)
     have:=hmin e.on hel
     rw[same hs wg]at this
     simp[this]
   rw[hr]at this
   simp at this
 intro aJ
 induction aJ with
 |zero=>
  intro listed s a w hs hf hcl I R
  have hl:left ops.size listed=[]:=ql wg
  refine⟨?_,?_⟩
  ·cases hr:Region.ready .any ops listed with
   |nil=>rfl
   |cons i l=>
    have:=(ready_mem (listed:=listed) (i:=i) (by rw[hr];simp)).1
    rw[hl]at this
    simp at this
  ·rw[hl]at I;have:s=sF:=I;exact hq s a w (this ▸ hK) R
 |succ aJ ih=>
  intro listed s a w hs hf hcl I R
  refine⟨λhr=> ?_,λi hi=> ?_⟩
  ·have hl:=empty_of hs hr;rw[hl]at I;have:s=sF:=I;exact hq s a w (this ▸ hK) R
  ·obtain⟨hil,o,hoi,hed⟩:=ready_mem hi
   obtain⟨A,B,U⟩:=List.append_of_mem hil
   have J:=(JL.1 hil).1
   rw[U]at I
   have hsorted:(left ops.size listed).Pairwise (· < ·):=List.Pairwise.filter _ List.pairwise_lt_range
   have hA:∀x∈A,x<i/\listed.getD x true=false/\x<ops.size:=by
    intro x hx
    have hm:x∈left ops.size listed:=by rw[U];simp[hx]
    rw[U,List.pairwise_append]at hsorted
    exact⟨hsorted.2.2 x hx i wb,(JL.1 hm).2,(JL.1 hm).1⟩
   have hno:∀x∈A,OK (fps.getD x ([],[])) (fps.getD i ([],[]))=false:=by
    intro x hx
    obtain⟨h1,h2,h3⟩:=hA x hx
    cases hmd:OK (fps.getD x ([],[])) (fps.getD i ([],[]))with
    |false=>rfl
    |true=>
     exfalso
     have hanc:=hp i J x h1 hmd
     have:=WJ he (λk=>listed.getD k false=true) (λj o' C hj=>by have hj':j<ops.size:=(qm.1 C).1;exact hcl j o' C (by rw[same hs hj'];exact hj)) i o hoi hed x hanc
     rw[same hs h3]at h2
     rw[h2]at this
     cases this
   obtain⟨o',s1,Rr,Ww,k1,k2,k3,k4,k5⟩:=Sq.front A I hno
   have hoo:o'=o:=by rw[hoi]at k1;simpa using k1.symm
   subst hoo
   refine wpOp_mono ?_ (Uo hoi R k2.ex)
   rintro a' w' ⟨s',rfl,R'⟩
   refine ih _ _ a' w' (by simp[hs]) ?_ ?_ ?_ R'
   ·rw[Vc hs J U];rw[U]at hf;simp at hf⊢;omega
   ·intro j oj hoj hj e hem
    rw[Vz hs J]at hj⊢
    by_cases hji:j=i
    ·subst hji
     have:oj=o':=by rw[hoi]at hoj;simpa using hoj.symm
     subst this
     by_cases hei:e=j
     ·simp[hei]
     ·simp only[hei,jH];exact hed e hem
    ·simp only[hji,jH]at hj;by_cases hei:e=i;(simp[hei]);·simp only[hei,jH];exact hcl j oj hoj hj e hem
   ·rw[Vc hs J U];exact k5
theorem PN{id:Nat}{K:St->Prop}{s:St}{a:Act}{w:World}(hm:P.follows .mixedOrders=true)(R:Rel P base w0 N s a w)
  (h:EY P (fM P) N ops ops.toList s [] λs' C=>KE ops C=true/\K s')(hq:∀s' J w',K s'->Rel P base w0 N s' J w'->Q .normal J w'):(Code.region id ops true).wp P Q a w:=by
 obtain⟨s',fps',k1,k2,k3,k4⟩:=M8 (ops:=ops) ops.toList 0 [] wb rfl h
 refine wp_region_any hm ?_
 have hR:Rel P base w0 N s a { w with drawn:=w.drawn+1 }:=by obtain⟨g,R⟩:=R;have I':=R.inv.grow (w':={ w with drawn:=w.drawn+1 }) (qg _) (λ_ _=>rfl);exact⟨g,R.turn (mA.grow R.inv.S_lt λ_ _=>rfl) rfl ⟨R.below.os,R.below.tape,R.below.output,R.below.size,R.below.block⟩ I'⟩
 have U:left ops.size (Array.replicate ops.size false)=List.range ops.size:=by unfold left;rw[List.filter_eq_self];intro x hx;have:=qS.1 hx;simp[this]
 refine aDW k3 k4 hq ops.size _ s a _ wb (by rw[U];simp) ?_ ?_ hR
 ·intro j o ho hj;have I:j<ops.size:=(qm.1 ho).1;simp[I]at hj
 ·rw[U,List.range_eq_range'];rw[qn]at k2;exact k2
end
section
variable {P:Program}{base N:Nat}{w0:W0}
def SW(P:Program)(base:Nat)(C:W0)(N:Nat)(c:Code)(s:St)(Q:Exit->St->Prop):Prop:=
 ∀(a:Act) (w:World),Rel P base C N s a w->c.wp P (λe I J=>∃j,Q e j/\Rel P base C N j I J) a w
inductive Fr where
 |code (c:Code)
 |block (id:Nat)
 |inv (J:St->Prop)
def aft(P:Program)(base:Nat)(j:W0)(N:Nat)(Z:St->Prop):List Fr->Exit->St->Prop
 |[],.normal,s=>Z s
 |[],.ret,s=>Z s
 |[],_,_=>False
 | .code c::k,.normal,s=>SW P base j N c s (aft P base j N Z k)
 | .code _::k,e,s=>aft P base j N Z k e s
 | .block id::k,.exit C,s=>if C=id then aft P base j N Z k .normal s else aft P base j N Z k (.exit C) s
 | .block _::k,e,s=>aft P base j N Z k e s
 | .inv J::_,.normal,s=>J s
 | .inv _::k,e,s=>aft P base j N Z k e s
variable {Z:St->Prop}{k:List Fr}{s:St}
theorem QZ:∀(k:List Fr),Z s->aft P base w0 N Z k .ret s
 |[],h=>h
 | .code _::k,h=>QZ k h
 | .block _::k,h=>QZ k h
 | .inv _::k,h=>QZ k h
theorem aDq{x y:Code}(h:SW P base w0 N x s (aft P base w0 N Z (.code y::k))):SW P base w0 N (.seq x y) s (aft P base w0 N Z k):=by
 intro a w R
 refine wp_seq (wp_mono (h a w R) ?_)
 rintro e a' w' ⟨s',h1,h2⟩
 cases e with
 |normal=>exact h1 a' w' h2
 |_=>exact⟨s',h1,h2⟩
theorem aBO{id:Nat}{c:Code}(h:SW P base w0 N c s (aft P base w0 N Z (.block id::k))):SW P base w0 N (.block id c) s (aft P base w0 N Z k):=by
 intro a w R
 refine wp_block (wp_mono (h a w R) ?_)
 rintro e a' w' ⟨s',h1,h2⟩
 cases e with
 |exit j=>
  show if j=id then _ else _
  by_cases hid:j=id
  ·simp only[aft,hid,jI]at h1⊢;exact⟨s',h1,h2⟩
  ·simp only[aft,hid,jH]at h1⊢;exact⟨s',h1,h2⟩
 |_=>exact⟨s',h1,h2⟩
theorem aCe{id:Nat}(h:aft P base w0 N Z k (.exit id) s):SW P base w0 N (.exit id) s (aft P base w0 N Z k):=λa w R=>wp_exit ⟨s,h,R⟩
theorem aDy(h:Z s):SW P base w0 N .ret s (aft P base w0 N Z k):=λa w R=>wp_ret ⟨s,QZ k h,R⟩
theorem aCO(h:aft P base w0 N Z k .normal s):SW P base w0 N .skip s (aft P base w0 N Z k):=λa w R=>wp_skip ⟨s,h,R⟩
theorem O1{id:Nat}{ops:Array Oper}(h:tQ P (fM P) N ops ops.toList s λs'=>aft P base w0 N Z k .normal s'):SW P base w0 N (.region id ops false) s (aft P base w0 N Z k):=
 λa w R=>Xb R h λs' j C h1 h2=>⟨s',h1,h2⟩
theorem Yi(C:P.follows .mixedOrders=true){id:Nat}{ops:Array Oper}(h:EY P (fM P) N ops ops.toList s [] λs' j=>KE ops j=true/\aft P base w0 N Z k .normal s'):SW P base w0 N (.region id ops true) s (aft P base w0 N Z k):=
 λa w R=>PN C R h λs' I J h1 h2=>⟨s',h1,h2⟩
theorem Up{t:Nat}{x y:Code}{b:Bool}(hb:s.t t=.v false [.dat (.bool b)])(h1:b=true->SW P base w0 N x s (aft P base w0 N Z k))(h2:b=false->SW P base w0 N y s (aft P base w0 N Z k)):SW P base w0 N (.cond (.tmp t) x y) s (aft P base w0 N Z k):=by intro a w R;obtain⟨g,C⟩:=id R;have j:=C.tmp t;rw[hb]at j;have I:=Fw j;exact wp_cond_split (t:=b) (by simpa[Act.eval]using I) (λh=>h1 h a w R) (λh=>h2 h a w R)
theorem HG{c:Code}(I:Nat->St->Prop)(n:Nat)(C:I n s)(h:∀m s,I m s->SW P base w0 N c s (aft P base w0 N Z (.inv (λs'=>∃j,j<m/\I j s')::k))):SW P base w0 N (.loop c) s (aft P base w0 N Z k):=by
 intro a w R
 refine wp_loop_ghost (λm a w=>∃s,I m s/\Rel P base w0 N s a w) n ⟨s,C,R⟩ ?_
 rintro m a w ⟨s,h1,R⟩
 refine wp_mono (h m s h1 a w R) ?_
 rintro e a' w' ⟨s',h2,h3⟩
 cases e with
 |normal=>obtain⟨j,h4,h5⟩:=h2;exact⟨j,h4,s',h5,h3⟩
 |_=>exact⟨s',h2,h3⟩
def aEi(P:Program)(base:Nat)(j:W0)(N:Nat)(Z:St->Prop)(k:List Fr)(c:Code):Nat->St->Prop
 |0,_=>False
 |n+1,s=>SW P base j N c s (aft P base j N Z (.inv (aEi P base j N Z k c n)::k))
theorem rnd{c:Code}{n:Nat}(h:SW P base w0 N c s (aft P base w0 N Z (.inv (aEi P base w0 N Z k c n)::k))):aEi P base w0 N Z k c (n+1) s:=h
theorem XG{c:Code}(n:Nat)(h:aEi P base w0 N Z k c n s):SW P base w0 N (.loop c) s (aft P base w0 N Z k):=by
 intro a w R
 refine wp_loop_rounds n ?_
 revert s a w
 induction n with
 |zero=>intro s h a w R;exact h.elim
 |succ n j=>
  intro s h a w R
  rw[rounds_succ]
  refine wp_mono (h a w R) ?_
  rintro e a' w' ⟨s',h2,h3⟩
  cases e with
  |normal=>exact j h2 a' w' h3
  |_=>exact⟨s',h2,h3⟩
def Hg(T:Sb)(s:St):List ResultVar->Option (List (Bool×List SC))
 |[]=>some []
 | .tmp t::r=>match s.t t with
  | .v C I=>match Hg T s r with
   |some l=>some ((C,I)::l)
   |none=>none
  |_=>none
 | .cell p ty::r=>match T ty with
  |some j=>match s.t p with
   | .v false [.bp i ver 0]=>match s.h i with
    |(J,.box _ cells)=>if J=ver/\cells.length=j.size then(match Hg T s r with
      |some l=>some ((j.agg,cells)::l)
      |none=>none)else none
    |_=>none
   |_=>none
  |none=>none
def FJ(h:Heap):List SC->List RC->Prop
 |[],[]=>True
 | .dat d::j,.ro I::C=>d=I/\d.flat=true/\FJ h j C
 | .dat d::j,.any I::C=>d=I/\FJ h j C
 | .nil::j,.any I::C=>I=.sl []/\FJ h j C
 | .nil::j,.own _ _ J::C=>J=[]/\FJ h j C
 | .row i ver::j,.own e sz J::C=>h i=(ver,.row e sz J true)/\FJ h j C
 |_,_=>False
def Lm:List SC->List Nat
 |[]=>[]
 | .row i _::j=>i::Lm j
 |_::j=>Lm j
def Rj(h:Heap):List (Bool×List SC)->List (Bool×List RC)->Prop
 |[],[]=>True
 |(C,I)::U,(j,J)::ys=>C=j/\FJ h I J/\Rj h U ys
 |_,_=>False
def Jj:List (Bool×List SC)->List Nat
 |[]=>[]
 |x::j=>Lm x.2++Jj j
def Ret(T:Sb)(vars:List ResultVar)(j:List (Bool×List RC))(s:St):Prop:=
 ∃l,Hg T s vars=some l/\Rj s.h l j/\(Jj l).Nodup/\(CM j=true->Jj l=[])
section
variable {g:Gh}{h:Heap}{w:World}
def WW(g:Gh)(i:Nat):List Nat:=(Ds (g.val i)).toList++g.fp i
theorem Cc(I:Inv base g h w []):∀{cs:List SC} {J:List RC} {vs:List Value},aU g h w cs vs->FJ h cs J->tX g.Q.L base w g.S vs J ((Lm cs).flatMap (WW g))
 |[],[],vs,hc,_=>by rw[show vs=[]from hc];simp[tX,Lm]
 | .dat d::cs,.ro d'::J,vs,hc,j=>by obtain⟨v,C,rfl,⟨F,h1,h2⟩,h3⟩:=hc;obtain⟨rfl,hf,j⟩:=j;have:=Mg h1 hf;subst this;refine⟨h1,?_⟩;simp only[Lm];exact Cc I h3 j
 | .nil::cs,.own e sz xs::J,vs,hc,j=>by obtain⟨v,C,rfl,h1,h3⟩:=hc;obtain⟨rfl,j⟩:=j;have:v=.slice none 0 0:=h1;subst this;refine⟨[],[],_,World.ownsRow_nil w base e sz,wb,wU,?_,Cc I h3 j⟩;simp[Value.ownBlock,Lm]
 | .row i ver::cs,.own e sz xs::J,vs,hc,j=>by obtain⟨v,C,rfl,⟨h0,h1,h2⟩,h3⟩:=hc;obtain⟨hi,j⟩:=j;have hval:v=g.val i:=h2 (by rw[hi]) e sz xs true (by rw[hi]);have U:=I.obj i;rw[show(h i).2=.row e sz xs true from by rw[hi]]at U;obtain⟨cells,k1,k2,k3,k4,k5⟩:=U;rw[<-hval]at k1;refine⟨cells,g.fp i,_,k1,k2,k3,?_,Cc I h3 j⟩;simp only[Lm,List.flatMap_cons,WW];rw[<-hval,tE k1,qT]
 | .dat d::cs,.any d'::J,vs,hc,j=>by obtain⟨v,C,rfl,⟨F,h1,h2⟩,h3⟩:=hc;obtain⟨rfl,j⟩:=j;refine⟨⟨F,h1,h2⟩,?_⟩;simp only[Lm];exact Cc I h3 j
 | .nil::cs,.any d'::J,vs,hc,j=>by obtain⟨v,C,rfl,h1,h3⟩:=hc;obtain⟨rfl,j⟩:=j;refine⟨⟨[],?_,wb⟩,?_⟩;(rw[show v=.slice none 0 0 from h1];simp only[Rep];exact⟨none,0,0,rfl,rfl,qg _,.inl wb⟩);·simp only[Lm];exact Cc I h3 j
 | .row _ _::_,.any _::_,_,_,h=>h.elim
 | .dat _::_,.own _ _ _::_,_,_,h=>h.elim
 | .nil::_,.ro _::_,_,_,h=>h.elim
 | .row _ _::_,.ro _::_,_,_,h=>h.elim
 | .bp _ _ _::_,_,_,_,h=>h.elim
 | .rp _ _ _ _::_,_,_,_,h=>h.elim
 | .clo _ _::_,_,_,_,h=>h.elim
 | .old _ _ _::_,_,_,_,h=>h.elim
 | .part _ _ _ _::_,_,_,_,h=>h.elim
 | .exa _ _ _::_,_,_,_,h=>h.elim
 |[],_::_,_,_,h=>h.elim
 | .dat _::_,[],_,_,h=>h.elim
 | .nil::_,[],_,_,h=>h.elim
 | .row _ _::_,[],_,_,h=>h.elim
theorem JF:∀{cs:List SC} {J:List RC},FJ h cs J->∀i∈Lm cs,kB h i
 |[],_,_,i,C=>by simp[Lm]at C
 | .dat d::cs,.ro U::J,I,i,C=>JF I.2.2 i C
 | .nil::cs,.own e sz xs::J,I,i,C=>JF I.2 i C
 | .dat d::cs,.any U::J,I,i,C=>JF I.2 i C
 | .nil::cs,.any U::J,I,i,C=>JF I.2 i C
 | .row _ _::_,.any _::_,h,_,_=>h.elim
 | .row j ver::cs,.own e sz xs::J,I,i,C=>by rcases qq.1 C with rfl|C;(exact⟨e,sz,xs,by rw[I.1]⟩);·exact JF I.2 i C
 | .dat _::_,.own _ _ _::_,h,_,_=>h.elim
 | .nil::_,.ro _::_,h,_,_=>h.elim
 | .row _ _::_,.ro _::_,h,_,_=>h.elim
 | .bp _ _ _::_,_,h,_,_=>h.elim
 | .rp _ _ _ _::_,_,h,_,_=>h.elim
 | .clo _ _::_,_,h,_,_=>h.elim
 | .old _ _ _::_,_,h,_,_=>h.elim
 | .part _ _ _ _::_,_,h,_,_=>h.elim
 | .exa _ _ _::_,_,h,_,_=>h.elim
 | .dat _::_,[],h,_,_=>h.elim
 | .nil::_,[],h,_,_=>h.elim
 | .row _ _::_,[],h,_,_=>h.elim
theorem Z7(I:Inv base g h w []){i:Nat}(hd:kB h i):Ck base w (WW g i):=by
 obtain⟨e,sz,xs,J⟩:=hd
 have U:live h i:=by unfold live;rw[J];simp
 have C:=I.obj i
 rw[J]at C
 obtain⟨cells,k1,k2,k3,k4,k5⟩:=C
 have ho:=k5 rfl
 refine⟨?_,?_⟩
 ·unfold WW
  rw[qt]
  refine⟨by cases Ds (g.val i)<;>simp,ho.1,?_⟩
  rintro x hx y hy rfl
  have hb:Ds (g.val i)=some x:=by simpa using hx
  exact I.mtb i x U hb (k4 x hy)
 ·intro b hb
  unfold WW at hb
  rcases qP.1 hb with hb|hb
  ·have j:Ds (g.val i)=some b:=by simpa using hb
   refine⟨?_,(I.H5 U j).2⟩
   rcases k1.2 with⟨h2,_⟩|⟨gg,cap,cur,h2,h3,_⟩
   ·rw[h2]at j;simp[Ds]at j
   ·rw[h2]at j;simp[Ds]at j;subst j;exact h3
  ·exact ho.2 b hb
theorem Wy(I:Inv base g h w []){i j:Nat}(J:i≠j)(U:kB h i)(hj:kB h j):∀b∈WW g i,b∉WW g j:=by
 have hS:∀i,kB h i->∀b∈g.fp i,g.S b:=by rintro i ⟨e,sz,xs,hh⟩ b hb;have:=I.obj i;rw[hh]at this;obtain⟨_,_,_,_,h4,_⟩:=this;exact h4 b hb
 intro b hb C
 unfold WW at hb C
 rcases qP.1 hb with hb|hb<;>rcases qP.1 C with C|C
 ·exact I.inj i j b J (LX U) (LX hj) (by simpa using hb) (by simpa using C)
 ·exact I.mtb i b (LX U) (by simpa using hb) (hS j hj b C)
 ·exact I.mtb j b (LX hj) (by simpa using C) (hS i U b hb)
 ·exact I.dis i j J U hj b hb C
theorem X9(I:Inv base g h w []):∀{ids:List Nat},ids.Nodup->(∀i∈ids,kB h i)->Ck base w (ids.flatMap (WW g))
 |[],_,_=>by simpa using Ck.nil base w
 |i::ids,U,C=>by
  rw[List.nodup_cons]at U
  have h1:=Z7 I (C i wb)
  have h2:=X9 I U.2 λj J=>C j (by simp[J])
  rw[List.flatMap_cons]
  refine⟨?_,λb hb=> ?_⟩
  ·rw[qt];refine⟨h1.1,h2.1,?_⟩;rintro x hx y hy rfl;obtain⟨j,J,hxj⟩:=List.mem_flatMap.1 hy;exact Wy I (show i≠j from λe=>U.1 (by rw[e];exact J)) (C i wb) (C j (by simp[J])) x hx hxj
  ·rcases qP.1 hb with hb|hb;(exact h1.2 b hb);·exact h2.2 b hb
end
theorem L3{P:Program}{w:World}{α:Type}(f:α->Sem Value):∀(l:List α) (vs:List Value),l.length=vs.length->(∀(i:Nat) (x:α) (v:Value),l[i]? =some x->vs[i]? =some v->(f x).run P w=.ok v w)->(l.mapM f).run P w=.ok vs w
 |[],[],_,_=>by simp
 |[],v::vs,h,_=>by simp at h
 |x::l,[],h,_=>by simp at h
 |x::l,v::vs,h,j=>by
  have C:=j 0 x v rfl rfl
  have U:=L3 f l vs wM λi y u J I=>j (i+1) y u (by simpa using J) (by simpa using I)
  simp[List.mapM_cons,C,U]
theorem FR{s:St}{a:Act}{w:World}{g:Gh}(R:nV P base w0 N g s a w []):∀{vars:List ResultVar} {l:List (Bool×List SC)},Hg (fM P) s vars=some l->
  ∃C:List Value,C.length=vars.length/\Gg g s.h w l C/\∀(i:Nat) (x:ResultVar) (v:Value),vars[i]? =some x->C[i]? =some v->
   (match x with| .tmp t=>(pure (a.tmps.getD t undef):Sem Value)| .cell p t=>(do loadVar t (<-asAddr (a.tmps.getD p undef)):Sem Value)).run P w=.ok v w
 |[],l,h=>by simp[Hg]at h;subst h;exact⟨[],rfl,rfl,wb⟩
 | .tmp t::r,l,h=>by
  simp only[Hg]at h
  split at h
  ·rename_i ag cs hs
   split at h
   ·rename_i l' hl
    cases h
    obtain⟨C,h1,h2,h3⟩:=FR R hl
    have U:=R.tmp t
    rw[hs]at U
    refine⟨a.tmps.getD t undef::C,by simp[h1],⟨_,C,rfl,U,h2⟩,?_⟩
    intro i x v I hv
    cases i with
    |zero=>simp at I hv;subst I hv;simp
    |succ i=>exact h3 i x v (by simpa using I) (by simpa using hv)
   ·cases h
  ·cases h
 | .cell p ty::r,l,h=>by
  simp only[Hg]at h
  split at h
  ·rename_i ti hti
   split at h
   ·rename_i i ver hs
    split at h
    ·rename_i v' tt cells hh
     split at h
     ·rename_i hc
      split at h
      ·rename_i l' hl
       cases h
       obtain⟨C,h1,h2,h3⟩:=FR R hl
       have U:=R.tmp p
       rw[hs]at U
       obtain⟨hone,hle,hcap⟩:=eZ U
       obtain⟨b,e3,e4⟩:=hcap (by rw[hh];exact hc.1) tt cells (by rw[hh])
       have J:=R.inv.obj i
       rw[show(s.h i).2=.box tt cells from by rw[hh]]at J
       obtain⟨b',vals,k3,k4,k5,k6⟩:=J
       have hbb:b'=b:=by rw[e3]at k3;simp at k3;exact k3.symm
       subst hbb
       obtain⟨v,hrun,hv⟩:=TP (g:=g) (s:=s) (w:=w) hti (YZ k5) (by rw[k6.length];exact hc.2) k6
       refine⟨v::C,by simp[h1],⟨_,C,rfl,hv,h2⟩,?_⟩
       intro j x u I hu
       cases j with
       |zero=>
        simp at I hu
        subst I hu
        have e4':a.tmps[p]?.getD undef=.pointer (some ⟨b',0,none⟩):=by simpa using e4
        simp only[Instr.loadAt,Instr.sureAddr,qs,qu,qi]at hrun
        simp[e4',asAddr,hrun]
       |succ j=>exact h3 j x u (by simpa using I) (by simpa using hu)
      ·cases h
     ·cases h
    ·cases h
   ·cases h
  ·cases h
theorem O2{g:Gh}{h:Heap}{w:World}(I:Inv base g h w []):∀{l:List (Bool×List SC)} {J:List (Bool×List RC)} {vs:List Value},Gg g h w l vs->Rj h l J->Fl g.Q.L base w g.S vs J ((Jj l).flatMap (WW g))/\∀i∈Jj l,kB h i
 |[],[],vs,C,_=>by rw[show vs=[]from C];simp[Fl,Jj]
 |(U,cs)::l,(ag',r)::J,vs,C,hr=>by
  obtain⟨v,vs',rfl,h1,h2⟩:=C
  obtain⟨rfl,h3,h4⟩:=hr
  obtain⟨k1,k2⟩:=O2 I h2 h4
  refine⟨⟨(Lm cs).flatMap (WW g),(Jj l).flatMap (WW g),by simp[Jj],?_,k1⟩,?_⟩
  ·cases U with
   |false=>exact Cc I h1 h3
   |true=>obtain⟨us,rfl,hc⟩:=h1;exact⟨us,rfl,Cc I hc h3⟩
  ·intro i j;simp only[Jj]at j;rcases qP.1 j with j|j;(exact JF h3 i j);·exact k2 i j
 |[],_::_,_,_,h=>h.elim
 |_::_,[],_,_,h=>h.elim
theorem Kd{L:TL}{w:World}{X:Nat->Prop}:∀{vs:List Value} {j:List (Bool×List RC)} {F:List Nat},Fl L base w X vs j F->vs.length=j.length
 |[],[],_,_=>rfl
 |v::vs,r::j,F,⟨C,I,_,_,h⟩=>by simp[Kd h]
 |[],_::_,_,h=>h.elim
 |_::_,[],_,h=>h.elim
theorem UF{s:St}{a:Act}{w:World}{fn:Func}{I:List (Bool×List RC)}(R:Rel P base w0 N s a w)(h:Ret (fM P) fn.results.toList I s):∃v,(results fn a.tmps).run P w=.ok v w/\M7 w0.Q.L base w v I w0.Q:=by
 obtain⟨g,R⟩:=R
 obtain⟨l,h1,h2,h3,J⟩:=h
 obtain⟨C,k1,k2,k3⟩:=FR R h1
 obtain⟨j,m2⟩:=O2 R.inv k2 h2
 rw[R.lab.1]at j
 have hown:=X9 R.inv h3 m2
 have hlen:=Kd j
 have hrun:=L3 (P:=P) (w:=w) (λx=>match x with| .tmp t=>(pure (a.tmps.getD t undef):Sem Value)| .cell p t=>(do loadVar t (<-asAddr (a.tmps.getD p undef)):Sem Value)) fn.results.toList C (by rw[k1]) k3
 have hrun':(results fn a.tmps).run P w=.ok (if h:C.toArray.size=1 then C.toArray[0]else .tuple C.toArray) w:=by unfold results;rw[<-Array.toArray_toList (xs:=fn.results)];rw[List.mapM_toArray];simp only[qs,Sem.run_map,qu];exact(congrArg (λr:Result (List Value)=>(r.andThen λa U=>Result.ok a.toArray U).andThen λa U=>Result.ok (if h:a.size=1 then a[0]else Value.tuple a) U) hrun).trans rfl
 refine⟨_,hrun',(Jj l).flatMap (WW g),g.S,hown,λb hb=>⟨?_,R.inv.S_lt b hb⟩,λhh=>by rw[J hh];rfl,?_⟩
 ·rcases jS b base with hlt|hge;(exact .inl (R.q.1 b (R.inv.S_old b hb hlt)));·exact .inr hge
 match I,j,hlen with
 |[r],j,hlen=>
  match C,j with
  |[v],j=>
   obtain⟨F1,F2,e1,e2,e3⟩:=j
   have:F2=[]:=e3
   subst this
   simp only[qY]at e1
   rw[e1]
   show Pb _ _ _ _ _ _ _
   simpa using e2
 |[],j,hlen=>
  have:¬C.toArray.size=1:=by simp[hlen]
  rw[dif_neg this]
  exact⟨_,rfl,j⟩
 |r1::r2::I,j,hlen=>
  have:¬C.toArray.size=1:=by simp[hlen]
  rw[dif_neg this]
  exact⟨_,rfl,j⟩
def init(args:List (Bool×List D)):St:=
 { t:=λi=>match args[i]? with|some (j,ds)=>.v j (ds.map .dat)|none=>.undef,h:=λ_=>(0,.none) }
theorem args_at{w:World}:∀{vs:List Value} {xs:List (Bool×List D)} {F:List Nat},AU w vs xs F->vs.length=xs.length/\∀(i:Nat) (x:Bool×List D),xs[i]? =some x->∃v j,vs[i]? =some v/\Vs w v x j/\∀b∈j,b∈F
 |[],[],_,_=>⟨rfl,wb⟩
 |v::vs,x::xs,F,⟨I,F2,e,h1,h2⟩=>by
  obtain⟨J,U⟩:=args_at h2
  refine⟨by simp[J],λi y C=> ?_⟩
  subst e
  cases i with
  |zero=>simp at C;subst C;exact⟨v,I,wb,h1,λb hb=>by simp[hb]⟩
  |succ i=>obtain⟨u,j,m1,m2,m3⟩:=U i y (by simpa using C);exact⟨u,j,by simpa using m1,m2,λb hb=>by simp[m3 b hb]⟩
 |[],_::_,_,h=>h.elim
 |_::_,[],_,h=>h.elim
theorem KJ{w:World}:∀{vs:List Value} {xs:List (Bool×List D)} {F:List Nat},AU w vs xs F->∀b∈F,b<w.heap.size
 |[],[],F,h=>by rw[show F=[]from h];simp
 |v::vs,x::xs,F,⟨C,J,e,h1,h2⟩=>by
  subst e
  intro b hb
  rcases qP.1 hb with hb|hb
  ·obtain⟨I,ds⟩:=x
   cases I with
   |true=>obtain⟨U,rfl,j⟩:=h1;exact aM.lt ds _ C j b hb
   |false=>obtain⟨d,rfl,j⟩:=h1;exact Rep.lt d v C j b hb
  ·exact KJ h2 b hb
 |[],_::_,_,h=>h.elim
 |_::_,[],_,h=>h.elim
theorem U9{fn:Func}{args:List (Bool×List D)}{w:World}{vs:Array Value}{Fa:List Nat}(ha:AU w vs.toList args Fa)(hn:args.length<=fn.ntmps):
  Rel P w.heap.size ⟨w,⟨λb=>b∈Fa,w.heap.size,none,slP P⟩,noK,Ui⟩ fn.ntmps (init args) { tmps:=vs++Array.replicate (fn.ntmps-vs.size) undef,defers:=[] } w:=by
 obtain⟨hlen,U⟩:=args_at ha
 have hlen':vs.size=args.length:=by simpa using hlen
 have hFlt:=KJ ha
 let g:Gh:={ val:=λ_=>undef,fp:=λ_=>[],S:=λb=>b∈Fa,Q:=⟨λb=>b∈Fa,w.heap.size,none,slP P⟩ }
 refine⟨g,rfl,wV,Below.refl _ _,⟨λ_ x=>x,rfl,λ_ hx=>(by cases hx)⟩,λ_ x=>x.elim,⟨qg _,λ_ x _=>x,hFlt,λi=>trivial,λi b hl=>absurd rfl hl,λi j b _ hl=>absurd rfl hl,?_,Ck.nil _ _,wb,λi I=>(by obtain⟨_,_,_,I⟩:=I;cases I),qg _⟩,λt=> ?_,⟨rfl,.inl rfl⟩,λ_=>trivial⟩
 ·rintro i j _ ⟨_,_,_,I⟩;cases I
 ·show yM g _ w (match args[t]? with|some (J,ds)=>.v J (ds.map .dat)|none=>.undef) _
  cases ht:args[t]? with
  |none=>
   have hge:args.length<=t:=List.getElem?_eq_none_iff.1 ht
   show _=undef
   simp only[jN,Array.getElem?_append]
   rw[jG wg]
   by_cases h2:t-vs.size<fn.ntmps-vs.size
   ·simp[h2]
   ·rw[Array.getElem?_eq_none wV];rfl
  |some x=>
   obtain⟨v,Fi,h1,h2,C⟩:=U t x ht
   have hlt:t<vs.size:=by have:=(qe.1 ht).1;omega
   have hv:(vs++Array.replicate (fn.ntmps-vs.size) undef).getD t undef=v:=by
    simp only[jN,Array.getElem?_append]
    rw[jF hlt]
    have:vs[t]? =some v:=by simpa using h1
    rw[this];rfl
   rw[hv]
   obtain⟨J,ds⟩:=x
   cases J with
   |false=>
    obtain⟨d,rfl,hr⟩:=h2
    exact⟨v,[],rfl,⟨Fi,hr,C⟩,rfl⟩
   |true=>
    obtain⟨cs,rfl,hr⟩:=h2
    exact⟨cs,rfl,aU.J7 hr C⟩
theorem Zn {f : FuncId} {fn : Func} {c : Code} {args : List (Bool × List D)} {rs : List (Bool × List RC)} (hf : P.funcs[f]? = some fn) (hb : fn.body = some c) (hnm : (fn.name == "runtime.NumGoroutine") = false) (hn : args.length <= fn.ntmps)
  (h : ∀(base:Nat) (w0:W0),SW P base w0 fn.ntmps c (init args) (aft P base w0 fn.ntmps (Ret (fM P) fn.results.toList rs) [])):lE P f args rs:=by
 refine .inl ⟨⟨fn,c,hf,hb,hnm⟩,λw vs Fa ha => ?_⟩
 obtain ⟨hlen,hat⟩:=args_at ha
 have hlen':vs.size=args.length:=by simpa using hlen
 refine calls_of_wp hf hb ?_
 have hFlt:=KJ ha
 have R:=U9 (P:=P) (fn:=fn) ha hn
 refine wp_mono (h w.heap.size ⟨w,⟨λb=>b∈Fa,w.heap.size,none,slP P⟩,noK,Ui⟩ _ w R) ?_
 rintro e a' w' ⟨s',h1,R'⟩
 have fin:Ret (fM P) fn.results.toList rs s'->a'.defers=[] /\ ∃v,(results fn a'.tmps).run P w' = .ok v w' /\ ∃v',Ending.returned v = .returned v'/\M7 (slP P) w.heap.size w' v' rs (λb=>b∈Fa)/\Below w.heap.size w w':=by intro hr;obtain ⟨v,k1,k2⟩:=UF R' hr;obtain ⟨g',R''⟩:=R';exact ⟨R''.defers,v,k1,v,rfl,k2,R''.below⟩
 cases e with
 | normal=>exact fin h1
 | ret=>exact fin h1
 | exit id=>exact h1.elim
 | goto l=>exact h1.elim
 | panic c=>exact h1.elim
 | outgrown=>exact h1.elim
