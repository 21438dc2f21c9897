/-
  Helper text. No conditions.
-/
import Derived.Test.YtipmihbgjolaaaaGreatLoadedFilesPd6
set_option linter.unusedVariables false
set_option linter.unusedSimpArgs false
namespace Go.Proofs.YtipmihbgjolaaaaGreat.gen
open Go Go.Sh
open Go.IntKind (i64)
theorem WG {n:Nat} {r:M.aG} {s:M.aFG} (h:rpI r) (hs:svI n s) (hn:n<=900) : ∃x,vH r s=some x/\rpI x.1:=by
 have hc:=hs.2.2.2.1
 unfold vH
 rw [Di _ (by have:=h.sz;omega),qA,AN h.ok,qA]
 cases hR:BN r
 ·exact ⟨_,rfl,h⟩
 rw [if_neg qd,A8 (hs.ok qb),qA]
 cases EZ s
 ·exact ⟨_,rfl,h⟩
 rw [if_neg qd]
 by_cases hgt:r.aFq>(s.aFV.length:Int)
 ·rw [if_pos (by simpa using hgt)];exact ⟨_,rfl,h⟩
 rw [if_neg (by simpa using hgt)]
 unfold BN inR at hR
 simp only [qM,qL] at hR
 obtain ⟨k,ek⟩:=Aw hR.2.2.1.1
 rw [ek] at hgt ⊢
 have hbs:=pA hR.1
 have hd : ∀w∈List.drop k s.aFV,M.bD.ok w:=λw hw=>(hs.2.2.2.2 w (List.mem_of_mem_drop hw)).1
 obtain ⟨a1,a2⟩:=XD h.1 hR.1 hd
 obtain ⟨v,ev,hv⟩:=JS (s:=s) (d:=r.aFS.aM.aFC) hs.2.2.1
 obtain ⟨y,ey,y1,_⟩:=Tc (q:=v) h.2.2.2.1
 rw [JX qb,qA,qH,ER h.1 (ml (by rw [qU];omega)) hd qb,qA,ev,qA,ey,qA]
 exact ⟨_,rfl,a1,pA a2,bgI qg,y1,h.2.2.2.2.1,h.2.2.2.2.2⟩
theorem Yu {a c:Int} (ha:inI a) (hc:inI c) : ∃r,gV a c=some r/\inI r:=by unfold gV;split;(exact ⟨_,rfl,hc⟩);·exact ⟨_,rfl,ha⟩
theorem ZY {c:Int} : ∃r,gV 60 c=some r/\r<=60/\(inI c->inI r):=by unfold gV;split;(rename_i h;exact ⟨_,rfl,by have:=of_decide_eq_true h;omega,λh=>h⟩);·exact ⟨_,rfl,qb,λ_=>bgI qh⟩
theorem WZ {t:Int} (ht:t<=60) : ∃r,iL t=some r:=by
 have key : ∀(n k:Nat) (v:Int),100-k<n->k<=99 -> ∃r,nZ t n v (k:Int)=some r:=by
  intro n
  induction n with
  | zero=>intro k v h _;omega
  | succ n ih =>
   intro k v hn hk
   simp only [nZ]
   split
   ·rename_i h;have:=of_decide_eq_true h;split;(rw [bE qb];exact ih (k+1) _ qb qb);·exact ⟨_,rfl⟩
   ·exact ⟨_,rfl⟩
 exact key fuel 0 1 (lT qb) qb
def Op' {α:Type} (P:α->Prop) (o:Option α):Prop:=∃r,o=some r/\P r
theorem Op'.bnd {α β:Type} {P:β->Prop} {Q:α->Prop} {o:Option α} {f:α->Option β} (ho : ∃r,o=some r/\Q r) (hf : ∀r,Q r->Op' P (f r)):Op' P (o.bind f):=by obtain ⟨r,rfl,hq⟩:=ho;exact hf r hq
def syI (n:Nat) (x:M.aFS×M.aFG×Int):Prop:=obI x.1.aM/\inI x.1.aFi/\inI x.1.aFX/\svI n x.2.1
theorem XN {n:Nat} {y:M.aFS} {s:M.aFG} {now fate:Int} (hy:obI y.aM) (ht:inI y.aFi) (hw:inI y.aFX) (hs:svI n s) (hn:n<=800):Op' (syI (n+2)) (zM y s now fate):=by
 have hs1:=hs.mono (Nat.le_succ n)
 have hs2:=hs.mono (show n<=n+2 by omega)
 have hz:=hy.sz
 have ack : ∀ {q:Int},∃x,cT y.aM q=some x/\obI x.1:=λ{q}=>by obtain ⟨x,e,h,_⟩:=Tc (q:=q) hy;exact ⟨x,e,h⟩
 have fail : ∀ {x:M.aFG} {f:Int->Option (M.aFS×M.aFG×Int)},svI (n+2) x->(f=λae=>((gV 60 (i64.wrap (ae+1))).bind λaa=>((iL aa).bind λaf=>(some ((⟨y.aM,aa,(i64.wrap (now+af))⟩:M.aFS),x,2)))))->Op' (syI (n+2)) ((gV 59 y.aFi).bind f):=by
  intro x f hx hf
  subst hf
  refine .bnd (Yu (bgI qh) ht) λt1 h1=>.bnd ZY λt2 h2 => ?_
  obtain ⟨r,er⟩:=WZ h2.1
  rw [er,qA]
  exact ⟨_,rfl,hy,h2.2 (bI _),bI _,hx⟩
 unfold zM vQ Af
 rw [BL _ qb,qA,qA,Sr hs qb,oV hy.ok]
 have same:syI (n+2) (y,s,0):=⟨hy,ht,hw,hs2⟩
 cases hW:y.aM.aFO with
 | nil=>exact ⟨_,rfl,same⟩
 | cons w ws =>
  have hww:wsm w:=hy.2.2.2 w (by rw [hW];simp)
  rw [if_neg qc,show idx (w::ws) 0=some w from rfl]
  simp only [qA]
  rw [if_neg qd]
  cases sN y.aM
  ·exact ⟨_,rfl,same⟩
  rw [if_neg qd]
  split
  ·exact ⟨_,rfl,same⟩
  rw [cD,qA]
  split
  ·exact ⟨_,rfl,same⟩
  have good : ∀ {x:M.aFS×M.aFG×Int},obI x.1.aM->inI x.1.aFi->inI x.1.aFX->svI (n+2) x.2.1->Op' (syI (n+2)) (some x):=λa1 a2 a3 a4=>⟨_,rfl,a1,a2,a3,a4⟩
  have two : ∀ {a:M.aFG} {c:Int},svI (n+1) a->svI (n+2) a:=λh=>h.mono qb
  split
  ·refine .bnd (recv hs qb hww) λx1 h1 => ?_
   split
   ·refine .bnd (recv h1 qb hww) λx2 h2 => ?_
    split
    ·exact .bnd ack λq hq=>good hq vZ vZ h2
    split
    ·exact .bnd ack λq hq=>good hq vZ vZ h2
    ·exact fail h2 rfl
   ·split;(exact .bnd ack λq hq=>good hq vZ vZ (h1.mono qb));split;(exact .bnd ack λq hq=>good hq vZ vZ (h1.mono qb));·exact fail (h1.mono qb) rfl
  split
  ·refine .bnd (recv hs qb hww) λx1 h1 => ?_
   split
   ·refine .bnd (recv h1 qb hww) λx2 h2 => ?_
    split
    ·exact .bnd ack λq hq=>good hq vZ vZ h2
    split
    ·exact .bnd ack λq hq=>good hq vZ vZ h2
    ·exact fail h2 rfl
   ·exact fail (h1.mono qb) rfl
  split
  ·refine .bnd (recv hs qb hww) λx1 h1=>.bnd (recv h1 qb hww) λx2 h2 => ?_
   split
   ·exact .bnd ack λq hq=>good hq vZ vZ h2
   split
   ·exact .bnd ack λq hq=>good hq vZ vZ h2
   ·exact fail h2 rfl
  ·exact fail hs2 rfl
def prI (n:Nat) (x:M.aG×M.aFG):Prop:=rpI x.1/\svI n x.2
theorem T8 {b:List Int} {i h:Int} (c0:okC b i h):Dr b (prI 20) (AM (⟨b,i,h⟩:M.aQ)):=by
 unfold AM
 refine .bnd (K1 c0) λi0 v0 s0 aa q0=>.FZ (Ys q0 qb (bgI qh)) λr0 h0=>.bnd (aW aa) λi1 v1 r1 c1 q1 => ?_
 obtain ⟨N,rfl⟩:=Aw q1.1
 have hN:=q1.2.1 qb
 refine A5 (L:=λn v (s:(M.aG×M.aFG)×Int×Int)=>eZ (⟨b,i,h⟩:M.aQ) n v s.1.1.aFT.Name s.1.1.aFT.aFZ s.1.1.aFq s.1.1.aFS.aM.aFC s.1.1.aFS.aM.aFd s.1.1.aFS.aFi s.1.1.aFS.aFX s.2.1 s.2.2 s.1.2.aC.Name s.1.2.aC.aFZ s.1.1.aFT.aE7 s.1.1.aFS.aM.aFO s.1.2.aC.aE7 s.1.2.aO s.1.2.aFV) (I:=λk s=>k<=100000/\okC b s.2.1 s.2.2/\k<=5/\prI (15-2*k) s.1) (Q:=Dr b (prI 20)) (λn k s hi ih => ?_) (λn s hi => ?_) fuel N ((r0.1,s0),i1,v1) (lT qb) ⟨qb,c1,⟨qb,h0,q0.mono qb⟩⟩
 ·obtain ⟨x,ci,ch⟩:=s
  obtain ⟨k0,k1,k2⟩:=hi
  dsimp only at k1 k2
  simp only [eZ]
  rw [if_pos (RL k),JB k0]
  obtain ⟨k2,k3,k4⟩:=k2
  rw [show (⟨(⟨x.1.aFT.Name,x.1.aFT.aE7,x.1.aFT.aFZ⟩:M.aC),x.1.aFq,(⟨(⟨x.1.aFS.aM.aFC,x.1.aFS.aM.aFd,x.1.aFS.aM.aFO⟩:M.aM),x.1.aFS.aFi,x.1.aFS.aFX⟩:M.aFS)⟩:M.aG)=x.1 from rfl,show (⟨(⟨x.2.aC.Name,x.2.aC.aE7,x.2.aC.aFZ⟩:M.aC),x.2.aO,x.2.aFV⟩:M.aFG)=x.2 from rfl]
  refine .bnd (aW k1) λi3 v3 r3 c3 q3 => ?_
  dsimp only
  split
  ·refine .bnd (xV c3) λi4 v4 r4 c4 q4=>.bnd (Ab c4) λi5 v5 r5 c5 q5=>.bnd (aW c5) λi6 v6 r6 c6 q6=>.FZ (MM k3 q4.any (Nat.le_trans q5 qb) (bgI (SA q6))) λy hy => ?_
   exact ih ((y.1,x.2),i6,v6) ⟨qb,c6,qb,hy,k4.mono qb⟩
  split
  ·refine .bnd (xV c3) λi4 v4 r4 c4 q4=>.bnd (Ab c4) λi5 v5 r5 c5 q5=>.bnd (aW c5) λi6 v6 r6 c6 q6=>.FZ (MM k3 q4.any (Nat.le_trans q5 qb) (bgI (SA q6))) λy hy => ?_
   exact ih ((y.1,x.2),i6,v6) ⟨qb,c6,qb,hy,k4.mono qb⟩
  split
  ·refine .bnd (aW c3) λi4 v4 r4 c4 q4=>.FZ (XN (y:=x.1.aFS) k3.2.2.2.1 k3.2.2.2.2.1 k3.2.2.2.2.2 k4 qb) λy hy => ?_
   exact ih (((⟨x.1.aFT,x.1.aFq,y.1⟩:M.aG),y.2.1),i4,v4) ⟨qb,c4,qb,⟨k3.1,k3.2.1,k3.2.2.1,hy.1,hy.2.1,hy.2.2.1⟩,hy.2.2.2.mono qb⟩
  split
  ·refine .bnd (aW c3) λi4 v4 r4 c4 q4=>.FZ (JS k4.2.2.1) λv hv=>.bnd (xV c4) λi5 v5 r5 c5 q5=>.bnd (Ab c5) λi6 v6 r6 c6 q6=>.bnd (aW c6) λi7 v7 r7 c7 q7=>.FZ (recv k4 qb (FR (bI _) (bI _) q5.any (Nat.le_trans q6 qb) (bgI (SA q7)))) λy hy => ?_
   exact ih ((x.1,y.1),i7,v7) ⟨qb,c7,qb,k3,hy.mono qb⟩
  ·refine .FZ (WG k3 k4 qb) λy hy => ?_
   exact ih ((y.1,x.2),i3,v3) ⟨qb,c3,qb,hy,k4.mono qb⟩
 ·obtain ⟨x,ci,ch⟩:=s;obtain ⟨k0,k1,k2⟩:=hi;dsimp only at k1 k2;simp only [eZ];rw [if_neg Jp];exact .ret k1 ⟨k2.2.1,k2.2.2.mono qb⟩
def UF (r:M.aG):Prop:=r.ok/\M.aG.sz r<=25000
theorem rpI.all {r:M.aG} (h:rpI r):UF r:=⟨h.ok,by have:=h.sz;omega⟩
theorem UD {b:List Int} {i h:Int} (c0:okC b i h):Dr b UF (Be (⟨b,i,h⟩:M.aQ)):=by
 unfold Be
 refine .bnd (T8 c0) λi1 v1 r1 c1 q1=>.bnd (aW c1) λi2 v2 r2 c2 q2 => ?_
 dsimp only
 have hr:=q1.1
 have hz:=hr.2.2.2.1.sz
 have hz1:=hr.2.1
 split
 ·refine .bnd (Tp c2) λi3 v3 r3 c3 q3=>.ret c3 ⟨⟨q3.1,hr.2.2.1,hr.ok.aFS⟩,?_⟩
  have:=q3.2
  simp only [M.aG.sz,M.aFS.sz]
  omega
 split
 ·refine .bnd (rU (λx => -1000000000000000<=x/\x<=1000000000000000) qe qe c2) λi3 v3 r3 c3 q3=>.ret c3 ⟨⟨hr.1,bgI q3,hr.ok.aFS⟩,?_⟩
  simp only [M.aG.sz,M.aFS.sz]
  omega
 split
 ·refine .bnd (U6 c2) λi3 v3 r3 c3 q3=>.ret c3 ⟨⟨hr.1,hr.2.2.1,⟨q3.ok,hr.2.2.2.2.1,hr.2.2.2.2.2⟩⟩,?_⟩
  have:=q3.sz
  simp only [M.aG.sz,M.aFS.sz]
  omega
 ·exact .ret c2 hr.all
def nbI (x:M.aJ):Prop:=x.aFD.size<=16/\x.Top.size<=16/\(M.aE4.ok x.aE4/\x.aE4.aFD.size<=16)/\Ch x.aE6/\(x.bV.ok/\M.bV.sz x.bV<=1000)/\rpI x.aG/\inI x.aFf
theorem Mt:RN (⟨(⟨#[110,111,116,101,115]⟩:ByteArray),([]:List M.aFP),0⟩:M.aC):=Wl qe qe
theorem YV {a t:ByteArray} {d:Int} (ha:a.size<=16) (ht:t.size<=16) (hd:inI d) : ∃x,pQ a t d=some x/\nbI x.1:=by refine ⟨_,Ex (s16 ha) (s16 ht) hd,?_⟩;have hz:nbI rZ:=⟨qe,qe,⟨⟨s16 qe,vZ,vZ,vZ⟩,qe⟩,TM,⟨(J3).bV,qe⟩,M7,vZ⟩;unfold Ce;split;(split;(have ok:=Mu (s16 ha) (s16 ht) hd;exact ⟨ha,ht,⟨ok.aE4,ha⟩,TM,⟨ok.bV,by show M.bV.sz (DE (⟨#[]⟩:ByteArray) (⟨#[]⟩:ByteArray) 0).bV<=1000;decide⟩,⟨Mt.1,pA Mt.2.1,vZ,Ou hd Q6,vZ,vZ⟩,vZ⟩);·exact hz);·exact hz
def bkI (x:M.aJ):Prop:=x.aFD.size<=16/\x.Top.size<=16/\(M.aE4.ok x.aE4/\x.aE4.aFD.size<=16)/\Nf x.aE6/\PH x.bV/\UF x.aG/\inI x.aFf
theorem bkI.ok {x:M.aJ} (h:bkI x):x.ok:=⟨s16 h.1,s16 h.2.1,h.2.2.1.1,h.2.2.2.1.1,h.2.2.2.2.1.1,h.2.2.2.2.2.1.1,h.2.2.2.2.2.2⟩
theorem bkI.sz {x:M.aJ} (h:bkI x):M.aJ.sz x<=180000:=by obtain ⟨h1,h2,⟨_,h3⟩,⟨_,h4⟩,⟨_,h5⟩,⟨_,h6⟩,_⟩:=h;simp only [M.aJ.sz,M.aE4.sz];omega
def P4 (k:M.bV):Prop:=k.ok/\M.bV.sz k<=20000
def bkS (x:M.aJ):Prop:=x.aFD.size<=16/\x.Top.size<=16/\(M.aE4.ok x.aE4/\x.aE4.aFD.size<=16)/\Nf x.aE6/\P4 x.bV/\UF x.aG/\inI x.aFf
theorem P4.all {k:M.bV} (h:P4 k):PH k:=⟨h.1,by have:=h.2;omega⟩
theorem bkS.all {x:M.aJ} (h:bkS x):bkI x:=⟨h.1,h.2.1,h.2.2.1,h.2.2.2.1,h.2.2.2.2.1.all,h.2.2.2.2.2⟩
theorem aAG {b:List Int} {i h:Int} {X:M.aJ×Bool} {kd:M.bV} {N:Nat} {i1 v1:Int} (hX:nbI X.1) (hk:P4 kd) (hN:N<=10) (c1:okC b i1 v1):Dr b bkS (fR (⟨b,i,h⟩:M.aQ) X kd.aFT.Name kd.aFT.aE3 kd.aFk kd.aFT.aFH kd.aFT.aFQ kd.Log fuel (N:Int) X.1.aG.aFT.Name X.1.aG.aFT.aFZ X.1.aG.aFq X.1.aG.aFS.aM.aFC X.1.aG.aFS.aM.aFd X.1.aG.aFS.aFi X.1.aG.aFS.aFX i1 v1 X.1.aG.aFT.aE7 X.1.aG.aFS.aM.aFO):=by
 obtain ⟨h1,h2,h3,h4,h5,h6,h7⟩:=hX
 refine A5 (L:=λn v (s:(M.aG)×Int×Int)=>fR (⟨b,i,h⟩:M.aQ) X kd.aFT.Name kd.aFT.aE3 kd.aFk kd.aFT.aFH kd.aFT.aFQ kd.Log n v s.1.aFT.Name s.1.aFT.aFZ s.1.aFq s.1.aFS.aM.aFC s.1.aFS.aM.aFd s.1.aFS.aFi s.1.aFS.aFX s.2.1 s.2.2 s.1.aFT.aE7 s.1.aFS.aM.aFO) (I:=λk s=>k<=100000/\okC b s.2.1 s.2.2/\rpI s.1) (Q:=Dr b bkS) (λn k s hi ih => ?_) (λn s hi => ?_) fuel N (X.1.aG,i1,v1) (lT qb) ⟨qb,c1,h6⟩
 ·obtain ⟨x,ci,ch⟩:=s
  obtain ⟨k0,k1,k2⟩:=hi
  dsimp only at k1 k2
  simp only [fR]
  rw [if_pos (RL k),JB k0]
  refine .bnd (xV k1) λi3 v3 r3 c3 q3=>.bnd (Ab c3) λi4 v4 r4 c4 q4=>.bnd (aW c4) λi5 v5 r5 c5 q5=>.FZ (MM (r:=x) k2 q3.any (Nat.le_trans q4 qb) (bgI (SA q5))) λy hy => ?_
  exact ih (y.1,i5,v5) ⟨qb,c5,hy⟩
 ·obtain ⟨x,ci,ch⟩:=s
  obtain ⟨k0,k1,k2⟩:=hi
  dsimp only at k1 k2
  simp only [fR]
  rw [if_neg Jp]
  have hkD:=hk
  have hl : ∀ {r:Int},(0<=r/\(0<(50:Int)->r<50)/\r<=16777215)->inI r:=λq=>bgI ⟨qb,qb⟩
  refine .bnd (yR k1) λi3 v3 r3 c3 q3 => ?_
  dsimp only
  split
  ·refine .bnd (aW c3) λi4 v4 r4 c4 q4=>.FZ (MH h4 (bI _)) λy hy=>.bnd (aW c4) λi5 v5 r5 c5 q5=>.bnd (yR c5) λi6 v6 r6 c6 q6=>.ret c6 ⟨h1,h2,⟨⟨h3.1.aFD,h3.1.aFY,h3.1.aFg,bI _⟩,h3.2⟩,hy.all,hkD,k2.all,hl q5⟩
  ·exact .bnd (aW c3) λi5 v5 r5 c5 q5=>.bnd (yR c5) λi6 v6 r6 c6 q6=>.ret c6 ⟨h1,h2,h3,h4.all,hkD,k2.all,hl q5⟩
theorem Z1 {b:List Int} {i h:Int} {X:M.aJ×Bool} {N:Nat} {i1 v1:Int} (hX:nbI X.1) (hN:N<=4) (c1:okC b i1 v1):Dr b bkS (fU (⟨b,i,h⟩:M.aQ) X fuel (N:Int) X.1.bV.aFT.Name X.1.bV.aFT.aE3 X.1.bV.aFk i1 v1 X.1.bV.aFT.aFH X.1.bV.aFT.aFQ X.1.bV.Log):=by
 have h5:=hX.2.2.2.2.1
 refine A5 (L:=λn v (s:(M.bV)×Int×Int)=>fU (⟨b,i,h⟩:M.aQ) X n v s.1.aFT.Name s.1.aFT.aE3 s.1.aFk s.2.1 s.2.2 s.1.aFT.aFH s.1.aFT.aFQ s.1.Log) (I:=λk s=>k<=100000/\okC b s.2.1 s.2.2/\s.1.ok/\M.bV.sz s.1+4000*k<=20000) (Q:=Dr b bkS) (λn k s hi ih => ?_) (λn s hi => ?_) fuel N (X.1.bV,i1,v1) (lT qb) ⟨qb,c1,⟨h5.1,by have:=h5.2;dsimp only;omega⟩⟩
 ·obtain ⟨x,ci,ch⟩:=s
  obtain ⟨k0,k1,k2⟩:=hi
  dsimp only at k1 k2
  simp only [fU]
  rw [if_pos (RL k),JB k0]
  refine .bnd (xV k1) λi3 v3 r3 c3 q3=>.bnd (Cz c3) λi4 v4 r4 c4 q4=>.FZ (Ov (k:=x) (n:=M.bV.sz x) k2.1 (Nat.le_refl _) (by have:=k2.2;omega) qd (by simp only [List.mem_cons,qO,or_false];rintro o rfl;exact ⟨Q6,s16 (s:=(⟨#[110,111,116,101,115]⟩:ByteArray)) qe,q3.any.1,q4.1,s16 (s:=(⟨#[]⟩:ByteArray)) qe⟩)) λy hy => ?_
  exact ih (y.1,i4,v4) ⟨qb,c4,hy.1,by have:=hy.2;have:=k2.2;dsimp only;omega⟩
 ·obtain ⟨x,ci,ch⟩:=s
  obtain ⟨k0,k1,k2⟩:=hi
  dsimp only at k1 k2
  simp only [fU]
  rw [if_neg Jp]
  refine .bnd (aW k1) λi3 v3 r3 c3 q3 => ?_
  obtain ⟨M,rfl⟩:=Aw q3.1
  have hM:=q3.2.1 qb
  exact aAG hX (kd:=x) ⟨k2.1,by have:=k2.2;omega⟩ qb c3
theorem J8 {b:List Int} {i h:Int} (c0:okC b i h):Dr b bkS (uG (⟨b,i,h⟩:M.aQ)):=by
 unfold uG
 refine .bnd (GV c0) λi1 v1 r1 c1 q1=>.FZ (YS c1 q1) λy hy=>.bnd (aW hy.2) λi4 v4 r4 c4 q4=>.FZ (YV (Nat.le_trans q1 qb) (Nat.le_trans hy.1 qb) (bI _)) λx hx=>.bnd (aW c4) λi5 v5 r5 c5 q5 => ?_
 obtain ⟨N,rfl⟩:=Aw q5.1
 have hN:=q5.2.1 qb
 exact Z1 hx qb c5
theorem Vx {b:List Int} {i h:Int} (c0:okC b i h):Dr b bkI (Bm (⟨b,i,h⟩:M.aQ)):=by
 unfold Bm
 refine .bnd (J8 c0) λi1 v1 r1 c1 q1=>.bnd (aW c1) λi2 v2 r2 c2 q2 => ?_
 have q0:=q1.all
 obtain ⟨h1,h2,h3,h4,h5,h6,h7⟩:=q1
 have h5a:=h5.all
 dsimp only
 split
 ·exact .bnd (Bo (λs=>s.size<=16) qe qe c2) λi3 v3 r3 c3 q3=>.ret c3 ⟨q3,h2,h3,h4,h5a,h6,h7⟩
 split
 ·exact .bnd (UP c2) λi3 v3 r3 c3 q3=>.ret c3 ⟨h1,h2,h3,q3,h5a,h6,h7⟩
 split
 ·exact .bnd (VV c2) λi3 v3 r3 c3 q3=>.ret c3 ⟨h1,h2,h3,h4,q3,h6,h7⟩
 split
 ·exact .bnd (UD c2) λi3 v3 r3 c3 q3=>.ret c3 ⟨h1,h2,h3,h4,h5a,q3,h7⟩
 split
 ·exact .bnd (rU (λx => -1000000000000000<=x/\x<=1000000000000000) qe qe c2) λi3 v3 r3 c3 q3=>.ret c3 ⟨h1,h2,h3,h4,h5a,h6,bgI q3⟩
 split
 ·have hz:=h5.2
  simp only [M.bV.sz] at hz
  have key : ∀(n:Nat) (l:List Int),100000<n+l.length->okB l->l.length<=20000->Dr b bkI (nB (i1,v1,r1) (i2,v2,r2) n l):=by
   intro n
   induction n with
   | zero=>intro l h _ hz2;exact absurd h qb
   | succ n ih =>
    intro l hn hl hz2
    have e1:(l++[(0:Int)]).length=l.length+1:=by rw [qE];rfl
    simp only [nB]
    by_cases h6':(l.length:Int)<2600
    ·have h7':l.length<2600:=by omega
     rw [if_pos (decide_eq_true h6'),AJ (by show l.length+1<=_;omega) qb,qA]
     refine ih (l++[0]) qb ⟨ml qb,λx hx => ?_⟩ qb
     rcases List.mem_append.1 hx with hx | hx
     ·exact hl.2 x hx
     ·rw [List.mem_singleton.1 hx];exact ⟨Int.le_refl _,qe⟩
    ·rw [if_neg (by rw [decide_eq_false h6'];exact Bool.false_ne_true)];exact .ret c2 ⟨h1,h2,h3,h4,⟨⟨h5.1.aFT,hl,h5.1.aFk⟩,by show M.aE5.sz r1.bV.aFT+l.length<=80000;omega⟩,h6,h7⟩
  exact key fuel r1.bV.Log (Nat.lt_of_lt_of_le (lT (k:=100000) qb) (Nat.le_add_right _ _)) h5.1.Log qb
 ·exact .ret c2 q0
theorem jn {α β:Type} {o:Option α} {v:α} {f:α->Option β} {r:Option β} (h1:o=some v) (h2:f v=r):o.bind f=r:=by rw [h1];exact h2
theorem nE {α:Type} {f:α->α->Bool} (hf : ∀x,f x x=true) : ∀l:List α,eqL f l l=true
 | []=>rfl
 | x::l=>by simp only [eqL,hf x,nE hf l,Bool.and_self]
theorem LF (x:M.aE9):E4 x x=true:=by simp [E4,nE (f:=A0) (λx=>by simp [A0])]
theorem LB (x:M.aE):He x x=true:=nE (λc=>by simp [NM,nE (f:=HR) (λy=>by simp [HR,LF])]) _
theorem Ny (x:M.aD):Mp x x=true:=nE (λy=>by simp [JT]) _
theorem GD (x:M.aC):Hc x x=true:=by simp [Hc,Za,nE (f:=RD) (λy=>by simp [RD,Za,Ny])]
theorem K7 (x:M.aE5):EU x x=true:=by simp [EU,nE (f:=Hc) GD,nE (f:=CP) (λy=>by simp [CP])]
theorem Ri (x:M.bV):Tb x x=true:=by simp [Tb,K7,nE (f:=A0) (λx=>by simp [A0])]
theorem N0 (x:M.aM):KE x x=true:=by simp [KE,nE (f:=C2) (λy=>by simp [C2])]
theorem Mn (x:M.aG):Hz x x=true:=by simp [Hz,Vu,GD,N0]
theorem NW (x:M.aJ):IA x x=true:=by simp [IA,aAC,LB,Ri,Mn]
theorem EA (x:List M.Instr) (hs:x.length<=1073741824):uC x=some x:=by unfold uC;rw [EC hs qb,qA]
theorem K8 (x:M.aFI) (hs:M.aFI.sz x<=1073741824):AE x=some x:=by simp only [M.aFI.sz] at hs;unfold AE;rw [EA _ qb,qA,EC qb qb,qA]
theorem FW (x:M.bC) (hs:M.bC.sz x<=1073741824):lW x=some x:=by simp only [M.bC.sz] at hs;unfold lW;rw [EC qb qb,qA,K8 _ qb,qA]
theorem FY (x:M.aR) (hs:M.aR.sz x<=1073741824):vX x=some x:=by simp only [M.aR.sz] at hs;unfold vX;rw [EC qb qb,qA]
theorem Lq (x:M.aFB) (hs:M.aFB.sz x<=1073741824):oL x=some x:=by simp only [M.aFB.sz] at hs;unfold oL;rw [EC qb qb,qA]
theorem Li (x:M.aFD) (hs:M.aFD.sz x<=1073741824):AG x=some x:=by simp only [M.aFD.sz] at hs;unfold AG;rw [EC qb qb,qA]
theorem Le (x:M.aFG) (hs:M.aFG.sz x<=1073741824):gH x=some x:=by simp only [M.aFG.sz] at hs;unfold gH;rw [mP _ qb,qA,EC qb qb,qA,EC qb qb,qA]
theorem G4 (x:M.aFI) (hs:M.aFI.sz x<=1073741824):uV x=some x:=by simp only [M.aFI.sz] at hs;unfold uV;rw [EC qb qb,qA,EC qb qb,qA]
theorem CL (x:M.bC) (hs:M.bC.sz x<=1073741824):iG x=some x:=by simp only [M.bC.sz] at hs;unfold iG;rw [EC qb qb,qA,G4 _ qb,qA]
theorem JC (x:M.aR) (hs:M.aR.sz x<=1073741824):xR x=some x:=by simp only [M.aR.sz] at hs;unfold xR;rw [EC qb qb,qA]
theorem Hr (x:M.aFB) (hs:M.aFB.sz x<=1073741824):jO x=some x:=by simp only [M.aFB.sz] at hs;unfold jO;rw [EC qb qb,qA]
theorem KM (x:M.aFD) (hs:M.aFD.sz x<=1073741824):zP x=some x:=by simp only [M.aFD.sz] at hs;unfold zP;rw [EC qb qb,qA]
theorem IL (x:M.aFG) (hs:M.aFG.sz x<=1073741824):wR x=some x:=by simp only [M.aFG.sz] at hs;unfold wR;rw [Cc _ qb,qA,EC qb qb,qA,EC qb qb,qA]
theorem aEk (n:Int):inR n 0 0=(n==0):=by unfold inR;rw [Bool.eq_iff_iff];simp only [qM,qL,beq_iff_eq];omega
theorem Ro {k:Int} (h:inR k 1 9=true):k=1\/k=2\/k=3\/k=4\/k=5\/k=6\/k=7\/k=8\/k=9:=by unfold inR at h;simp only [qM,qL] at h;omega
theorem aAm {α β:Type} (c:Bool) (x y:Option α) (f:α->Option β):(if c=true then x else y).bind f=if c=true then x.bind f else y.bind f:=by split<;>rfl
theorem Rl {k r n m:Int} {t:ByteArray} (ht:t.size<=maxLen) : ∃b,vJ (⟨k,r,n,t⟩:M.Instr) m=some b:=by
 unfold vJ
 simp only [cD,cZ ht,qA,aEk]
 generalize inR r 0 3=a1
 generalize (r != 0)=a2
 generalize mH t=a3
 generalize (t.toList==(⟨#[]⟩:ByteArray).toList)=a4
 generalize inR n 0 1000=a5
 generalize inR n 0 3=a6
 generalize inR n 0 m=a7
 generalize inR n 0 100=a8
 generalize (n==0)=a9
 cases hk:inR k 1 9 with
 | false=>exact ⟨false,by simp only [aAm,qA,qC,if_true,ite_self]⟩
 | true =>
  rcases Ro hk with rfl | rfl | rfl | rfl | rfl | rfl | rfl | rfl | rfl
  all_goals clear hk
  all_goals simp +decide only [qA,aAm,if_true,if_false,qB,qC,show inR 1 6 8=false from rfl,show inR 2 6 8=false from rfl,show inR 3 6 8=false from rfl,show inR 4 6 8=false from rfl,show inR 6 6 8=true from rfl,show inR 7 6 8=true from rfl,show inR 8 6 8=true from rfl,show inR 9 6 8=false from rfl]
  all_goals (try generalize inR n 0 1000=b1)
  all_goals (try generalize inR n 0 3=b2)
  all_goals (try generalize inR n 0 m=b3)
  all_goals (try generalize inR n 0 100=b4)
  all_goals (try generalize inR n 0 0=b5)
  all_goals (try generalize (n==0)=b6)
  all_goals (try cases b1)
  all_goals (try cases b2)
  all_goals (try cases b3)
  all_goals (try cases b4)
  all_goals (try cases b5)
  all_goals (try cases b6)
  all_goals (try clear a1)
  all_goals (try clear a2)
  all_goals (try clear a3)
  all_goals (try clear a4)
  all_goals (try clear a5)
  all_goals (try clear a6)
  all_goals (try clear a7)
  all_goals (try clear a8)
  all_goals (try clear a9)
  all_goals (try cases a1)
  all_goals (try cases a2)
  all_goals (try cases a3)
  all_goals (try cases a4)
  all_goals (try cases a5)
  all_goals (try cases a6)
  all_goals (try cases a7)
  all_goals (try cases a8)
  all_goals (try cases a9)
  all_goals first | exact ⟨true,rfl⟩ | exact ⟨false,rfl⟩
def Up (x:M.Instr) (m:Int):Bool:=(vJ x m).getD false
theorem K9 {x:M.Instr} {m:Int} (hx:x.ok):vJ x m=some (Up x m):=by obtain ⟨k,r,n,t⟩:=x;obtain ⟨b,e1⟩:=Rl (k:=k) (r:=r) (n:=n) (m:=m) hx.aFb;unfold Up;rw [e1];rfl
def MQ (l:List M.Instr) (k:Nat):Bool:=(l[k]?).any λx=>Up x (List.length l:Int)
def MR (l:List M.Instr):Bool:=(List.range l.length).all (MQ l)&&decide ((List.length l:Int)<=16)
def Cl (l:List M.Instr):Prop:=l.length<=maxLen /\ ∀x∈l,M.Instr.ok x
theorem KR {l:List M.Instr} (hl:Cl l):zT l=some (MR l):=by have hm:=le_max hl.1;unfold zT MR;rw [nH (L:=mK l) (g:=MQ l) (F:=some false) (E:=some (decide ((List.length l:Int)<=16))) hl.1 (λn k hk => ?_) (λn => ?_),aZ];(simp only [mK];rw [if_pos (aY hk),aK hk,qA,bE qb,K9 (hl.2 _ (qG hk)),qA];unfold MQ;rw [qF hk,Option.any_some];simp only [fX]);·simp only [mK];rw [if_neg qk]
def O2 (l:List M.Instr):M.aFI:=if MR l=true then (⟨l,0,[0,0,0,0],0,false,false⟩:M.aFI) else (⟨([]:List M.Instr),0,[0,0,0,0],0,true,false⟩:M.aFI)
theorem SI:okI [0,0,0,0]:=⟨by unfold maxLen;simp,λx hx=>by simp only [List.mem_cons,qO,or_false,or_self] at hx;subst hx;exact vZ⟩
theorem UR {l:List M.Instr} (hl:Cl l):(O2 l).ok:=by unfold O2;split;(exact ⟨hl,vZ,SI,vZ⟩);·exact ⟨⟨qd,qd⟩,vZ,SI,vZ⟩
theorem UX (l:List M.Instr):M.aFI.sz (O2 l)<=l.length+dG M.Instr.sz l+4:=by unfold O2;split;(simp only [M.aFI.sz,qJ,qK];omega);·simp only [M.aFI.sz,dG,qJ,qK];omega
theorem It {l:List M.Instr} (hl:Cl l) (hz:l.length<=1073741824):wY l=some (O2 l):=by unfold wY O2;rw [KR hl,qA,EA l hz];cases MR l<;>rfl
def CN (i:Int) (a b:ByteArray) (v:Int) (l:List M.Instr):M.bC:=(⟨i,a,b,v,([]:List M.aU),O2 l⟩:M.bC)
def Hs:M.bC:=(⟨0,(⟨#[]⟩:ByteArray),(⟨#[]⟩:ByteArray),0,([]:List M.aU),(⟨([]:List M.Instr),0,([]:List Int),0,false,false⟩:M.aFI)⟩:M.bC)
def B6 (i:Int) (a b:ByteArray) (v:Int) (l:List M.Instr):M.bC×Bool:=if Bv (CN i a b v l)=true then (CN i a b v l,true) else (Hs,false)
theorem Mb {i v:Int} {a b:ByteArray} {l:List M.Instr} (hi:inI i) (ha:a.size<=maxLen) (hb:b.size<=maxLen) (hv:inI v) (hl:Cl l):(CN i a b v l).ok:=⟨hi,ha,hb,hv,⟨by simp [CN],by simp [CN]⟩,UR hl⟩
theorem RY:Hs.ok:=⟨vZ,sz0,sz0,vZ,⟨by simp [Hs],by simp [Hs]⟩,⟨⟨by simp [Hs],by simp [Hs]⟩,vZ,⟨by simp [Hs],by simp [Hs]⟩,vZ⟩⟩
theorem N7 {i v:Int} {a b:ByteArray} {l:List M.Instr} (hi:inI i) (ha:a.size<=maxLen) (hb:b.size<=maxLen) (hv:inI v) (hl:Cl l):(B6 i a b v l).1.ok:=by unfold B6;split;(exact Mb hi ha hb hv hl);·exact RY
theorem Ni (i:Int) (a b:ByteArray) (v:Int) (l:List M.Instr):M.bC.sz (B6 i a b v l).1<=a.size+b.size+(l.length+dG M.Instr.sz l)+4/\(B6 i a b v l).1.aU.length=0:=by have h:=UX l;unfold B6;split;(refine ⟨?_,rfl⟩;simp only [CN,M.bC.sz,dG,qK];omega);·refine ⟨?_,rfl⟩;have h0:(⟨#[]⟩:ByteArray).size=0:=rfl;simp only [Hs,M.bC.sz,M.aFI.sz,dG,qK,h0];omega
theorem Ek {i v:Int} {a b:ByteArray} {l:List M.Instr} (hi:inI i) (ha:a.size<=maxLen) (hb:b.size<=maxLen) (hv:inI v) (hl:Cl l) (hz:l.length<=1073741824):kF i a b v l=some (B6 i a b v l):=by unfold kF B6;rw [It hl hz,qA];show ((rX (CN i a b v l)).bind _)=_;rw [Ck (Mb hi ha hb hv hl),qA];cases Bv (CN i a b v l)<;>rfl
def CT (p:M.bC) (f:ByteArray) (v:Int):M.bC:=(⟨p.Id,p.aFD,p.Top,p.aE3,p.aU++[(⟨f,v⟩:M.aU)],p.aFI⟩:M.bC)
def BI (p:M.bC) (f:ByteArray) (x:M.aE9):M.bC×Bool:=if (x.aFm != 200)=true then (p,false) else if (x.aE3 != p.aE3)=true then (p,false) else if Bv p=true then (if Bv (CT p f x.aE3)=true then (CT p f x.aE3,true) else (p,false)) else (p,false)
theorem Ke {p:M.bC} {f:ByteArray} {v:Int} (hp:p.ok) (hl:p.aU.length<=4194304) (hf:f.size<=maxLen) (hv:inI v):(CT p f v).ok:=
 ⟨hp.Id,hp.aFD,hp.Top,hp.aE3,⟨by show (p.aU++_).length<=maxLen;unfold maxLen;simp;omega,λy hy=>by have hy':y∈p.aU++[(⟨f,v⟩:M.aU)]:=hy;simp only [qP,List.mem_cons,qO,or_false] at hy';rcases hy' with hy | rfl;(exact hp.aU.2 y hy);·exact ⟨hf,hv⟩⟩,hp.aFI⟩
theorem JU {p:M.bC} {f:ByteArray} {x:M.aE9} (hp:p.ok) (hl:p.aU.length<=4194304) (hf:f.size<=maxLen) (hv:inI x.aE3):(BI p f x).1.ok:=by unfold BI;split;(exact hp);·split;(exact hp);·split;(split;(exact Ke hp hl hf hv);·exact hp);·exact hp
theorem JP (p:M.bC) (f:ByteArray) (x:M.aE9):M.bC.sz (BI p f x).1<=M.bC.sz p+f.size+1:=by
 have h:M.bC.sz (CT p f x.aE3)=M.bC.sz p+f.size+1:=by simp only [CT,M.bC.sz,qE,qJ,qK,xS,dG,M.aU.sz];omega
 unfold BI
 split
 ·show M.bC.sz p<=_;omega
 ·split;(show M.bC.sz p<=_;omega);·split;(split;(show M.bC.sz (CT p f x.aE3)<=_;omega);·show M.bC.sz p<=_;omega);·show M.bC.sz p<=_;omega
theorem LY {p:M.bC} {f:ByteArray} {x:M.aE9} (h:(BI p f x).2=false):(BI p f x).1=p:=by unfold BI at h ⊢;by_cases h1:(x.aFm != 200)=true;(rw [if_pos h1]);·rw [if_neg h1] at h ⊢;by_cases h2:(x.aE3 != p.aE3)=true;(rw [if_pos h2]);·rw [if_neg h2] at h ⊢;by_cases h3:Bv p=true;(rw [if_pos h3] at h ⊢;by_cases h4:Bv (CT p f x.aE3)=true;(rw [if_pos h4] at h;cases h);·rw [if_neg h4]);·rw [if_neg h3]
theorem CR {p:M.bC} {f:ByteArray} {x:M.aE9} (hp:p.ok) (hl:p.aU.length<=4194304) (hz:M.bC.sz p<=1073741824) (hf:f.size<=maxLen) (hv:inI x.aE3):hU p f x=some (BI p f x):=by have e:=Ck (Ke hp hl hf hv);unfold CT at e;unfold hU BI;rw [FW p hz,qA,dH qs,qA,Ck hp,qA,e,qA];unfold CT;cases (x.aFm != 200);(cases (x.aE3 != p.aE3);(cases Bv p;(simp);·cases Bv (⟨p.Id,p.aFD,p.Top,p.aE3,p.aU++[(⟨f,x.aE3⟩:M.aU)],p.aFI⟩:M.bC)<;>simp);·simp);·simp
theorem KQ {p:M.bC} {f:ByteArray} {x:M.aE9} (hp:p.ok) (hl:p.aU.length<=4194304) (hz:M.bC.sz p<=1073741824) (hf:f.size<=maxLen) (hv:inI x.aE3):zR p f x=some (BI p f x):=by have e:=D4 (Ke hp hl hf hv);unfold CT at e;unfold zR BI;rw [CL p hz,qA,dH qs,qA,D4 hp,qA,e,qA];unfold CT;cases (x.aFm != 200);(cases (x.aE3 != p.aE3);(cases Bv p;(simp);·cases Bv (⟨p.Id,p.aFD,p.Top,p.aE3,p.aU++[(⟨f,x.aE3⟩:M.aU)],p.aFI⟩:M.bC)<;>simp);·simp);·simp
def Cy (x:M.Instr):Prop:=M.Instr.ok x/\x.aFb.size<=8
theorem Dc {k r n:Int} {s:ByteArray} (h1 : -1000000000000<=k/\k<=1000000000000) (h2:0<=r/\r<=1000000000000) (h3:0<=n/\n<=1000000000000) (hs:s.size<=8):Cy (⟨k,r,n,s⟩:M.Instr):=⟨⟨JM (by show -1000000000000000<=k;omega) (by show k<=_;omega),JM (by show -1000000000000000<=r;omega) (by show r<=_;omega),JM (by show -1000000000000000<=n;omega) (by show n<=_;omega),D8 hs⟩,hs⟩
theorem Q7 {b:List Int} {i h n:Int} (hn:0<=n/\n<=1000) (hc:okC b i h):Dr b Cy (zS (⟨b,i,h⟩:M.aQ) n):=by
 have e0:(⟨#[]⟩:ByteArray).size<=8:=by decide
 unfold zS
 refine .bnd (aW hc) λi1 v1 r1 c1 q1=>.bnd (aW c1) λi2 v2 r2 c2 q2 => ?_
 dsimp only
 have hr1:=q1.2.1 qb
 have hr2:=q2.2.1 qb
 rw [wrap_small (n:=1+r1) qb qb,wrap_small (n:=n+1) qb qb]
 have a1 : -1000000000000<=1+r1/\1+r1<=1000000000000:=by omega
 have a2:0<=r2/\r2<=1000000000000:=by omega
 have a0:(0:Int)<=0/\(0:Int)<=1000000000000:=by omega
 have below : ∀ {m:Int} {f:Int×Int×Int->Option (Int×Int×M.Instr)},(∀i3 v3 r3,okC b i3 v3->(0<=r3/\r3<=1000000000000)->Dr b Cy (f (i3,v3,r3)))->Dr b Cy ((aF (⟨b,i2,v2⟩:M.aQ) m).bind f):=λhf=>.bnd (aW c2) λi3 v3 r3 c3 q3=>hf i3 v3 r3 c3 ⟨q3.1,qb⟩
 split
 ·exact below λi3 v3 r3 c3 q3=>.ret c3 (Dc a1 a2 q3 e0)
 split
 ·exact below λi3 v3 r3 c3 q3=>.ret c3 (Dc a1 a2 q3 e0)
 split
 ·exact below λi3 v3 r3 c3 q3=>.ret c3 (Dc a1 a2 q3 e0)
 split
 ·exact below λi3 v3 r3 c3 q3=>.ret c3 (Dc a1 a0 q3 e0)
 split
 ·exact .bnd (Bo (λs=>s.size<=8) qe qe c2) λi3 v3 r3 c3 q3=>.ret c3 (Dc a1 a2 a0 q3)
 split
 ·exact below λi3 v3 r3 c3 q3=>.bnd (Ab c3) λi4 v4 r4 c4 q4=>.ret c4 (Dc a1 a2 q3 q4)
 split
 ·exact below λi3 v3 r3 c3 q3=>.bnd (Ab c3) λi4 v4 r4 c4 q4=>.ret c4 (Dc a1 a2 q3 q4)
 split
 ·exact below λi3 v3 r3 c3 q3=>.bnd (Ab c3) λi4 v4 r4 c4 q4=>.ret c4 (Dc a1 a2 q3 q4)
 split
 ·exact .ret c2 (Dc a1 a0 a0 e0)
 ·exact .ret c2 (Dc a1 a2 a0 e0)
def BA (l:List M.Instr):Prop:=l.length<=8 /\ ∀x∈l,Cy x
theorem Gf {b:List Int} {i h:Int} (hc:okC b i h):Dr b BA (pX (⟨b,i,h⟩:M.aQ)):=by
 unfold pX
 refine .bnd (aW hc) λi1 v1 r1 c1 q1 => ?_
 obtain ⟨N,rfl⟩:=Aw q1.1
 have hN:=q1.2.1 qb
 refine WM (N:=N) (L:=λn v (s:List M.Instr×Int×Int)=>kL (⟨b,i,h⟩:M.aQ) (i1,v1,(N:Int)) n v s.1 s.2.1 s.2.2) (I:=λk s=>okC b s.2.1 s.2.2/\s.1.length=k /\ ∀x∈s.1,Cy x) (Q:=Dr b BA) (λn k s hk hi ih => ?_) (λn s hi => ?_) fuel 0 (([]:List M.Instr),i1,v1) (lT qb) qb ⟨c1,rfl,qd⟩
 ·obtain ⟨l,ci,ch⟩:=s
  obtain ⟨k1,k2,k3⟩:=hi
  simp only at k1 k2 k3
  simp only [kL]
  rw [if_pos (aY hk)]
  refine .bnd (Q7 ⟨qb,qb⟩ k1) λi3 v3 r3 c3 q3 => ?_
  rw [dH qs,qA,bE qb]
  refine ih (l++[r3],i3,v3) ⟨c3,by simp [k2],λx hx => ?_⟩
  rcases List.mem_append.1 hx with hx | hx
  ·exact k3 x hx
  ·rw [List.mem_singleton.1 hx];exact q3
 ·obtain ⟨l,ci,ch⟩:=s;obtain ⟨k1,k2,k3⟩:=hi;simp only at k1 k2 k3;simp only [kL];rw [if_neg qk];exact .ret k1 ⟨qb,k3⟩
theorem KP {l:List M.Instr} (h:BA l):Cl l:=⟨Nat.le_trans h.1 qj,λx hx=>(h.2 x hx).1⟩
theorem NZ {l:List M.Instr} (h:BA l):l.length+dG M.Instr.sz l<=72:=by
 have h1:=Kj (c:=M.Instr.sz) (A:=8) (xs:=l) λx hx=>(h.2 x hx).2
 have h2:=h.1
 omega
def GN (p:M.bC):Prop:=M.bC.ok p/\p.aU.length<=3/\M.bC.sz p<=1000
theorem S1 {b:List Int} {i h:Int} (hc:okC b i h):Dr b GN (AH (⟨b,i,h⟩:M.aQ)):=by
 have fin : ∀ {L:Nat->Int->Int->ByteArray->ByteArray->Int->Int->Int->Bool->Bool->Int->Int->List M.aU->List M.Instr->List Int->Option (Int×Int×M.bC)} {n:Int} {i1 h1:Int} {p:M.bC},(∀m v a0 a1 a2 a3 a6 a8 a9 ae ci ch r0 r1 r2,L (m+1) v a0 a1 a2 a3 a6 a8 a9 ae ci ch r0 r1 r2=if (decide (v>0))=true then ((vU (⟨b,ci,ch⟩:M.aQ)).bind λaf=>((hU (⟨a0,a1,a2,a3,r0,(⟨r1,a6,r2,a8,a9,ae⟩:M.aFI)⟩:M.bC) af.2.2 (⟨0,200,a3,([]:List Int),false⟩:M.aE9)).bind λaa=>(L m (i64.wrap (v-1)) aa.1.Id aa.1.aFD aa.1.Top aa.1.aE3 aa.1.aFI.Pc aa.1.aFI.aFs aa.1.aFI.aF1 aa.1.aFI.aF3 af.1 af.2.1 aa.1.aU aa.1.aFI.aFn aa.1.aFI.aFv))) else (some (ci,ch,(⟨a0,a1,a2,a3,r0,(⟨r1,a6,r2,a8,a9,ae⟩:M.aFI)⟩:M.bC)))) ->
   (0<=n/\n<3)->okC b i1 h1->M.bC.ok p->p.aU.length=0->M.bC.sz p<=200->Dr b GN (L fuel n p.Id p.aFD p.Top p.aE3 p.aFI.Pc p.aFI.aFs p.aFI.aF1 p.aFI.aF3 i1 h1 p.aU p.aFI.aFn p.aFI.aFv):=by
  intro L n i1 h1 p hL hn hc hp hl hz
  obtain ⟨N,rfl⟩:=Aw hn.1
  refine A5 (L:=λm v (s:M.bC×Int×Int)=>L m v s.1.Id s.1.aFD s.1.Top s.1.aE3 s.1.aFI.Pc s.1.aFI.aFs s.1.aFI.aF1 s.1.aFI.aF3 s.2.1 s.2.2 s.1.aU s.1.aFI.aFn s.1.aFI.aFv) (I:=λk s=>okC b s.2.1 s.2.2/\M.bC.ok s.1/\s.1.aU.length+k<=3/\M.bC.sz s.1+20*k<=300) (Q:=Dr b GN) (λm k s hi ih => ?_) (λm s hi => ?_) fuel N (p,i1,h1) (lT qb) ⟨hc,hp,by show p.aU.length+N<=3;omega,by show M.bC.sz p+20*N<=300;omega⟩
  ·obtain ⟨p,ci,ch⟩:=s
   obtain ⟨k1,k2,k3,k4⟩:=hi
   simp only at k1 k2 k3 k4
   simp only [hL]
   rw [if_pos (by first | (simp;done) | (simp;omega))]
   refine .bnd (Oh k1) λi3 v3 r3 c3 q3 => ?_
   have hv:inI (⟨0,200,p.aE3,([]:List Int),false⟩:M.aE9).aE3:=k2.aE3
   show Dr b GN ((hU p r3 _).bind _)
   rw [CR k2 qb qb (D8 q3) hv,qA,show i64.wrap (((k+1:Nat):Int)-1)=(k:Int) from by rw [wrap_small qb qb];omega]
   have z:=JP p r3 (⟨0,200,p.aE3,([]:List Int),false⟩:M.aE9)
   refine ih ((BI p r3 (⟨0,200,p.aE3,([]:List Int),false⟩:M.aE9)).1,i3,v3) ⟨c3,JU k2 qb (D8 q3) hv,?_,qg⟩
   have:(BI p r3 (⟨0,200,p.aE3,([]:List Int),false⟩:M.aE9)).1.aU.length<=p.aU.length+1:=by unfold BI;split;(show p.aU.length<=_;omega);·split;(show p.aU.length<=_;omega);·split;(split;(simp [CT]);·show p.aU.length<=_;omega);·show p.aU.length<=_;omega
   dsimp only
   omega
  ·obtain ⟨p,ci,ch⟩:=s;obtain ⟨k1,k2,k3,k4⟩:=hi;simp only at k1 k2 k3 k4;simp only [hL];rw [if_neg qd];exact .ret k1 ⟨k2,by show p.aU.length<=3;omega,by show M.bC.sz p<=_;omega⟩
 have page : ∀ {j v:Int} {s t:ByteArray} {l:List M.Instr},(0<=j/\j<=1000)->(0<=v/\v<=1000)->s.size<=8->t.size<=8->BA l -> ∃r,kF (i64.wrap (1+j)) s t (i64.wrap (1+v)) l=some r/\(M.bC.ok r.1/\r.1.aU.length=0/\M.bC.sz r.1<=200):=by intro j v s t l hj hv hs ht hl;have h1:=NZ hl;refine ⟨_,Ek (bI _) (D8 hs) (D8 ht) (bI _) (KP hl) qb,N7 (bI _) (D8 hs) (D8 ht) (bI _) (KP hl),?_⟩;have h2:=Ni (i64.wrap (1+j)) s t (i64.wrap (1+v)) l;exact ⟨h2.2,qb⟩
 unfold AH
 refine .bnd (GV hc) λi1 v1 r1 c1 q1=>.FZ (YS c1 q1) λy hy=>.bnd (aW hy.2) λi4 v4 r4 c4 q4=>.bnd (aW c4) λi5 v5 r5 c5 q5=>.bnd (Gf c5) λi6 v6 r6 c6 q6 => ?_
 have z4:=q4.2.1 qb
 have z5:=q5.2.1 qb
 refine .FZ (page ⟨q4.1,qg⟩ ⟨q5.1,qg⟩ q1 hy.1 q6) λr hr=>.bnd (aW c6) λi7 v7 r7 c7 q7 => ?_
 have z7:=q7.2.1 qb
 exact fin (L:=oA (⟨b,i,h⟩:M.aQ)) (λ_ _ _ _ _ _ _ _ _ _ _ _ _ _ _=>by simp only [oA]) ⟨q7.1,z7⟩ c7 hr.1 hr.2.1 hr.2.2
def stN (n:Nat) (s:M.aA):Prop:=s.aE8.length<=n /\ ∀b∈s.aE8,bkI b
theorem stN.ok {n:Nat} {s:M.aA} (h:stN n s) (hn:n<=1000):s.ok:=⟨⟨ml (by have:=h.1;omega),λb hb=>(h.2 b hb).ok⟩⟩
theorem stN.sz {n:Nat} {s:M.aA} (h:stN n s) (hn:n<=5):M.aA.sz s<=900005:=by
 have h1:=dP (w:=M.aJ.sz) (b:=180000) (xs:=s.aE8) λb hb=>(h.2 b hb).sz
 have h2:=h.1
 simp only [M.aA.sz]
 omega
theorem stN.mono {n m:Nat} {s:M.aA} (h:stN n s) (hm:n<=m):stN m s:=⟨by have:=h.1;omega,h.2⟩
theorem YP {n:Nat} {s:M.aA} {b:M.aJ} (h:stN n s) (hn:n<=4) (hb:bkI b) : ∃x,iI s b=some x/\stN (n+1) x.1:=by have hz:=h.sz qb;have hzb:=hb.sz;refine ⟨_,Ju (h.ok qb) hb.ok qb qb,?_⟩;have hl:=GP s b;have h1:=h.1;unfold Jz Lg;split;(split;(refine ⟨qg,λx hx => ?_⟩;rcases HK hx with rfl | hx;(exact hb);·exact h.2 x hx);·exact h.mono (Nat.le_succ n));·exact h.mono (Nat.le_succ n)
theorem NF {b:List Int} {i h:Int} (c0:okC b i h):Dr b (stN 4) (sL (⟨b,i,h⟩:M.aQ)):=by
 unfold sL
 refine .bnd (aW c0) λi1 v1 r1 c1 q1 => ?_
 obtain ⟨N,rfl⟩:=Aw q1.1
 have hN:=q1.2.1 qb
 refine A5 (L:=λn v (s:(M.aA)×Int×Int)=>jD (⟨b,i,h⟩:M.aQ) n v s.2.1 s.2.2 s.1.aE8) (I:=λk s=>k<=100000/\okC b s.2.1 s.2.2/\k<=3/\stN (3-k) s.1) (Q:=Dr b (stN 4)) (λn k s hi ih => ?_) (λn s hi => ?_) fuel N ((⟨([]:List M.aJ)⟩:M.aA),i1,v1) (lT qb) ⟨qb,c1,⟨qb,qd,qd⟩⟩
 ·obtain ⟨x,ci,ch⟩:=s
  obtain ⟨k0,k1,k2⟩:=hi
  dsimp only at k1 k2
  simp only [jD]
  rw [if_pos (RL k),JB k0]
  refine .bnd (J8 k1) λi3 v3 r3 c3 q3=>.FZ (YP (s:=x) k2.2 qb q3.all) λy hy => ?_
  have:=k2.1
  exact ih (y.1,i3,v3) ⟨qb,c3,qb,hy.mono qb⟩
 ·obtain ⟨x,ci,ch⟩:=s
  obtain ⟨k0,k1,k2⟩:=hi
  dsimp only at k1 k2
  simp only [jD]
  rw [if_neg Jp]
  refine .bnd (yR k1) λi3 v3 r3 c3 q3 => ?_
  have hl:=k2.2.1
  dsimp only
  split
  ·refine .bnd (Vx c3) λi4 v4 r4 c4 q4 => ?_
   dsimp only
   rw [AJ qs qb,qA]
   refine .ret c4 ⟨qn,λy hy => ?_⟩
   rcases List.mem_append.1 hy with hy | hy
   ·exact k2.2.2 y hy
   ·rw [List.mem_singleton.1 hy];exact q4
  ·exact .ret c3 (k2.2.mono qb)
theorem RE {b:List Int} {i h:Int} (c0:okC b i h):Dr b wsm (yZ (⟨b,i,h⟩:M.aQ)):=by
 unfold yZ
 refine .bnd (aW c0) λi1 v1 r1 c1 q1=>.bnd (aW c1) λi2 v2 r2 c2 q2=>.bnd (xV c2) λi3 v3 r3 c3 q3=>.bnd (Ab c3) λi4 v4 r4 c4 q4=>.bnd (aW c4) λi5 v5 r5 c5 q5=>.bnd (aW c5) λi6 v6 r6 c6 q6 => ?_
 have hf:r4.size<=16:=Nat.le_trans q4 qb
 have hn:inI r5:=bgI (SA q5)
 have hk:=q3.any
 dsimp only
 split
 ·exact .bnd (rU (λx => -1000000000000000<=x/\x<=1000000000000000) qe qe c6) λi7 v7 r7 c7 q7=>.ret c7 (FR (bgI q7) (bI _) hk hf hn)
 split
 ·exact .bnd (rU (λx => -1000000000000000<=x/\x<=1000000000000000) qe qe c6) λi7 v7 r7 c7 q7=>.ret c7 (FR (bI _) (bgI q7) hk hf hn)
 split
 ·exact .bnd (OZ c6) λi7 v7 r7 c7 q7=>.ret c7 (FR (bI _) (bI _) q7 hf hn)
 split
 ·exact .ret c6 (FR (bI _) (bI _) hk qe hn)
 split
 ·exact .bnd (rU (λx => -1000000000000000<=x/\x<=1000000000000000) qe qe c6) λi7 v7 r7 c7 q7=>.ret c7 (FR (bI _) (bI _) hk hf (bgI q7))
 ·exact .ret c6 (FR (bI _) (bI _) hk hf hn)
def RW (s:M.aFG):Prop:=M.aFG.ok s/\M.aFG.sz s<=30000
theorem X6 {s:M.aC} {a:List M.aO} {c:List M.bD} (hs:Md s) (ha:a.length<=100 /\ ∀x∈a,M.aO.ok x) (hc:c.length<=100 /\ ∀x∈c,wsm x):RW (⟨s,a,c⟩:M.aFG):=by
 have h1:=hs.2
 have h2:=ha.1
 have h3:=hc.1
 have h4:=dP (w:=M.bD.sz) (b:=32) (xs:=c) λw hw=>(hc.2 w hw).2
 refine ⟨⟨hs.1,⟨ml qg,ha.2⟩,⟨ml qg,λw hw=>(hc.2 w hw).1⟩⟩,?_⟩
 simp only [M.aFG.sz]
 omega
theorem VM {b:List Int} {i h:Int} (c0:okC b i h):Dr b RW (Ai (⟨b,i,h⟩:M.aQ)):=by
 unfold Ai
 refine .bnd (K1 c0) λi1 v1 r1 c1 q1=>.bnd (aW c1) λi2 v2 r2 c2 q2 => ?_
 dsimp only
 have hs:Md r1.aC:=⟨q1.1,by have:=pA q1.2.1;omega⟩
 have ha:r1.aO.length<=60:=q1.2.2.1.1
 have hc:r1.aFV.length<=5:=q1.2.2.2.1
 have ha2:=q1.2.2.1.2
 have hc2:=q1.2.2.2.2
 have ha':r1.aO.length<=100 /\ ∀x∈r1.aO,M.aO.ok x:=⟨qb,ha2⟩
 have hc':r1.aFV.length<=100 /\ ∀x∈r1.aFV,wsm x:=⟨qb,hc2⟩
 split
 ·exact .bnd (Tp c2) λi3 v3 r3 c3 q3=>.ret c3 (X6 q3 ha' hc')
 split
 ·refine .bnd (rU (λx => -1000000000000000<=x/\x<=1000000000000000) qe qe c2) λi3 v3 r3 c3 q3=>.bnd (rU (λx => -1000000000000000<=x/\x<=1000000000000000) qe qe c3) λi4 v4 r4 c4 q4 => ?_
  dsimp only
  rw [AJ qs qb,qA]
  refine .ret c4 (X6 hs ⟨qn,λx hx => ?_⟩ hc')
  rcases List.mem_append.1 hx with hx | hx
  ·exact ha2 x hx
  ·rw [List.mem_singleton.1 hx];exact ⟨bgI q3,bgI q4⟩
 split
 ·refine .bnd (RE c2) λi3 v3 r3 c3 q3 => ?_
  dsimp only
  rw [AJ qs qb,qA]
  refine .ret c3 (X6 hs ha' ⟨qn,λx hx => ?_⟩)
  rcases List.mem_append.1 hx with hx | hx
  ·exact hc2 x hx
  ·rw [List.mem_singleton.1 hx];exact q3
 split
 ·have key : ∀(n k:Nat) (l:List M.aO),64-k<n->k<=64->l.length<=k->(∀x∈l,M.aO.ok x)->Dr b RW (uK (i1,v1,r1) (i2,v2,r2) n (k:Int) l):=by
   intro n
   induction n with
   | zero=>intro k l h _ _ _;omega
   | succ n ih =>
    intro k l hn hk hl hx
    simp only [uK]
    rcases Nat.lt_or_ge k 64 with h6 | h6
    ·rw [if_pos qc,AJ qs qb,qA,bE qb]
     refine ih (k+1) (l++[_]) qb qb qn λx hx' => ?_
     rcases List.mem_append.1 hx' with hx' | hx'
     ·exact hx x hx'
     ·rw [List.mem_singleton.1 hx'];exact ⟨bgI qh,vZ⟩
    ·rw [if_neg qc];exact .ret c2 (X6 hs ⟨qb,hx⟩ hc')
  exact key fuel 4 [] (lT qb) qb qd qd
 ·exact .ret c2 (X6 hs ha' hc')
def Tl (p:M.bC):Prop:=M.bC.ok p/\M.bC.sz p<=2000
theorem VI {b:List Int} {i h:Int} (c0:okC b i h):Dr b Tl (Aa (⟨b,i,h⟩:M.aQ)):=by
 unfold Aa
 refine .bnd (S1 c0) λi1 v1 r1 c1 q1=>.bnd (aW c1) λi2 v2 r2 c2 q2 => ?_
 dsimp only
 obtain ⟨ho,hl,hz⟩:=q1
 have hz':=hz
 simp only [M.bC.sz] at hz'
 split
 ·exact .bnd (rU (λx => -1000000000000000<=x/\x<=1000000000000000) qe qe c2) λi3 v3 r3 c3 q3=>.ret c3 ⟨⟨bgI q3,ho.aFD,ho.Top,ho.aE3,ho.aU,ho.aFI⟩,by show M.bC.sz r1<=2000;omega⟩
 split
 ·refine .bnd (Bo (λs=>s.size<=16) qe qe c2) λi3 v3 r3 c3 q3=>.bnd (aW c3) λi4 v4 r4 c4 q4 => ?_
  dsimp only
  rw [AJ qs qb,qA]
  have q3':r3.size<=16:=q3
  refine .ret c4 ⟨⟨ho.Id,ho.aFD,ho.Top,ho.aE3,⟨ml qn,λx hx => ?_⟩,ho.aFI⟩,?_⟩
  ·rcases List.mem_append.1 hx with hx | hx;(exact ho.aU.2 x hx);·rw [List.mem_singleton.1 hx];exact ⟨s16 q3,bI _⟩
  ·simp only [M.bC.sz,xS,dG,M.aU.sz,qE,qJ,qK];omega
 split
 ·exact .bnd (rU (λx => -1000000000000000<=x/\x<=1000000000000000) qe qe c2) λi3 v3 r3 c3 q3=>.ret c3 ⟨⟨ho.Id,ho.aFD,ho.Top,bgI q3,ho.aU,ho.aFI⟩,by show M.bC.sz r1<=2000;omega⟩
 split
 ·have e5:(⟨#[105,110,100,101,120]⟩:ByteArray).size=5:=rfl
  have key : ∀(n:Nat) (l:List M.aU),8-l.length<n->l.length<=8->(∀x∈l,M.aU.ok x)->dG M.aU.sz l+6*(8-l.length)<=dG M.aU.sz r1.aU+48->Dr b Tl (tW (i1,v1,r1) (i2,v2,r2) n l):=by
   intro n
   induction n with
   | zero=>intro l h _ _ _;omega
   | succ n ih =>
    intro l hn hk hx hs
    simp only [tW]
    rcases Nat.lt_or_ge l.length 8 with h6 | h6
    ·rw [if_pos qc,AJ qs qb,qA];refine ih (l++[_]) qn qn (λx hx' => ?_) ?_;(rcases List.mem_append.1 hx' with hx' | hx';(exact hx x hx');·rw [List.mem_singleton.1 hx'];exact ⟨s16 (show (⟨#[105,110,100,101,120]⟩:ByteArray).size<=16 by decide),ho.aE3⟩);·simp only [xS,dG,M.aU.sz,e5,qE,qJ,qK];omega
    ·rw [if_neg qc];refine .ret c2 ⟨⟨ho.Id,ho.aFD,ho.Top,ho.aE3,⟨ml (by show l.length<=_;omega),hx⟩,ho.aFI⟩,?_⟩;simp only [M.bC.sz];omega
  exact key fuel r1.aU (lT qb) qb ho.aU.2 qb
 ·exact .ret c2 ⟨ho,qb⟩
def wdI (n:Nat) (w:M.World):Prop:=inI w.Now/\inI w.aFC/\stN 4 w.aA/\(w.aFF.length<=n /\ ∀p∈w.aFF,Tl p)/\inI w.aFJ/\(w.aFM.aFM=[])/\(w.aFB.aFa=[])/\(w.aFR.length<=3/\(∀s∈w.aFR,M.aFD.ok s/\M.aFD.sz s<=100))/\(w.aFN.length<=3 /\ ∀s∈w.aFN,RW s)
theorem wdI.ok {n:Nat} {w:M.World} (h:wdI n w) (hn:n<=20):M.World.ok w:=by obtain ⟨h1,h2,h3,h4,h5,h6,h7,h8,h9⟩:=h;exact ⟨h1,h2,h3.ok qb,⟨ml qb,λp hp=>(h4.2 p hp).1⟩,h5,⟨by rw [h6];simp [maxLen],by rw [h6];simp⟩,⟨by rw [h7];simp [maxLen],by rw [h7];simp⟩,⟨ml qb,λp hp=>(h8.2 p hp).1⟩,⟨ml qb,λp hp=>(h9.2 p hp).1⟩⟩
theorem wdI.sz {n:Nat} {w:M.World} (h:wdI n w) (hn:n<=20):M.World.sz w<=900000:=by
 obtain ⟨h1,h2,h3,h4,h5,h6,h7,h8,h9⟩:=h
 have a1:=dP (w:=M.aJ.sz) (b:=180000) (xs:=w.aA.aE8) λb hb=>(h3.2 b hb).sz
 have a2:=dP (w:=M.bC.sz) (b:=2000) (xs:=w.aFF) λb hb=>(h4.2 b hb).2
 have a3:=dP (w:=M.aFD.sz) (b:=100) (xs:=w.aFR) λb hb=>(h8.2 b hb).2
 have a4:=dP (w:=M.aFG.sz) (b:=30000) (xs:=w.aFN) λb hb=>(h9.2 b hb).2
 have b1:=h3.1
 have b2:=h4.1
 have b3:=h8.1
 have b4:=h9.1
 simp only [M.World.sz,M.aA.sz,M.aR.sz,M.aFB.sz,h6,h7,dG,qK]
 omega
end Go.Proofs.YtipmihbgjolaaaaGreat.gen
