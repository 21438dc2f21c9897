/-
  Helper text. No conditions.
-/
import Derived.Test.YtipmihbgjolaaaaGreatLoadedFilesPd5
set_option linter.unusedVariables false
set_option linter.unusedSimpArgs false
namespace Go.Proofs.YtipmihbgjolaaaaGreat.gen
open Go Go.Sh
theorem VH {s:M.aC} {k:M.Key} {r:M.aD} (hs:WE s) (hk:MF k):WE (Cd s k r).1:=by
 have ha:s.aFZ<=HD s k/\HD s k<=256/\(k.aFU=1->k.N<=HD s k\/k.N=1000000000000):=by obtain ⟨a1,a2⟩:=hs;have a3:=hk.2;unfold HD;by_cases hc:((k.aFU==1)&&(decide (k.N>s.aFZ)&&decide (k.N<=1000000)))=true;(rw [if_pos hc];simp only [qM,qL,beq_iff_eq] at hc;have:=a3 hc.1;exact ⟨qb,qb,λ_=>.inl qb⟩);·rw [if_neg hc];refine ⟨qb,a1,λh1 => ?_⟩;have:=a3 h1;simp only [qM,qL,beq_iff_eq,not_and] at hc;by_cases h2:k.N>s.aFZ;(have:=hc h1 h2;omega);·omega
 unfold Cd
 split
 ·split;(split;(split;(refine ⟨ha.2.1,λx hx h1 => ?_⟩;have hx':x∈s.aE7.take (CS s.aE7 k)++([(⟨k,r⟩:M.aFP)]++s.aE7.drop (CS s.aE7 k)):=hx;simp only [qP,List.mem_singleton] at hx';show x.Key.N<=HD s k\/_;rcases hx' with hx' | rfl | hx';(have:=hs.2 x (List.mem_of_mem_take hx') h1;omega);(exact ha.2.2 h1);·have:=hs.2 x (List.mem_of_mem_drop hx') h1;omega);·exact hs);·unfold Pe;refine ⟨hs.1,?_⟩;dsimp only;split;(rename_i y hy;intro x hx h1;rcases List.mem_or_eq_of_mem_set hx with hx | rfl;(exact hs.2 x hx h1);·exact hs.2 y (List.mem_of_getElem? hy) h1);·exact hs.2);·exact hs
 ·exact hs
theorem Ud {s:M.aC} {k:M.Key} {r:M.aD} (hs:RN s) (hk:MF k) (hr:Kd r) : ∃x,dZ s k r=some x/\RN x.1:=by
 have hz:=pA hs.2.1
 have hl:s.aE7.length<=1073741824:=by simp only [M.aC.sz] at hz;omega
 refine ⟨_,yI hs.1 hk.1.1 hr.1 hr.2 qb (Nat.le_trans (F4 hr.2) qb),MC hs.1 hl hk.1.1 hr.1,?_,VH hs.2.2 hk⟩
 cases h2:(Cd s k r).2 with
 | true=>exact Dk hr.2 h2
 | false=>rw [IJ h2];exact hs.2.1
theorem Wl {a:ByteArray} (hn:mH a=true) (ha:a.size<=16):RN (⟨a,([]:List M.aFP),0⟩:M.aC):=⟨⟨s16 ha,⟨by simp [maxLen],qd⟩,vZ⟩,by unfold hJ;simp [hn,inR],by show (0:Int)<=256;omega,qd⟩
theorem EX {b:List Int} {i h:Int} {a:ByteArray} (hn:mH a=true) (ha:a.size<=16) (c0:okC b i h):Dr b RN (oM (⟨b,i,h⟩:M.aQ) a):=by
 unfold oM
 refine .bnd (rU (λx=>0<=x/\x<=6) qe qe c0) λi1 v1 r1 c1 q1 => ?_
 obtain ⟨N,rfl⟩:=Aw q1.1
 have hN:=q1.2
 refine A5 (L:=λn v (s:(M.aC)×Int×Int)=>nU (⟨b,i,h⟩:M.aQ) n v s.1.Name s.1.aFZ s.2.1 s.2.2 s.1.aE7) (I:=λk s=>k<=100000/\okC b s.2.1 s.2.2/\RN s.1) (Q:=Dr b RN) (λn k s hi ih => ?_) (λn s hi => ?_) fuel N ((⟨a,([]:List M.aFP),0⟩:M.aC),i1,v1) (lT qb) ⟨qb,c1,Wl hn ha⟩
 ·obtain ⟨x,ci,ch⟩:=s
  obtain ⟨k0,k1,k2⟩:=hi
  dsimp only at k1 k2
  simp only [nU]
  rw [if_pos (RL k),JB k0]
  refine .bnd (xV k1) λi3 v3 r3 c3 q3=>.bnd (Cz c3) λi4 v4 r4 c4 q4=>.FZ (Ud k2 q3.auto q4) λy hy => ?_
  exact ih (y.1,i4,v4) ⟨qb,c4,hy⟩
 ·obtain ⟨x,ci,ch⟩:=s
  obtain ⟨k0,k1,k2⟩:=hi
  dsimp only at k1 k2
  simp only [nU]
  rw [if_neg Jp]
  refine .bnd (yR k1) λi3 v3 r3 c3 q3 => ?_
  dsimp only
  split
  ·exact .bnd (T9 c3) λi4 v4 r4 c4 q4=>.bnd (Cz c4) λi5 v5 r5 c5 q5=>.FZ (Ud k2 q4 q5) λy hy=>.ret c5 hy
  ·exact .ret c3 k2
def Md (s:M.aC):Prop:=s.ok/\M.aC.sz s<=20000
theorem RN.any {s:M.aC} (h:RN s):Md s:=⟨h.1,by have:=pA h.2.1;omega⟩
def VA (s:M.aC):Prop:=s.aFZ<=256+s.aE7.length /\ ∀x∈s.aE7,x.Key.aFU=1->x.Key.N<=s.aFZ\/x.Key.N=1000000000000
theorem Sp {s:M.aC} (h1:s.ok) (h2:hJ s=true) (h3:VA s) (hl:s.aE7.length<16) : ∃x,yU s (⟨([]:List M.Field)⟩:M.aD)=some x/\x.1.ok/\hJ x.1=true/\VA x.1/\x.1.aE7.length=s.aE7.length+1:=by
 obtain ⟨_,_,_,h0,_⟩:=xG h2
 obtain ⟨a1,a2⟩:=h3
 have ew:IntKind.i64.wrap (s.aFZ+1)=s.aFZ+1:=wrap_small qb qb
 have hz:=pA h2
 have hkey:Cj (⟨1,s.aFZ+1,(⟨#[]⟩:ByteArray)⟩:M.Key)=true:=by
  unfold Cj inR
  have e:Lj (⟨#[]⟩:ByteArray)=true:=by decide
  simp [e]
  omega
 have hf:lA (yT (⟨1,s.aFZ+1,(⟨#[]⟩:ByteArray)⟩:M.Key)) s.aE7<0:=Classical.byContradiction λhn=>by obtain ⟨j,ej,hj⟩:=gD hn;obtain ⟨_,hit⟩:=BG ej;unfold yT at hit;simp only [qM,beq_iff_eq] at hit;have:=a2 _ (qG hj) hit.1;omega
 have hk:M.Key.ok (⟨1,s.aFZ+1,(⟨#[]⟩:ByteArray)⟩:M.Key):=(mkKey qb qb qe).1
 have e:=F8 h1 hk G8 Ec qb (by simp [M.aD.sz,dG])
 have ep:Cd s (⟨1,s.aFZ+1,(⟨#[]⟩:ByteArray)⟩:M.Key) (⟨([]:List M.Field)⟩:M.aD)=(NB s (⟨1,s.aFZ+1,(⟨#[]⟩:ByteArray)⟩:M.Key) (⟨([]:List M.Field)⟩:M.aD),true):=by unfold Cd;rw [if_pos h2,if_pos hkey,if_pos hf,if_pos hl]
 have hg:=Dk (s:=s) (k:=(⟨1,s.aFZ+1,(⟨#[]⟩:ByteArray)⟩:M.Key)) Ec (by rw [ep])
 rw [ep] at hg
 have en:OO s (⟨1,s.aFZ+1,(⟨#[]⟩:ByteArray)⟩:M.Key) (⟨([]:List M.Field)⟩:M.aD)=(NB s (⟨1,s.aFZ+1,(⟨#[]⟩:ByteArray)⟩:M.Key) (⟨([]:List M.Field)⟩:M.aD),true):=by unfold OO;rw [if_pos hf,ep]
 have ea:HD s (⟨1,s.aFZ+1,(⟨#[]⟩:ByteArray)⟩:M.Key)=s.aFZ+1:=by unfold HD;rw [if_pos qc]
 have hp:=ML s.aE7 (⟨1,s.aFZ+1,(⟨#[]⟩:ByteArray)⟩:M.Key)
 rw [en] at e
 refine ⟨(NB s (⟨1,s.aFZ+1,(⟨#[]⟩:ByteArray)⟩:M.Key) (⟨([]:List M.Field)⟩:M.aD),(⟨1,s.aFZ+1,(⟨#[]⟩:ByteArray)⟩:M.Key),true),?_,?_,hg,?_,?_⟩
 ·unfold yU;rw [if_neg qc,ew,e,qA,if_neg qd]
 ·unfold NB;exact TD _ h1 qb hk G8 (by rw [ea];exact bgI qh)
 ·unfold NB VA;dsimp only;rw [ea];refine ⟨qo,λx hx h1 => ?_⟩;simp only [qP,List.mem_singleton] at hx;rcases hx with hx | rfl | hx;(have:=a2 x (List.mem_of_mem_take hx) h1;omega);(exact .inl (Int.le_refl _));·have:=a2 x (List.mem_of_mem_drop hx) h1;omega
 ·unfold NB;simp only [qE,qT,qU,qJ,qK];omega
theorem Xj {s:M.aC} {k:M.Key} {r:M.aD} (hs:RN s) (hk:MT k) (hr:P9 r):Md (⟨s.Name,s.aE7++[(⟨k,r⟩:M.aFP)],s.aFZ⟩:M.aC):=by have hz:=pA hs.2.1;have h1:=hk.2;have h2:=hr.2;refine ⟨⟨hs.1.Name,⟨?_,λy hy => ?_⟩,hs.1.aFZ⟩,?_⟩;(simp only [M.aC.sz] at hz;exact ml qn);(rcases List.mem_append.1 hy with hy | hy;(exact hs.1.aE7.2 y hy);·rw [List.mem_singleton.1 hy];exact ⟨hk.1,hr.1⟩);·simp only [M.aC.sz] at hz ⊢;rw [xS];simp only [dG,M.aFP.sz,M.Key.sz,qE,qJ,qK];omega
theorem Tp {b:List Int} {i h:Int} (c0:okC b i h):Dr b Md (AT (⟨b,i,h⟩:M.aQ)):=by
 unfold AT
 refine .bnd (EX qe qe c0) λi1 v1 r1 c1 q1=>.bnd (aW c1) λi2 v2 r2 c2 q2 => ?_
 dsimp only
 have hz:=pA q1.2.1
 have hl:r1.aE7.length<=10000:=by simp only [M.aC.sz] at hz;omega
 split
 ·refine .bnd (Bo (λs=>s.size<=16) qe qe c2) λi3 v3 r3 c3 q3=>.ret c3 ⟨⟨s16 q3,q1.1.aE7,q1.1.aFZ⟩,?_⟩
  have q3':r3.size<=16:=q3
  simp only [M.aC.sz] at hz ⊢
  omega
 split
 ·exact .bnd (rU (λx => -1000000000000000<=x/\x<=1000000000000000) qe qe c2) λi3 v3 r3 c3 q3=>.ret c3 ⟨⟨q1.1.Name,q1.1.aE7,bgI q3⟩,Nat.le_trans hz qb⟩
 split
 ·refine .bnd (OZ c2) λi3 v3 r3 c3 q3=>.bnd (Xg c3) λi4 v4 r4 c4 q4 => ?_
  dsimp only
  rw [AJ qs qb,qA]
  exact .ret c4 (Xj q1 q3 q4)
 split
 ·have key : ∀(n:Nat) (s:M.aC),16-s.aE7.length<n->s.ok->hJ s=true->VA s->Dr b Md (xE (i2,v2,r2) n s.Name s.aFZ s.aE7):=by
   intro n
   induction n with
   | zero=>intro s h _ _ _;omega
   | succ n ih =>
    intro s h hs hst hj
    have hm:=pA hst
    simp only [xE]
    rcases Nat.lt_or_ge s.aE7.length 16 with h6 | h6
    ·rw [if_pos qc,show (⟨s.Name,s.aE7,s.aFZ⟩:M.aC)=s from rfl,yP hs,qA,hst,if_pos rfl]
     refine .FZ (Sp hs hst hj h6) λy hy => ?_
     have hy':=hy.2.2.2
     exact ih y.1 qb hy.1 hy.2.1 hy.2.2.1
    ·rw [if_neg qc];exact .ret c2 ⟨hs,by show M.aC.sz s<=_;omega⟩
  exact key fuel r1 (lT qb) q1.1 q1.2.1 ⟨by have:=q1.2.2.1;omega,q1.2.2.2⟩
 ·exact .ret c2 q1.any
theorem Oa {b:List Int} {i h n:Int} (hn:0<=n/\n<=1000) (c0:okC b i h):Dr b (λl=>okB l/\l.length<=1000) (yN (⟨b,i,h⟩:M.aQ) n):=by
 unfold yN
 obtain ⟨N,rfl⟩:=Aw hn.1
 refine WM (N:=N) (L:=λm v (s:List Int×Int×Int)=>oG (⟨b,i,h⟩:M.aQ) (N:Int) m v s.1 s.2.1 s.2.2) (I:=λk s=>okC b s.2.1 s.2.2/\s.1.length=k /\ ∀x∈s.1,0<=x/\x<=255) (Q:=Dr b (λl=>okB l/\l.length<=1000)) (λm k s hk hi ih => ?_) (λm s hi => ?_) fuel 0 (([]:List Int),i,h) (lT qb) qb ⟨c0,rfl,qd⟩
 ·obtain ⟨l,ci,ch⟩:=s
  obtain ⟨k1,k2,k3⟩:=hi
  dsimp only at k1 k2 k3
  simp only [oG]
  rw [if_pos (aY hk)]
  refine .bnd (G9 k1) λi3 v3 r3 c3 q3 => ?_
  dsimp only
  rw [AJ qs qb,qA,bE qb]
  refine ih (l++[_],i3,v3) ⟨c3,by simp [k2],λx hx => ?_⟩
  rcases List.mem_append.1 hx with hx | hx
  ·exact k3 x hx
  ·rw [List.mem_singleton.1 hx,wrap_u8];omega
 ·obtain ⟨l,ci,ch⟩:=s;obtain ⟨k1,k2,k3⟩:=hi;dsimp only at k1 k2 k3;simp only [oG];rw [if_neg qk];exact .ret k1 ⟨⟨ml qb,k3⟩,qb⟩
theorem VQ {b l:List Int} {i h:Int} (hl:okB l) (hz:l.length<=100000) (c0:okC b i h):Dr b (λr=>okB r/\r.length<=l.length+1) (Bp (⟨b,i,h⟩:M.aQ) l):=by
 unfold Bp
 rw [EC qb qb,qA]
 refine .bnd (aW c0) λi1 v1 r1 c1 q1 => ?_
 dsimp only
 split
 ·split
  ·rename_i hp
   refine .bnd (aW c1) λi2 v2 r2 c2 q2=>.bnd (aW c2) λi3 v3 r3 c3 q3 => ?_
   have hp':(0:Int)<(l.length:Int):=by simpa using hp
   obtain ⟨k,rfl⟩:=Aw q2.1
   have hk:=q2.2.1 hp'
   dsimp only
   rw [aK qb,qA]
   refine .ret c3 ⟨⟨by rw [qN];exact hl.1,λx hx => ?_⟩,by rw [qN];omega⟩
   rcases List.mem_or_eq_of_mem_set hx with hx | rfl
   ·exact hl.2 x hx
   ·rw [wrap_u8];omega
  ·exact .ret c1 ⟨hl,qb⟩
 split
 ·refine .bnd (aW c1) λi2 v2 r2 c2 q2 => ?_
  have hw:IntKind.i64.wrap ((l.length:Int)+1)=(l.length:Int)+1:=wrap_small qb qb
  rw [hw] at q2
  obtain ⟨k,rfl⟩:=Aw q2.1
  have hk:=q2.2.1 qb
  dsimp only
  rw [Cb qb,qA,qH]
  exact .ret c2 ⟨⟨by have:=hl.1;rw [qT];omega,λx hx=>hl.2 x (List.mem_of_mem_take hx)⟩,by rw [qT];omega⟩
 split
 ·refine .bnd (rU (λ_=>True) qe (λ_ _=>trivial) c1) λi2 v2 r2 c2 q2 => ?_
  dsimp only
  rw [AJ qs qb,qA]
  refine .ret c2 ⟨⟨ml qn,λx hx => ?_⟩,qd⟩
  rcases List.mem_append.1 hx with hx | hx
  ·exact hl.2 x hx
  ·rw [List.mem_singleton.1 hx,wrap_u8];omega
 ·exact .ret c1 ⟨hl,qb⟩
def Wq (x:M.aE9):Prop:=x.ok/\x.aFw.length<=1000
theorem Ht {b:List Int} {i h:Int} (c0:okC b i h):Dr b Wq (pI (⟨b,i,h⟩:M.aQ)):=by
 unfold pI
 refine .bnd (aW c0) λi1 v1 r1 c1 q1=>.bnd (aW c1) λi2 v2 r2 c2 q2=>.bnd (aW c2) λi3 v3 r3 c3 q3=>.bnd (Oa (aET q3 qb qb) c3) λi4 v4 r4 c4 q4=>.bnd (yR c4) λi5 v5 r5 c5 q5=>.bnd (aW c5) λi6 v6 r6 c6 q6 => ?_
 dsimp only
 split
 ·exact .bnd (rU (λx => -1000000000000000<=x/\x<=1000000000000000) qe qe c6) λi7 v7 r7 c7 q7=>.ret c7 ⟨⟨bgI q7,bgI qh,bI _,q4.1⟩,q4.2⟩
 split
 ·exact .bnd (rU (λx => -1000000000000000<=x/\x<=1000000000000000) qe qe c6) λi7 v7 r7 c7 q7=>.ret c7 ⟨⟨bI _,bgI q7,bI _,q4.1⟩,q4.2⟩
 split
 ·exact .bnd (rU (λx=>0<=x/\x<=1000) qe qe c6) λi7 v7 r7 c7 q7=>.bnd (Oa q7 c7) λi8 v8 r8 c8 q8=>.ret c8 ⟨⟨bI _,bgI qh,bI _,q8.1⟩,q8.2⟩
 ·exact .ret c6 ⟨⟨bI _,bgI qh,bI _,q4.1⟩,q4.2⟩
def Ch (s:M.aE):Prop:=s.ok/\M.aE.sz s<=65536
theorem MH {s:M.aE} {v:Int} (h:Ch s) (hv:inI v) : ∃x,nC s v=some x/\Ch x.1:=by
 have hz:=h.2
 refine ⟨_,JG h.1 hv qb,Tq h.1 hv qb,?_⟩
 cases h2:(F5 s v).2 with
 | true=>exact I8 (Rf h2)
 | false =>
  have e:(F5 s v).1=s:=by unfold F5 at h2 ⊢;split at h2;(cases h2);·rename_i hh;rw [if_neg hh]
  rw [e];exact h.2
theorem UB {s:M.aE} {v:Int} {a p:ByteArray} {x:M.aE9} (h:Ch s) (ha:a.size<=16) (hp:p.size<=16) (hx:Wq x) : ∃y,mT s v a p x=some y/\Ch y.1:=by
 have hz:=h.2
 have hx2:=hx.2
 refine ⟨_,FN h.1 qb (s16 ha) (s16 hp) hx.1 (by simp only [M.aE9.sz];omega),Vv h.1 qb (s16 ha) (s16 hp) hx.1,?_⟩
 cases h2:(Lf s v a p x).2 with
 | true=>exact I8 (R7 h2)
 | false =>
  have e:(Lf s v a p x).1=s:=by unfold Lf at h2 ⊢;split at h2;(rename_i hh;rw [if_pos hh]);·rename_i hh;rw [if_neg hh];split at h2;(cases h2);·rename_i hh2;rw [if_neg hh2]
  rw [e];exact h.2
theorem TM:Ch (⟨([]:List M.aFE)⟩:M.aE):=⟨⟨⟨by simp [maxLen],qd⟩⟩,by simp [M.aE.sz,dG]⟩
theorem Uk {b:List Int} {i h:Int} {N:Nat} (hN:N<=10) {i1 v1:Int} (c1:okC b i1 v1) {s:M.aE} (hs:Ch s):Dr b Ch (mY (⟨b,i,h⟩:M.aQ) fuel (N:Int) i1 v1 s.aE6):=by
 refine A5 (L:=λn v (s:(M.aE)×Int×Int)=>mY (⟨b,i,h⟩:M.aQ) n v s.2.1 s.2.2 s.1.aE6) (I:=λk s=>k<=100000/\okC b s.2.1 s.2.2/\Ch s.1) (Q:=Dr b Ch) (λn k s hi ih => ?_) (λn s hi => ?_) fuel N (s,i1,v1) (lT qb) ⟨qb,c1,hs⟩
 ·obtain ⟨x,ci,ch⟩:=s
  obtain ⟨k0,k1,k2⟩:=hi
  dsimp only at k1 k2
  simp only [mY]
  rw [if_pos (RL k),JB k0]
  refine .bnd (aW k1) λi3 v3 r3 c3 q3=>.bnd (GV c3) λi4 v4 r4 c4 q4=>.bnd (Oh c4) λi5 v5 r5 c5 q5=>.bnd (Ht c5) λi6 v6 r6 c6 q6=>.FZ (UB k2 (Nat.le_trans q4 qb) (Nat.le_trans q5 qb) q6) λy hy => ?_
  exact ih (y.1,i6,v6) ⟨qb,c6,hy⟩
 ·obtain ⟨x,ci,ch⟩:=s;obtain ⟨k0,k1,k2⟩:=hi;dsimp only at k1 k2;simp only [mY];rw [if_neg Jp];exact .ret k1 k2
theorem U3 {b:List Int} {i h:Int} (c0:okC b i h):Dr b Ch (A3 (⟨b,i,h⟩:M.aQ)):=by
 unfold A3
 refine .bnd (aW c0) λi1 v1 r1 c1 q1 => ?_
 obtain ⟨N,rfl⟩:=Aw q1.1
 have hN:=q1.2.1 qb
 refine A5 (L:=λn v (s:(M.aE)×Int×Int)=>pS (⟨b,i,h⟩:M.aQ) n v s.2.1 s.2.2 s.1.aE6) (I:=λk s=>k<=100000/\okC b s.2.1 s.2.2/\Ch s.1) (Q:=Dr b Ch) (λn k s hi ih => ?_) (λn s hi => ?_) fuel N ((⟨([]:List M.aFE)⟩:M.aE),i1,v1) (lT qb) ⟨qb,c1,TM⟩
 ·obtain ⟨x,ci,ch⟩:=s
  obtain ⟨k0,k1,k2⟩:=hi
  dsimp only at k1 k2
  simp only [pS]
  rw [if_pos (RL k),JB k0]
  refine .bnd (aW k1) λi3 v3 r3 c3 q3=>.FZ (MH k2 (bI _)) λy hy => ?_
  exact ih (y.1,i3,v3) ⟨qb,c3,hy⟩
 ·obtain ⟨x,ci,ch⟩:=s
  obtain ⟨k0,k1,k2⟩:=hi
  dsimp only at k1 k2
  simp only [pS]
  rw [if_neg Jp]
  refine .bnd (aW k1) λi3 v3 r3 c3 q3 => ?_
  obtain ⟨M,rfl⟩:=Aw q3.1
  have hM:=q3.2.1 qb
  exact Uk qb c3 k2
def Nf (s:M.aE):Prop:=s.ok/\M.aE.sz s<=70000
theorem Ch.all {s:M.aE} (h:Ch s):Nf s:=⟨h.1,by have:=h.2;omega⟩
theorem UP {b:List Int} {i h:Int} (c0:okC b i h):Dr b Nf (Bb (⟨b,i,h⟩:M.aQ)):=by
 unfold Bb
 refine .bnd (U3 c0) λi1 v1 r1 c1 q1=>.bnd (aW c1) λi2 v2 r2 c2 q2 => ?_
 have hz:=q1.2
 simp only [M.aE.sz] at hz
 dsimp only
 split
 ·refine .bnd (rU (λx => -1000000000000000<=x/\x<=1000000000000000) qe qe c2) λi3 v3 r3 c3 q3 => ?_
  dsimp only
  rw [AJ qs qb,qA]
  refine .ret c3 ⟨⟨⟨ml qn,λy hy => ?_⟩⟩,?_⟩
  ·rcases List.mem_append.1 hy with hy | hy;(exact q1.1.aE6.2 y hy);·rw [List.mem_singleton.1 hy];exact ⟨bgI q3,⟨by simp [maxLen],qd⟩⟩
  ·simp only [M.aE.sz];rw [xS];simp only [dG,M.aFE.sz,qE,qJ,qK];omega
 split
 ·split
  ·rename_i hp
   cases hc:r1.aE6 with
   | nil=>rw [hc] at hp;simp at hp
   | cons x0 xs =>
    have hx0:x0∈r1.aE6:=by rw [hc];simp
    have ho:=q1.1.aE6.2 x0 hx0
    rw [hc] at hz
    simp only [dG,M.aFE.sz,qJ] at hz
    rw [show idx (x0::xs) 0=some x0 from rfl,qA]
    refine .bnd (Bo (λs=>s.size<=16) qe qe c2) λi3 v3 r3 c3 q3=>.bnd (Ht c3) λi4 v4 r4 c4 q4 => ?_
    dsimp only
    rw [AJ qs qb,qA]
    have aa:=q4.2
    have ae:r3.size<=16:=q3
    refine .ret c4 ⟨⟨⟨ml (by show (List.set _ _ _).length<=_;rw [qN,qJ];omega),λy hy => ?_⟩⟩,?_⟩
    ·rcases List.mem_or_eq_of_mem_set hy with hy | rfl;(exact q1.1.aE6.2 y (by rw [hc];exact hy));·refine ⟨ho.aE3,ml qn,λz hz => ?_⟩;rcases List.mem_append.1 hz with hz | hz;(exact ho.aFK.2 z hz);·rw [List.mem_singleton.1 hz];exact ⟨s16 (s:=(⟨#[98,97,110,107]⟩:ByteArray)) qe,s16 q3,q4.1⟩
    ·have e4:(⟨#[98,97,110,107]⟩:ByteArray).size=4:=rfl;show M.aE.sz (⟨(⟨x0.aE3,x0.aFK++[_]⟩:M.aFE)::xs⟩:M.aE)<=70000;simp only [M.aE.sz,dG,M.aFE.sz,xS,M.aFL.sz,M.aE9.sz,qE,qJ,qK,e4];omega
  ·exact .ret c2 q1.all
 split
 ·have key : ∀(n k:Nat) (s:M.aE),5-k<n->k<=5->Ch s->Dr b Nf (pU (i2,v2,r2) n (k:Int) s.aE6):=by
   intro n
   induction n with
   | zero=>intro k s h _ _;omega
   | succ n ih =>
    intro k s h hk hs
    simp only [pU]
    rcases Nat.lt_or_ge k 5 with h6 | h6
    ·rw [if_pos qc]
     refine .FZ (MH hs (bgI qh)) λy hy => ?_
     rw [bE qb]
     exact ih (k+1) y.1 qb qb hy
    ·rw [if_neg qc];exact .ret c2 hs.all
  exact key fuel 1 r1 (lT qb) qb q1
 ·exact .ret c2 q1.all
theorem N1 {d:M.aE5} {u:M.kM} (hl:d.aFQ.length<=100000) : ∃v,BU d u=some v:=by
 have key : ∀(n k:Nat),d.aFQ.length-k<n->k<=d.aFQ.length -> ∃v,nL d u n (k:Int)=some v:=by
  intro n
  induction n with
  | zero=>intro k h _;omega
  | succ n ih =>
   intro k h hk
   simp only [nL]
   rcases Nat.lt_or_ge k d.aFQ.length with h6 | h6
   ·rw [if_pos (aY h6),aK h6,qA,bE qb];have:=ih (k+1) qb qb;split;(split;(exact ⟨_,rfl⟩);·exact this);·exact this
   ·rw [if_neg qc];exact ⟨_,rfl⟩
 exact key fuel 0 (lT qb) qb
theorem Zn {d:M.aE5} {a f:ByteArray} (hd:d.ok) (hz:M.aE5.sz d<=100000) (ha:a.size<=16) (hf:f.size<=16) : ∃x,kX d (⟨3,a,f⟩:M.kM)=some x/\(x.1.ok/\M.aE5.sz x.1<=M.aE5.sz d+40):=by
 have hl:d.aFQ.length<=100000:=by simp only [M.aE5.sz] at hz;omega
 obtain ⟨x5,e5⟩:=N1 (u:=(⟨3,a,f⟩:M.kM)) hl
 have ok':M.aE5.ok (⟨d.Name,d.aE3,d.aFH,d.aFQ++[(⟨a,f⟩:M.aN)]⟩:M.aE5):=⟨hd.Name,hd.aE3,hd.aFH,ml qn,λy hy=>by rcases List.mem_append.1 hy with hy | hy;(exact hd.aFQ.2 y hy);·rw [List.mem_singleton.1 hy];exact ⟨s16 ha,s16 hf⟩⟩
 have sz':M.aE5.sz (⟨d.Name,d.aE3,d.aFH,d.aFQ++[(⟨a,f⟩:M.aN)]⟩:M.aE5)<=M.aE5.sz d+40:=by simp only [M.aE5.sz,xS,dG,M.aN.sz,qE,qJ,qK];omega
 unfold kX
 rw [Ah d qb,qA,Ca hd,qA,e5,qA]
 dsimp only
 generalize lA (B4 a) d.aFH=x3
 have k1:((3:Int)==1)=false:=rfl
 have k2:((3:Int)==2)=false:=rfl
 have k3:((3:Int)==3)=true:=rfl
 have k4:((3:Int)==4)=false:=rfl
 simp only [k1,k2,k3,k4,qD,if_false,if_true,qA]
 by_cases h:x3>=0
 ·by_cases h5:x5<0;(simp only [h,h5,decide_true,if_true,qA];rw [AJ qs qb,qA,sG hd qb,qA,sG ok' qb,qA];cases nDb d;(exact ⟨_,rfl,hd,qg⟩);·cases nDb (⟨d.Name,d.aE3,d.aFH,d.aFQ++[(⟨a,f⟩:M.aN)]⟩:M.aE5);(exact ⟨_,rfl,hd,qg⟩);·exact ⟨_,rfl,ok',sz'⟩);·simp only [h,h5,decide_true,decide_false,qD,if_false,if_true,qA];exact ⟨_,rfl,hd,qg⟩
 ·simp only [h,decide_false,qD,if_false,qA];exact ⟨_,rfl,hd,qg⟩
def YG (d:M.aE5):Prop:=d.ok/\M.aE5.sz d<=40000
theorem aEB {l:List M.aC} (hl:l.length<=3) (h : ∀s∈l,RN s):M.aE5.ok (⟨(⟨#[97,112,112]⟩:ByteArray),1,l,([]:List M.aN)⟩:M.aE5)/\M.aE5.sz (⟨(⟨#[97,112,112]⟩:ByteArray),1,l,([]:List M.aN)⟩:M.aE5)<=39000:=by
 have h3:(⟨#[97,112,112]⟩:ByteArray).size=3:=rfl
 have:=dP (w:=M.aC.sz) (b:=10000) (xs:=l) λs hs=>pA (h s hs).2.1
 refine ⟨⟨s16 (s:=(⟨#[97,112,112]⟩:ByteArray)) qe,Q6,⟨ml qg,λs hs=>(h s hs).1⟩,⟨by simp [maxLen],qd⟩⟩,?_⟩
 simp only [M.aE5.sz,dG,qK,h3]
 omega
theorem XQ {α:Type} {b:Nat} {xs:List α} (h:xs.length<=1000000) (hb:b<=1000):YW b xs=some xs:=by unfold YW;rw [if_pos (Nat.le_trans (Nat.mul_le_mul h hb) qb)]
theorem Vb {b:List Int} {i h:Int} (c0:okC b i h):Dr b YG (Bh (⟨b,i,h⟩:M.aQ)):=by
 unfold Bh
 refine .bnd (EX qe qe c0) λi1 v1 r1 c1 q1=>.bnd (EX qe qe c1) λi2 v2 r2 c2 q2 => ?_
 dsimp only
 rw [XQ qd qb,qA]
 have fin : ∀ {l:List M.aC} {i5 v5:Int} {f:Int×Int×Bool->Option (Int×Int×M.aE5)},l.length<=3->(∀s∈l,RN s)->okC b i5 v5->f=(λaa=>(if aa.2.2=true then ((dA (⟨b,aa.1,aa.2.1⟩:M.aQ)).bind λae=>((kX (⟨(⟨#[97,112,112]⟩:ByteArray),1,l,([]:List M.aN)⟩:M.aE5) (⟨3,(⟨#[110,111,116,101,115]⟩:ByteArray),ae.2.2⟩:M.kM)).bind λaf=>(some (ae.1,ae.2.1,af.1)))) else (some (aa.1,aa.2.1,(⟨(⟨#[97,112,112]⟩:ByteArray),1,l,([]:List M.aN)⟩:M.aE5)))))->Dr b YG ((cA (⟨b,i5,v5⟩:M.aQ) 3).bind f):=by
  intro l i5 v5 f hl hg c5 hf
  subst hf
  obtain ⟨o1,o2⟩:=aEB hl hg
  refine .bnd (yR c5) λi6 v6 r6 c6 q6 => ?_
  dsimp only
  split
  ·refine .bnd (Ab c6) λi7 v7 r7 c7 q7=>.FZ (Zn o1 qb qe (Nat.le_trans q7 qb)) λy hy=>.ret c7 ⟨hy.1,?_⟩
   have:=hy.2
   omega
  ·exact .ret c6 ⟨o1,qb⟩
 refine .bnd (yR c2) λi3 v3 r3 c3 q3 => ?_
 dsimp only
 split
 ·refine .bnd (EX qe qe c3) λi4 v4 r4 c4 q4 => ?_
  dsimp only
  rw [AJ qd qb,qA]
  exact fin (l:=[r4]++[r1,r2]) qd (by simp only [qP,List.mem_cons,qO,or_false];rintro s (rfl | rfl | rfl)<;>assumption) c4 rfl
 ·exact fin (l:=[r1,r2]) qd (by simp only [List.mem_cons,qO,or_false];rintro s (rfl | rfl)<;>assumption) c3 rfl
theorem Yp {b:List Int} {i h:Int} (c0:okC b i h):Dr b K6 (CF (⟨b,i,h⟩:M.aQ)):=by
 unfold CF
 refine .bnd (aW c0) λi1 v1 r1 c1 q1=>.bnd (Bo (λs=>s.size<=16) qe qe c1) λi2 v2 r2 c2 q2=>.bnd (xV c2) λi3 v3 r3 c3 q3 => ?_
 dsimp only
 have hk:=q3.any.1
 have e0:(⟨#[]⟩:ByteArray).size<=maxLen:=s16 qe
 split
 ·exact .bnd (Cz c3) λi4 v4 r4 c4 q4=>.ret c4 ⟨bI _,s16 q2,hk,q4.1,e0⟩
 split
 ·exact .bnd (Cz c3) λi4 v4 r4 c4 q4=>.ret c4 ⟨bI _,s16 q2,hk,q4.1,e0⟩
 split
 ·exact .bnd (Ab c3) λi4 v4 r4 c4 q4=>.ret c4 ⟨bI _,s16 q2,hk,G8,s16 (Nat.le_trans q4 qb)⟩
 split
 ·refine .bnd (yR c3) λi4 v4 r4 c4 q4 => ?_
  dsimp only
  split
  ·exact .bnd (xV c4) λi5 v5 r5 c5 q5=>.ret c5 ⟨Q6,s16 q2,q5.any.1,G8,e0⟩
  ·exact .ret c4 ⟨bI _,s16 q2,O3,G8,e0⟩
 ·exact .ret c3 ⟨bI _,s16 q2,hk,G8,e0⟩
def Yx (l:List M.Op):Prop:=l.length<=10 /\ ∀o∈l,K6 o
theorem WO {b:List Int} {i h:Int} (c0:okC b i h):Dr b Yx (B7 (⟨b,i,h⟩:M.aQ) 3):=by
 unfold B7
 rw [show IntKind.i64.wrap (3+1)=4 from by rw [wrap_small qb qb];rfl]
 refine .bnd (aW c0) λi1 v1 r1 c1 q1 => ?_
 obtain ⟨N,rfl⟩:=Aw q1.1
 have hN:=q1.2.1 qb
 refine A5 (L:=λn v (s:(List M.Op)×Int×Int)=>tJ (⟨b,i,h⟩:M.aQ) n v s.1 s.2.1 s.2.2) (I:=λk s=>k<=100000/\okC b s.2.1 s.2.2/\s.1.length+k<=10 /\ ∀o∈s.1,K6 o) (Q:=Dr b Yx) (λn k s hi ih => ?_) (λn s hi => ?_) fuel N (([]:List M.Op),i1,v1) (lT qb) ⟨qb,c1,⟨by simp only [qK];omega,qd⟩⟩
 ·obtain ⟨x,ci,ch⟩:=s
  obtain ⟨k0,k1,k2⟩:=hi
  dsimp only at k1 k2
  simp only [tJ]
  rw [if_pos (RL k),JB k0]
  refine .bnd (Yp k1) λi3 v3 r3 c3 q3 => ?_
  dsimp only
  have aa:=k2.1
  rw [AJ qs qb,qA]
  refine ih (x++[r3],i3,v3) ⟨qb,c3,qn,λo ho => ?_⟩
  rcases List.mem_append.1 ho with ho | ho
  ·exact k2.2 o ho
  ·rw [List.mem_singleton.1 ho];exact q3
 ·obtain ⟨x,ci,ch⟩:=s;obtain ⟨k0,k1,k2⟩:=hi;dsimp only at k1 k2;simp only [tJ];rw [if_neg Jp];exact .ret k1 ⟨by have:=k2.1;omega,k2.2⟩
theorem Ov {k:M.bV} {l:List M.Op} {n:Nat} (h:k.ok) (hz:M.bV.sz k<=n) (hn:n<=200000) (hl:l.length<=1000) (ho : ∀o∈l,K6 o) : ∃x,nK k l=some x/\(x.1.ok/\M.bV.sz x.1<=n+4000):=⟨_,Iu h qb hl ho,(LP h).1,by have:=(LP (l:=l) h).2.1;omega⟩
def Si (k:M.bV):Prop:=k.ok/\M.bV.sz k<=70000
theorem SX {b:List Int} {i h:Int} (c0:okC b i h):Dr b Si (AA (⟨b,i,h⟩:M.aQ)):=by
 unfold AA
 refine .bnd (Vb c0) λi0 v0 d aa q0=>.bnd (aW aa) λi1 v1 r1 c1 q1 => ?_
 obtain ⟨N,rfl⟩:=Aw q1.1
 have hN:=q1.2.1 qb
 have hz:=q0.2
 refine A5 (L:=λn v (s:(M.bV)×Int×Int)=>oI (⟨b,i,h⟩:M.aQ) n v s.1.aFT.Name s.1.aFT.aE3 s.1.aFk s.2.1 s.2.2 s.1.aFT.aFH s.1.aFT.aFQ s.1.Log) (I:=λk s=>k<=100000/\okC b s.2.1 s.2.2/\s.1.ok/\M.bV.sz s.1+4000*k<=60000) (Q:=Dr b Si) (λn k s hi ih => ?_) (λn s hi => ?_) fuel N ((⟨d,([]:List Int),0⟩:M.bV),i1,v1) (lT qb) ⟨qb,c1,⟨⟨q0.1,⟨by simp [maxLen],qd⟩,vZ⟩,by show M.aE5.sz d+0+4000*N<=60000;omega⟩⟩
 ·obtain ⟨x,ci,ch⟩:=s
  obtain ⟨k0,k1,k2⟩:=hi
  dsimp only at k1 k2
  simp only [oI]
  rw [if_pos (RL k),JB k0]
  refine .bnd (WO k1) λi3 v3 r3 c3 q3=>.FZ (Ov (k:=x) (n:=M.bV.sz x) k2.1 (Nat.le_refl _) (by have:=k2.2;omega) (Nat.le_trans q3.1 qb) q3.2) λy hy => ?_
  exact ih (y.1,i3,v3) ⟨qb,c3,hy.1,by have:=hy.2;have:=k2.2;dsimp only;omega⟩
 ·obtain ⟨x,ci,ch⟩:=s;obtain ⟨k0,k1,k2⟩:=hi;dsimp only at k1 k2;simp only [oI];rw [if_neg Jp];exact .ret k1 ⟨k2.1,by have:=k2.2;show M.bV.sz x<=70000;omega⟩
theorem XR {l b:List Int} {i:Int} (hl:okB l) (hz:l.length<=100000) (hb : ∀x∈b,0<=x/\x<=255):okB (Vd l i b).1/\(Vd l i b).1.length<=l.length+4000:=by unfold Vd;split;(exact ⟨hl,qg⟩);split;(exact ⟨hl,qg⟩);·rename_i hh;refine ⟨⟨ml qg,λy hy => ?_⟩,qg⟩;have hy':y∈Ur l i b:=hy;unfold Ur at hy';simp only [qP] at hy';rcases hy' with h | h | h;(exact hl.2 y h);(exact DX hb y h);·exact Ge _ y h
def PH (k:M.bV):Prop:=k.ok/\M.bV.sz k<=80000
theorem VV {b:List Int} {i h:Int} (c0:okC b i h):Dr b PH (Bi (⟨b,i,h⟩:M.aQ)):=by
 unfold Bi
 refine .bnd (SX c0) λi1 v1 r1 c1 q1=>.bnd (aW c1) λi2 v2 r2 c2 q2 => ?_
 dsimp only
 have hz:=q1.2
 have hl:r1.Log.length<=70000:=by simp only [M.bV.sz] at hz;omega
 split
 ·exact .ret c2 ⟨⟨q1.1.aFT,q1.1.Log,bI _⟩,by simp only [M.bV.sz] at hz ⊢;omega⟩
 split
 ·refine .bnd (VQ q1.1.Log qb c2) λi3 v3 r3 c3 q3=>.ret c3 ⟨⟨q1.1.aFT,q3.1,q1.1.aFk⟩,?_⟩
  have:=q3.2
  simp only [M.bV.sz] at hz ⊢
  omega
 split
 ·rw [En qb qe,qA];obtain ⟨o1,o2⟩:=XR (i:=r1.aFk) (b:=[1,2]) q1.1.Log qb qe;refine .ret c2 ⟨⟨q1.1.aFT,o1,bI _⟩,?_⟩;simp only [M.bV.sz] at hz ⊢;omega
 ·exact .ret c2 ⟨q1.1,qb⟩
def wsm (w:M.bD):Prop:=w.ok/\M.bD.sz w<=32
theorem FR {d q n:Int} {k:M.Key} {f:ByteArray} (hd:inI d) (hq:inI q) (hk:MT k) (hf:f.size<=16) (hn:inI n):wsm (⟨d,q,k,f,n⟩:M.bD):=⟨⟨hd,hq,hk.1,s16 hf,hn⟩,by have:=hk.2;simp only [M.bD.sz,M.Key.sz];omega⟩
def obI (o:M.aM):Prop:=inI o.aFC/\inI o.aFd/\o.aFO.length<=30 /\ ∀w∈o.aFO,wsm w
theorem obI.ok {o:M.aM} (h:obI o):o.ok:=⟨h.1,h.2.1,ml (by have:=h.2.2.1;omega),λw hw=>(h.2.2.2 w hw).1⟩
theorem obI.sz {o:M.aM} (h:obI o):M.aM.sz o<=1000:=by
 have h1:=dP (w:=M.bD.sz) (b:=32) (xs:=o.aFO) λw hw=>(h.2.2.2 w hw).2
 have h2:=h.2.2.1
 simp only [M.aM.sz]
 omega
theorem Pb {o:M.aM} (h:sN o=true):o.aFO.length<=20:=by unfold sN at h;simp only [qM,qL] at h;exact h.2.2.2
theorem SR {o:M.aM} {k:M.Key} {f:ByteArray} {n:Int} (h:obI o) (hk:MT k) (hf:f.size<=16) (hn:inI n):obI (OM o k f n).1:=by unfold OM;split;(split;(rename_i h2;have:=Pb h2;refine ⟨h.1,bI _,by show (GZ o k f n).aFO.length<=30;omega,λw hw => ?_⟩;have hw':w∈o.aFO++[(⟨o.aFC,o.aFd,k,f,n⟩:M.bD)]:=hw;rcases List.mem_append.1 hw' with hw | hw;(exact h.2.2.2 w hw);·rw [List.mem_singleton.1 hw];exact FR h.1 h.2.1 hk hf hn);·exact h);·exact h
theorem Qe {o:M.aM} {k:M.Key} {f:ByteArray} {n:Int} (h:obI o) (hk:MT k) (hf:f.size<=16) (hn:inI n):iB o k f n=some (OM o k f n):=CH h.ok (by have:=h.sz;omega) hk.1 (s16 hf) hn
theorem Ou {d n:Int} (hd:inI d) (hn:inI n):obI (⟨d,n,([]:List M.bD)⟩:M.aM):=⟨hd,hn,qd,qd⟩
theorem V9 {d:Int} (hd:inI d) : ∃x,mX d=some x/\obI x.1/\x.1.aFd<=1/\x.1.aFO.length<=0:=by unfold mX;rw [oV (Ou hd Q6).ok,qA];cases sN (⟨d,1,([]:List M.bD)⟩:M.aM);(exact ⟨_,rfl,Ou vZ vZ,qe,qd⟩);·exact ⟨_,rfl,Ou hd Q6,by show (1:Int)<=1;omega,qd⟩
theorem Tc {o:M.aM} {q:Int} (h:obI o) : ∃x,cT o q=some x/\obI x.1/\x.1.aFd=o.aFd/\inI x.2/\x.1.aFO.length<=o.aFO.length:=by
 have hlen:=h.2.2.1
 have fin : ∀(k:Nat),k<=o.aFO.length -> ∃x,(B5 o.aFO (k:Int)).bind (λaa=>((app 72 ([]:List M.bD) (List.drop (k:Int).toNat o.aFO)).bind λae=>(some ((⟨o.aFC,o.aFd,(List.drop (k:Int).toNat o.aFO)⟩:M.aM),(k:Int)))))=some x/\obI x.1/\x.1.aFd=o.aFd/\inI x.2/\x.1.aFO.length<=o.aFO.length:=by intro k hk;rw [JX hk,qA,qH,EC (by rw [qU];omega) qb,qA];exact ⟨_,rfl,⟨h.1,h.2.1,by show (List.drop k o.aFO).length<=30;rw [qU];omega,λw hw=>h.2.2.2 w (List.mem_of_mem_drop hw)⟩,rfl,bgI qg,by show (List.drop k o.aFO).length<=_;rw [qU];omega⟩
 have key : ∀(n k:Nat),o.aFO.length-k<n->k<=o.aFO.length -> ∃x,nJ o q o n (k:Int)=some x/\obI x.1/\x.1.aFd=o.aFd/\inI x.2/\x.1.aFO.length<=o.aFO.length:=by
  intro n
  induction n with
  | zero=>intro k h _;omega
  | succ n ih =>
   intro k hn hk
   simp only [nJ]
   rcases Nat.lt_or_ge k o.aFO.length with h6 | h6
   ·rw [if_pos (aY h6),aK h6,qA,bE qb];split;(exact ih (k+1) qb qb);·exact fin k hk
   ·rw [if_neg qc];exact fin k hk
 unfold cT
 rw [BL o (by have:=h.sz;omega),qA,oV h.ok,qA]
 cases sN o
 ·rw [if_pos qd];exact ⟨_,rfl,h,rfl,vZ,Nat.le_refl _⟩
 ·rw [if_neg qd];exact key fuel 0 (lT qb) qb
theorem XY (o:M.aM) (k:M.Key) (f:ByteArray) (n:Int):(OM o k f n).1.aFO.length<=o.aFO.length+1:=by unfold OM;split;(split;(simp [GZ]);·exact Nat.le_succ _);·exact Nat.le_succ _
theorem UW {o:M.aM} {k:M.Key} {f:ByteArray} {n:Int} (h:o.aFd<=1000):(OM o k f n).1.aFd<=1+o.aFd\/(OM o k f n).1.aFd=o.aFd:=by unfold OM;split;(rename_i h1;split;(left;unfold sN inR at h1;simp only [qM,qL] at h1;show IntKind.i64.wrap (o.aFd+1)<=_;rw [wrap_small qb qb];omega);·exact .inr rfl);·exact .inr rfl
theorem O8 {b:List Int} {i h d:Int} (hd:inI d) (c0:okC b i h):Dr b (λo=>obI o/\o.aFd<=10/\o.aFO.length<=20) (yF (⟨b,i,h⟩:M.aQ) d):=by
 unfold yF
 refine .FZ (V9 hd) λo ho=>.bnd (rU (λx=>0<=x/\x<=6) qe qe c0) λi1 v1 r1 c1 q1 => ?_
 obtain ⟨N,rfl⟩:=Aw q1.1
 have hN:=q1.2
 refine A5 (L:=λn v (s:(M.aM)×Int×Int)=>kQ (⟨b,i,h⟩:M.aQ) n v s.1.aFC s.1.aFd s.2.1 s.2.2 s.1.aFO) (I:=λk s=>k<=100000/\okC b s.2.1 s.2.2/\obI s.1/\s.1.aFd+k<=8/\s.1.aFO.length+k<=7) (Q:=Dr b (λo=>obI o/\o.aFd<=10/\o.aFO.length<=20)) (λn k s hi ih => ?_) (λn s hi => ?_) fuel N (o.1,i1,v1) (lT qb) ⟨qb,c1,⟨ho.1,by have:=ho.2.1;dsimp only;omega,by have:=ho.2.2;dsimp only;omega⟩⟩
 ·obtain ⟨x,ci,ch⟩:=s
  obtain ⟨k0,k1,k2⟩:=hi
  dsimp only at k1 k2
  simp only [kQ]
  rw [if_pos (RL k),JB k0]
  refine .bnd (xV k1) λi3 v3 r3 c3 q3=>.bnd (Ab c3) λi4 v4 r4 c4 q4=>.bnd (aW c4) λi5 v5 r5 c5 q5 => ?_
  dsimp only
  have hf:r4.size<=16:=Nat.le_trans q4 qb
  have hn:inI r5:=bgI (SA q5)
  rw [show (⟨x.aFC,x.aFd,x.aFO⟩:M.aM)=x from rfl,Qe k2.1 q3.any hf hn,qA]
  refine ih ((OM x r3 r4 r5).1,i5,v5) ⟨qb,c5,SR k2.1 q3.any hf hn,?_,?_⟩
  ·have h1:=k2.2.1;dsimp only;rcases UW (o:=x) (k:=r3) (f:=r4) (n:=r5) qb with h2 | h2<;>omega
  ·have h1:=k2.2.2;have h2:=XY x r3 r4 r5;dsimp only;omega
 ·obtain ⟨x,ci,ch⟩:=s
  obtain ⟨k0,k1,k2⟩:=hi
  dsimp only at k1 k2
  simp only [kQ]
  rw [if_neg Jp]
  refine .bnd (yR k1) λi3 v3 r3 c3 q3 => ?_
  dsimp only
  have h1:=k2.2.1
  have h2:=k2.2.2
  split
  ·refine .bnd (aW c3) λi4 v4 r4 c4 q4 => ?_
   dsimp only
   obtain ⟨y,e,y1,y2,_,y3⟩:=Tc (q:=r4) k2.1
   rw [show (⟨x.aFC,x.aFd,x.aFO⟩:M.aM)=x from rfl,e,qA]
   exact .ret c4 ⟨y1,qb,qb⟩
  ·exact .ret c3 ⟨k2.1,qg,qg⟩
theorem U2 {o:M.aM} {k:M.Key} {f:ByteArray} {n:Int} (h:sN o=true) (hN:o.aFd<=1000) (hl:o.aFO.length<20) (hq:De (⟨o.aFC,o.aFd,k,f,n⟩:M.bD)=true):sN (GZ o k f n)=true:=by
 unfold sN inR at h
 simp only [qM,qL,qQ,qR] at h
 obtain ⟨h1,⟨h2,h3⟩,⟨h4,h5⟩,h6⟩:=h
 have ew:IntKind.i64.wrap (o.aFd+1)=o.aFd+1:=wrap_small qb qb
 unfold sN inR GZ
 simp only [qM,qL,qQ,qR,qE,qJ,qK,ew]
 refine ⟨λj hj => ?_,⟨h2,h3⟩,⟨qb,qb⟩,qb⟩
 unfold C8
 simp only [qE,qJ,qK]
 rcases Nat.lt_or_ge j o.aFO.length with hlt | hge
 ·have:=h1 j hlt;unfold C8 at this;rw [qF hlt,Option.any_some] at this;rw [List.getElem?_append_left hlt,qF hlt,Option.any_some,show (o.aFd+1-((o.aFO.length+(0+1):Nat):Int))=o.aFd-(o.aFO.length:Int) by omega];exact this
 ·have:j=o.aFO.length:=by omega
  subst this
  rw [List.getElem?_append_right (Nat.le_refl _),Nat.sub_self]
  simp only [List.getElem?_cons_zero,Option.any_some]
  rw [hq,show (o.aFd+1-((o.aFO.length+(0+1):Nat):Int))=o.aFd-(o.aFO.length:Int) by omega,wrap_small (n:=o.aFd-(o.aFO.length:Int)) qb qb,show o.aFd-(o.aFO.length:Int)+(o.aFO.length:Int)=o.aFd by omega,wrap_small qb qb]
  simp
theorem Pv.n {k:M.Key} (h:Pv k):Cj k=true:=by
 obtain ⟨a,n,s⟩:=k
 obtain ⟨h1,h2,h3,h4⟩:=h
 dsimp only at h1 h2 h3 h4
 subst h4 h1
 unfold Cj inR
 have e:Lj (⟨#[]⟩:ByteArray)=true:=by decide
 simp [e]
 omega
theorem U6 {b:List Int} {i h:Int} (c0:okC b i h):Dr b obI (AY (⟨b,i,h⟩:M.aQ)):=by
 unfold AY
 refine .bnd (aW c0) λi1 v1 r1 c1 q1=>.bnd (O8 (bI _) c1) λi2 v2 o c2 q2=>.bnd (aW c2) λi3 v3 r3 c3 q3 => ?_
 dsimp only
 obtain ⟨ho,hN,q2len⟩:=q2
 have hlen:=ho.2.2.1
 split
 ·exact .bnd (rU (λx => -1000000000000000<=x/\x<=1000000000000000) qe qe c3) λi4 v4 r4 c4 q4=>.ret c4 ⟨bgI q4,ho.2.1,ho.2.2⟩
 split
 ·exact .bnd (rU (λx => -1000000000000000<=x/\x<=1000000000000000) qe qe c3) λi4 v4 r4 c4 q4=>.ret c4 ⟨ho.1,bgI q4,ho.2.2⟩
 split
 ·refine .bnd (OZ c3) λi4 v4 r4 c4 q4=>.bnd (rU (λx => -1000000000000000<=x/\x<=1000000000000000) qe qe c4) λi5 v5 r5 c5 q5 => ?_
  dsimp only
  rw [AJ qs qb,qA]
  refine .ret c5 ⟨ho.1,ho.2.1,qn,λw hw => ?_⟩
  rcases List.mem_append.1 hw with hw | hw
  ·exact ho.2.2.2 w hw
  ·rw [List.mem_singleton.1 hw];exact FR ho.1 ho.2.1 q4 qe (bgI q5)
 split
 ·have key : ∀(n:Nat) (o:M.aM) (ci ch:Int),20-o.aFO.length<n->obI o->o.aFd<=10+o.aFO.length->okC b ci ch->Dr b obI (uH (⟨b,i,h⟩:M.aQ) n o.aFC o.aFd ci ch o.aFO):=by
   intro n
   induction n with
   | zero=>intro o ci ch h _ _ _;omega
   | succ n ih =>
    intro o ci ch hn ho hN k1
    simp only [uH]
    rcases Nat.lt_or_ge o.aFO.length 20 with h6 | h6
    ·rw [if_pos qc,show (⟨o.aFC,o.aFd,o.aFO⟩:M.aM)=o from rfl,oV ho.ok,qA]
     cases hob:sN o with
     | false=>rw [if_neg qd];exact .ret k1 ho
     | true =>
      rw [if_pos rfl]
      refine .bnd (xV k1) λi4 v4 r4 c4 q4 => ?_
      dsimp only
      have hf:(⟨#[97]⟩:ByteArray).size<=16:=by decide
      rw [Qe ho q4.any hf Q6,qA]
      have h7:=hob
      unfold sN inR at h7
      simp only [qM,qL] at h7
      have hq:De (⟨o.aFC,o.aFd,r4,(⟨#[97]⟩:ByteArray),1⟩:M.bD)=true:=by
       have e:mH (⟨#[97]⟩:ByteArray)=true:=by decide
       unfold De inR
       simp [q4.n,e]
       omega
      have hb:=U2 hob qb h6 hq
      have en:OM o r4 (⟨#[97]⟩:ByteArray) 1=(GZ o r4 (⟨#[97]⟩:ByteArray) 1,true):=by unfold OM;rw [if_pos hob,if_pos hb]
      have hob2:=SR (k:=r4) (f:=(⟨#[97]⟩:ByteArray)) (n:=1) ho q4.any hf Q6
      rw [en] at hob2 ⊢
      have e3:(GZ o r4 (⟨#[97]⟩:ByteArray) 1).aFO.length=o.aFO.length+1:=by simp [GZ]
      have e4:(GZ o r4 (⟨#[97]⟩:ByteArray) 1).aFd=o.aFd+1:=wrap_small qb qb
      exact ih (GZ o r4 (⟨#[97]⟩:ByteArray) 1) i4 v4 qb hob2 qb c4
    ·rw [if_neg qc];exact .ret k1 ho
  exact key fuel o i3 v3 (lT qb) ho qb c3
 ·exact .ret c3 ho
def svI (n:Nat) (s:M.aFG):Prop:=s.aC.ok/\hJ s.aC=true/\(s.aO.length<=60 /\ ∀a∈s.aO,M.aO.ok a)/\s.aFV.length<=n /\ ∀w∈s.aFV,wsm w
theorem svI.ok {n:Nat} {s:M.aFG} (h:svI n s) (hn:n<=1000):M.aFG.ok s:=⟨h.1,⟨ml (by have:=h.2.2.1.1;omega),h.2.2.1.2⟩,⟨ml (by have:=h.2.2.2.1;omega),λw hw=>(h.2.2.2.2 w hw).1⟩⟩
theorem svI.mono {n m:Nat} {s:M.aFG} (h:svI n s) (hm:n<=m):svI m s:=⟨h.1,h.2.1,h.2.2.1,by have:=h.2.2.2.1;omega,h.2.2.2.2⟩
theorem Sr {n:Nat} {s:M.aFG} (h:svI n s) (hn:n<=1000):gH s=some s:=by have h1:=pA h.2.1;have h2:=h.2.2.1.1;have h3:=h.2.2.2.1;unfold gH;rw [mP _ qb,qA,EC qb qb,qA,EC qb qb,qA]
theorem JS {s:M.aFG} {d:Int} (h:s.aO.length<=60 /\ ∀a∈s.aO,M.aO.ok a) : ∃v,vT s d=some v/\inI v:=by
 have hl:=h.1
 have key : ∀(n k:Nat),s.aO.length-k<n->k<=s.aO.length -> ∃v,sH s d n (k:Int)=some v/\inI v:=by
  intro n
  induction n with
  | zero=>intro k h _;omega
  | succ n ih =>
   intro k hn hk
   simp only [sH]
   rcases Nat.lt_or_ge k s.aO.length with h6 | h6
   ·rw [if_pos (aY h6),aK h6,qA,bE qb];split;(exact ⟨_,rfl,(h.2 _ (qG h6)).Seq⟩);·exact ih (k+1) qb qb
   ·rw [if_neg qc];exact ⟨_,rfl,vZ⟩
 exact key fuel 0 (lT qb) qb
theorem W4 {l:List M.aO} {d q:Int} (h:l.length<=60 /\ ∀a∈l,M.aO.ok a) (hd:inI d) (hq:inI q) : ∃r,Az l d q=some r /\ ∀a∈r,M.aO.ok a:=by
 have hl:=h.1
 have ins : ∀(k:Nat),k<=l.length -> ∀a∈(List.take k l++[(⟨d,q⟩:M.aO)])++List.drop k l,M.aO.ok a:=by intro k hk a ha;simp only [qP,List.mem_singleton] at ha;rcases ha with (ha | rfl) | ha;(exact h.2 a (List.mem_of_mem_take ha));(exact ⟨hd,hq⟩);·exact h.2 a (List.mem_of_mem_drop ha)
 have fin : ∀(k:Nat),k<=l.length -> ∃r,((Ap l (k:Int)).bind λaa=>((app 16 ([]:List M.aO) (List.take (k:Int).toNat l)).bind λae=>((app 16 (List.take (k:Int).toNat l) ([(⟨d,q⟩:M.aO)])).bind λaf=>((B5 l (k:Int)).bind λah=>((app 16 ((List.take (k:Int).toNat l)++[(⟨d,q⟩:M.aO)]) (List.drop (k:Int).toNat l)).bind λai=>(some (((List.take (k:Int).toNat l)++[(⟨d,q⟩:M.aO)])++(List.drop (k:Int).toNat l))))))))=some r /\ ∀a∈r,M.aO.ok a:=by intro k hk;rw [Cb hk,qA,qH,EC (by rw [qT];omega) qb,qA,AJ qu qb,qA,JX hk,qA,AJ qo qb,qA];exact ⟨_,rfl,ins k hk⟩
 have key : ∀(n k:Nat),l.length-k<n->k<=l.length -> ∃r,sJ l d q n (k:Int)=some r /\ ∀a∈r,M.aO.ok a:=by
  intro n
  induction n with
  | zero=>intro k h _;omega
  | succ n ih =>
   intro k hn hk
   simp only [sJ]
   rcases Nat.lt_or_ge k l.length with h6 | h6
   ·rw [if_pos (aY h6),aK h6,qA,bE qb];split;(exact ih (k+1) qb qb);split;(refine ⟨_,rfl,λa ha => ?_⟩;rcases List.mem_or_eq_of_mem_set ha with ha | rfl;(exact h.2 a ha);·exact ⟨(h.2 _ (qG h6)).aFC,hq⟩);·exact fin k hk
   ·rw [if_neg qc];exact fin k hk
 unfold Az
 rw [EC qb qb,qA]
 exact key fuel 0 (lT qb) qb
theorem S3 {s:M.aC} {w:M.bD} (hs:hJ s=true):hJ (L0 s w).1=true:=by
 cases h2:(L0 s w).2 with
 | false=>rw [KV h2];exact hs
 | true =>
  unfold L0 at h2 ⊢
  by_cases h1:(IH (kI s w.Key) w.Field w.N).2=true
  ·rw [if_pos h1] at h2 ⊢;exact Dk (E6 h1) h2
  ·rw [if_neg h1] at h2;cases h2
theorem recv {n:Nat} {s:M.aFG} {w:M.bD} (h:svI n s) (hn:n<=900) (hw:wsm w) : ∃x,cR s w=some x/\svI (n+1) x.1:=by
 have hm:=h.mono (Nat.le_succ n)
 have hz:=pA h.2.1
 have hc:=h.2.2.2.1
 unfold cR
 rw [Sr h qb,qA,A8 (h.ok qb),qA]
 cases EZ s
 ·exact ⟨_,rfl,hm⟩
 rw [if_neg qd,Ao hw.1,qA]
 cases De w
 ·exact ⟨_,rfl,hm⟩
 rw [if_neg qd]
 obtain ⟨r,er,hr⟩:=W4 h.2.2.1 hw.1.aFC hw.1.Seq
 obtain ⟨v,ev,hv⟩:=JS (s:=s) (d:=w.aFC) h.2.2.1
 rw [er,qA,ev,qA]
 by_cases aa:(r.length:Int)>60
 ·rw [if_pos (by simpa using aa)];exact ⟨_,rfl,hm⟩
 rw [if_neg (by simpa using aa)]
 split
 ·exact ⟨_,rfl,hm⟩
 split
 ·exact ⟨_,rfl,hm⟩
 have hch : ∀y∈s.aFV++[w],wsm y:=λy hy=>by rcases List.mem_append.1 hy with hy | hy;(exact h.2.2.2.2 y hy);·rw [List.mem_singleton.1 hy];exact hw
 have hlen:(s.aFV++[w]).length<=n+1:=by simp only [qE,qJ,qK];omega
 rw [AQ h.1 hw.1 qb,qA,AJ qs qb,qA]
 split
 ·exact ⟨_,rfl,(JO h.1 hw.1 qb).1,S3 h.2.1,⟨qg,hr⟩,hlen,hch⟩
 ·exact ⟨_,rfl,h.1,h.2.1,⟨qg,hr⟩,hlen,hch⟩
theorem K1 {b:List Int} {i h:Int} (c0:okC b i h):Dr b (svI 5) (uA (⟨b,i,h⟩:M.aQ)):=by
 unfold uA
 refine .bnd (EX qe qe c0) λi0 v0 s0 aa q0=>.bnd (aW aa) λi1 v1 r1 c1 q1 => ?_
 obtain ⟨N,rfl⟩:=Aw q1.1
 have hN:=q1.2.1 qb
 refine A5 (L:=λn v (s:(M.aFG)×Int×Int)=>kW (⟨b,i,h⟩:M.aQ) n v s.1.aC.Name s.1.aC.aFZ s.2.1 s.2.2 s.1.aC.aE7 s.1.aO s.1.aFV) (I:=λk s=>k<=100000/\okC b s.2.1 s.2.2/\k<=5/\svI (5-k) s.1) (Q:=Dr b (svI 5)) (λn k s hi ih => ?_) (λn s hi => ?_) fuel N ((⟨s0,([]:List M.aO),([]:List M.bD)⟩:M.aFG),i1,v1) (lT qb) ⟨qb,c1,⟨qb,q0.1,q0.2.1,⟨qd,qd⟩,qd,qd⟩⟩
 ·obtain ⟨x,ci,ch⟩:=s
  obtain ⟨k0,k1,k2⟩:=hi
  dsimp only at k1 k2
  simp only [kW]
  rw [if_pos (RL k),JB k0]
  obtain ⟨k2,k3⟩:=k2
  refine .bnd (aW k1) λi3 v3 r3 c3 q3 => ?_
  dsimp only
  rw [show (⟨(⟨x.aC.Name,x.aC.aE7,x.aC.aFZ⟩:M.aC),x.aO,x.aFV⟩:M.aFG)=x from rfl]
  refine .FZ (JS k3.2.2.1) λv hv=>.bnd (xV c3) λi4 v4 r4 c4 q4=>.bnd (Ab c4) λi5 v5 r5 c5 q5=>.bnd (aW c5) λi6 v6 r6 c6 q6=>.FZ (recv k3 qb (FR (bI _) (bI _) q4.any (Nat.le_trans q5 qb) (bgI (SA q6)))) λy hy => ?_
  exact ih (y.1,i6,v6) ⟨qb,c6,qb,hy.mono qb⟩
 ·obtain ⟨x,ci,ch⟩:=s;obtain ⟨k0,k1,k2⟩:=hi;dsimp only at k1 k2;simp only [kW];rw [if_neg Jp];exact .ret k1 (k2.2.mono qb)
def rpI (r:M.aG):Prop:=r.aFT.ok/\M.aC.sz r.aFT<=10000/\inI r.aFq/\obI r.aFS.aM/\inI r.aFS.aFi/\inI r.aFS.aFX
theorem rpI.ok {r:M.aG} (h:rpI r):r.ok:=⟨h.1,h.2.2.1,h.2.2.2.1.ok,h.2.2.2.2.1,h.2.2.2.2.2⟩
theorem rpI.sz {r:M.aG} (h:rpI r):M.aG.sz r<=11000:=by have h1:=h.2.1;have h2:=h.2.2.2.1.sz;simp only [M.aG.sz,M.aFS.sz];omega
theorem M7:rpI (⟨(⟨(⟨#[]⟩:ByteArray),([]:List M.aFP),0⟩:M.aC),0,(⟨(⟨0,0,([]:List M.bD)⟩:M.aM),0,0⟩:M.aFS)⟩:M.aG):=⟨⟨s16 qe,⟨by simp [maxLen],qd⟩,vZ⟩,qe,vZ,Ou vZ vZ,vZ,vZ⟩
theorem Ys {n:Nat} {s:M.aFG} {d:Int} (h:svI n s) (hn:n<=900) (hd:inI d) : ∃x,wM s d=some x/\rpI x.1:=by have hz:=pA h.2.1;have hc:=h.2.2.2.1;obtain ⟨o,eo,ho,_⟩:=V9 hd;have hr:rpI (⟨s.aC,(List.length s.aFV:Int),(⟨o.1,0,0⟩:M.aFS)⟩:M.aG):=⟨h.1,hz,bgI qg,ho,vZ,vZ⟩;unfold wM;rw [eo,qA,mP _ qb,qA];cases o.2;(exact ⟨_,rfl,M7⟩);rw [if_neg qd,A8 (h.ok qb),qA];cases EZ s;(exact ⟨_,rfl,M7⟩);rw [if_neg qd,AN hr.ok,qA];cases BN (⟨s.aC,(List.length s.aFV:Int),(⟨o.1,0,0⟩:M.aFS)⟩:M.aG);(exact ⟨_,rfl,M7⟩);·exact ⟨_,rfl,hr⟩
theorem MM {r:M.aG} {k:M.Key} {f:ByteArray} {n:Int} (h:rpI r) (hk:MT k) (hf:f.size<=16) (hn:inI n) : ∃x,lI r k f n=some x/\rpI x.1:=by refine ⟨_,IC h.ok (by have:=h.sz;omega) hk.1 (s16 hf) hn,?_⟩;unfold nWL;split;(exact ⟨h.1,h.2.1,h.2.2.1,SR h.2.2.2.1 hk hf hn,h.2.2.2.2.1,h.2.2.2.2.2⟩);·exact h
theorem XD {l:List M.bD} : ∀ {s:M.aC},s.ok->hJ s=true->(∀w∈l,M.bD.ok w)->(C5 s l).ok/\hJ (C5 s l)=true:=by
 induction l with
 | nil=>intro s hs hn _;exact ⟨hs,hn⟩
 | cons w l ih =>
  intro s hs hn hl
  have hz:=pA hn
  exact ih (s:=(L0 s w).1) (JO hs (hl w qd) qb).1 (S3 hn) λy hy=>hl y (by simp [hy])
end Go.Proofs.YtipmihbgjolaaaaGreat.gen
