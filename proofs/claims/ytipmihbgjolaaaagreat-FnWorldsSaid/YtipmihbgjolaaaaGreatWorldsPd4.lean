/-
  Helper text. No conditions.
-/
import Derived.Test.YtipmihbgjolaaaaGreatWorldsPd3
set_option linter.unusedVariables false
set_option linter.unusedSimpArgs false
namespace Go.Proofs.YtipmihbgjolaaaaGreat.gen
open Go Go.Sh
open Go.IntKind (i64)
theorem Nn {b:List Int} (hb:okB b) : ∀(j a:Nat) (acc:List (List Int)),a<=b.length->acc.length<=a->(∀l∈acc,okB l/\l.length<=4000)->(KQ b j (a:Int) acc).1.length<=b.length /\ ∀l∈(KQ b j (a:Int) acc).1,okB l/\l.length<=4000
 | 0,a,acc,ha,hc,h=>⟨by simp only [KQ];omega,h⟩
 | j+1,a,acc,ha,hc,h=>by
  simp only [KQ]
  split
  ·rename_i h1
   obtain ⟨s,a1,e1,r1,r2,r3,r4,r5,r6,r7,r8⟩:=EX hb h1
   obtain rfl:a=a1:=by omega
   rw [r1]
   dsimp only
   split
   ·rename_i h2
    obtain ⟨a2,v,e2,u1,u2,u3,u4,u5,u6⟩:=A7 hb h2
    obtain rfl:e1=a2:=by omega
    have g1:=Nh s.length
    rw [u1]
    dsimp only
    split
    ·exact ⟨qg,h⟩
    ·refine Nn hb j e2 _ u4 qc (λl hl => ?_);rcases List.mem_append.1 hl with hl | hl;(exact h l hl);·rw [List.mem_singleton.1 hl];exact ⟨r8,qb⟩
   ·exact ⟨qg,h⟩
  ·exact ⟨qg,h⟩
theorem PW {b:List Int} (hb:okB b):(Ul b).1.length<=b.length /\ ∀l∈(Ul b).1,okB l/\l.length<=4000:=Nn hb (b.length+1) 0 [] qb qd (λ_ h=>absurd h qd)
theorem IB {α:Type} {f:α->Nat} (q:α->Bool) : ∀(l:List α),gO f (l.filter q)<=gO f l
 | []=>Nat.le_refl _
 | x::l=>by have h:=IB (f:=f) q l;rw [List.filter_cons];split;(simp only [gO];omega);·simp only [gO];omega
def zS (k:M.Key) (g:M.fI):Bool:=Ao k&&((!g.aA8||Ao g.Low)&&((!g.aAv||Ao g.aA3)&&((!g.aA8||decide (cQ g.Low k<=0))&&(!g.aAv||decide (cQ k g.aA3<=0)))))
theorem Gb {k:M.Key} {g:M.fI} (hk:k.ok) (hl:g.Low.ok) (hh:g.aA3.ok):uF k g=some (zS k g):=by unfold uF zS;simp only [jT hk,jT hl,jT hh,rU hl hk,rU hk hh,qA];generalize decide (cQ g.Low k<=0)=a1;generalize decide (cQ k g.aA3<=0)=a2;generalize g.aA8=a3;generalize g.aAv=a4;generalize Ao k=a5;generalize Ao g.Low=a6;generalize Ao g.aA3=a7;cases a1<;>cases a2<;>cases a3<;>cases a4<;>cases a5<;>cases a6<;>cases a7<;>rfl
def Hu (s:M.aA) (g:M.fI):M.aA×Int:=if gE s=true then ((⟨s.Name,s.aAD.filter (λx => !zS x.Key g),s.aAd⟩:M.aA),i64.wrap ((List.length s.aAD:Int)-(List.length (s.aAD.filter (λx => !zS x.Key g)):Int))) else (s,0)
theorem Kv {α:Type} {f:α->Bool} {l:List α} {k:Nat} (h:k<l.length):(l.take (k+1)).filter f=(l.take k).filter f++(if f l[k]=true then [l[k]] else []):=by rw [<-List.take_append_getElem h,List.filter_append];congr 1;rw [List.filter_cons,List.filter_nil]
theorem RB {s:M.aA} (hz:M.aA.sz s<=1048576) {x:M.aAQ} (hx:x∈s.aAD):M.aAQ.sz x<=1048576:=by have:=sM (f:=M.aAQ.sz) hx;simp only [M.aA.sz] at hz;omega
theorem AU {s:M.aA} {g:M.fI} (hs:s.ok) (hl:g.Low.ok) (hh:g.aA3.ok) (hz:M.aA.sz s<=1048576):nI s g=some (Hu s g):=by
 have hn:s.aAD.length<=1048576:=by simp only [M.aA.sz] at hz;omega
 have key : ∀(n k:Nat) (r:List M.aAQ),s.aAD.length-k<n->k<=s.aAD.length->r=(s.aAD.take k).filter (λx => !zS x.Key g)->gG s g n (k:Int) r=some ((⟨s.Name,s.aAD.filter (λx => !zS x.Key g),s.aAd⟩:M.aA),i64.wrap ((List.length s.aAD:Int)-(List.length (s.aAD.filter (λx => !zS x.Key g)):Int))):=by
  intro n
  induction n with
  | zero=>intro k r h;omega
  | succ n ih =>
   intro k r hk hle hr
   simp only [gG]
   rcases Nat.lt_or_ge k s.aAD.length with hlt | hge
   ·have hx:=hs.aAD.2 _ (qG hlt)
    have hrl:r.length<=1048576:=by rw [hr];refine Nat.le_trans (List.length_filter_le _ _) ?_;rw [qT];omega
    rw [if_pos (bB hlt),aM hlt,qA,Gb hx.Key hl hh,qA]
    cases hq:zS s.aAD[k].Key g with
    | true =>
     rw [if_neg qd,bM qb]
     refine ih (k+1) r qb hlt ?_
     rw [Kv hlt,hq,<-hr]
     simp
    | false =>
     rw [if_pos qd,BY _ (Nat.le_trans (RB hz (qG hlt)) qb),qA,fQ qs,qA,bM qb]
     refine ih (k+1) _ qb hlt ?_
     rw [Kv hlt,hq,<-hr]
     simp
   ·have e:k=s.aAD.length:=by omega
    subst e
    rw [if_neg qk,hr,List.take_length]
 unfold nI Hu
 rw [uU hs,qA,mK s qb]
 cases gE s with
 | false=>rfl
 | true =>
  rw [if_neg qd,if_pos rfl]
  exact key fuel 0 [] qi qb qd
theorem MD {s:M.aA} {g:M.fI} (hs:s.ok):(Hu s g).1.ok/\M.aA.sz (Hu s g).1<=M.aA.sz s:=by unfold Hu;split;(refine ⟨⟨hs.Name,⟨Nat.le_trans (List.length_filter_le _ _) hs.aAD.1,λy hy=>hs.aAD.2 y (List.mem_filter.1 hy).1⟩,hs.aAd⟩,?_⟩;have h4:=List.length_filter_le (λx:M.aAQ => !zS x.Key g) s.aAD;have h5:=IB (f:=M.aAQ.sz) (λx:M.aAQ => !zS x.Key g) s.aAD;simp only [M.aA.sz];omega);·exact ⟨hs,Nat.le_refl _⟩
def Lq (s:M.aA) (k:M.Key) (r:M.aC):M.aA×Bool:=if oF (uY k) s.aAD<0 then Aj s k r else (s,false)
theorem Dk {s:M.aA} {k:M.Key} {r:M.aC} (hs:s.ok) (hk:k.ok) (hr:r.ok) (hR:bR r=true) (hz:M.aA.sz s<=1073741824) (hzr:M.aC.sz r<=1073741824):uQ s k r=some (Lq s k r):=by unfold uQ Lq;rw [wA hs,qA,mK s hz,uM hs hk hr hR hz hzr];by_cases h:oF (uY k) s.aAD<0;(rw [if_neg qc,if_pos h];rfl);·rw [if_pos qc,if_neg h];rfl
def Su:M.fI:=(⟨false,false,(⟨0,0,(⟨#[]⟩:ByteArray)⟩:M.Key),(⟨0,0,(⟨#[]⟩:ByteArray)⟩:M.Key)⟩:M.fI)
def U6 (s:M.aA) (o:M.Op):M.aA×Int×Bool:=if (FE (iS s o.Key) o.Field (i64.wrap ((gX (iS s o.Key) o.Field).1+1))).2=true then ((Aj s o.Key (FE (iS s o.Key) o.Field (i64.wrap ((gX (iS s o.Key) o.Field).1+1))).1).1,i64.wrap ((gX (iS s o.Key) o.Field).1+1),(Aj s o.Key (FE (iS s o.Key) o.Field (i64.wrap ((gX (iS s o.Key) o.Field).1+1))).1).2) else (s,0,false)
def nOn (s:M.aA) (o:M.Op):M.aA×Int×Bool:=if o.aAV=1 then ((Aj s o.Key o.aC).1,1,(Aj s o.Key o.aC).2) else if o.aAV=2 then ((Lq s o.Key o.aC).1,1,(Lq s o.Key o.aC).2) else if o.aAV=3 then ((Hu s (⟨true,true,o.Key,o.Key⟩:M.fI)).1,(Hu s (⟨true,true,o.Key,o.Key⟩:M.fI)).2,true) else if o.aAV=4 then (if oF (uY o.Key) s.aAD<0 then (s,-1,true) else (s,(List.length (iS s o.Key).aAF:Int),true)) else if o.aAV=5 then ((Hu s Su).1,(Hu s Su).2,true) else U6 s o
theorem LH:M.Key.ok (⟨0,0,(⟨#[]⟩:ByteArray)⟩:M.Key):=⟨sL,sL,sz0⟩
theorem JR {s:M.aA} {k:M.Key} (h : ¬oF (uY k) s.aAD<0) : ∃x,idx s.aAD (oF (uY k) s.aAD)=some x/\x.aC=iS s k:=by obtain ⟨j,e,hj⟩:=lE h;refine ⟨s.aAD[j],by rw [e,aM hj],?_⟩;unfold iS;rw [if_neg h,e,qH,qF hj]
theorem Mu {s:M.aA} {k:M.Key} (h:oF (uY k) s.aAD<0):iS s k=(⟨([]:List M.Field)⟩:M.aC):=by unfold iS;rw [if_pos h]
theorem BV:bR (⟨([]:List M.Field)⟩:M.aC)=true:=by rfl
theorem PX {s:M.aA} (h:gE s=true) (k:M.Key):bR (iS s k)=true:=by by_cases hf:oF (uY k) s.aAD<0;(rw [Mu hf];exact BV);·obtain ⟨j,e,hj⟩:=lE hf;obtain ⟨x,e1,e2⟩:=JR hf;rw [<-e2];rw [e,aM hj] at e1;obtain rfl:=Option.some.inj e1;exact ((Eo (tQ h).1).1 j _ (qF hj)).2
theorem MI {r:M.aC} (h:bR r=true) (a:ByteArray) (n:Int):bR (FE r a n).1=true:=by
 cases e:(FE r a n).2 with
 | true=>exact CB e
 | false =>
  unfold FE Ji at e ⊢
  rw [if_pos h] at e ⊢
  split
  ·rename_i h2;rw [if_pos h2] at e;cases e
  ·exact h
structure QB (x:M.aA) (y:M.Op):Prop where
 s:x.ok
 o:H4 y
 n:nOp y=true
 t:gE x=true
theorem QB.z {s:M.aA} {o:M.Op} (h:QB s o):M.aA.sz s<=10000:=mV h.t
theorem QB.r {s:M.aA} {o:M.Op} (h:QB s o):M.aC.sz o.aC<=100:=Dg (Bq h.n).2.2.2.2
theorem Ku {s:M.aA} {o:M.Op} (h:QB s o):(iS s o.Key).ok/\M.aC.sz (iS s o.Key)<=100/\(FE (iS s o.Key) o.Field (i64.wrap ((gX (iS s o.Key) o.Field).1+1))).1.ok/\bR (FE (iS s o.Key) o.Field (i64.wrap ((gX (iS s o.Key) o.Field).1+1))).1=true:=by have h1:=PX h.t o.Key;have h2:=DV (k:=o.Key) h.s;have h3:=(tU h1).1;exact ⟨h2,Dg h1,Jl h2 qb h.o.2.2.2.2 (bH _),MI h1 _ _⟩
theorem K6 {s:M.aA} {o:M.Op} (h:QB s o) : ∃x,zY s o.Key o.Field=some x/\x.2.2=(U6 s o).2.2/\(x.2.2=true->x=U6 s o):=by have hz:=h.z;obtain ⟨i1,i2,i3,i4⟩:=Ku h;have i5:=Dg i4;unfold zY U6;rw [wA h.s,qA];by_cases hf:oF (uY o.Key) s.aAD<0;(rw [Mu hf] at i1 i2 i3 i4 i5 ⊢;rw [if_neg qc,oY i1,qA,yE i1 qb h.o.2.2.2.2 (bH _),qA,uM h.s h.o.2.2.1 i3 i4 qb qb,qA];cases (FE (⟨([]:List M.Field)⟩:M.aC) o.Field (i64.wrap ((gX (⟨([]:List M.Field)⟩:M.aC) o.Field).1+1))).2;(exact ⟨_,rfl,rfl,λe=>by cases e⟩);·exact ⟨_,rfl,rfl,λ_=>rfl⟩);·obtain ⟨x,e1,e2⟩:=JR hf;rw [if_pos qc,e1,qA,e2,oY i1,qA,yE i1 qb h.o.2.2.2.2 (bH _),qA,uM h.s h.o.2.2.1 i3 i4 qb qb,qA];cases (FE (iS s o.Key) o.Field (i64.wrap ((gX (iS s o.Key) o.Field).1+1))).2;(exact ⟨_,rfl,rfl,λe=>by cases e⟩);·exact ⟨_,rfl,rfl,λ_=>rfl⟩
theorem H9 {s:M.aA} {o:M.Op} (h:QB s o) : ∃x,xA s o=some x/\x.2.2=(nOn s o).2.2/\(x.2.2=true->x=nOn s o):=by
 have hz:=h.z
 have hr:=h.r
 have same : ∀ {m:Option (M.aA×Int×Bool)} {y:M.aA×Int×Bool},m=some y -> ∃x,m=some x/\x.2.2=y.2.2/\(x.2.2=true->x=y):=λe=>⟨_,e,rfl,λ_=>rfl⟩
 unfold xA nOn
 rw [wA h.s,qA,mK s qb,uM h.s h.o.2.2.1 h.o.2.2.2.1 (Bq h.n).2.2.2.2 qb qb,Dk h.s h.o.2.2.1 h.o.2.2.2.1 (Bq h.n).2.2.2.2 qb qb,AU h.s h.o.2.2.1 h.o.2.2.1 qb,AU (g:=(⟨false,false,(⟨0,0,(⟨#[]⟩:ByteArray)⟩:M.Key),(⟨0,0,(⟨#[]⟩:ByteArray)⟩:M.Key)⟩:M.fI)) h.s LH LH qb]
 by_cases k1:o.aAV=1
 ·rw [if_pos (by simpa using k1),if_pos k1];exact same rfl
 rw [if_neg (by simpa using k1),if_neg k1]
 by_cases k2:o.aAV=2
 ·rw [if_pos (by simpa using k2),if_pos k2];exact same rfl
 rw [if_neg (by simpa using k2),if_neg k2]
 by_cases k3:o.aAV=3
 ·rw [if_pos (by simpa using k3),if_pos k3];exact same rfl
 rw [if_neg (by simpa using k3),if_neg k3]
 by_cases k4:o.aAV=4
 ·rw [if_pos (by simpa using k4),if_pos k4];by_cases hf:oF (uY o.Key) s.aAD<0;(rw [if_pos (by simpa using hf),if_pos hf];exact same rfl);·obtain ⟨x,e1,e2⟩:=JR hf;rw [if_neg (by simpa using hf),if_neg hf,qA,e1,qA,e2];exact same rfl
 rw [if_neg (by simpa using k4),if_neg k4]
 by_cases k5:o.aAV=5
 ·rw [if_pos (by simpa using k5),if_pos k5];exact same rfl
 ·rw [if_neg (by simpa using k5),if_neg k5];obtain ⟨x,e1,e2,e3⟩:=K6 h;rw [e1,qA];exact ⟨_,rfl,e2,e3⟩
theorem HQ {s:M.aA} {k:M.Key} {r:M.aC} (hs:s.ok) (ht:gE s=true) (hk:k.ok) (hr:r.ok) (hR:bR r=true):(Aj s k r).1.ok/\M.aA.sz (Aj s k r).1<=10000:=by
 have hz:=mV ht
 refine ⟨Js hs (by simp only [M.aA.sz] at hz;omega) hk hr,?_⟩
 cases e:(Aj s k r).2 with
 | true=>exact mV (Bc hR e)
 | false=>rw [FG e];exact hz
theorem Qm {s:M.aA} {o:M.Op} (h:QB s o):(nOn s o).1.ok/\M.aA.sz (nOn s o).1<=10000:=by
 have hz:=h.z
 have hR:=(Bq h.n).2.2.2.2
 obtain ⟨i1,i2,i3,i4⟩:=Ku h
 have hd : ∀g,(Hu s g).1.ok/\M.aA.sz (Hu s g).1<=10000:=λg=>⟨(MD h.s).1,Nat.le_trans (MD h.s).2 hz⟩
 unfold nOn U6 Lq
 split
 ·exact HQ h.s h.t h.o.2.2.1 h.o.2.2.2.1 hR
 split
 ·split;(exact HQ h.s h.t h.o.2.2.1 h.o.2.2.2.1 hR);·exact ⟨h.s,hz⟩
 split
 ·exact hd _
 split
 ·split<;>exact ⟨h.s,hz⟩
 split
 ·exact hd _
 split
 ·exact HQ h.s h.t h.o.2.2.1 i3 i4
 ·exact ⟨h.s,hz⟩
theorem GO {d:M.aAA} (h:nDb d=true):(∀(k:Nat) (hk:k<d.aAH.length),gE d.aAH[k]=true)/\d.Name.size<=8/\d.aAH.length<=4/\d.aAS.length<=4 /\ ∀u∈d.aAS,u.Field.size<=8:=by unfold nDb at h;simp only [qM,qL,qQ,qR] at h;obtain ⟨h1,h2,h3,_,h5,h6⟩:=h;refine ⟨λk hk => ?_,?_,h5,h6,λu hu => ?_⟩;(have:=h1 k hk;unfold BX at this;rw [qF hk,qM,Option.any_some] at this;exact this.1);(unfold kI inR at h3;simp only [qM,qL] at h3;omega);·obtain ⟨k,hk,rfl⟩:=List.getElem_of_mem hu;have:=h2 k hk;unfold Ck kI inR at this;rw [qF hk] at this;simp only [Option.any_some,qM,qL] at this;omega
def Lv (d:M.aAA) (j:Nat) (s:M.aA):M.aAA:=(⟨d.Name,d.aAB,d.aAH.set j s,d.aAS⟩:M.aAA)
def MC (d:M.aAA) (o:M.Op) (j:Nat) (s:M.aA):M.aAA×Int×Bool:=if (nOn s o).2.2=true then (if nDb (Lv d j (nOn s o).1)=true then (Lv d j (nOn s o).1,(nOn s o).2.1,true) else (d,0,false)) else (d,0,false)
def Og (d:M.aAA) (o:M.Op):M.aAA×Int×Bool:=if (nDb d&&nOp o)=true then (match d.aAH[(oF (Af o.aA) d.aAH).toNat]? with
 | some s=>if oF (Af o.aA) d.aAH<0 then (d,0,false) else MC d o (oF (Af o.aA) d.aAH).toNat s
 | none=>(d,0,false)) else (d,0,false)
theorem MN {d:M.aAA} {s:M.aA} {j:Nat} (hd:d.ok) (hs:s.ok):(Lv d j s).ok:=⟨hd.Name,hd.aAB,⟨by show (d.aAH.set j s).length<=_;rw [qN];exact hd.aAH.1,λy hy=>by rcases List.mem_or_eq_of_mem_set hy with h | rfl;(exact hd.aAH.2 y h);·exact hs⟩,hd.aAS⟩
theorem Sa {d:M.aAA} {s:M.aA} {j:Nat} (hz:M.aAA.sz d<=1000000) (hs:M.aA.sz s<=10000):M.aAA.sz (Lv d j s)<=1048576:=by have:=HV (f:=M.aA.sz) (x:=s) (l:=d.aAH) (i:=j);simp only [Lv,M.aAA.sz,qN] at hz ⊢;omega
theorem Kx {d:M.aAA} {o:M.Op} (hd:d.ok) (ho:H4 o) (hz:M.aAA.sz d<=1000000):xR d o=some (Og d o):=by
 unfold xR Og
 rw [wL d qb,qA,Ai hd,qA,oP hd qb,qA,GV ho,qA]
 cases hD:nDb d with
 | false=>rfl
 | true =>
  cases hO:nOp o with
  | false=>rfl
  | true =>
   rw [if_neg qd,if_neg qd,if_pos (show (true&&true)=true from rfl)]
   by_cases hf:oF (Af o.aA) d.aAH<0
   ·rw [if_pos (by simpa using hf)];split;(rw [if_pos hf]);·rfl
   ·obtain ⟨j,e,hj⟩:=lE hf
    have ht:=(GO hD).1 j hj
    have hs:=hd.aAH.2 _ (qG hj)
    have hon:QB d.aAH[j] o:=⟨hs,ho,hO,ht⟩
    obtain ⟨v1,v2⟩:=Qm hon
    rw [if_neg (by simpa using hf),e,qH,qF hj]
    simp only [show ¬((j:Nat):Int)<0 from by omega,if_false]
    rw [aM hj,qA]
    unfold MC
    obtain ⟨x,e1,e2,e3⟩:=H9 hon
    rw [e1,qA,qA,<-e2]
    cases hx:x.2.2 with
    | false=>rfl
    | true =>
     obtain rfl:=e3 hx
     rw [if_neg qd,if_pos rfl]
     have:=oP (MN (j:=j) hd v1) (Sa hz v2)
     unfold Lv at this ⊢
     rw [this,qA]
     cases nDb (⟨d.Name,d.aAB,d.aAH.set j (nOn d.aAH[j] o).1,d.aAS⟩:M.aAA)<;>rfl
theorem M4 {d:M.aAA} {o:M.Op} (hd:d.ok) (ho:H4 o) (hz:M.aAA.sz d<=1000000):(Og d o).1.ok/\M.aAA.sz (Og d o).1<=M.aAA.sz d+10000:=by unfold Og;split;(rename_i h;rw [qM] at h;by_cases hf:oF (Af o.aA) d.aAH<0;(split;(rw [if_pos hf];exact ⟨hd,qg⟩);·exact ⟨hd,qg⟩);·obtain ⟨j,e,hj⟩:=lE hf;have hon:QB d.aAH[j] o:=⟨hd.aAH.2 _ (qG hj),ho,h.2,(GO h.1).1 j hj⟩;obtain ⟨v1,v2⟩:=Qm hon;rw [e,qH,qF hj];simp only [show ¬((j:Nat):Int)<0 from by omega,if_false];unfold MC;split;(split;(refine ⟨MN hd v1,?_⟩;have:=HV (f:=M.aA.sz) (x:=(nOn d.aAH[j] o).1) (l:=d.aAH) (i:=j);simp only [Lv,M.aAA.sz,qN];omega);·exact ⟨hd,qg⟩);·exact ⟨hd,qg⟩);·exact ⟨hd,qg⟩
theorem S9 {d:M.aAA} (h:nDb d=true) (hu : ∀u∈d.aAS,u.aA.size<=8):M.aAA.sz d<=100000:=by obtain ⟨h1,h2,h3,h4,h5⟩:=GO h;have a1:=fR (w:=M.aA.sz) (b:=10000) (xs:=d.aAH) (λx hx=>by obtain ⟨k,hk,rfl⟩:=List.getElem_of_mem hx;exact mV (h1 k hk));have a2:=fR (w:=M.aN.sz) (b:=16) (xs:=d.aAS) (λx hx=>by have b1:=h5 x hx;have b2:=hu x hx;simp only [M.aN.sz];omega);simp only [M.aAA.sz];omega
theorem Nr {l:List M.aA} {a:ByteArray} (h:0<=oF (Af a) l) : ∃x∈l,x.Name.toList=a.toList:=by obtain ⟨k,e,hk⟩:=lE (show ¬oF (Af a) l<0 by omega);obtain ⟨_,hf⟩:=Bx e;exact ⟨_,qG hk,by unfold Af at hf;exact eq_of_beq hf⟩
theorem LW {d:M.aAA} (h:nDb d=true) : ∀u∈d.aAS,u.aA.size<=8:=by intro u hu;obtain ⟨h1,_⟩:=GO h;unfold nDb at h;simp only [qM,qL,qQ,qR] at h;obtain ⟨k,hk,rfl⟩:=List.getElem_of_mem hu;have:=h.2.1 k hk;unfold Ck at this;rw [qF hk] at this;simp only [Option.any_some,qM,qL] at this;obtain ⟨x,hx,e⟩:=Nr this.1;obtain ⟨j,hj,rfl⟩:=List.getElem_of_mem hx;have hn:=(tQ (h1 j hj)).2.1;unfold kI inR at hn;simp only [qM,qL] at hn;have:=bsize e;omega
def KH (d0:M.aAA):M.aAA->List Int->List M.Op->M.aAA×List Int×Bool
 | x,ns,[]=>(x,ns,true)
 | x,ns,o::l=>if (Og x o).2.2=true then KH d0 (Og x o).1 (ns++[(Og x o).2.1]) l else (d0,([]:List Int),false)
def BP (d:M.aAA) (l:List M.Op):M.aAA×List Int×Bool:=if nDb d=true then (if l.length>6 then (d,([]:List Int),false) else KH d d [] l) else (d,([]:List Int),false)
theorem OH {d0:M.aAA} {l:List M.Op} (h6:l.length<=6) (ho : ∀o∈l,H4 o) (hz0:M.aAA.sz d0<=1000000) : ∀(n k:Nat) (x:M.aAA) (ns:List Int),l.length-k<n->k<=l.length->x.ok->M.aAA.sz x<=900000+10000*k->ns.length=k->pS d0 l n (k:Int) x.Name x.aAB ns x.aAH x.aAS=some (KH d0 x ns (l.drop k))
 | 0,_,_,_,h,_,_,_,_=>by omega
 | n+1,k,x,ns,hn,hk,hx,hz,hs=>by
  simp only [pS]
  rcases Nat.lt_or_ge k l.length with hlt | hge
  ·rw [if_pos (bB hlt),aM hlt,qA]
   show ((xR x l[k]).bind _)=_
   have hok:=ho _ (qG hlt)
   obtain ⟨v1,v2⟩:=M4 hx hok qb
   rw [Kx hx hok qb,qA,qV hlt]
   simp only [KH]
   cases (Og x l[k]).2.2 with
   | false =>
    rw [if_pos qd,if_neg qd,wL d0 qb,qA]
   | true =>
    rw [if_neg qd,if_pos rfl,fQ qc,qA,bM qb]
    exact OH h6 ho hz0 n (k+1) _ _ qb hlt v1 (Nat.le_trans v2 qb) (by simp [hs])
  ·have e:k=l.length:=by omega
   subst e
   rw [if_neg qk,qY]
   rfl
theorem El {d:M.aAA} {l:List M.Op} (hd:d.ok) (hl:l.length<=1000) (ho : ∀o∈l,H4 o) (hz:M.aAA.sz d<=1048576):tW d l=some (BP d l):=by
 unfold tW BP
 rw [wL d qb,qA,oP hd qb,qA]
 cases hD:nDb d with
 | false=>rfl
 | true =>
  have hs:=S9 hD (LW hD)
  rw [if_neg qd,if_pos rfl]
  by_cases h6:l.length>6
  ·rw [if_pos qc,if_pos h6]
  ·rw [if_neg qc,if_neg h6];exact OH qb ho qb fuel 0 d [] qi qb hd qb rfl
theorem S2 {d:M.aAA} {o:M.Op} (h:(Og d o).2.2=true):nDb (Og d o).1=true:=by unfold Og at h ⊢;split at h;(rename_i h1;rw [if_pos h1];split at h;(rename_i s hs;split at h;(cases h);·rename_i h2;rw [if_neg h2];unfold MC at h ⊢;split at h;(rename_i h3;rw [if_pos h3];split at h;(rename_i h4;rw [if_pos h4];exact h4);·cases h);·cases h);·cases h);·cases h
theorem KU {d0:M.aAA} (h0:d0.ok) : ∀ {l:List M.Op} {x:M.aAA} {ns:List Int},(∀o∈l,H4 o)->x.ok->nDb x=true->(KH d0 x ns l).1=d0\/((KH d0 x ns l).1.ok/\nDb (KH d0 x ns l).1=true)
 | [],x,ns,_,hx,hb=>.inr ⟨hx,hb⟩
 | o::l,x,ns,ho,hx,hb=>by have hz:=S9 hb (LW hb);simp only [KH];split;(rename_i h;exact KU h0 (λy hy=>ho y (by simp [hy])) (M4 hx (ho o qd) qb).1 (S2 h));·exact .inl rfl
theorem H2 {d:M.aAA} {l:List M.Op} (hd:d.ok) (ho : ∀o∈l,H4 o):(BP d l).1=d\/((BP d l).1.ok/\M.aAA.sz (BP d l).1<=100000):=by unfold BP;split;(rename_i h;split;(exact .inl rfl);·rcases KU hd ho hd h (ns:=[]) with e | ⟨h1,h2⟩;(exact .inl e);·exact .inr ⟨h1,S9 h2 (LW h2)⟩);·exact .inl rfl
def HH:M.aAA->Nat->List (List Int)->M.aAA×Int
 | d,i,[]=>(d,(i:Int))
 | d,i,e::l=>if (Cu e).2=true then HH (BP d (Cu e).1).1 (i+1) l else (d,(i:Int))
def J3 (d:M.cR):M.aAA×Int:=HH d.aAU 0 (Ul d.Log).1
theorem Mf {x3:List (List Int)×Int} (hl:x3.1.length<=1048576) (ho : ∀l∈x3.1,okB l/\l.length<=4000) : ∀(n k:Nat) (d:M.aAA),x3.1.length-k<n->k<=x3.1.length->d.ok->M.aAA.sz d<=1048576->nE x3 n (k:Int) d.Name d.aAB d.aAH d.aAS=some (HH d k (x3.1.drop k))
 | 0,_,_,h,_,_,_=>by omega
 | n+1,k,d,hn,hk,hd,hz=>by
  simp only [nE]
  rcases Nat.lt_or_ge k x3.1.length with hlt | hge
  ·obtain ⟨b1,b2⟩:=ho _ (qG hlt)
   obtain ⟨o1,o2⟩:=I5 b1 qb
   rw [if_pos (bB hlt),aM hlt,qA,GF b1 qb,qA,qV hlt]
   simp only [HH]
   cases (Cu x3.1[k]).2 with
   | false=>rfl
   | true =>
    rw [if_neg qd,if_pos rfl]
    show ((tW d (Cu x3.1[k]).1).bind _)=_
    rw [El hd qb (λo h=>(o2 o h).1) hz,qA,bM qb]
    rcases H2 hd (λo h=>(o2 o h).1) with e | ⟨v1,v2⟩
    ·rw [e];exact Mf hl ho n (k+1) d qb hlt hd hz
    ·exact Mf hl ho n (k+1) _ qb hlt v1 qb
  ·have e:k=x3.1.length:=by omega
   subst e
   rw [if_neg qk,qY]
   rfl
theorem HW {d:M.cR} (hd:d.ok) (hz:M.cR.sz d<=1048576):vN d=some (J3 d):=by
 have hz1:M.aAA.sz d.aAU<=1048576:=by simp only [M.cR.sz] at hz;omega
 have hz2:d.Log.length<=1048576:=by simp only [M.cR.sz] at hz;omega
 obtain ⟨g1,g2⟩:=PW hd.Log
 unfold vN J3
 rw [wL d.aAU qb,qA,Ia hd.Log qb,qA]
 exact Mf (x3:=Ul d.Log) qb g2 fuel 0 d.aAU qi qb hd.aAU hz1
theorem E5 : ∀ {l:List (List Int)} {d:M.aAA} {i:Nat},(∀e∈l,okB e/\e.length<=4000)->d.ok->M.aAA.sz d<=1048576->(HH d i l).1.ok/\M.aAA.sz (HH d i l).1<=1048576
 | [],d,i,_,hd,hz=>⟨hd,hz⟩
 | e::l,d,i,ho,hd,hz=>by obtain ⟨b1,b2⟩:=ho e qd;obtain ⟨o1,o2⟩:=I5 b1 qb;simp only [HH];split;(rcases H2 hd (λo h=>(o2 o h).1) with e' | ⟨v1,v2⟩;(rw [e'];exact E5 (λx hx=>ho x (by simp [hx])) hd hz);·exact E5 (λx hx=>ho x (by simp [hx])) v1 qb);·exact ⟨hd,hz⟩
theorem OI {d:M.cR} (hd:d.ok) (hz:M.cR.sz d<=1048576):(J3 d).1.ok/\M.aAA.sz (J3 d).1<=1048576:=E5 (PW hd.Log).2 hd.aAU (by simp only [M.cR.sz] at hz;omega)
def QC (l:List Int) (i:Int) (b:List Int):List Int:=l++(Ih b++uv (SJ i b).toNat)
def Rp (l:List Int) (i:Int) (b:List Int):List Int×Bool:=if i<0 then (l,false) else if (QC l i b).length>4000 then (l,false) else (QC l i b,true)
theorem Tr {l b:List Int} {i:Int}:QC l i b=(l++Ih b)++uv (SJ i b).toNat:=by unfold QC;rw [qS]
theorem Tg (i:Int) (b:List Int):0<=SJ i b/\SJ i b<2147483647:=Tl _
theorem B4 {l b:List Int} {i:Int} (hl:l.length<=1048576) (hb:b.length<=100000):pV l i b=some (Rp l i b):=by have hs:=Tg i b;have hu:=ET (n:=b.length) qb;have e0:=kT (r:=l++Ih b) (n:=(SJ i b).toNat) (by unfold Ih;simp only [qE];omega) qb;rw [Int.toNat_of_nonneg hs.1,<-Tr] at e0;unfold pV Rp;rw [IY qb qb,qA,nF qb qb,qA,CI qb,qA];show ((bK (l++Ih b) (SJ i b)).bind _)=_;rw [e0,qA];by_cases hi:i<0;(rw [if_pos (by simpa using hi),if_pos hi]);·rw [if_neg (by simpa using hi),if_neg hi];by_cases h4:(QC l i b).length>4000;(rw [if_pos qc,if_pos h4]);·rw [if_neg qc,if_neg h4]
def Vw (d:M.cR) (l:List M.Op):Bool:=(BP (J3 d).1 l).2.2&&((List.length (Cs l):Int) != 0&&(((J3 d).2==d.aAn)&&(Rp d.Log d.aAn (Cs l)).2))
def Fw (d:M.cR) (l:List M.Op):M.cR×Bool:=if Vw d l=true then ((⟨d.aAU,(Rp d.Log d.aAn (Cs l)).1,i64.wrap (d.aAn+1)⟩:M.cR),true) else (d,false)
theorem PV (l:List M.Op):(Cs l).length<=2000:=by unfold Cs;split;(rename_i h;rw [qM,qL,qQ] at h;have h1:=JN (f:=enO) (λo hx=>L4 (h.1 o hx));have h9:=ET (n:=l.length) qb;rw [qE];omega);·simp
theorem Fq {d:M.cR} {l:List M.Op} (hd:d.ok) (hz:M.cR.sz d<=1048576) (hl:l.length<=1000) (ho : ∀o∈l,H4 o):lL d l=some (Fw d l):=by
 have hz2:d.Log.length<=1048576:=by simp only [M.cR.sz] at hz;omega
 have he:=PV l
 obtain ⟨v1,v2⟩:=OI hd hz
 unfold lL Fw Vw
 rw [De d qb,qA,HW hd hz,qA,El v1 hl ho v2,qA,B7 hl ho,qA,B4 hz2 qb,qA]
 unfold bne
 generalize (BP (J3 d).1 l).2.2=a1
 generalize ((List.length (Cs l):Int)==0)=a2
 generalize ((J3 d).2==d.aAn)=a3
 cases a1<;>cases a2<;>cases a3<;>cases (Rp d.Log d.aAn (Cs l)).2<;>rfl
theorem IC {d:M.cR} {l:List M.Op} (hd:d.ok):(Fw d l).1.ok/\M.cR.sz (Fw d l).1<=M.cR.sz d+4000/\(Fw d l).1.aAU=d.aAU:=by unfold Fw;split;(rename_i h;unfold Vw at h;simp only [qM] at h;have h4:=h.2.2.2;unfold Rp at h4 ⊢;split at h4;(cases h4);·rename_i hi;rw [if_neg hi];split at h4;(cases h4);·rename_i hl;rw [if_neg hl];refine ⟨⟨hd.aAU,⟨Nat.le_trans (by omega:(QC d.Log d.aAn (Cs l)).length<=4000) qj,λy hy => ?_⟩,bH _⟩,?_,rfl⟩;(have hy':y∈QC d.Log d.aAn (Cs l):=hy;unfold QC at hy';simp only [qP] at hy';rcases hy' with h | h | h;(exact hd.Log.2 y h);(exact BG (M7 l).2 y h);·exact Dp _ y h);·simp only [M.cR.sz];omega);·exact ⟨hd,qg,rfl⟩
theorem Gw {s:M.aF} {v:Int} (hs:s.ok):uL s v=some (oF (λc:M.aAL=>c.aAB==v) s.aAE):=by have hm:=le_max hs.aAE.1;unfold uL;rw [findAll (L:=iY s v) (f:=λc:M.aAL=>c.aAB==v) (A:=λi=>some (i:Int)) (E:=some (-1)) hs.aAE.1 (λm k hk => ?_) (λm => ?_),tK];(simp only [iY];rw [if_pos (bB hk),aM hk,qA,bM qb]);·simp only [iY];rw [if_neg qk]
def FU (a b:ByteArray) (x:M.aAR):Bool:=(x.aAO.toList==a.toList)&&(x.aAs.toList==b.toList)
theorem Ix {c:M.aAL} {a b:ByteArray} (hc:c.ok):wU c a b=some (oF (FU a b) c.aAN):=by have hm:=le_max hc.aAN.1;unfold wU;rw [findAll (L:=jR c a b) (f:=FU a b) (A:=λi=>some (i:Int)) (E:=some (-1)) hc.aAN.1 (λm k hk => ?_) (λm => ?_),tK];(simp only [jR];rw [if_pos (bB hk),aM hk,qA,bM qb,RD];rfl);·simp only [jR];rw [if_neg qk]
def GG (s:M.aF) (v:Int):Nat:=(s.aAE.takeWhile λc=>decide (c.aAB<v)).length
def AO (s:M.aF) (v:Int) (k:Nat):List M.aAL:=s.aAE.take k++((⟨v,([]:List M.aAR)⟩:M.aAL)::s.aAE.drop k)
def Dh (s:M.aF) (v:Int):M.aF×Bool:=if (iO s&&iO (⟨AO s v (GG s v)⟩:M.aF))=true then ((⟨AO s v (GG s v)⟩:M.aF),true) else (s,false)
theorem J9 {s:M.aF} {v:Int} (hs:s.ok) (hv:inI v) (hl:s.aAE.length<=1073741824) (k:Nat):M.aF.ok (⟨AO s v k⟩:M.aF):=by refine ⟨⟨?_,λx hx => ?_⟩⟩;(show (AO s v k).length<=maxLen;unfold AO maxLen;simp only [qE,qJ,qT,qU];omega);·have hx:x∈AO s v k:=hx;unfold AO at hx;rcases List.mem_append.1 hx with hx | hx;(exact hs.aAE.2 x (List.mem_of_mem_take hx));·rcases List.mem_cons.1 hx with rfl | hx;(exact ⟨hv,⟨by simp [maxLen],qd⟩⟩);·exact hs.aAE.2 x (List.mem_of_mem_drop hx)
def IS (s:M.aF) (v:Int) (k:Nat):Option (M.aF×Bool):=(bY s).bind λa=>if (!a)=true then ((cX s).bind λy=>some (y,false)) else ((bY (⟨AO s v k⟩:M.aF)).bind λb=>if (!b)=true then ((cX s).bind λy=>some (y,false)) else some ((⟨AO s v k⟩:M.aF),true))
theorem GB {s:M.aF} {v:Int} (hs:s.ok) (hv:inI v) (hz:M.aF.sz s<=1073741824):lC s v=some (Dh s v):=by
 have hl:s.aAE.length<=1073741824:=by simp only [M.aF.sz] at hz;omega
 have hm:=le_max hs.aAE.1
 unfold lC
 rw [zW s hz,qA,JP (l:=s.aAE) (f:=λc:M.aAL=>decide (c.aAB<v)) (L:=jG s v s) (S:=IS s v) hs.aAE.1 (λn k hk => ?_) (λn => ?_)]
 ·unfold IS Dh;rw [mC hs,qA,mC (J9 hs hv hl _),qA,zW s hz,qA];show _=some (if (iO s&&iO (⟨AO s v (GG s v)⟩:M.aF))=true then _ else _);unfold GG;generalize iO (⟨AO s v (List.takeWhile (λc:M.aAL=>decide (c.aAB<v)) s.aAE).length⟩:M.aF)=b;cases iO s<;>cases b<;>rfl
 ·simp only [jG];rw [if_pos (bB hk),aM hk,qA,bM qb];by_cases h:s.aAE[k].aAB<v;(rw [if_pos (by simpa using h),if_pos (by simpa using h)]);·rw [if_neg (by simpa using h),if_neg (by simpa using h)];rw [AJ qb,qA,qH,fQ qt,qA,fQ qq,qA,fQ qm,qA,qS];rfl
 ·simp only [jG];rw [if_neg qk];rw [AJ (Nat.le_refl _),qA,qH,fQ qt,qA,fQ qq,qA,fQ qm,qA,qS];rfl
theorem PI {s:M.aF} {v:Int} (hs:s.ok) (hv:inI v) (hz:M.aF.sz s<=1073741824):M.aF.ok (Dh s v).1:=by
 have hl:s.aAE.length<=1073741824:=by simp only [M.aF.sz] at hz;omega
 unfold Dh
 split
 ·exact J9 hs hv hl _
 ·exact hs
theorem NM {s:M.aF} {v:Int} (h:(Dh s v).2=true):iO (Dh s v).1=true:=by unfold Dh at h ⊢;split at h;(rename_i h1;rw [if_pos h1];exact (Bool.and_eq_true_iff.1 h1).2);·cases h
def FX (c:M.aAL) (a p:ByteArray) (x:M.aAM):M.aAL:=(⟨c.aAB,if oF (FU a p) c.aAN>=0 then c.aAN.set (oF (FU a p) c.aAN).toNat (⟨a,p,x⟩:M.aAR) else c.aAN++[(⟨a,p,x⟩:M.aAR)]⟩:M.aAL)
def IQ (s:M.aF) (v:Int) (a p:ByteArray) (x:M.aAM):List M.aAL:=match s.aAE[(oF (λc:M.aAL=>c.aAB==v) s.aAE).toNat]? with
 | some c=>s.aAE.set (oF (λc:M.aAL=>c.aAB==v) s.aAE).toNat (FX c a p x)
 | none=>s.aAE
def Ic (s:M.aF) (v:Int) (a p:ByteArray) (x:M.aAM):M.aF×Bool:=if oF (λc:M.aAL=>c.aAB==v) s.aAE<0 then (s,false) else (if (iO s&&iO (⟨IQ s v a p x⟩:M.aF))=true then ((⟨IQ s v a p x⟩:M.aF),true) else (s,false))
theorem Oq {c:M.aAL} {a p:ByteArray} {x:M.aAM} (hc:c.ok) (hl:c.aAN.length<=1073741824) (ha:a.size<=maxLen) (hp:p.size<=maxLen) (hx:x.ok):M.aAL.ok (FX c a p x):=by unfold FX;refine ⟨hc.aAB,?_⟩;dsimp only;split;(refine ⟨by rw [qN];exact hc.aAN.1,λy hy => ?_⟩;rcases List.mem_or_eq_of_mem_set hy with hy | rfl;(exact hc.aAN.2 y hy);·exact ⟨ha,hp,hx⟩);·refine ⟨by simp only [qE,qJ,qK];unfold maxLen;omega,λy hy => ?_⟩;rcases List.mem_append.1 hy with hy | hy;(exact hc.aAN.2 y hy);·rw [List.mem_singleton.1 hy];exact ⟨ha,hp,hx⟩
theorem Kl {s:M.aF} {v:Int} {a p:ByteArray} {x:M.aAM} (hs:s.ok) (hz:M.aF.sz s<=1073741824) (ha:a.size<=maxLen) (hp:p.size<=maxLen) (hx:x.ok):M.aF.ok (⟨IQ s v a p x⟩:M.aF):=by unfold IQ;split;(rename_i c hc;refine ⟨⟨by show List.length (List.set _ _ _)<=_;rw [qN];exact hs.aAE.1,λy hy => ?_⟩⟩;have hcm:=List.mem_of_getElem? hc;have z:=sM (f:=M.aAL.sz) hcm;rcases List.mem_or_eq_of_mem_set hy with hy | rfl;(exact hs.aAE.2 y hy);·exact Oq (hs.aAE.2 c hcm) (by simp only [M.aF.sz] at hz;simp only [M.aAL.sz] at z;omega) ha hp hx);·exact hs
theorem PO {s:M.aF} {v:Int} {a p:ByteArray} {x:M.aAM} {j:Nat} (ej:oF (λc:M.aAL=>c.aAB==v) s.aAE=(j:Int)) (hj:j<s.aAE.length):IQ s v a p x=s.aAE.set j (FX s.aAE[j] a p x):=by unfold IQ;rw [ej,qH,qF hj]
theorem O5 {c:M.aAL} {a p:ByteArray} {x:M.aAM} {i:Nat} (ei:oF (FU a p) c.aAN=(i:Int)):FX c a p x=(⟨c.aAB,c.aAN.set i (⟨a,p,x⟩:M.aAR)⟩:M.aAL):=by unfold FX;rw [ei,if_pos qb,qH]
theorem Oe {c:M.aAL} {a p:ByteArray} {x:M.aAM} (h : ¬oF (FU a p) c.aAN>=0):FX c a p x=(⟨c.aAB,c.aAN++[(⟨a,p,x⟩:M.aAR)]⟩:M.aAL):=by unfold FX;rw [if_neg h]
theorem C5 {s:M.aF} {v:Int} {a p:ByteArray} {x:M.aAM} (hs:s.ok) (hz:M.aF.sz s<=1073741824) (ha:a.size<=maxLen) (hp:p.size<=maxLen) (hx:x.ok) (zx:M.aAM.sz x<=1073741824):kU s v a p x=some (Ic s v a p x):=by
 have hout:=Kl (v:=v) (a:=a) (p:=p) (x:=x) hs hz ha hp hx
 unfold kU Ic
 rw [zW s hz,qA,Gw hs,qA]
 by_cases h:oF (λc:M.aAL=>c.aAB==v) s.aAE<0
 ·rw [if_pos (by simpa using h),if_pos h]
 ·rw [if_neg (by simpa using h),if_neg h]
  obtain ⟨j,ej,hj⟩:=lE h
  rw [PO ej hj] at hout ⊢
  have hc:=hs.aAE.2 _ (qG hj)
  have z1:=sM (f:=M.aAL.sz) (qG hj)
  have hl:s.aAE[j].aAN.length<=1073741824:=by simp only [M.aF.sz] at hz;simp only [M.aAL.sz] at z1;omega
  rw [Dn x zx,qA,ej,aM hj,qA,Ix hc,qA,qH]
  by_cases h2:oF (FU a p) s.aAE[j].aAN>=0
  ·obtain ⟨i,ei,hi⟩:=lE (f:=FU a p) (xs:=s.aAE[j].aAN) qb;rw [O5 ei] at hout ⊢;rw [if_pos (by simpa using h2),ei,aM hi,qA,qH,mC hs,qA,mC hout,qA];generalize iO (⟨s.aAE.set j _⟩:M.aF)=b;cases iO s<;>cases b<;>rfl
  ·rw [Oe h2] at hout ⊢;rw [if_neg (by simpa using h2),fQ qs,qA,mC hs,qA,mC hout,qA];generalize iO (⟨s.aAE.set j _⟩:M.aF)=b;cases iO s<;>cases b<;>rfl
theorem Ox {s:M.aF} {v:Int} {a p:ByteArray} {x:M.aAM} (h:(Ic s v a p x).2=true):iO (Ic s v a p x).1=true:=by unfold Ic at h ⊢;split at h;(cases h);·rename_i h0;rw [if_neg h0];split at h;(rename_i h1;rw [if_pos h1];exact (Bool.and_eq_true_iff.1 h1).2);·cases h
theorem RI {s:M.aF} {v:Int} {a p:ByteArray} {x:M.aAM} (hs:s.ok) (hz:M.aF.sz s<=1073741824) (ha:a.size<=maxLen) (hp:p.size<=maxLen) (hx:x.ok):M.aF.ok (Ic s v a p x).1:=by unfold Ic;split;(exact hs);·split;(exact Kl hs hz ha hp hx);·exact hs
theorem SO {x a b:Int} (h:inR x a b=true):a<=x/\x<=b:=by unfold inR at h;simpa using h
theorem FY {s:M.aF} (h:iO s=true):M.aF.sz s<=65536:=by
 unfold iO at h
 rw [qM] at h
 have h2:s.aAE.length<=4:=by simpa using h.2
 have hc : ∀c∈s.aAE,M.aAL.sz c<=4096:=by
  intro c hc
  obtain ⟨k,hk,rfl⟩:=List.getElem_of_mem hc
  have h3:=List.all_eq_true.1 h.1 k (List.mem_range.2 hk)
  unfold CS at h3
  rw [qF hk,Option.any_some,qM,qM] at h3
  have h4:=h3.1.2
  unfold BJ at h4
  rw [qM] at h4
  have h5:s.aAE[k].aAN.length<=12:=by simpa using h4.2
  have he : ∀x∈s.aAE[k].aAN,M.aAR.sz x<=100:=by
   intro x hx
   obtain ⟨i,hi,rfl⟩:=List.getElem_of_mem hx
   have h6:=List.all_eq_true.1 h4.1 i (List.mem_range.2 hi)
   unfold zN at h6
   rw [qF hi,Option.any_some,qM,qM,qM] at h6
   obtain ⟨q1,q2,q3,_⟩:=h6
   unfold kI at q1 q2
   rw [qM] at q1 q2
   have r1:=SO q1.2
   have r2:=SO q2.2
   unfold Cc at q3
   rw [qM,qM,qM] at q3
   have r3:s.aAE[k].aAN[i].aAM.aA4.length<=60:=by have:=q3.2.2.2;simp at this;omega
   simp only [M.aAR.sz,M.aAM.sz]
   omega
  have:=fR he
  simp only [M.aAL.sz]
  omega
 have:=fR hc
 simp only [M.aF.sz]
 omega
theorem Mc {l:List M.bA} : ∀ {s:M.aA},s.ok->l.length<=maxLen->(∀w∈l,M.bA.ok w)->M.aA.sz s<=536870912->(A0 s l).ok/\M.aA.sz (A0 s l)<=536870912:=by
 induction l with
 | nil=>intro s hs _ _ hz;exact ⟨hs,hz⟩
 | cons w l ih =>
  intro s hs hl ho hz
  have h:=GL hs (ho w qd) hz
  exact ih (s:=(IL s w).1) h.1 (by simp only [qJ] at hl;omega) (λy hy=>ho y (by simp [hy])) h.2
def DY (o:M.aH) (k:M.Key) (f:ByteArray) (n:Int):M.aH:=(⟨o.aAK,i64.wrap (o.aAh+1),o.aAP++[(⟨o.aAK,o.aAh,k,f,n⟩:M.bA)]⟩:M.aH)
def Lo (o:M.aH) (k:M.Key) (f:ByteArray) (n:Int):M.aH×Bool:=if oU o=true then (if oU (DY o k f n)=true then (DY o k f n,true) else (o,false)) else (o,false)
theorem RS {o:M.aH} {k:M.Key} {f:ByteArray} {n:Int} (ho:o.ok) (hl:o.aAP.length<=1073741824) (hk:k.ok) (hf:f.size<=maxLen) (hn:inI n):(DY o k f n).ok:=
 ⟨ho.aAK,bH _,⟨by show (o.aAP++_).length<=maxLen;unfold maxLen;simp;omega,λy hy=>by have hy':y∈o.aAP++[(⟨o.aAK,o.aAh,k,f,n⟩:M.bA)]:=hy;simp only [qP,List.mem_cons,qO,or_false] at hy';rcases hy' with hy | rfl;(exact ho.aAP.2 y hy);·exact ⟨ho.aAK,ho.aAh,hk,hf,hn⟩⟩⟩
theorem AK {o:M.aH} {k:M.Key} {f:ByteArray} {n:Int} (ho:o.ok) (hz:M.aH.sz o<=536870912) (hk:k.ok) (hf:f.size<=maxLen) (hn:inI n):gH o k f n=some (Lo o k f n):=by
 have hl:o.aAP.length<=536870912:=by simp only [M.aH.sz] at hz;omega
 have e:=mT (RS (k:=k) (f:=f) (n:=n) ho qb hk hf hn)
 unfold DY at e
 unfold gH Lo
 rw [zP o qb,qA,mT ho,qA,fQ qs,qA,e,qA]
 unfold DY
 cases oU o
 ·simp
 ·cases oU (⟨o.aAK,i64.wrap (o.aAh+1),o.aAP++[(⟨o.aAK,o.aAh,k,f,n⟩:M.bA)]⟩:M.aH)<;>simp
def Uo (r:M.aG) (k:M.Key) (f:ByteArray) (n:Int):Bool:=zR r&&((Lo r.aAT.aH k f n).2&&(IL (A0 r.aAU r.aAT.aH.aAP) (⟨0,0,k,f,n⟩:M.bA)).2)
def XH (r:M.aG) (k:M.Key) (f:ByteArray) (n:Int):M.aG:=(⟨r.aAU,r.aAu,(⟨(Lo r.aAT.aH k f n).1,r.aAT.aAm,r.aAT.aAb⟩:M.aAT)⟩:M.aG)
def nWL (r:M.aG) (k:M.Key) (f:ByteArray) (n:Int):M.aG×Bool:=if Uo r k f n=true then (XH r k f n,true) else (r,false)
theorem VR {α:Type} (a b c:Bool) (x y:α):(if (!a)=true then y else (if (!b)=true then y else (if (!c)=true then y else x)))=if (a&&(b&&c))=true then x else y:=by cases a<;>cases b<;>cases c<;>rfl
theorem Fz {r:M.aG} {k:M.Key} {f:ByteArray} {n:Int} (hr:r.ok) (hz:M.aG.sz r<=536870912) (hk:k.ok) (hf:f.size<=maxLen) (hn:inI n):jN r k f n=some (nWL r k f n):=by have hz':=hz;simp only [M.aG.sz,M.aAT.sz] at hz';obtain ⟨q2,q3⟩:=Mc hr.aAU hr.aAT.aH.aAP.1 hr.aAT.aH.aAP.2 qb;have q1:=Cp hr.aAU hr.aAT.aH.aAP.1 hr.aAT.aH.aAP.2 qb;unfold jN wK;rw [Ba r qb,AK hr.aAT.aH qb hk hf hn,q1,xL hr];simp only [qA];rw [xP (w:=(⟨0,0,k,f,n⟩:M.bA)) q2 ⟨by unfold inI;simp,by unfold inI;simp,hk,hf,hn⟩ qb];simp only [qA,VR];unfold nWL Uo XH;cases (zR r&&((Lo r.aAT.aH k f n).2&&(IL (A0 r.aAU r.aAT.aH.aAP) (⟨0,0,k,f,n⟩:M.bA)).2))<;>simp
def mW:List ByteArray:=[(⟨#[98,97,110,107]⟩:ByteArray),(⟨#[110,101,119,115]⟩:ByteArray),(⟨#[115,104,111,112]⟩:ByteArray)]
def BO (a:ByteArray):Int:=oF (λx:ByteArray=>x.toList==a.toList) mW
theorem NG:mW.length<=maxLen:=by unfold mW maxLen;simp
theorem Bi {a:ByteArray}:oO a=some (BO a):=by unfold oO rN;rw [<-mW.eq_1];rw [findAll (L:=eI mW a) (f:=λx:ByteArray=>x.toList==a.toList) (A:=λi=>some (i:Int)) (E:=some (-1)) NG (λm k hk => ?_) (λm => ?_),tK];(rfl);(have hk3:k<3:=hk;simp only [eI];rw [if_pos (bB hk),aM hk,qA,bM qb,Bool.beq_comm]);·simp only [eI];rw [if_neg qk]
def HP (l:List ByteArray) (k:Nat):Bool:=(l[k]?).any kI&&(decide (k=0)||(l[k-1]?).any λy=>(l[k]?).any λx=>Op.bytesLess y.toList x.toList)
def Pm (s:M.aAO):Bool:=(List.range s.aAo.length).all (HP s.aAo)&&(kI s.Name&&(inR s.aAB 1 1000000000000&&inR (s.aAo.length:Int) 1 6))
theorem Jr {s:M.aAO} (hs:s.ok):yO s=some (Pm s):=by
 have hm:=le_max hs.aAo.1
 unfold yO Pm
 rw [lI (L:=iR s) (g:=HP s.aAo) (F:=some false) (E:=some (kI s.Name&&(inR s.aAB 1 1000000000000&&inR (s.aAo.length:Int) 1 6))) hs.aAo.1 (λn k hk => ?_) (λn => ?_),aY]
 ·have hf:=hs.aAo.2 _ (qG hk)
  simp only [iR]
  rw [if_pos (bB hk),aM hk,qA,bM qb,cV hf,qA]
  unfold HP
  rw [qF hk]
  generalize iR s n ((k+1:Nat):Int)=Z
  by_cases h0:k=0
  ·subst h0;simp only [Option.any_some];cases kI s.aAo[0]<;>simp
  ·have e:i64.wrap ((k:Int)-1)=((k-1:Nat):Int):=by rw [bI qb qb];omega
   have hk1:k-1<s.aAo.length:=by omega
   rw [if_pos (c:=(decide ((k:Int)>0))=true) qc,e,aM hk1,qA,qF hk1]
   simp only [Option.any_some,h0,decide_false,Bool.false_or]
   cases kI s.aAo[k]<;>cases Op.bytesLess s.aAo[k-1].toList s.aAo[k].toList<;>simp
 ·simp only [iR];rw [if_neg qk,cV hs.Name,qA,bX,qA,bX,qA,aY,aY]
theorem Je {s:M.aAO} (hs:s.ok):yI s=some (Pm s):=by
 have hm:=le_max hs.aAo.1
 unfold yI Pm
 rw [lI (L:=iQ s) (g:=HP s.aAo) (F:=some false) (E:=some (kI s.Name&&(inR s.aAB 1 1000000000000&&inR (s.aAo.length:Int) 1 6))) hs.aAo.1 (λn k hk => ?_) (λn => ?_),aY]
 ·have hf:=hs.aAo.2 _ (qG hk)
  simp only [iQ]
  rw [if_pos (bB hk),aM hk,qA,bM qb,dM hf,qA]
  unfold HP
  rw [qF hk]
  generalize iQ s n ((k+1:Nat):Int)=Z
  by_cases h0:k=0
  ·subst h0;simp only [Option.any_some];cases kI s.aAo[0]<;>simp
  ·have e:i64.wrap ((k:Int)-1)=((k-1:Nat):Int):=by rw [bI qb qb];omega
   have hk1:k-1<s.aAo.length:=by omega
   rw [if_pos (c:=(decide ((k:Int)>0))=true) qc,e,aM hk1,qA,qF hk1,MX]
   simp only [Option.any_some,h0,decide_false,Bool.false_or]
   cases kI s.aAo[k]<;>cases Op.bytesLess s.aAo[k-1].toList s.aAo[k].toList<;>simp
 ·simp only [iQ];rw [if_neg qk,dM hs.Name,qA,bS,qA,bS,qA,aY,aY]
def Bn (l:List M.aK) (k:Nat):Bool:=(l[k]?).any (λx=>inR x.aAK 1 1000000&&inR x.Seq 0 1000000)&&(decide (k=0)||(l[k-1]?).any λy=>(l[k]?).any λx=>decide (y.aAK<x.aAK))
def Cd (l:List M.bA) (k:Nat):Bool:=(l[k]?).any A9
def Cv (s:M.aAI):Bool:=(List.range s.aK.length).all (Bn s.aK)&&((List.range s.aAZ.length).all (Cd s.aAZ)&&(gE s.aA&&((s.aA.Name.toList==(⟨#[110,111,116,101,115]⟩:ByteArray).toList)&&decide ((s.aK.length:Int)<=60))))
theorem yF {s:M.aAI} (hs:s.ok):mS s=some (Cv s):=by
 have hm:=le_max hs.aK.1
 have hm2:=le_max hs.aAZ.1
 unfold mS Cv
 rw [lI (L:=fX s) (g:=Bn s.aK) (F:=some false) (E:=hY s fuel 0) hs.aK.1 (λn k hk => ?_) (λn => ?_),
  lI (L:=hY s) (g:=Cd s.aAZ) (F:=some false) (E:=some (gE s.aA&&((s.aA.Name.toList==(⟨#[110,111,116,101,115]⟩:ByteArray).toList)&&decide ((s.aK.length:Int)<=60)))) hs.aAZ.1 (λn k hk => ?_) (λn => ?_),aY,aY]
 ·have hf:=hs.aAZ.2 _ (qG hk);simp only [hY];rw [if_pos (bB hk),aM hk,qA,bM qb,wS hf,qA,fE];unfold Cd;rw [qF hk,Option.any_some]
 ·simp only [hY];rw [if_neg qk,uU hs.aA,qA,aY,aY]
 ·simp only [fX]
  rw [if_pos (bB hk),aM hk,qA,bM qb,bX,qA,bX,qA]
  unfold Bn
  rw [qF hk]
  generalize fX s n ((k+1:Nat):Int)=Z
  by_cases h0:k=0
  ·subst h0;simp only [Option.any_some];cases inR s.aK[0].aAK 1 1000000<;>cases inR s.aK[0].Seq 0 1000000<;>simp
  ·have e:i64.wrap ((k:Int)-1)=((k-1:Nat):Int):=by rw [bI qb qb];omega
   have hk1:k-1<s.aK.length:=by omega
   have ed:decide (s.aK[k-1].aAK>=s.aK[k].aAK) = !decide (s.aK[k-1].aAK<s.aK[k].aAK):=by rw [Bool.eq_iff_iff];simp
   rw [if_pos (c:=(decide ((k:Int)>0))=true) qc,e,aM hk1,qA,qF hk1,ed]
   simp only [Option.any_some,h0,decide_false,Bool.false_or]
   cases inR s.aK[k].aAK 1 1000000<;>cases inR s.aK[k].Seq 0 1000000<;>cases decide (s.aK[k-1].aAK<s.aK[k].aAK)<;>simp
 ·simp only [fX];rw [if_neg qk]
theorem G5 {s:M.aAI} (hs:s.ok):vV s=some (Cv s):=by
 have hm:=le_max hs.aK.1
 have hm2:=le_max hs.aAZ.1
 unfold vV Cv
 rw [lI (L:=fY s) (g:=Bn s.aK) (F:=some false) (E:=iA s fuel 0) hs.aK.1 (λn k hk => ?_) (λn => ?_),
  lI (L:=iA s) (g:=Cd s.aAZ) (F:=some false) (E:=some (gE s.aA&&((s.aA.Name.toList==(⟨#[110,111,116,101,115]⟩:ByteArray).toList)&&decide ((s.aK.length:Int)<=60)))) hs.aAZ.1 (λn k hk => ?_) (λn => ?_),aY,aY]
 ·have hf:=hs.aAZ.2 _ (qG hk);simp only [iA];rw [if_pos (bB hk),aM hk,qA,bM qb,An hf,qA,fE];unfold Cd;rw [qF hk,Option.any_some]
 ·simp only [iA];rw [if_neg qk,A6 hs.aA,qA,aY,aY]
 ·simp only [fY]
  rw [if_pos (bB hk),aM hk,qA,bM qb,bS,qA,bS,qA]
  unfold Bn
  rw [qF hk]
  generalize fY s n ((k+1:Nat):Int)=Z
  by_cases h0:k=0
  ·subst h0;simp only [Option.any_some];cases inR s.aK[0].aAK 1 1000000<;>cases inR s.aK[0].Seq 0 1000000<;>simp
  ·have e:i64.wrap ((k:Int)-1)=((k-1:Nat):Int):=by rw [bI qb qb];omega
   have hk1:k-1<s.aK.length:=by omega
   have ed:decide (s.aK[k].aAK<=s.aK[k-1].aAK) = !decide (s.aK[k-1].aAK<s.aK[k].aAK):=by rw [Bool.eq_iff_iff];simp
   rw [if_pos (c:=(decide ((k:Int)>0))=true) qc,e,aM hk1,qA,qF hk1,ed]
   simp only [Option.any_some,h0,decide_false,Bool.false_or]
   cases inR s.aK[k].aAK 1 1000000<;>cases inR s.aK[k].Seq 0 1000000<;>cases decide (s.aK[k-1].aAK<s.aK[k].aAK)<;>simp
 ·simp only [fY];rw [if_neg qk]
end Go.Proofs.YtipmihbgjolaaaaGreat.gen
