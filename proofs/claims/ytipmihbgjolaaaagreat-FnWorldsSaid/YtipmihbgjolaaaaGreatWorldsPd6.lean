/-
  Helper text. No conditions.
-/
import Derived.Test.YtipmihbgjolaaaaGreatWorldsPd5
set_option linter.unusedVariables false
set_option linter.unusedSimpArgs false
namespace Go.Proofs.YtipmihbgjolaaaaGreat.gen
open Go Go.Sh
theorem QP {s:M.aF} {v:Int} {a p:ByteArray} {x:M.aAM} (h:Am s) (ha:a.size<=16) (hp:p.size<=16) (hx:SH x) : ∃y,kU s v a p x=some y/\Am y.1:=by
 have hz:=h.2
 have hx2:=hx.2
 refine ⟨_,C5 h.1 qb (s16 ha) (s16 hp) hx.1 (by simp only [M.aAM.sz];omega),RI h.1 qb (s16 ha) (s16 hp) hx.1,?_⟩
 cases h2:(Ic s v a p x).2 with
 | true=>exact FY (Ox h2)
 | false =>
  have e:(Ic s v a p x).1=s:=by unfold Ic at h2 ⊢;split at h2;(rename_i hh;rw [if_pos hh]);·rename_i hh;rw [if_neg hh];split at h2;(cases h2);·rename_i hh2;rw [if_neg hh2]
  rw [e];exact h.2
theorem PY:Am (⟨([]:List M.aAL)⟩:M.aF):=⟨⟨⟨by simp [maxLen],qd⟩⟩,by simp [M.aF.sz,gO]⟩
theorem Qv {b:List Int} {i h:Int} {N:Nat} (hN:N<=10) {i1 v1:Int} (c1:okC b i1 v1) {s:M.aF} (hs:Am s):Dr b Am (kZ (⟨b,i,h⟩:M.aQ) fuel (N:Int) i1 v1 s.aAE):=by
 refine yD (L:=λn v (s:(M.aF)×Int×Int)=>kZ (⟨b,i,h⟩:M.aQ) n v s.2.1 s.2.2 s.1.aAE) (I:=λk s=>k<=100000/\okC b s.2.1 s.2.2/\Am s.1) (Q:=Dr b Am) (λn k s hi ih => ?_) (λn s hi => ?_) fuel N (s,i1,v1) (kD qb) ⟨qb,c1,hs⟩
 ·obtain ⟨x,ci,ch⟩:=s
  obtain ⟨k0,k1,k2⟩:=hi
  dsimp only at k1 k2
  simp only [kZ]
  rw [if_pos (Of k),Gy k0]
  refine .bnd (aV k1) λi3 v3 r3 c3 q3=>.bnd (DU c3) λi4 v4 r4 c4 q4=>.bnd (KZ c4) λi5 v5 r5 c5 q5=>.bnd (En c5) λi6 v6 r6 c6 q6=>.Ep (QP k2 (Nat.le_trans q4 qb) (Nat.le_trans q5 qb) q6) λy hy => ?_
  exact ih (y.1,i6,v6) ⟨qb,c6,hy⟩
 ·obtain ⟨x,ci,ch⟩:=s;obtain ⟨k0,k1,k2⟩:=hi;dsimp only at k1 k2;simp only [kZ];rw [if_neg Gm];exact .ret k1 k2
theorem Rf {b:List Int} {i h:Int} (c0:okC b i h):Dr b Am (yB (⟨b,i,h⟩:M.aQ)):=by
 unfold yB
 refine .bnd (aV c0) λi1 v1 r1 c1 q1 => ?_
 obtain ⟨N,rfl⟩:=zB q1.1
 have hN:=q1.2.1 qb
 refine yD (L:=λn v (s:(M.aF)×Int×Int)=>nL (⟨b,i,h⟩:M.aQ) n v s.2.1 s.2.2 s.1.aAE) (I:=λk s=>k<=100000/\okC b s.2.1 s.2.2/\Am s.1) (Q:=Dr b Am) (λn k s hi ih => ?_) (λn s hi => ?_) fuel N ((⟨([]:List M.aAL)⟩:M.aF),i1,v1) (kD qb) ⟨qb,c1,PY⟩
 ·obtain ⟨x,ci,ch⟩:=s
  obtain ⟨k0,k1,k2⟩:=hi
  dsimp only at k1 k2
  simp only [nL]
  rw [if_pos (Of k),Gy k0]
  refine .bnd (aV k1) λi3 v3 r3 c3 q3=>.Ep (Jx k2 (bH _)) λy hy => ?_
  exact ih (y.1,i3,v3) ⟨qb,c3,hy⟩
 ·obtain ⟨x,ci,ch⟩:=s
  obtain ⟨k0,k1,k2⟩:=hi
  dsimp only at k1 k2
  simp only [nL]
  rw [if_neg Gm]
  refine .bnd (aV k1) λi3 v3 r3 c3 q3 => ?_
  obtain ⟨M,rfl⟩:=zB q3.1
  have hM:=q3.2.1 qb
  exact Qv qb c3 k2
def J4 (s:M.aF):Prop:=s.ok/\M.aF.sz s<=70000
theorem Am.all {s:M.aF} (h:Am s):J4 s:=⟨h.1,by have:=h.2;omega⟩
theorem Q3 {b:List Int} {i h:Int} (c0:okC b i h):Dr b J4 (yH (⟨b,i,h⟩:M.aQ)):=by
 unfold yH
 refine .bnd (Rf c0) λi1 v1 r1 c1 q1=>.bnd (aV c1) λi2 v2 r2 c2 q2 => ?_
 have hz:=q1.2
 simp only [M.aF.sz] at hz
 dsimp only
 split
 ·refine .bnd (nP (λx => -1000000000000000<=x/\x<=1000000000000000) qe qe c2) λi3 v3 r3 c3 q3 => ?_
  dsimp only
  rw [wP qs qb,qA]
  refine .ret c3 ⟨⟨⟨ml qn,λy hy => ?_⟩⟩,?_⟩
  ·rcases List.mem_append.1 hy with hy | hy;(exact q1.1.aAE.2 y hy);·rw [List.mem_singleton.1 hy];exact ⟨bgI q3,⟨by simp [maxLen],qd⟩⟩
  ·simp only [M.aF.sz];rw [xZ];simp only [gO,M.aAL.sz,qE,qJ,qK];omega
 split
 ·split
  ·rename_i hp
   cases hc:r1.aAE with
   | nil=>rw [hc] at hp;simp at hp
   | cons x0 xs =>
    have hx0:x0∈r1.aAE:=by rw [hc];simp
    have ho:=q1.1.aAE.2 x0 hx0
    rw [hc] at hz
    simp only [gO,M.aAL.sz,qJ] at hz
    rw [show idx (x0::xs) 0=some x0 from rfl,qA]
    refine .bnd (zM (λs=>s.size<=16) qe qe c2) λi3 v3 r3 c3 q3=>.bnd (En c3) λi4 v4 r4 c4 q4 => ?_
    dsimp only
    rw [wP qs qb,qA]
    have aa:=q4.2
    have ae:r3.size<=16:=q3
    refine .ret c4 ⟨⟨⟨ml (by show (List.set _ _ _).length<=_;rw [qN,qJ];omega),λy hy => ?_⟩⟩,?_⟩
    ·rcases List.mem_or_eq_of_mem_set hy with hy | rfl;(exact q1.1.aAE.2 y (by rw [hc];exact hy));·refine ⟨ho.aAB,ml qn,λz hz => ?_⟩;rcases List.mem_append.1 hz with hz | hz;(exact ho.aAN.2 z hz);·rw [List.mem_singleton.1 hz];exact ⟨s16 (s:=(⟨#[98,97,110,107]⟩:ByteArray)) qe,s16 q3,q4.1⟩
    ·have e4:(⟨#[98,97,110,107]⟩:ByteArray).size=4:=rfl;show M.aF.sz (⟨(⟨x0.aAB,x0.aAN++[_]⟩:M.aAL)::xs⟩:M.aF)<=70000;simp only [M.aF.sz,gO,M.aAL.sz,xZ,M.aAR.sz,M.aAM.sz,qE,qJ,qK,e4];omega
  ·exact .ret c2 q1.all
 split
 ·have key : ∀(n k:Nat) (s:M.aF),5-k<n->k<=5->Am s->Dr b J4 (nN (i2,v2,r2) n (k:Int) s.aAE):=by
   intro n
   induction n with
   | zero=>intro k s h _ _;omega
   | succ n ih =>
    intro k s h hk hs
    simp only [nN]
    rcases Nat.lt_or_ge k 5 with h6 | h6
    ·rw [if_pos qc]
     refine .Ep (Jx hs (bgI qh)) λy hy => ?_
     rw [bM qb]
     exact ih (k+1) y.1 qb qb hy
    ·rw [if_neg qc];exact .ret c2 hs.all
  exact key fuel 1 r1 (kD qb) qb q1
 ·exact .ret c2 q1.all
theorem KK {d:M.aAA} {u:M.iW} (hl:d.aAS.length<=100000) : ∃v,zX d u=some v:=by
 have key : ∀(n k:Nat),d.aAS.length-k<n->k<=d.aAS.length -> ∃v,lM d u n (k:Int)=some v:=by
  intro n
  induction n with
  | zero=>intro k h _;omega
  | succ n ih =>
   intro k h hk
   simp only [lM]
   rcases Nat.lt_or_ge k d.aAS.length with h6 | h6
   ·rw [if_pos (bB h6),aM h6,qA,bM qb];have:=ih (k+1) qb qb;split;(split;(exact ⟨_,rfl⟩);·exact this);·exact this
   ·rw [if_neg qc];exact ⟨_,rfl⟩
 exact key fuel 0 (kD qb) qb
theorem Vt {d:M.aAA} {a f:ByteArray} (hd:d.ok) (hz:M.aAA.sz d<=100000) (ha:a.size<=16) (hf:f.size<=16) : ∃x,jE d (⟨3,a,f⟩:M.iW)=some x/\(x.1.ok/\M.aAA.sz x.1<=M.aAA.sz d+40):=by
 have hl:d.aAS.length<=100000:=by simp only [M.aAA.sz] at hz;omega
 obtain ⟨x5,e5⟩:=KK (u:=(⟨3,a,f⟩:M.iW)) hl
 have ok':M.aAA.ok (⟨d.Name,d.aAB,d.aAH,d.aAS++[(⟨a,f⟩:M.aN)]⟩:M.aAA):=⟨hd.Name,hd.aAB,hd.aAH,ml qn,λy hy=>by rcases List.mem_append.1 hy with hy | hy;(exact hd.aAS.2 y hy);·rw [List.mem_singleton.1 hy];exact ⟨s16 ha,s16 hf⟩⟩
 have sz':M.aAA.sz (⟨d.Name,d.aAB,d.aAH,d.aAS++[(⟨a,f⟩:M.aN)]⟩:M.aAA)<=M.aAA.sz d+40:=by simp only [M.aAA.sz,xZ,gO,M.aN.sz,qE,qJ,qK];omega
 unfold jE
 rw [wL d qb,qA,Ai hd,qA,e5,qA]
 dsimp only
 generalize oF (Af a) d.aAH=x3
 have k1:((3:Int)==1)=false:=rfl
 have k2:((3:Int)==2)=false:=rfl
 have k3:((3:Int)==3)=true:=rfl
 have k4:((3:Int)==4)=false:=rfl
 simp only [k1,k2,k3,k4,qD,if_false,if_true,qA]
 by_cases h:x3>=0
 ·by_cases h5:x5<0;(simp only [h,h5,decide_true,if_true,qA];rw [wP qs qb,qA,oP hd qb,qA,oP ok' qb,qA];cases nDb d;(exact ⟨_,rfl,hd,qg⟩);·cases nDb (⟨d.Name,d.aAB,d.aAH,d.aAS++[(⟨a,f⟩:M.aN)]⟩:M.aAA);(exact ⟨_,rfl,hd,qg⟩);·exact ⟨_,rfl,ok',sz'⟩);·simp only [h,h5,decide_true,decide_false,qD,if_false,if_true,qA];exact ⟨_,rfl,hd,qg⟩
 ·simp only [h,decide_false,qD,if_false,qA];exact ⟨_,rfl,hd,qg⟩
def UO (d:M.aAA):Prop:=d.ok/\M.aAA.sz d<=40000
theorem Zk {l:List M.aA} (hl:l.length<=3) (h : ∀s∈l,Oh s):M.aAA.ok (⟨(⟨#[97,112,112]⟩:ByteArray),1,l,([]:List M.aN)⟩:M.aAA)/\M.aAA.sz (⟨(⟨#[97,112,112]⟩:ByteArray),1,l,([]:List M.aN)⟩:M.aAA)<=39000:=by
 have h3:(⟨#[97,112,112]⟩:ByteArray).size=3:=rfl
 have:=fR (w:=M.aA.sz) (b:=10000) (xs:=l) λs hs=>mV (h s hs).2.1
 refine ⟨⟨s16 (s:=(⟨#[97,112,112]⟩:ByteArray)) qe,MK,⟨ml qg,λs hs=>(h s hs).1⟩,⟨by simp [maxLen],qd⟩⟩,?_⟩
 simp only [M.aAA.sz,gO,qK,h3]
 omega
theorem T5 {α:Type} {b:Nat} {xs:List α} (h:xs.length<=1000000) (hb:b<=1000):U4 b xs=some xs:=by unfold U4;rw [if_pos (Nat.le_trans (Nat.mul_le_mul h hb) qb)]
theorem Rn {b:List Int} {i h:Int} (c0:okC b i h):Dr b UO (yN (⟨b,i,h⟩:M.aQ)):=by
 unfold yN
 refine .bnd (Ct qe qe c0) λi1 v1 r1 c1 q1=>.bnd (Ct qe qe c1) λi2 v2 r2 c2 q2 => ?_
 dsimp only
 rw [T5 qd qb,qA]
 have fin : ∀ {l:List M.aA} {i5 v5:Int} {f:Int×Int×Bool->Option (Int×Int×M.aAA)},l.length<=3->(∀s∈l,Oh s)->okC b i5 v5->f=(λaa=>(if aa.2.2=true then ((cW (⟨b,aa.1,aa.2.1⟩:M.aQ)).bind λae=>((jE (⟨(⟨#[97,112,112]⟩:ByteArray),1,l,([]:List M.aN)⟩:M.aAA) (⟨3,(⟨#[110,111,116,101,115]⟩:ByteArray),ae.2.2⟩:M.iW)).bind λaf=>(some (ae.1,ae.2.1,af.1)))) else (some (aa.1,aa.2.1,(⟨(⟨#[97,112,112]⟩:ByteArray),1,l,([]:List M.aN)⟩:M.aAA)))))->Dr b UO ((cK (⟨b,i5,v5⟩:M.aQ) 3).bind f):=by
  intro l i5 v5 f hl hg c5 hf
  subst hf
  obtain ⟨o1,o2⟩:=Zk hl hg
  refine .bnd (xK c5) λi6 v6 r6 c6 q6 => ?_
  dsimp only
  split
  ·refine .bnd (wG c6) λi7 v7 r7 c7 q7=>.Ep (Vt o1 qb qe (Nat.le_trans q7 qb)) λy hy=>.ret c7 ⟨hy.1,?_⟩
   have:=hy.2
   omega
  ·exact .ret c6 ⟨o1,qb⟩
 refine .bnd (xK c2) λi3 v3 r3 c3 q3 => ?_
 dsimp only
 split
 ·refine .bnd (Ct qe qe c3) λi4 v4 r4 c4 q4 => ?_
  dsimp only
  rw [wP qd qb,qA]
  exact fin (l:=[r4]++[r1,r2]) qd (by simp only [qP,List.mem_cons,qO,or_false];rintro s (rfl | rfl | rfl)<;>assumption) c4 rfl
 ·exact fin (l:=[r1,r2]) qd (by simp only [List.mem_cons,qO,or_false];rintro s (rfl | rfl)<;>assumption) c3 rfl
theorem Ux {b:List Int} {i h:Int} (c0:okC b i h):Dr b H4 (AI (⟨b,i,h⟩:M.aQ)):=by
 unfold AI
 refine .bnd (aV c0) λi1 v1 r1 c1 q1=>.bnd (zM (λs=>s.size<=16) qe qe c1) λi2 v2 r2 c2 q2=>.bnd (uC c2) λi3 v3 r3 c3 q3 => ?_
 dsimp only
 have hk:=q3.any.1
 have e0:(⟨#[]⟩:ByteArray).size<=maxLen:=s16 qe
 split
 ·exact .bnd (AA c3) λi4 v4 r4 c4 q4=>.ret c4 ⟨bH _,s16 q2,hk,q4.1,e0⟩
 split
 ·exact .bnd (AA c3) λi4 v4 r4 c4 q4=>.ret c4 ⟨bH _,s16 q2,hk,q4.1,e0⟩
 split
 ·exact .bnd (wG c3) λi4 v4 r4 c4 q4=>.ret c4 ⟨bH _,s16 q2,hk,D3,s16 (Nat.le_trans q4 qb)⟩
 split
 ·refine .bnd (xK c3) λi4 v4 r4 c4 q4 => ?_
  dsimp only
  split
  ·exact .bnd (uC c4) λi5 v5 r5 c5 q5=>.ret c5 ⟨MK,s16 q2,q5.any.1,D3,e0⟩
  ·exact .ret c4 ⟨bH _,s16 q2,LH,D3,e0⟩
 ·exact .ret c3 ⟨bH _,s16 q2,hk,D3,e0⟩
def UH (l:List M.Op):Prop:=l.length<=10 /\ ∀o∈l,H4 o
theorem S5 {b:List Int} {i h:Int} (c0:okC b i h):Dr b UH (Ag (⟨b,i,h⟩:M.aQ) 3):=by
 unfold Ag
 rw [show IntKind.i64.wrap (3+1)=4 from by rw [wrap_small qb qb];rfl]
 refine .bnd (aV c0) λi1 v1 r1 c1 q1 => ?_
 obtain ⟨N,rfl⟩:=zB q1.1
 have hN:=q1.2.1 qb
 refine yD (L:=λn v (s:(List M.Op)×Int×Int)=>pJ (⟨b,i,h⟩:M.aQ) n v s.1 s.2.1 s.2.2) (I:=λk s=>k<=100000/\okC b s.2.1 s.2.2/\s.1.length+k<=10 /\ ∀o∈s.1,H4 o) (Q:=Dr b UH) (λn k s hi ih => ?_) (λn s hi => ?_) fuel N (([]:List M.Op),i1,v1) (kD qb) ⟨qb,c1,⟨by simp only [qK];omega,qd⟩⟩
 ·obtain ⟨x,ci,ch⟩:=s
  obtain ⟨k0,k1,k2⟩:=hi
  dsimp only at k1 k2
  simp only [pJ]
  rw [if_pos (Of k),Gy k0]
  refine .bnd (Ux k1) λi3 v3 r3 c3 q3 => ?_
  dsimp only
  have aa:=k2.1
  rw [wP qs qb,qA]
  refine ih (x++[r3],i3,v3) ⟨qb,c3,qn,λo ho => ?_⟩
  rcases List.mem_append.1 ho with ho | ho
  ·exact k2.2 o ho
  ·rw [List.mem_singleton.1 ho];exact q3
 ·obtain ⟨x,ci,ch⟩:=s;obtain ⟨k0,k1,k2⟩:=hi;dsimp only at k1 k2;simp only [pJ];rw [if_neg Gm];exact .ret k1 ⟨by have:=k2.1;omega,k2.2⟩
theorem K8 {k:M.cR} {l:List M.Op} {n:Nat} (h:k.ok) (hz:M.cR.sz k<=n) (hn:n<=200000) (hl:l.length<=1000) (ho : ∀o∈l,H4 o) : ∃x,lL k l=some x/\(x.1.ok/\M.cR.sz x.1<=n+4000):=⟨_,Fq h qb hl ho,(IC h).1,by have:=(IC (l:=l) h).2.1;omega⟩
def OG (k:M.cR):Prop:=k.ok/\M.cR.sz k<=70000
theorem Pf {b:List Int} {i h:Int} (c0:okC b i h):Dr b OG (wZ (⟨b,i,h⟩:M.aQ)):=by
 unfold wZ
 refine .bnd (Rn c0) λi0 v0 d aa q0=>.bnd (aV aa) λi1 v1 r1 c1 q1 => ?_
 obtain ⟨N,rfl⟩:=zB q1.1
 have hN:=q1.2.1 qb
 have hz:=q0.2
 refine yD (L:=λn v (s:(M.cR)×Int×Int)=>mE (⟨b,i,h⟩:M.aQ) n v s.1.aAU.Name s.1.aAU.aAB s.1.aAn s.2.1 s.2.2 s.1.aAU.aAH s.1.aAU.aAS s.1.Log) (I:=λk s=>k<=100000/\okC b s.2.1 s.2.2/\s.1.ok/\M.cR.sz s.1+4000*k<=60000) (Q:=Dr b OG) (λn k s hi ih => ?_) (λn s hi => ?_) fuel N ((⟨d,([]:List Int),0⟩:M.cR),i1,v1) (kD qb) ⟨qb,c1,⟨⟨q0.1,⟨by simp [maxLen],qd⟩,sL⟩,by show M.aAA.sz d+0+4000*N<=60000;omega⟩⟩
 ·obtain ⟨x,ci,ch⟩:=s
  obtain ⟨k0,k1,k2⟩:=hi
  dsimp only at k1 k2
  simp only [mE]
  rw [if_pos (Of k),Gy k0]
  refine .bnd (S5 k1) λi3 v3 r3 c3 q3=>.Ep (K8 (k:=x) (n:=M.cR.sz x) k2.1 (Nat.le_refl _) (by have:=k2.2;omega) (Nat.le_trans q3.1 qb) q3.2) λy hy => ?_
  exact ih (y.1,i3,v3) ⟨qb,c3,hy.1,by have:=hy.2;have:=k2.2;dsimp only;omega⟩
 ·obtain ⟨x,ci,ch⟩:=s;obtain ⟨k0,k1,k2⟩:=hi;dsimp only at k1 k2;simp only [mE];rw [if_neg Gm];exact .ret k1 ⟨k2.1,by have:=k2.2;show M.cR.sz x<=70000;omega⟩
theorem T6 {l b:List Int} {i:Int} (hl:okB l) (hz:l.length<=100000) (hb : ∀x∈b,0<=x/\x<=255):okB (Rp l i b).1/\(Rp l i b).1.length<=l.length+4000:=by unfold Rp;split;(exact ⟨hl,qg⟩);split;(exact ⟨hl,qg⟩);·rename_i hh;refine ⟨⟨ml qg,λy hy => ?_⟩,qg⟩;have hy':y∈QC l i b:=hy;unfold QC at hy';simp only [qP] at hy';rcases hy' with h | h | h;(exact hl.2 y h);(exact BG hb y h);·exact Dp _ y h
def Mj (k:M.cR):Prop:=k.ok/\M.cR.sz k<=80000
theorem Sb {b:List Int} {i h:Int} (c0:okC b i h):Dr b Mj (yP (⟨b,i,h⟩:M.aQ)):=by
 unfold yP
 refine .bnd (Pf c0) λi1 v1 r1 c1 q1=>.bnd (aV c1) λi2 v2 r2 c2 q2 => ?_
 dsimp only
 have hz:=q1.2
 have hl:r1.Log.length<=70000:=by simp only [M.cR.sz] at hz;omega
 split
 ·exact .ret c2 ⟨⟨q1.1.aAU,q1.1.Log,bH _⟩,by simp only [M.cR.sz] at hz ⊢;omega⟩
 split
 ·refine .bnd (R7 q1.1.Log qb c2) λi3 v3 r3 c3 q3=>.ret c3 ⟨⟨q1.1.aAU,q3.1,q1.1.aAn⟩,?_⟩
  have:=q3.2
  simp only [M.cR.sz] at hz ⊢
  omega
 split
 ·rw [B4 qb qe,qA];obtain ⟨o1,o2⟩:=T6 (i:=r1.aAn) (b:=[1,2]) q1.1.Log qb qe;refine .ret c2 ⟨⟨q1.1.aAU,o1,bH _⟩,?_⟩;simp only [M.cR.sz] at hz ⊢;omega
 ·exact .ret c2 ⟨q1.1,qb⟩
def wsm (w:M.bA):Prop:=w.ok/\M.bA.sz w<=32
theorem C8 {d q n:Int} {k:M.Key} {f:ByteArray} (hd:inI d) (hq:inI q) (hk:JJ k) (hf:f.size<=16) (hn:inI n):wsm (⟨d,q,k,f,n⟩:M.bA):=⟨⟨hd,hq,hk.1,s16 hf,hn⟩,by have:=hk.2;simp only [M.bA.sz,M.Key.sz];omega⟩
def obI (o:M.aH):Prop:=inI o.aAK/\inI o.aAh/\o.aAP.length<=30 /\ ∀w∈o.aAP,wsm w
theorem obI.ok {o:M.aH} (h:obI o):o.ok:=⟨h.1,h.2.1,ml (by have:=h.2.2.1;omega),λw hw=>(h.2.2.2 w hw).1⟩
theorem obI.sz {o:M.aH} (h:obI o):M.aH.sz o<=1000:=by
 have h1:=fR (w:=M.bA.sz) (b:=32) (xs:=o.aAP) λw hw=>(h.2.2.2 w hw).2
 have h2:=h.2.2.1
 simp only [M.aH.sz]
 omega
theorem LQ {o:M.aH} (h:oU o=true):o.aAP.length<=20:=by unfold oU at h;simp only [qM,qL] at h;exact h.2.2.2
theorem Pb {o:M.aH} {k:M.Key} {f:ByteArray} {n:Int} (h:obI o) (hk:JJ k) (hf:f.size<=16) (hn:inI n):obI (Lo o k f n).1:=by unfold Lo;split;(split;(rename_i h2;have:=LQ h2;refine ⟨h.1,bH _,by show (DY o k f n).aAP.length<=30;omega,λw hw => ?_⟩;have hw':w∈o.aAP++[(⟨o.aAK,o.aAh,k,f,n⟩:M.bA)]:=hw;rcases List.mem_append.1 hw' with hw | hw;(exact h.2.2.2 w hw);·rw [List.mem_singleton.1 hw];exact C8 h.1 h.2.1 hk hf hn);·exact h);·exact h
theorem MQ {o:M.aH} {k:M.Key} {f:ByteArray} {n:Int} (h:obI o) (hk:JJ k) (hf:f.size<=16) (hn:inI n):gH o k f n=some (Lo o k f n):=AK h.ok (by have:=h.sz;omega) hk.1 (s16 hf) hn
theorem K7 {d n:Int} (hd:inI d) (hn:inI n):obI (⟨d,n,([]:List M.bA)⟩:M.aH):=⟨hd,hn,qd,qd⟩
theorem Sp {d:Int} (hd:inI d) : ∃x,kX d=some x/\obI x.1/\x.1.aAh<=1/\x.1.aAP.length<=0:=by unfold kX;rw [mT (K7 hd MK).ok,qA];cases oU (⟨d,1,([]:List M.bA)⟩:M.aH);(exact ⟨_,rfl,K7 sL sL,qe,qd⟩);·exact ⟨_,rfl,K7 hd MK,by show (1:Int)<=1;omega,qd⟩
theorem Pw {o:M.aH} {q:Int} (h:obI o) : ∃x,cO o q=some x/\obI x.1/\x.1.aAh=o.aAh/\inI x.2/\x.1.aAP.length<=o.aAP.length:=by
 have hlen:=h.2.2.1
 have fin : ∀(k:Nat),k<=o.aAP.length -> ∃x,(Ak o.aAP (k:Int)).bind (λaa=>((app 72 ([]:List M.bA) (List.drop (k:Int).toNat o.aAP)).bind λae=>(some ((⟨o.aAK,o.aAh,(List.drop (k:Int).toNat o.aAP)⟩:M.aH),(k:Int)))))=some x/\obI x.1/\x.1.aAh=o.aAh/\inI x.2/\x.1.aAP.length<=o.aAP.length:=by intro k hk;rw [Jc hk,qA,qH,IY (by rw [qU];omega) qb,qA];exact ⟨_,rfl,⟨h.1,h.2.1,by show (List.drop k o.aAP).length<=30;rw [qU];omega,λw hw=>h.2.2.2 w (List.mem_of_mem_drop hw)⟩,rfl,bgI qg,by show (List.drop k o.aAP).length<=_;rw [qU];omega⟩
 have key : ∀(n k:Nat),o.aAP.length-k<n->k<=o.aAP.length -> ∃x,lK o q o n (k:Int)=some x/\obI x.1/\x.1.aAh=o.aAh/\inI x.2/\x.1.aAP.length<=o.aAP.length:=by
  intro n
  induction n with
  | zero=>intro k h _;omega
  | succ n ih =>
   intro k hn hk
   simp only [lK]
   rcases Nat.lt_or_ge k o.aAP.length with h6 | h6
   ·rw [if_pos (bB h6),aM h6,qA,bM qb];split;(exact ih (k+1) qb qb);·exact fin k hk
   ·rw [if_neg qc];exact fin k hk
 unfold cO
 rw [zP o (by have:=h.sz;omega),qA,mT h.ok,qA]
 cases oU o
 ·rw [if_pos qd];exact ⟨_,rfl,h,rfl,sL,Nat.le_refl _⟩
 ·rw [if_neg qd];exact key fuel 0 (kD qb) qb
theorem Ua (o:M.aH) (k:M.Key) (f:ByteArray) (n:Int):(Lo o k f n).1.aAP.length<=o.aAP.length+1:=by unfold Lo;split;(split;(simp [DY]);·exact Nat.le_succ _);·exact Nat.le_succ _
theorem Q8 {o:M.aH} {k:M.Key} {f:ByteArray} {n:Int} (h:o.aAh<=1000):(Lo o k f n).1.aAh<=1+o.aAh\/(Lo o k f n).1.aAh=o.aAh:=by unfold Lo;split;(rename_i h1;split;(left;unfold oU inR at h1;simp only [qM,qL] at h1;show IntKind.i64.wrap (o.aAh+1)<=_;rw [wrap_small qb qb];omega);·exact .inr rfl);·exact .inr rfl
theorem LO {b:List Int} {i h d:Int} (hd:inI d) (c0:okC b i h):Dr b (λo=>obI o/\o.aAh<=10/\o.aAP.length<=20) (uJ (⟨b,i,h⟩:M.aQ) d):=by
 unfold uJ
 refine .Ep (Sp hd) λo ho=>.bnd (nP (λx=>0<=x/\x<=6) qe qe c0) λi1 v1 r1 c1 q1 => ?_
 obtain ⟨N,rfl⟩:=zB q1.1
 have hN:=q1.2
 refine yD (L:=λn v (s:(M.aH)×Int×Int)=>iZ (⟨b,i,h⟩:M.aQ) n v s.1.aAK s.1.aAh s.2.1 s.2.2 s.1.aAP) (I:=λk s=>k<=100000/\okC b s.2.1 s.2.2/\obI s.1/\s.1.aAh+k<=8/\s.1.aAP.length+k<=7) (Q:=Dr b (λo=>obI o/\o.aAh<=10/\o.aAP.length<=20)) (λn k s hi ih => ?_) (λn s hi => ?_) fuel N (o.1,i1,v1) (kD qb) ⟨qb,c1,⟨ho.1,by have:=ho.2.1;dsimp only;omega,by have:=ho.2.2;dsimp only;omega⟩⟩
 ·obtain ⟨x,ci,ch⟩:=s
  obtain ⟨k0,k1,k2⟩:=hi
  dsimp only at k1 k2
  simp only [iZ]
  rw [if_pos (Of k),Gy k0]
  refine .bnd (uC k1) λi3 v3 r3 c3 q3=>.bnd (wG c3) λi4 v4 r4 c4 q4=>.bnd (aV c4) λi5 v5 r5 c5 q5 => ?_
  dsimp only
  have hf:r4.size<=16:=Nat.le_trans q4 qb
  have hn:inI r5:=bgI (Rb q5)
  rw [show (⟨x.aAK,x.aAh,x.aAP⟩:M.aH)=x from rfl,MQ k2.1 q3.any hf hn,qA]
  refine ih ((Lo x r3 r4 r5).1,i5,v5) ⟨qb,c5,Pb k2.1 q3.any hf hn,?_,?_⟩
  ·have h1:=k2.2.1;dsimp only;rcases Q8 (o:=x) (k:=r3) (f:=r4) (n:=r5) qb with h2 | h2<;>omega
  ·have h1:=k2.2.2;have h2:=Ua x r3 r4 r5;dsimp only;omega
 ·obtain ⟨x,ci,ch⟩:=s
  obtain ⟨k0,k1,k2⟩:=hi
  dsimp only at k1 k2
  simp only [iZ]
  rw [if_neg Gm]
  refine .bnd (xK k1) λi3 v3 r3 c3 q3 => ?_
  dsimp only
  have h1:=k2.2.1
  have h2:=k2.2.2
  split
  ·refine .bnd (aV c3) λi4 v4 r4 c4 q4 => ?_
   dsimp only
   obtain ⟨y,e,y1,y2,_,y3⟩:=Pw (q:=r4) k2.1
   rw [show (⟨x.aAK,x.aAh,x.aAP⟩:M.aH)=x from rfl,e,qA]
   exact .ret c4 ⟨y1,qb,qb⟩
  ·exact .ret c3 ⟨k2.1,qg,qg⟩
theorem Re {o:M.aH} {k:M.Key} {f:ByteArray} {n:Int} (h:oU o=true) (hN:o.aAh<=1000) (hl:o.aAP.length<20) (hq:A9 (⟨o.aAK,o.aAh,k,f,n⟩:M.bA)=true):oU (DY o k f n)=true:=by
 unfold oU inR at h
 simp only [qM,qL,qQ,qR] at h
 obtain ⟨h1,⟨h2,h3⟩,⟨h4,h5⟩,h6⟩:=h
 have ew:IntKind.i64.wrap (o.aAh+1)=o.aAh+1:=wrap_small qb qb
 unfold oU inR DY
 simp only [qM,qL,qQ,qR,qE,qJ,qK,ew]
 refine ⟨λj hj => ?_,⟨h2,h3⟩,⟨qb,qb⟩,qb⟩
 unfold A5
 simp only [qE,qJ,qK]
 rcases Nat.lt_or_ge j o.aAP.length with hlt | hge
 ·have:=h1 j hlt;unfold A5 at this;rw [qF hlt,Option.any_some] at this;rw [List.getElem?_append_left hlt,qF hlt,Option.any_some,show (o.aAh+1-((o.aAP.length+(0+1):Nat):Int))=o.aAh-(o.aAP.length:Int) by omega];exact this
 ·have:j=o.aAP.length:=by omega
  subst this
  rw [List.getElem?_append_right (Nat.le_refl _),Nat.sub_self]
  simp only [List.getElem?_cons_zero,Option.any_some]
  rw [hq,show (o.aAh+1-((o.aAP.length+(0+1):Nat):Int))=o.aAh-(o.aAP.length:Int) by omega,wrap_small (n:=o.aAh-(o.aAP.length:Int)) qb qb,show o.aAh-(o.aAP.length:Int)+(o.aAP.length:Int)=o.aAh by omega,wrap_small qb qb]
  simp
theorem L7.n {k:M.Key} (h:L7 k):Ao k=true:=by
 obtain ⟨a,n,s⟩:=k
 obtain ⟨h1,h2,h3,h4⟩:=h
 dsimp only at h1 h2 h3 h4
 subst h4 h1
 unfold Ao inR
 have e:Ig (⟨#[]⟩:ByteArray)=true:=by decide
 simp [e]
 omega
theorem Rj {b:List Int} {i h:Int} (c0:okC b i h):Dr b obI (xY (⟨b,i,h⟩:M.aQ)):=by
 unfold xY
 refine .bnd (aV c0) λi1 v1 r1 c1 q1=>.bnd (LO (bH _) c1) λi2 v2 o c2 q2=>.bnd (aV c2) λi3 v3 r3 c3 q3 => ?_
 dsimp only
 obtain ⟨ho,hN,q2len⟩:=q2
 have hlen:=ho.2.2.1
 split
 ·exact .bnd (nP (λx => -1000000000000000<=x/\x<=1000000000000000) qe qe c3) λi4 v4 r4 c4 q4=>.ret c4 ⟨bgI q4,ho.2.1,ho.2.2⟩
 split
 ·exact .bnd (nP (λx => -1000000000000000<=x/\x<=1000000000000000) qe qe c3) λi4 v4 r4 c4 q4=>.ret c4 ⟨ho.1,bgI q4,ho.2.2⟩
 split
 ·refine .bnd (LD c3) λi4 v4 r4 c4 q4=>.bnd (nP (λx => -1000000000000000<=x/\x<=1000000000000000) qe qe c4) λi5 v5 r5 c5 q5 => ?_
  dsimp only
  rw [wP qs qb,qA]
  refine .ret c5 ⟨ho.1,ho.2.1,qn,λw hw => ?_⟩
  rcases List.mem_append.1 hw with hw | hw
  ·exact ho.2.2.2 w hw
  ·rw [List.mem_singleton.1 hw];exact C8 ho.1 ho.2.1 q4 qe (bgI q5)
 split
 ·have key : ∀(n:Nat) (o:M.aH) (ci ch:Int),20-o.aAP.length<n->obI o->o.aAh<=10+o.aAP.length->okC b ci ch->Dr b obI (rC (⟨b,i,h⟩:M.aQ) n o.aAK o.aAh ci ch o.aAP):=by
   intro n
   induction n with
   | zero=>intro o ci ch h _ _ _;omega
   | succ n ih =>
    intro o ci ch hn ho hN k1
    simp only [rC]
    rcases Nat.lt_or_ge o.aAP.length 20 with h6 | h6
    ·rw [if_pos qc,show (⟨o.aAK,o.aAh,o.aAP⟩:M.aH)=o from rfl,mT ho.ok,qA]
     cases hob:oU o with
     | false=>rw [if_neg qd];exact .ret k1 ho
     | true =>
      rw [if_pos rfl]
      refine .bnd (uC k1) λi4 v4 r4 c4 q4 => ?_
      dsimp only
      have hf:(⟨#[97]⟩:ByteArray).size<=16:=by decide
      rw [MQ ho q4.any hf MK,qA]
      have h7:=hob
      unfold oU inR at h7
      simp only [qM,qL] at h7
      have hq:A9 (⟨o.aAK,o.aAh,r4,(⟨#[97]⟩:ByteArray),1⟩:M.bA)=true:=by
       have e:kI (⟨#[97]⟩:ByteArray)=true:=by decide
       unfold A9 inR
       simp [q4.n,e]
       omega
      have hb:=Re hob qb h6 hq
      have en:Lo o r4 (⟨#[97]⟩:ByteArray) 1=(DY o r4 (⟨#[97]⟩:ByteArray) 1,true):=by unfold Lo;rw [if_pos hob,if_pos hb]
      have hob2:=Pb (k:=r4) (f:=(⟨#[97]⟩:ByteArray)) (n:=1) ho q4.any hf MK
      rw [en] at hob2 ⊢
      have e3:(DY o r4 (⟨#[97]⟩:ByteArray) 1).aAP.length=o.aAP.length+1:=by simp [DY]
      have e4:(DY o r4 (⟨#[97]⟩:ByteArray) 1).aAh=o.aAh+1:=wrap_small qb qb
      exact ih (DY o r4 (⟨#[97]⟩:ByteArray) 1) i4 v4 qb hob2 qb c4
    ·rw [if_neg qc];exact .ret k1 ho
  exact key fuel o i3 v3 (kD qb) ho qb c3
 ·exact .ret c3 ho
def svI (n:Nat) (s:M.aAI):Prop:=s.aA.ok/\gE s.aA=true/\(s.aK.length<=60 /\ ∀a∈s.aK,M.aK.ok a)/\s.aAZ.length<=n /\ ∀w∈s.aAZ,wsm w
theorem svI.ok {n:Nat} {s:M.aAI} (h:svI n s) (hn:n<=1000):M.aAI.ok s:=⟨h.1,⟨ml (by have:=h.2.2.1.1;omega),h.2.2.1.2⟩,⟨ml (by have:=h.2.2.2.1;omega),λw hw=>(h.2.2.2.2 w hw).1⟩⟩
theorem svI.mono {n m:Nat} {s:M.aAI} (h:svI n s) (hm:n<=m):svI m s:=⟨h.1,h.2.1,h.2.2.1,by have:=h.2.2.2.1;omega,h.2.2.2.2⟩
theorem OO {n:Nat} {s:M.aAI} (h:svI n s) (hn:n<=1000):jX s=some s:=by have h1:=mV h.2.1;have h2:=h.2.2.1.1;have h3:=h.2.2.2.1;unfold jX;rw [mK _ qb,qA,IY qb qb,qA,IY qb qb,qA]
theorem GP {s:M.aAI} {d:Int} (h:s.aK.length<=60 /\ ∀a∈s.aK,M.aK.ok a) : ∃v,sE s d=some v/\inI v:=by
 have hl:=h.1
 have key : ∀(n k:Nat),s.aK.length-k<n->k<=s.aK.length -> ∃v,oQ s d n (k:Int)=some v/\inI v:=by
  intro n
  induction n with
  | zero=>intro k h _;omega
  | succ n ih =>
   intro k hn hk
   simp only [oQ]
   rcases Nat.lt_or_ge k s.aK.length with h6 | h6
   ·rw [if_pos (bB h6),aM h6,qA,bM qb];split;(exact ⟨_,rfl,(h.2 _ (qG h6)).Seq⟩);·exact ih (k+1) qb qb
   ·rw [if_neg qc];exact ⟨_,rfl,sL⟩
 exact key fuel 0 (kD qb) qb
theorem Ti {l:List M.aK} {d q:Int} (h:l.length<=60 /\ ∀a∈l,M.aK.ok a) (hd:inI d) (hq:inI q) : ∃r,wY l d q=some r /\ ∀a∈r,M.aK.ok a:=by
 have hl:=h.1
 have ins : ∀(k:Nat),k<=l.length -> ∀a∈(List.take k l++[(⟨d,q⟩:M.aK)])++List.drop k l,M.aK.ok a:=by intro k hk a ha;simp only [qP,List.mem_singleton] at ha;rcases ha with (ha | rfl) | ha;(exact h.2 a (List.mem_of_mem_take ha));(exact ⟨hd,hq⟩);·exact h.2 a (List.mem_of_mem_drop ha)
 have fin : ∀(k:Nat),k<=l.length -> ∃r,((xE l (k:Int)).bind λaa=>((app 16 ([]:List M.aK) (List.take (k:Int).toNat l)).bind λae=>((app 16 (List.take (k:Int).toNat l) ([(⟨d,q⟩:M.aK)])).bind λaf=>((Ak l (k:Int)).bind λah=>((app 16 ((List.take (k:Int).toNat l)++[(⟨d,q⟩:M.aK)]) (List.drop (k:Int).toNat l)).bind λai=>(some (((List.take (k:Int).toNat l)++[(⟨d,q⟩:M.aK)])++(List.drop (k:Int).toNat l))))))))=some r /\ ∀a∈r,M.aK.ok a:=by intro k hk;rw [AJ hk,qA,qH,IY (by rw [qT];omega) qb,qA,wP qu qb,qA,Jc hk,qA,wP qo qb,qA];exact ⟨_,rfl,ins k hk⟩
 have key : ∀(n k:Nat),l.length-k<n->k<=l.length -> ∃r,oS l d q n (k:Int)=some r /\ ∀a∈r,M.aK.ok a:=by
  intro n
  induction n with
  | zero=>intro k h _;omega
  | succ n ih =>
   intro k hn hk
   simp only [oS]
   rcases Nat.lt_or_ge k l.length with h6 | h6
   ·rw [if_pos (bB h6),aM h6,qA,bM qb];split;(exact ih (k+1) qb qb);split;(refine ⟨_,rfl,λa ha => ?_⟩;rcases List.mem_or_eq_of_mem_set ha with ha | rfl;(exact h.2 a ha);·exact ⟨(h.2 _ (qG h6)).aAK,hq⟩);·exact fin k hk
   ·rw [if_neg qc];exact fin k hk
 unfold wY
 rw [IY qb qb,qA]
 exact key fuel 0 (kD qb) qb
theorem Po {s:M.aA} {w:M.bA} (hs:gE s=true):gE (IL s w).1=true:=by
 cases h2:(IL s w).2 with
 | false=>rw [HS h2];exact hs
 | true =>
  unfold IL at h2 ⊢
  by_cases h1:(FE (iS s w.Key) w.Field w.N).2=true
  ·rw [if_pos h1] at h2 ⊢;exact Bc (CB h1) h2
  ·rw [if_neg h1] at h2;cases h2
theorem recv {n:Nat} {s:M.aAI} {w:M.bA} (h:svI n s) (hn:n<=900) (hw:wsm w) : ∃x,cN s w=some x/\svI (n+1) x.1:=by
 have hm:=h.mono (Nat.le_succ n)
 have hz:=mV h.2.1
 have hc:=h.2.2.2.1
 unfold cN
 rw [OO h qb,qA,yF (h.ok qb),qA]
 cases Cv s
 ·exact ⟨_,rfl,hm⟩
 rw [if_neg qd,wS hw.1,qA]
 cases A9 w
 ·exact ⟨_,rfl,hm⟩
 rw [if_neg qd]
 obtain ⟨r,er,hr⟩:=Ti h.2.2.1 hw.1.aAK hw.1.Seq
 obtain ⟨v,ev,hv⟩:=GP (s:=s) (d:=w.aAK) h.2.2.1
 rw [er,qA,ev,qA]
 by_cases aa:(r.length:Int)>60
 ·rw [if_pos (by simpa using aa)];exact ⟨_,rfl,hm⟩
 rw [if_neg (by simpa using aa)]
 split
 ·exact ⟨_,rfl,hm⟩
 split
 ·exact ⟨_,rfl,hm⟩
 have hch : ∀y∈s.aAZ++[w],wsm y:=λy hy=>by rcases List.mem_append.1 hy with hy | hy;(exact h.2.2.2.2 y hy);·rw [List.mem_singleton.1 hy];exact hw
 have hlen:(s.aAZ++[w]).length<=n+1:=by simp only [qE,qJ,qK];omega
 rw [xP h.1 hw.1 qb,qA,wP qs qb,qA]
 split
 ·exact ⟨_,rfl,(GL h.1 hw.1 qb).1,Po h.2.1,⟨qg,hr⟩,hlen,hch⟩
 ·exact ⟨_,rfl,h.1,h.2.1,⟨qg,hr⟩,hlen,hch⟩
theorem H0 {b:List Int} {i h:Int} (c0:okC b i h):Dr b (svI 5) (pW (⟨b,i,h⟩:M.aQ)):=by
 unfold pW
 refine .bnd (Ct qe qe c0) λi0 v0 s0 aa q0=>.bnd (aV aa) λi1 v1 r1 c1 q1 => ?_
 obtain ⟨N,rfl⟩:=zB q1.1
 have hN:=q1.2.1 qb
 refine yD (L:=λn v (s:(M.aAI)×Int×Int)=>jD (⟨b,i,h⟩:M.aQ) n v s.1.aA.Name s.1.aA.aAd s.2.1 s.2.2 s.1.aA.aAD s.1.aK s.1.aAZ) (I:=λk s=>k<=100000/\okC b s.2.1 s.2.2/\k<=5/\svI (5-k) s.1) (Q:=Dr b (svI 5)) (λn k s hi ih => ?_) (λn s hi => ?_) fuel N ((⟨s0,([]:List M.aK),([]:List M.bA)⟩:M.aAI),i1,v1) (kD qb) ⟨qb,c1,⟨qb,q0.1,q0.2.1,⟨qd,qd⟩,qd,qd⟩⟩
 ·obtain ⟨x,ci,ch⟩:=s
  obtain ⟨k0,k1,k2⟩:=hi
  dsimp only at k1 k2
  simp only [jD]
  rw [if_pos (Of k),Gy k0]
  obtain ⟨k2,k3⟩:=k2
  refine .bnd (aV k1) λi3 v3 r3 c3 q3 => ?_
  dsimp only
  rw [show (⟨(⟨x.aA.Name,x.aA.aAD,x.aA.aAd⟩:M.aA),x.aK,x.aAZ⟩:M.aAI)=x from rfl]
  refine .Ep (GP k3.2.2.1) λv hv=>.bnd (uC c3) λi4 v4 r4 c4 q4=>.bnd (wG c4) λi5 v5 r5 c5 q5=>.bnd (aV c5) λi6 v6 r6 c6 q6=>.Ep (recv k3 qb (C8 (bH _) (bH _) q4.any (Nat.le_trans q5 qb) (bgI (Rb q6)))) λy hy => ?_
  exact ih (y.1,i6,v6) ⟨qb,c6,qb,hy.mono qb⟩
 ·obtain ⟨x,ci,ch⟩:=s;obtain ⟨k0,k1,k2⟩:=hi;dsimp only at k1 k2;simp only [jD];rw [if_neg Gm];exact .ret k1 (k2.2.mono qb)
def rpI (r:M.aG):Prop:=r.aAU.ok/\M.aA.sz r.aAU<=10000/\inI r.aAu/\obI r.aAT.aH/\inI r.aAT.aAm/\inI r.aAT.aAb
theorem rpI.ok {r:M.aG} (h:rpI r):r.ok:=⟨h.1,h.2.2.1,h.2.2.2.1.ok,h.2.2.2.2.1,h.2.2.2.2.2⟩
theorem rpI.sz {r:M.aG} (h:rpI r):M.aG.sz r<=11000:=by have h1:=h.2.1;have h2:=h.2.2.2.1.sz;simp only [M.aG.sz,M.aAT.sz];omega
theorem JW:rpI (⟨(⟨(⟨#[]⟩:ByteArray),([]:List M.aAQ),0⟩:M.aA),0,(⟨(⟨0,0,([]:List M.bA)⟩:M.aH),0,0⟩:M.aAT)⟩:M.aG):=⟨⟨s16 qe,⟨by simp [maxLen],qd⟩,sL⟩,qe,sL,K7 sL sL,sL,sL⟩
theorem UC {n:Nat} {s:M.aAI} {d:Int} (h:svI n s) (hn:n<=900) (hd:inI d) : ∃x,sZ s d=some x/\rpI x.1:=by have hz:=mV h.2.1;have hc:=h.2.2.2.1;obtain ⟨o,eo,ho,_⟩:=Sp hd;have hr:rpI (⟨s.aA,(List.length s.aAZ:Int),(⟨o.1,0,0⟩:M.aAT)⟩:M.aG):=⟨h.1,hz,bgI qg,ho,sL,sL⟩;unfold sZ;rw [eo,qA,mK _ qb,qA];cases o.2;(exact ⟨_,rfl,JW⟩);rw [if_neg qd,yF (h.ok qb),qA];cases Cv s;(exact ⟨_,rfl,JW⟩);rw [if_neg qd,xL hr.ok,qA];cases zR (⟨s.aA,(List.length s.aAZ:Int),(⟨o.1,0,0⟩:M.aAT)⟩:M.aG);(exact ⟨_,rfl,JW⟩);·exact ⟨_,rfl,hr⟩
theorem JC {r:M.aG} {k:M.Key} {f:ByteArray} {n:Int} (h:rpI r) (hk:JJ k) (hf:f.size<=16) (hn:inI n) : ∃x,jN r k f n=some x/\rpI x.1:=by refine ⟨_,Fz h.ok (by have:=h.sz;omega) hk.1 (s16 hf) hn,?_⟩;unfold nWL;split;(exact ⟨h.1,h.2.1,h.2.2.1,Pb h.2.2.2.1 hk hf hn,h.2.2.2.2.1,h.2.2.2.2.2⟩);·exact h
theorem TR {l:List M.bA} : ∀ {s:M.aA},s.ok->gE s=true->(∀w∈l,M.bA.ok w)->(A0 s l).ok/\gE (A0 s l)=true:=by
 induction l with
 | nil=>intro s hs hn _;exact ⟨hs,hn⟩
 | cons w l ih =>
  intro s hs hn hl
  have hz:=mV hn
  exact ih (s:=(IL s w).1) (GL hs (hl w qd) qb).1 (Po hn) λy hy=>hl y (by simp [hy])
theorem SY {n:Nat} {r:M.aG} {s:M.aAI} (h:rpI r) (hs:svI n s) (hn:n<=900) : ∃x,rY r s=some x/\rpI x.1:=by
 have hc:=hs.2.2.2.1
 unfold rY
 rw [Ba _ (by have:=h.sz;omega),qA,xL h.ok,qA]
 cases hR:zR r
 ·exact ⟨_,rfl,h⟩
 rw [if_neg qd,yF (hs.ok qb),qA]
 cases Cv s
 ·exact ⟨_,rfl,h⟩
 rw [if_neg qd]
 by_cases hgt:r.aAu>(s.aAZ.length:Int)
 ·rw [if_pos (by simpa using hgt)];exact ⟨_,rfl,h⟩
 rw [if_neg (by simpa using hgt)]
 unfold zR inR at hR
 simp only [qM,qL] at hR
 obtain ⟨k,ek⟩:=zB hR.2.2.1.1
 rw [ek] at hgt ⊢
 have hbs:=mV hR.1
 have hd : ∀w∈List.drop k s.aAZ,M.bA.ok w:=λw hw=>(hs.2.2.2.2 w (List.mem_of_mem_drop hw)).1
 obtain ⟨a1,a2⟩:=TR h.1 hR.1 hd
 obtain ⟨v,ev,hv⟩:=GP (s:=s) (d:=r.aAT.aH.aAK) hs.2.2.1
 obtain ⟨y,ey,y1,_⟩:=Pw (q:=v) h.2.2.2.1
 rw [Jc qb,qA,qH,Cp h.1 (ml (by rw [qU];omega)) hd qb,qA,ev,qA,ey,qA]
 exact ⟨_,rfl,a1,mV a2,bgI qg,y1,h.2.2.2.2.1,h.2.2.2.2.2⟩
theorem UE {a c:Int} (ha:inI a) (hc:inI c) : ∃r,gA a c=some r/\inI r:=by unfold gA;split;(exact ⟨_,rfl,hc⟩);·exact ⟨_,rfl,ha⟩
theorem VW {c:Int} : ∃r,gA 60 c=some r/\r<=60/\(inI c->inI r):=by unfold gA;split;(rename_i h;exact ⟨_,rfl,by have:=of_decide_eq_true h;omega,λh=>h⟩);·exact ⟨_,rfl,qb,λ_=>bgI qh⟩
theorem Tf {t:Int} (ht:t<=60) : ∃r,gM t=some r:=by
 have key : ∀(n k:Nat) (v:Int),100-k<n->k<=99 -> ∃r,lV t n v (k:Int)=some r:=by
  intro n
  induction n with
  | zero=>intro k v h _;omega
  | succ n ih =>
   intro k v hn hk
   simp only [lV]
   split
   ·rename_i h;have:=of_decide_eq_true h;split;(rw [bM qb];exact ih (k+1) _ qb qb);·exact ⟨_,rfl⟩
   ·exact ⟨_,rfl⟩
 exact key fuel 0 1 (kD qb) qb
def Op' {α:Type} (P:α->Prop) (o:Option α):Prop:=∃r,o=some r/\P r
theorem Op'.bnd {α β:Type} {P:β->Prop} {Q:α->Prop} {o:Option α} {f:α->Option β} (ho : ∃r,o=some r/\Q r) (hf : ∀r,Q r->Op' P (f r)):Op' P (o.bind f):=by obtain ⟨r,rfl,hq⟩:=ho;exact hf r hq
def syI (n:Nat) (x:M.aAT×M.aAI×Int):Prop:=obI x.1.aH/\inI x.1.aAm/\inI x.1.aAb/\svI n x.2.1
theorem T0 {n:Nat} {y:M.aAT} {s:M.aAI} {now fate:Int} (hy:obI y.aH) (ht:inI y.aAm) (hw:inI y.aAb) (hs:svI n s) (hn:n<=800):Op' (syI (n+2)) (vT y s now fate):=by
 have hs1:=hs.mono (Nat.le_succ n)
 have hs2:=hs.mono (show n<=n+2 by omega)
 have hz:=hy.sz
 have ack : ∀ {q:Int},∃x,cO y.aH q=some x/\obI x.1:=λ{q}=>by obtain ⟨x,e,h,_⟩:=Pw (q:=q) hy;exact ⟨x,e,h⟩
 have fail : ∀ {x:M.aAI} {f:Int->Option (M.aAT×M.aAI×Int)},svI (n+2) x->(f=λae=>((gA 60 (IntKind.i64.wrap (ae+1))).bind λaa=>((gM aa).bind λaf=>(some ((⟨y.aH,aa,(IntKind.i64.wrap (now+af))⟩:M.aAT),x,2)))))->Op' (syI (n+2)) ((gA 59 y.aAm).bind f):=by
  intro x f hx hf
  subst hf
  refine .bnd (UE (bgI qh) ht) λt1 h1=>.bnd VW λt2 h2 => ?_
  obtain ⟨r,er⟩:=Tf h2.1
  rw [er,qA]
  exact ⟨_,rfl,hy,h2.2 (bH _),bH _,hx⟩
 unfold vT sD wJ
 rw [zP _ qb,qA,qA,OO hs qb,mT hy.ok]
 have same:syI (n+2) (y,s,0):=⟨hy,ht,hw,hs2⟩
 cases hW:y.aH.aAP with
 | nil=>exact ⟨_,rfl,same⟩
 | cons w ws =>
  have hww:wsm w:=hy.2.2.2 w (by rw [hW];simp)
  rw [if_neg qc,show idx (w::ws) 0=some w from rfl]
  simp only [qA]
  rw [if_neg qd]
  cases oU y.aH
  ·exact ⟨_,rfl,same⟩
  rw [if_neg qd]
  split
  ·exact ⟨_,rfl,same⟩
  rw [bX,qA]
  split
  ·exact ⟨_,rfl,same⟩
  have good : ∀ {x:M.aAT×M.aAI×Int},obI x.1.aH->inI x.1.aAm->inI x.1.aAb->svI (n+2) x.2.1->Op' (syI (n+2)) (some x):=λa1 a2 a3 a4=>⟨_,rfl,a1,a2,a3,a4⟩
  have two : ∀ {a:M.aAI} {c:Int},svI (n+1) a->svI (n+2) a:=λh=>h.mono qb
  split
  ·refine .bnd (recv hs qb hww) λx1 h1 => ?_
   split
   ·refine .bnd (recv h1 qb hww) λx2 h2 => ?_
    split
    ·exact .bnd ack λq hq=>good hq sL sL h2
    split
    ·exact .bnd ack λq hq=>good hq sL sL h2
    ·exact fail h2 rfl
   ·split;(exact .bnd ack λq hq=>good hq sL sL (h1.mono qb));split;(exact .bnd ack λq hq=>good hq sL sL (h1.mono qb));·exact fail (h1.mono qb) rfl
  split
  ·refine .bnd (recv hs qb hww) λx1 h1 => ?_
   split
   ·refine .bnd (recv h1 qb hww) λx2 h2 => ?_
    split
    ·exact .bnd ack λq hq=>good hq sL sL h2
    split
    ·exact .bnd ack λq hq=>good hq sL sL h2
    ·exact fail h2 rfl
   ·exact fail (h1.mono qb) rfl
  split
  ·refine .bnd (recv hs qb hww) λx1 h1=>.bnd (recv h1 qb hww) λx2 h2 => ?_
   split
   ·exact .bnd ack λq hq=>good hq sL sL h2
   split
   ·exact .bnd ack λq hq=>good hq sL sL h2
   ·exact fail h2 rfl
  ·exact fail hs2 rfl
def prI (n:Nat) (x:M.aG×M.aAI):Prop:=rpI x.1/\svI n x.2
theorem Qh {b:List Int} {i h:Int} (c0:okC b i h):Dr b (prI 20) (xJ (⟨b,i,h⟩:M.aQ)):=by
 unfold xJ
 refine .bnd (H0 c0) λi0 v0 s0 aa q0=>.Ep (UC q0 qb (bgI qh)) λr0 h0=>.bnd (aV aa) λi1 v1 r1 c1 q1 => ?_
 obtain ⟨N,rfl⟩:=zB q1.1
 have hN:=q1.2.1 qb
 refine yD (L:=λn v (s:(M.aG×M.aAI)×Int×Int)=>eK (⟨b,i,h⟩:M.aQ) n v s.1.1.aAU.Name s.1.1.aAU.aAd s.1.1.aAu s.1.1.aAT.aH.aAK s.1.1.aAT.aH.aAh s.1.1.aAT.aAm s.1.1.aAT.aAb s.2.1 s.2.2 s.1.2.aA.Name s.1.2.aA.aAd s.1.1.aAU.aAD s.1.1.aAT.aH.aAP s.1.2.aA.aAD s.1.2.aK s.1.2.aAZ) (I:=λk s=>k<=100000/\okC b s.2.1 s.2.2/\k<=5/\prI (15-2*k) s.1) (Q:=Dr b (prI 20)) (λn k s hi ih => ?_) (λn s hi => ?_) fuel N ((r0.1,s0),i1,v1) (kD qb) ⟨qb,c1,⟨qb,h0,q0.mono qb⟩⟩
 ·obtain ⟨x,ci,ch⟩:=s
  obtain ⟨k0,k1,k2⟩:=hi
  dsimp only at k1 k2
  simp only [eK]
  rw [if_pos (Of k),Gy k0]
  obtain ⟨k2,k3,k4⟩:=k2
  rw [show (⟨(⟨x.1.aAU.Name,x.1.aAU.aAD,x.1.aAU.aAd⟩:M.aA),x.1.aAu,(⟨(⟨x.1.aAT.aH.aAK,x.1.aAT.aH.aAh,x.1.aAT.aH.aAP⟩:M.aH),x.1.aAT.aAm,x.1.aAT.aAb⟩:M.aAT)⟩:M.aG)=x.1 from rfl,show (⟨(⟨x.2.aA.Name,x.2.aA.aAD,x.2.aA.aAd⟩:M.aA),x.2.aK,x.2.aAZ⟩:M.aAI)=x.2 from rfl]
  refine .bnd (aV k1) λi3 v3 r3 c3 q3 => ?_
  dsimp only
  split
  ·refine .bnd (uC c3) λi4 v4 r4 c4 q4=>.bnd (wG c4) λi5 v5 r5 c5 q5=>.bnd (aV c5) λi6 v6 r6 c6 q6=>.Ep (JC k3 q4.any (Nat.le_trans q5 qb) (bgI (Rb q6))) λy hy => ?_
   exact ih ((y.1,x.2),i6,v6) ⟨qb,c6,qb,hy,k4.mono qb⟩
  split
  ·refine .bnd (uC c3) λi4 v4 r4 c4 q4=>.bnd (wG c4) λi5 v5 r5 c5 q5=>.bnd (aV c5) λi6 v6 r6 c6 q6=>.Ep (JC k3 q4.any (Nat.le_trans q5 qb) (bgI (Rb q6))) λy hy => ?_
   exact ih ((y.1,x.2),i6,v6) ⟨qb,c6,qb,hy,k4.mono qb⟩
  split
  ·refine .bnd (aV c3) λi4 v4 r4 c4 q4=>.Ep (T0 (y:=x.1.aAT) k3.2.2.2.1 k3.2.2.2.2.1 k3.2.2.2.2.2 k4 qb) λy hy => ?_
   exact ih (((⟨x.1.aAU,x.1.aAu,y.1⟩:M.aG),y.2.1),i4,v4) ⟨qb,c4,qb,⟨k3.1,k3.2.1,k3.2.2.1,hy.1,hy.2.1,hy.2.2.1⟩,hy.2.2.2.mono qb⟩
  split
  ·refine .bnd (aV c3) λi4 v4 r4 c4 q4=>.Ep (GP k4.2.2.1) λv hv=>.bnd (uC c4) λi5 v5 r5 c5 q5=>.bnd (wG c5) λi6 v6 r6 c6 q6=>.bnd (aV c6) λi7 v7 r7 c7 q7=>.Ep (recv k4 qb (C8 (bH _) (bH _) q5.any (Nat.le_trans q6 qb) (bgI (Rb q7)))) λy hy => ?_
   exact ih ((x.1,y.1),i7,v7) ⟨qb,c7,qb,k3,hy.mono qb⟩
  ·refine .Ep (SY k3 k4 qb) λy hy => ?_
   exact ih ((y.1,x.2),i3,v3) ⟨qb,c3,qb,hy,k4.mono qb⟩
 ·obtain ⟨x,ci,ch⟩:=s;obtain ⟨k0,k1,k2⟩:=hi;dsimp only at k1 k2;simp only [eK];rw [if_neg Gm];exact .ret k1 ⟨k2.2.1,k2.2.2.mono qb⟩
def QT (r:M.aG):Prop:=r.ok/\M.aG.sz r<=25000
theorem rpI.all {r:M.aG} (h:rpI r):QT r:=⟨h.ok,by have:=h.sz;omega⟩
theorem QR {b:List Int} {i h:Int} (c0:okC b i h):Dr b QT (yK (⟨b,i,h⟩:M.aQ)):=by
 unfold yK
 refine .bnd (Qh c0) λi1 v1 r1 c1 q1=>.bnd (aV c1) λi2 v2 r2 c2 q2 => ?_
 dsimp only
 have hr:=q1.1
 have hz:=hr.2.2.2.1.sz
 have hz1:=hr.2.1
 split
 ·refine .bnd (PH c2) λi3 v3 r3 c3 q3=>.ret c3 ⟨⟨q3.1,hr.2.2.1,hr.ok.aAT⟩,?_⟩
  have:=q3.2
  simp only [M.aG.sz,M.aAT.sz]
  omega
 split
 ·refine .bnd (nP (λx => -1000000000000000<=x/\x<=1000000000000000) qe qe c2) λi3 v3 r3 c3 q3=>.ret c3 ⟨⟨hr.1,bgI q3,hr.ok.aAT⟩,?_⟩
  simp only [M.aG.sz,M.aAT.sz]
  omega
 split
 ·refine .bnd (Rj c2) λi3 v3 r3 c3 q3=>.ret c3 ⟨⟨hr.1,hr.2.2.1,⟨q3.ok,hr.2.2.2.2.1,hr.2.2.2.2.2⟩⟩,?_⟩
  have:=q3.sz
  simp only [M.aG.sz,M.aAT.sz]
  omega
 ·exact .ret c2 hr.all
def nbI (x:M.aO):Prop:=x.aAO.size<=16/\x.Top.size<=16/\(M.aAC.ok x.aAC/\x.aAC.aAO.size<=16)/\Am x.aAE/\(x.cR.ok/\M.cR.sz x.cR<=1000)/\rpI x.aG/\inI x.aAk
theorem Jn:Oh (⟨(⟨#[110,111,116,101,115]⟩:ByteArray),([]:List M.aAQ),0⟩:M.aA):=SB qe qe
theorem U3 {a t:ByteArray} {d:Int} (ha:a.size<=16) (ht:t.size<=16) (hd:inI d) : ∃x,pO a t d=some x/\nbI x.1:=by refine ⟨_,GC (s16 ha) (s16 ht) hd,?_⟩;have hz:nbI zC:=⟨qe,qe,⟨⟨s16 qe,sL,sL,sL⟩,qe⟩,PY,⟨(OJ).cR,qe⟩,JW,sL⟩;unfold TV;split;(split;(have ok:=MG (s16 ha) (s16 ht) hd;exact ⟨ha,ht,⟨ok.aAC,ha⟩,PY,⟨ok.cR,by show M.cR.sz (C4 (⟨#[]⟩:ByteArray) (⟨#[]⟩:ByteArray) 0).cR<=1000;decide⟩,⟨Jn.1,mV Jn.2.1,sL,K7 hd MK,sL,sL⟩,sL⟩);·exact hz);·exact hz
def bkI (x:M.aO):Prop:=x.aAO.size<=16/\x.Top.size<=16/\(M.aAC.ok x.aAC/\x.aAC.aAO.size<=16)/\J4 x.aAE/\Mj x.cR/\QT x.aG/\inI x.aAk
theorem bkI.ok {x:M.aO} (h:bkI x):x.ok:=⟨s16 h.1,s16 h.2.1,h.2.2.1.1,h.2.2.2.1.1,h.2.2.2.2.1.1,h.2.2.2.2.2.1.1,h.2.2.2.2.2.2⟩
theorem bkI.sz {x:M.aO} (h:bkI x):M.aO.sz x<=180000:=by obtain ⟨h1,h2,⟨_,h3⟩,⟨_,h4⟩,⟨_,h5⟩,⟨_,h6⟩,_⟩:=h;simp only [M.aO.sz,M.aAC.sz];omega
def MF (k:M.cR):Prop:=k.ok/\M.cR.sz k<=20000
def bkS (x:M.aO):Prop:=x.aAO.size<=16/\x.Top.size<=16/\(M.aAC.ok x.aAC/\x.aAC.aAO.size<=16)/\J4 x.aAE/\MF x.cR/\QT x.aG/\inI x.aAk
theorem MF.all {k:M.cR} (h:MF k):Mj k:=⟨h.1,by have:=h.2;omega⟩
theorem bkS.all {x:M.aO} (h:bkS x):bkI x:=⟨h.1,h.2.1,h.2.2.1,h.2.2.2.1,h.2.2.2.2.1.all,h.2.2.2.2.2⟩
theorem Wa {b:List Int} {i h:Int} {X:M.aO×Bool} {kd:M.cR} {N:Nat} {i1 v1:Int} (hX:nbI X.1) (hk:MF kd) (hN:N<=10) (c1:okC b i1 v1):Dr b bkS (eZ (⟨b,i,h⟩:M.aQ) X kd.aAU.Name kd.aAU.aAB kd.aAn kd.aAU.aAH kd.aAU.aAS kd.Log fuel (N:Int) X.1.aG.aAU.Name X.1.aG.aAU.aAd X.1.aG.aAu X.1.aG.aAT.aH.aAK X.1.aG.aAT.aH.aAh X.1.aG.aAT.aAm X.1.aG.aAT.aAb i1 v1 X.1.aG.aAU.aAD X.1.aG.aAT.aH.aAP):=by
 obtain ⟨h1,h2,h3,h4,h5,h6,h7⟩:=hX
 refine yD (L:=λn v (s:(M.aG)×Int×Int)=>eZ (⟨b,i,h⟩:M.aQ) X kd.aAU.Name kd.aAU.aAB kd.aAn kd.aAU.aAH kd.aAU.aAS kd.Log n v s.1.aAU.Name s.1.aAU.aAd s.1.aAu s.1.aAT.aH.aAK s.1.aAT.aH.aAh s.1.aAT.aAm s.1.aAT.aAb s.2.1 s.2.2 s.1.aAU.aAD s.1.aAT.aH.aAP) (I:=λk s=>k<=100000/\okC b s.2.1 s.2.2/\rpI s.1) (Q:=Dr b bkS) (λn k s hi ih => ?_) (λn s hi => ?_) fuel N (X.1.aG,i1,v1) (kD qb) ⟨qb,c1,h6⟩
 ·obtain ⟨x,ci,ch⟩:=s
  obtain ⟨k0,k1,k2⟩:=hi
  dsimp only at k1 k2
  simp only [eZ]
  rw [if_pos (Of k),Gy k0]
  refine .bnd (uC k1) λi3 v3 r3 c3 q3=>.bnd (wG c3) λi4 v4 r4 c4 q4=>.bnd (aV c4) λi5 v5 r5 c5 q5=>.Ep (JC (r:=x) k2 q3.any (Nat.le_trans q4 qb) (bgI (Rb q5))) λy hy => ?_
  exact ih (y.1,i5,v5) ⟨qb,c5,hy⟩
 ·obtain ⟨x,ci,ch⟩:=s
  obtain ⟨k0,k1,k2⟩:=hi
  dsimp only at k1 k2
  simp only [eZ]
  rw [if_neg Gm]
  have hkD:=hk
  have hl : ∀ {r:Int},(0<=r/\(0<(50:Int)->r<50)/\r<=16777215)->inI r:=λq=>bgI ⟨qb,qb⟩
  refine .bnd (xK k1) λi3 v3 r3 c3 q3 => ?_
  dsimp only
  split
  ·refine .bnd (aV c3) λi4 v4 r4 c4 q4=>.Ep (Jx h4 (bH _)) λy hy=>.bnd (aV c4) λi5 v5 r5 c5 q5=>.bnd (xK c5) λi6 v6 r6 c6 q6=>.ret c6 ⟨h1,h2,⟨⟨h3.1.aAO,h3.1.aAc,h3.1.aAl,bH _⟩,h3.2⟩,hy.all,hkD,k2.all,hl q5⟩
  ·exact .bnd (aV c3) λi5 v5 r5 c5 q5=>.bnd (xK c5) λi6 v6 r6 c6 q6=>.ret c6 ⟨h1,h2,h3,h4.all,hkD,k2.all,hl q5⟩
end Go.Proofs.YtipmihbgjolaaaaGreat.gen
