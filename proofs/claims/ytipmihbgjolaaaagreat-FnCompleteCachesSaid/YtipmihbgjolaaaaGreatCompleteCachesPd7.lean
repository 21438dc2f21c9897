/-
  Helper text. No conditions.
-/
import Derived.Test.YtipmihbgjolaaaaGreatCompleteCachesPd6
set_option linter.unusedVariables false
set_option linter.unusedSimpArgs false
namespace Go.Proofs.YtipmihbgjolaaaaGreat.gen
open Go Go.Sh
open Go.IntKind (i64)
theorem Yw {l:List M.aP} {d q:Int} (h:l.length<=60 /\ ∀a∈l,M.aP.ok a) (hd:inI d) (hq:inI q) : ∃r,AX l d q=some r /\ ∀a∈r,M.aP.ok a:=by
 have hl:=h.1
 have ins : ∀(k:Nat),k<=l.length -> ∀a∈(List.take k l++[(⟨d,q⟩:M.aP)])++List.drop k l,M.aP.ok a:=by intro k hk a ha;simp only [qP,List.mem_singleton] at ha;rcases ha with (ha | rfl) | ha;(exact h.2 a (List.mem_of_mem_take ha));(exact ⟨hd,hq⟩);·exact h.2 a (List.mem_of_mem_drop ha)
 have fin : ∀(k:Nat),k<=l.length -> ∃r,((An l (k:Int)).bind λaa=>((app 16 ([]:List M.aP) (List.take (k:Int).toNat l)).bind λae=>((app 16 (List.take (k:Int).toNat l) ([(⟨d,q⟩:M.aP)])).bind λaf=>((Cb l (k:Int)).bind λah=>((app 16 ((List.take (k:Int).toNat l)++[(⟨d,q⟩:M.aP)]) (List.drop (k:Int).toNat l)).bind λai=>(some (((List.take (k:Int).toNat l)++[(⟨d,q⟩:M.aP)])++(List.drop (k:Int).toNat l))))))))=some r /\ ∀a∈r,M.aP.ok a:=by intro k hk;rw [BG hk,qA,qH,Fe (by rw [qT];omega) qb,qA,AK qu qb,qA,Iu hk,qA,AK qo qb,qA];exact ⟨_,rfl,ins k hk⟩
 have key : ∀(n k:Nat),l.length-k<n->k<=l.length -> ∃r,tJ l d q n (k:Int)=some r /\ ∀a∈r,M.aP.ok a:=by
  intro n
  induction n with
  | zero=>intro k h _;omega
  | succ n ih =>
   intro k hn hk
   simp only [tJ]
   rcases Nat.lt_or_ge k l.length with h6 | h6
   ·rw [if_pos (aY h6),aK h6,qA,bD qb];split;(exact ih (k+1) qb qb);split;(refine ⟨_,rfl,λa ha => ?_⟩;rcases List.mem_or_eq_of_mem_set ha with ha | rfl;(exact h.2 a ha);·exact ⟨(h.2 _ (qG h6)).aGp,hq⟩);·exact fin k hk
   ·rw [if_neg qc];exact fin k hk
 unfold AX
 rw [Fe qb qb,qA]
 exact key fuel 0 (kE qb) qb
theorem T7 {s:M.aD} {w:M.bC} (hs:iI s=true):iI (Mz s w).1=true:=by
 cases h2:(Mz s w).2 with
 | false=>rw [Lr h2];exact hs
 | true =>
  unfold Mz at h2 ⊢
  by_cases h1:(Jn (kZ s w.Key) w.Field w.N).2=true
  ·rw [if_pos h1] at h2 ⊢;exact DW (FN h1) h2
  ·rw [if_neg h1] at h2;cases h2
theorem recv {n:Nat} {s:M.aGr} {w:M.bC} (h:svI n s) (hn:n<=900) (hw:wsm w) : ∃x,cY s w=some x/\svI (n+1) x.1:=by
 have hm:=h.mono (Nat.le_succ n)
 have hz:=pU h.2.1
 have hc:=h.2.2.2.1
 unfold cY
 rw [Tu h qb,qA,BE (h.ok qb),qA]
 cases FF s
 ·exact ⟨_,rfl,hm⟩
 rw [if_neg qd,AO hw.1,qA]
 cases DO w
 ·exact ⟨_,rfl,hm⟩
 rw [if_neg qd]
 obtain ⟨r,er,hr⟩:=Yw h.2.2.1 hw.1.aGp hw.1.Seq
 obtain ⟨v,ev,hv⟩:=Kr (s:=s) (d:=w.aGp) h.2.2.1
 rw [er,qA,ev,qA]
 by_cases aa:(r.length:Int)>60
 ·rw [if_pos (by simpa using aa)];exact ⟨_,rfl,hm⟩
 rw [if_neg (by simpa using aa)]
 split
 ·exact ⟨_,rfl,hm⟩
 split
 ·exact ⟨_,rfl,hm⟩
 have hch : ∀y∈s.aG9++[w],wsm y:=λy hy=>by rcases List.mem_append.1 hy with hy | hy;(exact h.2.2.2.2 y hy);·rw [List.mem_singleton.1 hy];exact hw
 have hlen:(s.aG9++[w]).length<=n+1:=by simp only [qE,qJ,qK];omega
 rw [Bi h.1 hw.1 qb,qA,AK qs qb,qA]
 split
 ·exact ⟨_,rfl,(Ko h.1 hw.1 qb).1,T7 h.2.1,⟨qg,hr⟩,hlen,hch⟩
 ·exact ⟨_,rfl,h.1,h.2.1,⟨qg,hr⟩,hlen,hch⟩
theorem LA {b:List Int} {i h:Int} (c0:okC b i h):Dr b (svI 5) (uY (⟨b,i,h⟩:M.aN)):=by
 unfold uY
 refine .bnd (FD qe qe c0) λi0 v0 s0 aa q0=>.bnd (aU aa) λi1 v1 r1 c1 q1 => ?_
 obtain ⟨N,rfl⟩:=AI q1.1
 have hN:=q1.2.1 qb
 refine BC (L:=λn v (s:(M.aGr)×Int×Int)=>lO (⟨b,i,h⟩:M.aN) n v s.1.aD.Name s.1.aD.aHD s.2.1 s.2.2 s.1.aD.aGk s.1.aP s.1.aG9) (I:=λk s=>k<=100000/\okC b s.2.1 s.2.2/\k<=5/\svI (5-k) s.1) (Q:=Dr b (svI 5)) (λn k s hi ih => ?_) (λn s hi => ?_) fuel N ((⟨s0,([]:List M.aP),([]:List M.bC)⟩:M.aGr),i1,v1) (kE qb) ⟨qb,c1,⟨qb,q0.1,q0.2.1,⟨qd,qd⟩,qd,qd⟩⟩
 ·obtain ⟨x,ci,ch⟩:=s
  obtain ⟨k0,k1,k2⟩:=hi
  dsimp only at k1 k2
  simp only [lO]
  rw [if_pos (SU k),Kc k0]
  obtain ⟨k2,k3⟩:=k2
  refine .bnd (aU k1) λi3 v3 r3 c3 q3 => ?_
  dsimp only
  rw [show (⟨(⟨x.aD.Name,x.aD.aGk,x.aD.aHD⟩:M.aD),x.aP,x.aG9⟩:M.aGr)=x from rfl]
  refine .E0 (Kr k3.2.2.1) λv hv=>.bnd (yO c3) λi4 v4 r4 c4 q4=>.bnd (Ay c4) λi5 v5 r5 c5 q5=>.bnd (aU c5) λi6 v6 r6 c6 q6=>.E0 (recv k3 qb (Gw (bH _) (bH _) q4.any (Nat.le_trans q5 qb) (bgI (V6 q6)))) λy hy => ?_
  exact ih (y.1,i6,v6) ⟨qb,c6,qb,hy.mono qb⟩
 ·obtain ⟨x,ci,ch⟩:=s;obtain ⟨k0,k1,k2⟩:=hi;dsimp only at k1 k2;simp only [lO];rw [if_neg J1];exact .ret k1 (k2.2.mono qb)
def rpI (r:M.aH):Prop:=r.aG4.ok/\M.aD.sz r.aG4<=10000/\inI r.aHS/\obI r.aG5.aM/\inI r.aG5.aHL/\inI r.aG5.aHB
theorem rpI.ok {r:M.aH} (h:rpI r):r.ok:=⟨h.1,h.2.2.1,h.2.2.2.1.ok,h.2.2.2.2.1,h.2.2.2.2.2⟩
theorem rpI.sz {r:M.aH} (h:rpI r):M.aH.sz r<=11000:=by have h1:=h.2.1;have h2:=h.2.2.2.1.sz;simp only [M.aH.sz,M.aG5.sz];omega
theorem NV:rpI (⟨(⟨(⟨#[]⟩:ByteArray),([]:List M.aG1),0⟩:M.aD),0,(⟨(⟨0,0,([]:List M.bC)⟩:M.aM),0,0⟩:M.aG5)⟩:M.aH):=⟨⟨s16 qe,⟨by simp [maxLen],qd⟩,wU⟩,qe,wU,Pk wU wU,wU,wU⟩
theorem ZQ {n:Nat} {s:M.aGr} {d:Int} (h:svI n s) (hn:n<=900) (hd:inI d) : ∃x,xH s d=some x/\rpI x.1:=by have hz:=pU h.2.1;have hc:=h.2.2.2.1;obtain ⟨o,eo,ho,_⟩:=Xq hd;have hr:rpI (⟨s.aD,(List.length s.aG9:Int),(⟨o.1,0,0⟩:M.aG5)⟩:M.aH):=⟨h.1,hz,bgI qg,ho,wU,wU⟩;unfold xH;rw [eo,qA,nG _ qb,qA];cases o.2;(exact ⟨_,rfl,NV⟩);rw [if_neg qd,BE (h.ok qb),qA];cases FF s;(exact ⟨_,rfl,NV⟩);rw [if_neg qd,Be hr.ok,qA];cases Ci (⟨s.aD,(List.length s.aG9:Int),(⟨o.1,0,0⟩:M.aG5)⟩:M.aH);(exact ⟨_,rfl,NV⟩);·exact ⟨_,rfl,hr⟩
theorem Nz {r:M.aH} {k:M.Key} {f:ByteArray} {n:Int} (h:rpI r) (hk:NH k) (hf:f.size<=16) (hn:inI n) : ∃x,mA r k f n=some x/\rpI x.1:=by refine ⟨_,Ji h.ok (by have:=h.sz;omega) hk.1 (s16 hf) hn,?_⟩;unfold nWL;split;(exact ⟨h.1,h.2.1,h.2.2.1,TS h.2.2.2.1 hk hf hn,h.2.2.2.2.1,h.2.2.2.2.2⟩);·exact h
theorem Y6 {l:List M.bC} : ∀ {s:M.aD},s.ok->iI s=true->(∀w∈l,M.bC.ok w)->(DH s l).ok/\iI (DH s l)=true:=by
 induction l with
 | nil=>intro s hs hn _;exact ⟨hs,hn⟩
 | cons w l ih =>
  intro s hs hn hl
  have hz:=pU hn
  exact ih (s:=(Mz s w).1) (Ko hs (hl w qd) qb).1 (T7 hn) λy hy=>hl y (by simp [hy])
theorem X0 {n:Nat} {r:M.aH} {s:M.aGr} (h:rpI r) (hs:svI n s) (hn:n<=900) : ∃x,wJ r s=some x/\rpI x.1:=by
 have hc:=hs.2.2.2.1
 unfold wJ
 rw [DT _ (by have:=h.sz;omega),qA,Be h.ok,qA]
 cases hR:Ci r
 ·exact ⟨_,rfl,h⟩
 rw [if_neg qd,BE (hs.ok qb),qA]
 cases FF s
 ·exact ⟨_,rfl,h⟩
 rw [if_neg qd]
 by_cases hgt:r.aHS>(s.aG9.length:Int)
 ·rw [if_pos (by simpa using hgt)];exact ⟨_,rfl,h⟩
 rw [if_neg (by simpa using hgt)]
 unfold Ci inR at hR
 simp only [qM,qL] at hR
 obtain ⟨k,ek⟩:=AI hR.2.2.1.1
 rw [ek] at hgt ⊢
 have hbs:=pU hR.1
 have hd : ∀w∈List.drop k s.aG9,M.bC.ok w:=λw hw=>(hs.2.2.2.2 w (List.mem_of_mem_drop hw)).1
 obtain ⟨a1,a2⟩:=Y6 h.1 hR.1 hd
 obtain ⟨v,ev,hv⟩:=Kr (s:=s) (d:=r.aG5.aM.aGp) hs.2.2.1
 obtain ⟨y,ey,y1,_⟩:=Ug (q:=v) h.2.2.2.1
 rw [Iu qb,qA,qH,Fx h.1 (ml (by rw [qU];omega)) hd qb,qA,ev,qA,ey,qA]
 exact ⟨_,rfl,a1,pU a2,bgI qg,y1,h.2.2.2.2.1,h.2.2.2.2.2⟩
theorem ZS {a c:Int} (ha:inI a) (hc:inI c) : ∃r,iB a c=some r/\inI r:=by unfold iB;split;(exact ⟨_,rfl,hc⟩);·exact ⟨_,rfl,ha⟩
theorem aBN {c:Int} : ∃r,iB 60 c=some r/\r<=60/\(inI c->inI r):=by unfold iB;split;(rename_i h;exact ⟨_,rfl,by have:=of_decide_eq_true h;omega,λh=>h⟩);·exact ⟨_,rfl,qb,λ_=>bgI qh⟩
theorem Yq {t:Int} (ht:t<=60) : ∃r,iS t=some r:=by
 have key : ∀(n k:Nat) (v:Int),100-k<n->k<=99 -> ∃r,oT t n v (k:Int)=some r:=by
  intro n
  induction n with
  | zero=>intro k v h _;omega
  | succ n ih =>
   intro k v hn hk
   simp only [oT]
   split
   ·rename_i h;have:=of_decide_eq_true h;split;(rw [bD qb];exact ih (k+1) _ qb qb);·exact ⟨_,rfl⟩
   ·exact ⟨_,rfl⟩
 exact key fuel 0 1 (kE qb) qb
def Op' {α:Type} (P:α->Prop) (o:Option α):Prop:=∃r,o=some r/\P r
theorem Op'.bnd {α β:Type} {P:β->Prop} {Q:α->Prop} {o:Option α} {f:α->Option β} (ho : ∃r,o=some r/\Q r) (hf : ∀r,Q r->Op' P (f r)):Op' P (o.bind f):=by obtain ⟨r,rfl,hq⟩:=ho;exact hf r hq
def syI (n:Nat) (x:M.aG5×M.aGr×Int):Prop:=obI x.1.aM/\inI x.1.aHL/\inI x.1.aHB/\svI n x.2.1
theorem Ze {n:Nat} {y:M.aG5} {s:M.aGr} {now fate:Int} (hy:obI y.aM) (ht:inI y.aHL) (hw:inI y.aHB) (hs:svI n s) (hn:n<=800):Op' (syI (n+2)) (Ag y s now fate):=by
 have hs1:=hs.mono (Nat.le_succ n)
 have hs2:=hs.mono (show n<=n+2 by omega)
 have hz:=hy.sz
 have ack : ∀ {q:Int},∃x,dA y.aM q=some x/\obI x.1:=λ{q}=>by obtain ⟨x,e,h,_⟩:=Ug (q:=q) hy;exact ⟨x,e,h⟩
 have fail : ∀ {x:M.aGr} {f:Int->Option (M.aG5×M.aGr×Int)},svI (n+2) x->(f=λae=>((iB 60 (i64.wrap (ae+1))).bind λaa=>((iS aa).bind λaf=>(some ((⟨y.aM,aa,(i64.wrap (now+af))⟩:M.aG5),x,2)))))->Op' (syI (n+2)) ((iB 59 y.aHL).bind f):=by
  intro x f hx hf
  subst hf
  refine .bnd (ZS (bgI qh) ht) λt1 h1=>.bnd aBN λt2 h2 => ?_
  obtain ⟨r,er⟩:=Yq h2.1
  rw [er,qA]
  exact ⟨_,rfl,hy,h2.2 (bH _),bH _,hx⟩
 unfold Ag wN AD
 rw [Cf _ qb,qA,qA,Tu hs qb,pS hy.ok]
 have same:syI (n+2) (y,s,0):=⟨hy,ht,hw,hs2⟩
 cases hW:y.aM.aG0 with
 | nil=>exact ⟨_,rfl,same⟩
 | cons w ws =>
  have hww:wsm w:=hy.2.2.2 w (by rw [hW];simp)
  rw [if_neg qc,show idx (w::ws) 0=some w from rfl]
  simp only [qA]
  rw [if_neg qd]
  cases tN y.aM
  ·exact ⟨_,rfl,same⟩
  rw [if_neg qd]
  split
  ·exact ⟨_,rfl,same⟩
  rw [cF,qA]
  split
  ·exact ⟨_,rfl,same⟩
  have good : ∀ {x:M.aG5×M.aGr×Int},obI x.1.aM->inI x.1.aHL->inI x.1.aHB->svI (n+2) x.2.1->Op' (syI (n+2)) (some x):=λa1 a2 a3 a4=>⟨_,rfl,a1,a2,a3,a4⟩
  have two : ∀ {a:M.aGr} {c:Int},svI (n+1) a->svI (n+2) a:=λh=>h.mono qb
  split
  ·refine .bnd (recv hs qb hww) λx1 h1 => ?_
   split
   ·refine .bnd (recv h1 qb hww) λx2 h2 => ?_
    split
    ·exact .bnd ack λq hq=>good hq wU wU h2
    split
    ·exact .bnd ack λq hq=>good hq wU wU h2
    ·exact fail h2 rfl
   ·split;(exact .bnd ack λq hq=>good hq wU wU (h1.mono qb));split;(exact .bnd ack λq hq=>good hq wU wU (h1.mono qb));·exact fail (h1.mono qb) rfl
  split
  ·refine .bnd (recv hs qb hww) λx1 h1 => ?_
   split
   ·refine .bnd (recv h1 qb hww) λx2 h2 => ?_
    split
    ·exact .bnd ack λq hq=>good hq wU wU h2
    split
    ·exact .bnd ack λq hq=>good hq wU wU h2
    ·exact fail h2 rfl
   ·exact fail (h1.mono qb) rfl
  split
  ·refine .bnd (recv hs qb hww) λx1 h1=>.bnd (recv h1 qb hww) λx2 h2 => ?_
   split
   ·exact .bnd ack λq hq=>good hq wU wU h2
   split
   ·exact .bnd ack λq hq=>good hq wU wU h2
   ·exact fail h2 rfl
  ·exact fail hs2 rfl
def prI (n:Nat) (x:M.aH×M.aGr):Prop:=rpI x.1/\svI n x.2
theorem U9 {b:List Int} {i h:Int} (c0:okC b i h):Dr b (prI 20) (Bd (⟨b,i,h⟩:M.aN)):=by
 unfold Bd
 refine .bnd (LA c0) λi0 v0 s0 aa q0=>.E0 (ZQ q0 qb (bgI qh)) λr0 h0=>.bnd (aU aa) λi1 v1 r1 c1 q1 => ?_
 obtain ⟨N,rfl⟩:=AI q1.1
 have hN:=q1.2.1 qb
 refine BC (L:=λn v (s:(M.aH×M.aGr)×Int×Int)=>fE (⟨b,i,h⟩:M.aN) n v s.1.1.aG4.Name s.1.1.aG4.aHD s.1.1.aHS s.1.1.aG5.aM.aGp s.1.1.aG5.aM.aHH s.1.1.aG5.aHL s.1.1.aG5.aHB s.2.1 s.2.2 s.1.2.aD.Name s.1.2.aD.aHD s.1.1.aG4.aGk s.1.1.aG5.aM.aG0 s.1.2.aD.aGk s.1.2.aP s.1.2.aG9) (I:=λk s=>k<=100000/\okC b s.2.1 s.2.2/\k<=5/\prI (15-2*k) s.1) (Q:=Dr b (prI 20)) (λn k s hi ih => ?_) (λn s hi => ?_) fuel N ((r0.1,s0),i1,v1) (kE qb) ⟨qb,c1,⟨qb,h0,q0.mono qb⟩⟩
 ·obtain ⟨x,ci,ch⟩:=s
  obtain ⟨k0,k1,k2⟩:=hi
  dsimp only at k1 k2
  simp only [fE]
  rw [if_pos (SU k),Kc k0]
  obtain ⟨k2,k3,k4⟩:=k2
  rw [show (⟨(⟨x.1.aG4.Name,x.1.aG4.aGk,x.1.aG4.aHD⟩:M.aD),x.1.aHS,(⟨(⟨x.1.aG5.aM.aGp,x.1.aG5.aM.aHH,x.1.aG5.aM.aG0⟩:M.aM),x.1.aG5.aHL,x.1.aG5.aHB⟩:M.aG5)⟩:M.aH)=x.1 from rfl,show (⟨(⟨x.2.aD.Name,x.2.aD.aGk,x.2.aD.aHD⟩:M.aD),x.2.aP,x.2.aG9⟩:M.aGr)=x.2 from rfl]
  refine .bnd (aU k1) λi3 v3 r3 c3 q3 => ?_
  dsimp only
  split
  ·refine .bnd (yO c3) λi4 v4 r4 c4 q4=>.bnd (Ay c4) λi5 v5 r5 c5 q5=>.bnd (aU c5) λi6 v6 r6 c6 q6=>.E0 (Nz k3 q4.any (Nat.le_trans q5 qb) (bgI (V6 q6))) λy hy => ?_
   exact ih ((y.1,x.2),i6,v6) ⟨qb,c6,qb,hy,k4.mono qb⟩
  split
  ·refine .bnd (yO c3) λi4 v4 r4 c4 q4=>.bnd (Ay c4) λi5 v5 r5 c5 q5=>.bnd (aU c5) λi6 v6 r6 c6 q6=>.E0 (Nz k3 q4.any (Nat.le_trans q5 qb) (bgI (V6 q6))) λy hy => ?_
   exact ih ((y.1,x.2),i6,v6) ⟨qb,c6,qb,hy,k4.mono qb⟩
  split
  ·refine .bnd (aU c3) λi4 v4 r4 c4 q4=>.E0 (Ze (y:=x.1.aG5) k3.2.2.2.1 k3.2.2.2.2.1 k3.2.2.2.2.2 k4 qb) λy hy => ?_
   exact ih (((⟨x.1.aG4,x.1.aHS,y.1⟩:M.aH),y.2.1),i4,v4) ⟨qb,c4,qb,⟨k3.1,k3.2.1,k3.2.2.1,hy.1,hy.2.1,hy.2.2.1⟩,hy.2.2.2.mono qb⟩
  split
  ·refine .bnd (aU c3) λi4 v4 r4 c4 q4=>.E0 (Kr k4.2.2.1) λv hv=>.bnd (yO c4) λi5 v5 r5 c5 q5=>.bnd (Ay c5) λi6 v6 r6 c6 q6=>.bnd (aU c6) λi7 v7 r7 c7 q7=>.E0 (recv k4 qb (Gw (bH _) (bH _) q5.any (Nat.le_trans q6 qb) (bgI (V6 q7)))) λy hy => ?_
   exact ih ((x.1,y.1),i7,v7) ⟨qb,c7,qb,k3,hy.mono qb⟩
  ·refine .E0 (X0 k3 k4 qb) λy hy => ?_
   exact ih ((y.1,x.2),i3,v3) ⟨qb,c3,qb,hy,k4.mono qb⟩
 ·obtain ⟨x,ci,ch⟩:=s;obtain ⟨k0,k1,k2⟩:=hi;dsimp only at k1 k2;simp only [fE];rw [if_neg J1];exact .ret k1 ⟨k2.2.1,k2.2.2.mono qb⟩
def VO (r:M.aH):Prop:=r.ok/\M.aH.sz r<=25000
theorem rpI.all {r:M.aH} (h:rpI r):VO r:=⟨h.ok,by have:=h.sz;omega⟩
theorem VM {b:List Int} {i h:Int} (c0:okC b i h):Dr b VO (BI (⟨b,i,h⟩:M.aN)):=by
 unfold BI
 refine .bnd (U9 c0) λi1 v1 r1 c1 q1=>.bnd (aU c1) λi2 v2 r2 c2 q2 => ?_
 dsimp only
 have hr:=q1.1
 have hz:=hr.2.2.2.1.sz
 have hz1:=hr.2.1
 split
 ·refine .bnd (Ur c2) λi3 v3 r3 c3 q3=>.ret c3 ⟨⟨q3.1,hr.2.2.1,hr.ok.aG5⟩,?_⟩
  have:=q3.2
  simp only [M.aH.sz,M.aG5.sz]
  omega
 split
 ·refine .bnd (rU (λx => -1000000000000000<=x/\x<=1000000000000000) qe qe c2) λi3 v3 r3 c3 q3=>.ret c3 ⟨⟨hr.1,bgI q3,hr.ok.aG5⟩,?_⟩
  simp only [M.aH.sz,M.aG5.sz]
  omega
 split
 ·refine .bnd (We c2) λi3 v3 r3 c3 q3=>.ret c3 ⟨⟨hr.1,hr.2.2.1,⟨q3.ok,hr.2.2.2.2.1,hr.2.2.2.2.2⟩⟩,?_⟩
  have:=q3.sz
  simp only [M.aH.sz,M.aG5.sz]
  omega
 ·exact .ret c2 hr.all
def nbI (x:M.aG):Prop:=x.aGl.size<=16/\x.Top.size<=16/\(M.aGf.ok x.aGf/\x.aGf.aGl.size<=16)/\CJ x.aGi/\(x.bW.ok/\M.bW.sz x.bW<=1000)/\rpI x.aH/\inI x.aHI
theorem Na:SY (⟨(⟨#[110,111,116,101,115]⟩:ByteArray),([]:List M.aG1),0⟩:M.aD):=XF qe qe
theorem aAK {a t:ByteArray} {d:Int} (ha:a.size<=16) (ht:t.size<=16) (hd:inI d) : ∃x,rN a t d=some x/\nbI x.1:=by refine ⟨_,E5 (s16 ha) (s16 ht) hd,?_⟩;have hz:nbI sU:=⟨qe,qe,⟨⟨s16 qe,wU,wU,wU⟩,qe⟩,UK,⟨(KA).bW,qe⟩,NV,wU⟩;unfold CF;split;(split;(have ok:=Nb (s16 ha) (s16 ht) hd;exact ⟨ha,ht,⟨ok.aGf,ha⟩,UK,⟨ok.bW,by show M.bW.sz (D9 (⟨#[]⟩:ByteArray) (⟨#[]⟩:ByteArray) 0).bW<=1000;decide⟩,⟨Na.1,pU Na.2.1,wU,Pk hd R8,wU,wU⟩,wU⟩);·exact hz);·exact hz
def bkI (x:M.aG):Prop:=x.aGl.size<=16/\x.Top.size<=16/\(M.aGf.ok x.aGf/\x.aGf.aGl.size<=16)/\Ho x.aGi/\QC x.bW/\VO x.aH/\inI x.aHI
theorem bkI.ok {x:M.aG} (h:bkI x):x.ok:=⟨s16 h.1,s16 h.2.1,h.2.2.1.1,h.2.2.2.1.1,h.2.2.2.2.1.1,h.2.2.2.2.2.1.1,h.2.2.2.2.2.2⟩
theorem bkI.sz {x:M.aG} (h:bkI x):M.aG.sz x<=180000:=by obtain ⟨h1,h2,⟨_,h3⟩,⟨_,h4⟩,⟨_,h5⟩,⟨_,h6⟩,_⟩:=h;simp only [M.aG.sz,M.aGf.sz];omega
def QY (k:M.bW):Prop:=k.ok/\M.bW.sz k<=20000
def bkS (x:M.aG):Prop:=x.aGl.size<=16/\x.Top.size<=16/\(M.aGf.ok x.aGf/\x.aGf.aGl.size<=16)/\Ho x.aGi/\QY x.bW/\VO x.aH/\inI x.aHI
theorem QY.all {k:M.bW} (h:QY k):QC k:=⟨h.1,by have:=h.2;omega⟩
theorem bkS.all {x:M.aG} (h:bkS x):bkI x:=⟨h.1,h.2.1,h.2.2.1,h.2.2.2.1,h.2.2.2.2.1.all,h.2.2.2.2.2⟩
theorem aBe {b:List Int} {i h:Int} {X:M.aG×Bool} {kd:M.bW} {N:Nat} {i1 v1:Int} (hX:nbI X.1) (hk:QY kd) (hN:N<=10) (c1:okC b i1 v1):Dr b bkS (fZ (⟨b,i,h⟩:M.aN) X kd.aG4.Name kd.aG4.aGg kd.aHM kd.aG4.aGq kd.aG4.aG3 kd.Log fuel (N:Int) X.1.aH.aG4.Name X.1.aH.aG4.aHD X.1.aH.aHS X.1.aH.aG5.aM.aGp X.1.aH.aG5.aM.aHH X.1.aH.aG5.aHL X.1.aH.aG5.aHB i1 v1 X.1.aH.aG4.aGk X.1.aH.aG5.aM.aG0):=by
 obtain ⟨h1,h2,h3,h4,h5,h6,h7⟩:=hX
 refine BC (L:=λn v (s:(M.aH)×Int×Int)=>fZ (⟨b,i,h⟩:M.aN) X kd.aG4.Name kd.aG4.aGg kd.aHM kd.aG4.aGq kd.aG4.aG3 kd.Log n v s.1.aG4.Name s.1.aG4.aHD s.1.aHS s.1.aG5.aM.aGp s.1.aG5.aM.aHH s.1.aG5.aHL s.1.aG5.aHB s.2.1 s.2.2 s.1.aG4.aGk s.1.aG5.aM.aG0) (I:=λk s=>k<=100000/\okC b s.2.1 s.2.2/\rpI s.1) (Q:=Dr b bkS) (λn k s hi ih => ?_) (λn s hi => ?_) fuel N (X.1.aH,i1,v1) (kE qb) ⟨qb,c1,h6⟩
 ·obtain ⟨x,ci,ch⟩:=s
  obtain ⟨k0,k1,k2⟩:=hi
  dsimp only at k1 k2
  simp only [fZ]
  rw [if_pos (SU k),Kc k0]
  refine .bnd (yO k1) λi3 v3 r3 c3 q3=>.bnd (Ay c3) λi4 v4 r4 c4 q4=>.bnd (aU c4) λi5 v5 r5 c5 q5=>.E0 (Nz (r:=x) k2 q3.any (Nat.le_trans q4 qb) (bgI (V6 q5))) λy hy => ?_
  exact ih (y.1,i5,v5) ⟨qb,c5,hy⟩
 ·obtain ⟨x,ci,ch⟩:=s
  obtain ⟨k0,k1,k2⟩:=hi
  dsimp only at k1 k2
  simp only [fZ]
  rw [if_neg J1]
  have hkD:=hk
  have hl : ∀ {r:Int},(0<=r/\(0<(50:Int)->r<50)/\r<=16777215)->inI r:=λq=>bgI ⟨qb,qb⟩
  refine .bnd (uK k1) λi3 v3 r3 c3 q3 => ?_
  dsimp only
  split
  ·refine .bnd (aU c3) λi4 v4 r4 c4 q4=>.E0 (Nr h4 (bH _)) λy hy=>.bnd (aU c4) λi5 v5 r5 c5 q5=>.bnd (uK c5) λi6 v6 r6 c6 q6=>.ret c6 ⟨h1,h2,⟨⟨h3.1.aGl,h3.1.aG6,h3.1.aHC,bH _⟩,h3.2⟩,hy.all,hkD,k2.all,hl q5⟩
  ·exact .bnd (aU c3) λi5 v5 r5 c5 q5=>.bnd (uK c5) λi6 v6 r6 c6 q6=>.ret c6 ⟨h1,h2,h3,h4.all,hkD,k2.all,hl q5⟩
theorem aBP {b:List Int} {i h:Int} {X:M.aG×Bool} {N:Nat} {i1 v1:Int} (hX:nbI X.1) (hN:N<=4) (c1:okC b i1 v1):Dr b bkS (gC (⟨b,i,h⟩:M.aN) X fuel (N:Int) X.1.bW.aG4.Name X.1.bW.aG4.aGg X.1.bW.aHM i1 v1 X.1.bW.aG4.aGq X.1.bW.aG4.aG3 X.1.bW.Log):=by
 have h5:=hX.2.2.2.2.1
 refine BC (L:=λn v (s:(M.bW)×Int×Int)=>gC (⟨b,i,h⟩:M.aN) X n v s.1.aG4.Name s.1.aG4.aGg s.1.aHM s.2.1 s.2.2 s.1.aG4.aGq s.1.aG4.aG3 s.1.Log) (I:=λk s=>k<=100000/\okC b s.2.1 s.2.2/\s.1.ok/\M.bW.sz s.1+4000*k<=20000) (Q:=Dr b bkS) (λn k s hi ih => ?_) (λn s hi => ?_) fuel N (X.1.bW,i1,v1) (kE qb) ⟨qb,c1,⟨h5.1,by have:=h5.2;dsimp only;omega⟩⟩
 ·obtain ⟨x,ci,ch⟩:=s
  obtain ⟨k0,k1,k2⟩:=hi
  dsimp only at k1 k2
  simp only [gC]
  rw [if_pos (SU k),Kc k0]
  refine .bnd (yO k1) λi3 v3 r3 c3 q3=>.bnd (C6 c3) λi4 v4 r4 c4 q4=>.E0 (Pm (k:=x) (n:=M.bW.sz x) k2.1 (Nat.le_refl _) (by have:=k2.2;omega) qd (by simp only [List.mem_cons,qO,or_false];rintro o rfl;exact ⟨R8,s16 (s:=(⟨#[110,111,116,101,115]⟩:ByteArray)) qe,q3.any.1,q4.1,s16 (s:=(⟨#[]⟩:ByteArray)) qe⟩)) λy hy => ?_
  exact ih (y.1,i4,v4) ⟨qb,c4,hy.1,by have:=hy.2;have:=k2.2;dsimp only;omega⟩
 ·obtain ⟨x,ci,ch⟩:=s
  obtain ⟨k0,k1,k2⟩:=hi
  dsimp only at k1 k2
  simp only [gC]
  rw [if_neg J1]
  refine .bnd (aU k1) λi3 v3 r3 c3 q3 => ?_
  obtain ⟨M,rfl⟩:=AI q3.1
  have hM:=q3.2.1 qb
  exact aBe hX (kd:=x) ⟨k2.1,by have:=k2.2;omega⟩ qb c3
theorem KF {b:List Int} {i h:Int} (c0:okC b i h):Dr b bkS (vF (⟨b,i,h⟩:M.aN)):=by
 unfold vF
 refine .bnd (Fy c0) λi1 v1 r1 c1 q1=>.E0 (aAH c1 q1) λy hy=>.bnd (aU hy.2) λi4 v4 r4 c4 q4=>.E0 (aAK (Nat.le_trans q1 qb) (Nat.le_trans hy.1 qb) (bH _)) λx hx=>.bnd (aU c4) λi5 v5 r5 c5 q5 => ?_
 obtain ⟨N,rfl⟩:=AI q5.1
 have hN:=q5.2.1 qb
 exact aBP hx qb c5
theorem WI {b:List Int} {i h:Int} (c0:okC b i h):Dr b bkI (BQ (⟨b,i,h⟩:M.aN)):=by
 unfold BQ
 refine .bnd (KF c0) λi1 v1 r1 c1 q1=>.bnd (aU c1) λi2 v2 r2 c2 q2 => ?_
 have q0:=q1.all
 obtain ⟨h1,h2,h3,h4,h5,h6,h7⟩:=q1
 have h5a:=h5.all
 dsimp only
 split
 ·exact .bnd (Bl (λs=>s.size<=16) qe qe c2) λi3 v3 r3 c3 q3=>.ret c3 ⟨q3,h2,h3,h4,h5a,h6,h7⟩
 split
 ·exact .bnd (MY c2) λi3 v3 r3 c3 q3=>.ret c3 ⟨h1,h2,h3,q3,h5a,h6,h7⟩
 split
 ·exact .bnd (Xa c2) λi3 v3 r3 c3 q3=>.ret c3 ⟨h1,h2,h3,h4,q3,h6,h7⟩
 split
 ·exact .bnd (VM c2) λi3 v3 r3 c3 q3=>.ret c3 ⟨h1,h2,h3,h4,h5a,q3,h7⟩
 split
 ·exact .bnd (rU (λx => -1000000000000000<=x/\x<=1000000000000000) qe qe c2) λi3 v3 r3 c3 q3=>.ret c3 ⟨h1,h2,h3,h4,h5a,h6,bgI q3⟩
 split
 ·have hz:=h5.2
  simp only [M.bW.sz] at hz
  have key : ∀(n:Nat) (l:List Int),100000<n+l.length->okB l->l.length<=20000->Dr b bkI (nT (i1,v1,r1) (i2,v2,r2) n l):=by
   intro n
   induction n with
   | zero=>intro l h _ hz2;exact absurd h qb
   | succ n ih =>
    intro l hn hl hz2
    have e1:(l++[(0:Int)]).length=l.length+1:=by rw [qE];rfl
    simp only [nT]
    by_cases h6':(l.length:Int)<2600
    ·have h7':l.length<2600:=by omega
     rw [if_pos (decide_eq_true h6'),AK (by show l.length+1<=_;omega) qb,qA]
     refine ih (l++[0]) qb ⟨ml qb,λx hx => ?_⟩ qb
     rcases List.mem_append.1 hx with hx | hx
     ·exact hl.2 x hx
     ·rw [List.mem_singleton.1 hx];exact ⟨Int.le_refl _,qe⟩
    ·rw [if_neg (by rw [decide_eq_false h6'];exact Bool.false_ne_true)];exact .ret c2 ⟨h1,h2,h3,h4,⟨⟨h5.1.aG4,hl,h5.1.aHM⟩,by show M.aGh.sz r1.bW.aG4+l.length<=80000;omega⟩,h6,h7⟩
  exact key fuel r1.bW.Log (Nat.lt_of_lt_of_le (kE (k:=100000) qb) (Nat.le_add_right _ _)) h5.1.Log qb
 ·exact .ret c2 q0
theorem jn {α β:Type} {o:Option α} {v:α} {f:α->Option β} {r:Option β} (h1:o=some v) (h2:f v=r):o.bind f=r:=by rw [h1];exact h2
theorem nX {α:Type} {f:α->α->Bool} (hf : ∀x,f x x=true) : ∀l:List α,eqL f l l=true
 | []=>rfl
 | x::l=>by simp only [eqL,hf x,nX hf l,Bool.and_self]
theorem Mf (x:M.aGm):FL x x=true:=by simp [FL,nX (f:=xA) (λx=>by simp [xA])]
theorem Md (x:M.aC):HL x x=true:=nX (λc=>by simp [OG,nX (f:=It) (λy=>by simp [It,Mf])]) _
theorem Oq (x:M.aE):M5 x x=true:=nX (λy=>by simp [Ks]) _
theorem Hf (x:M.aD):HJ x x=true:=by simp [HJ,aAZ,nX (f:=SK) (λy=>by simp [SK,aAZ,Oq])]
theorem LH (x:M.aGh):FA x x=true:=by simp [FA,nX (f:=HJ) Hf,nX (f:=Dp) (λy=>by simp [Dp])]
theorem Sn (x:M.bW):Uf x x=true:=by simp [Uf,LH,nX (f:=xA) (λx=>by simp [xA])]
theorem OT (x:M.aM):La x x=true:=by simp [La,nX (f:=DC) (λy=>by simp [DC])]
theorem M0 (x:M.aH):H3 x x=true:=by simp [H3,WE,Hf,OT]
theorem OQ (x:M.aG):Jh x x=true:=by simp [Jh,aBb,Md,Sn,M0]
theorem E7 (x:List M.Instr) (hs:x.length<=1073741824):vA x=some x:=by unfold vA;rw [Fe hs qb,qA]
theorem LJ (x:M.aGu) (hs:M.aGu.sz x<=1073741824):A3 x=some x:=by simp only [M.aGu.sz] at hs;unfold A3;rw [E7 _ qb,qA,Fe qb qb,qA]
theorem DQ (x:M.bJ) (hs:M.bJ.sz x<=1073741824):kI x=some x:=by simp only [M.bJ.sz] at hs;unfold kI;rw [Fe qb qb,qA,LJ _ qb,qA]
theorem GD (x:M.aR) (hs:M.aR.sz x<=1073741824):wR x=some x:=by simp only [M.aR.sz] at hs;unfold wR;rw [Fe qb qb,qA]
theorem L3 (x:M.aGt) (hs:M.aGt.sz x<=1073741824):zJ x=some x:=by simp only [M.aGt.sz] at hs;unfold zJ;rw [Fe qb qb,qA]
theorem Gz (x:M.aGl) (hs:M.aGl.sz x<=1073741824):sV x=some x:=by simp only [M.aGl.sz] at hs;unfold sV;rw [Fe qb qb,qA]
theorem LR (x:M.aGr) (hs:M.aGr.sz x<=1073741824):gP x=some x:=by simp only [M.aGr.sz] at hs;unfold gP;rw [nG _ qb,qA,Fe qb qb,qA,Fe qb qb,qA]
theorem HB (x:M.aGu) (hs:M.aGu.sz x<=1073741824):wA x=some x:=by simp only [M.aGu.sz] at hs;unfold wA;rw [Fe qb qb,qA,Fe qb qb,qA]
theorem K8 (x:M.bJ) (hs:M.bJ.sz x<=1073741824):Ar x=some x:=by simp only [M.bJ.sz] at hs;unfold Ar;rw [Fe qb qb,qA,HB _ qb,qA]
theorem Kd (x:M.aR) (hs:M.aR.sz x<=1073741824):yK x=some x:=by simp only [M.aR.sz] at hs;unfold yK;rw [Fe qb qb,qA]
theorem HX (x:M.aGt) (hs:M.aGt.sz x<=1073741824):wD x=some x:=by simp only [M.aGt.sz] at hs;unfold wD;rw [Fe qb qb,qA]
theorem FR (x:M.aGl) (hs:M.aGl.sz x<=1073741824):pO x=some x:=by simp only [M.aGl.sz] at hs;unfold pO;rw [Fe qb qb,qA]
theorem Jr (x:M.aGr) (hs:M.aGr.sz x<=1073741824):xL x=some x:=by simp only [M.aGr.sz] at hs;unfold xL;rw [CC _ qb,qA,Fe qb qb,qA,Fe qb qb,qA]
theorem aGN (n:Int):inR n 0 0=(n==0):=by unfold inR;rw [Bool.eq_iff_iff];simp only [qM,qL,beq_iff_eq];omega
theorem Su {k:Int} (h:inR k 1 9=true):k=1\/k=2\/k=3\/k=4\/k=5\/k=6\/k=7\/k=8\/k=9:=by unfold inR at h;simp only [qM,qL] at h;omega
theorem aCB {α β:Type} (c:Bool) (x y:Option α) (f:α->Option β):(if c=true then x else y).bind f=if c=true then x.bind f else y.bind f:=by split<;>rfl
theorem Sq {k r n m:Int} {t:ByteArray} (ht:t.size<=maxLen) : ∃b,wK (⟨k,r,n,t⟩:M.Instr) m=some b:=by
 unfold wK
 simp only [cF,dF ht,qA,aGN]
 generalize inR r 0 3=a1
 generalize (r != 0)=a2
 generalize mT t=a3
 generalize (t.toList==(⟨#[]⟩:ByteArray).toList)=a4
 generalize inR n 0 1000=a5
 generalize inR n 0 3=a6
 generalize inR n 0 m=a7
 generalize inR n 0 100=a8
 generalize (n==0)=a9
 cases hk:inR k 1 9 with
 | false=>exact ⟨false,by simp only [aCB,qA,qC,if_true,ite_self]⟩
 | true =>
  rcases Su hk with rfl | rfl | rfl | rfl | rfl | rfl | rfl | rfl | rfl
  all_goals clear hk
  all_goals simp +decide only [qA,aCB,if_true,if_false,qB,qC,show inR 1 6 8=false from rfl,show inR 2 6 8=false from rfl,show inR 3 6 8=false from rfl,show inR 4 6 8=false from rfl,show inR 6 6 8=true from rfl,show inR 7 6 8=true from rfl,show inR 8 6 8=true from rfl,show inR 9 6 8=false from rfl]
  all_goals (try generalize inR n 0 1000=b1)
  all_goals (try generalize inR n 0 3=b2)
  all_goals (try generalize inR n 0 m=b3)
  all_goals (try generalize inR n 0 100=b4)
  all_goals (try generalize inR n 0 0=b5)
  all_goals (try generalize (n==0)=b6)
  all_goals (try cases b1)
  all_goals (try cases b2)
  all_goals (try cases b3)
  all_goals (try cases b4)
  all_goals (try cases b5)
  all_goals (try cases b6)
  all_goals (try clear a1)
  all_goals (try clear a2)
  all_goals (try clear a3)
  all_goals (try clear a4)
  all_goals (try clear a5)
  all_goals (try clear a6)
  all_goals (try clear a7)
  all_goals (try clear a8)
  all_goals (try clear a9)
  all_goals (try cases a1)
  all_goals (try cases a2)
  all_goals (try cases a3)
  all_goals (try cases a4)
  all_goals (try cases a5)
  all_goals (try cases a6)
  all_goals (try cases a7)
  all_goals (try cases a8)
  all_goals (try cases a9)
  all_goals first | exact ⟨true,rfl⟩ | exact ⟨false,rfl⟩
def Vw (x:M.Instr) (m:Int):Bool:=(wK x m).getD false
theorem LL {x:M.Instr} {m:Int} (hx:x.ok):wK x m=some (Vw x m):=by obtain ⟨k,r,n,t⟩:=x;obtain ⟨b,e1⟩:=Sq (k:=k) (r:=r) (n:=n) (m:=m) hx.aHG;unfold Vw;rw [e1];rfl
def ND (l:List M.Instr) (k:Nat):Bool:=(l[k]?).any λx=>Vw x (List.length l:Int)
def NF (l:List M.Instr):Bool:=(List.range l.length).all (ND l)&&decide ((List.length l:Int)<=16)
def CR (l:List M.Instr):Prop:=l.length<=maxLen /\ ∀x∈l,M.Instr.ok x
theorem Ln {l:List M.Instr} (hl:CR l):Ao l=some (NF l):=by have hm:=le_max hl.1;unfold Ao NF;rw [mU (L:=mX l) (g:=ND l) (F:=some false) (E:=some (decide ((List.length l:Int)<=16))) hl.1 (λn k hk => ?_) (λn => ?_),aZ];(simp only [mX];rw [if_pos (aY hk),aK hk,qA,bD qb,LL (hl.2 _ (qG hk)),qA];unfold ND;rw [qF hk,Option.any_some];simp only [gF]);·simp only [mX];rw [if_neg qk]
def PW (l:List M.Instr):M.aGu:=if NF l=true then (⟨l,0,[0,0,0,0],0,false,false⟩:M.aGu) else (⟨([]:List M.Instr),0,[0,0,0,0],0,true,false⟩:M.aGu)
theorem TG:okI [0,0,0,0]:=⟨by unfold maxLen;simp,λx hx=>by simp only [List.mem_cons,qO,or_false,or_self] at hx;subst hx;exact wU⟩
theorem VZ {l:List M.Instr} (hl:CR l):(PW l).ok:=by unfold PW;split;(exact ⟨hl,wU,TG,wU⟩);·exact ⟨⟨qd,qd⟩,wU,TG,wU⟩
theorem V4 (l:List M.Instr):M.aGu.sz (PW l)<=l.length+cX M.Instr.sz l+4:=by unfold PW;split;(simp only [M.aGu.sz,qJ,qK];omega);·simp only [M.aGu.sz,cX,qJ,qK];omega
theorem Ja {l:List M.Instr} (hl:CR l) (hz:l.length<=1073741824):xR l=some (PW l):=by unfold xR PW;rw [Ln hl,qA,E7 l hz];cases NF l<;>rfl
def Dm (i:Int) (a b:ByteArray) (v:Int) (l:List M.Instr):M.bJ:=(⟨i,a,b,v,([]:List M.aW),PW l⟩:M.bJ)
def HY:M.bJ:=(⟨0,(⟨#[]⟩:ByteArray),(⟨#[]⟩:ByteArray),0,([]:List M.aW),(⟨([]:List M.Instr),0,([]:List Int),0,false,false⟩:M.aGu)⟩:M.bJ)
def Cv (i:Int) (a b:ByteArray) (v:Int) (l:List M.Instr):M.bJ×Bool:=if Ef (Dm i a b v l)=true then (Dm i a b v l,true) else (HY,false)
theorem MM {i v:Int} {a b:ByteArray} {l:List M.Instr} (hi:inI i) (ha:a.size<=maxLen) (hb:b.size<=maxLen) (hv:inI v) (hl:CR l):(Dm i a b v l).ok:=⟨hi,ha,hb,hv,⟨by simp [Dm],by simp [Dm]⟩,VZ hl⟩
theorem S8:HY.ok:=⟨wU,sz0,sz0,wU,⟨by simp [HY],by simp [HY]⟩,⟨⟨by simp [HY],by simp [HY]⟩,wU,⟨by simp [HY],by simp [HY]⟩,wU⟩⟩
theorem O0 {i v:Int} {a b:ByteArray} {l:List M.Instr} (hi:inI i) (ha:a.size<=maxLen) (hb:b.size<=maxLen) (hv:inI v) (hl:CR l):(Cv i a b v l).1.ok:=by unfold Cv;split;(exact MM hi ha hb hv hl);·exact S8
theorem N8 (i:Int) (a b:ByteArray) (v:Int) (l:List M.Instr):M.bJ.sz (Cv i a b v l).1<=a.size+b.size+(l.length+cX M.Instr.sz l)+4/\(Cv i a b v l).1.aW.length=0:=by have h:=V4 l;unfold Cv;split;(refine ⟨?_,rfl⟩;simp only [Dm,M.bJ.sz,cX,qK];omega);·refine ⟨?_,rfl⟩;have h0:(⟨#[]⟩:ByteArray).size=0:=rfl;simp only [HY,M.bJ.sz,M.aGu.sz,cX,qK,h0];omega
theorem ES {i v:Int} {a b:ByteArray} {l:List M.Instr} (hi:inI i) (ha:a.size<=maxLen) (hb:b.size<=maxLen) (hv:inI v) (hl:CR l) (hz:l.length<=1073741824):kV i a b v l=some (Cv i a b v l):=by unfold kV Cv;rw [Ja hl hz,qA];show ((sR (Dm i a b v l)).bind _)=_;rw [CO (MM hi ha hb hv hl),qA];cases Ef (Dm i a b v l)<;>rfl
def Fq (p:M.bJ) (f:ByteArray) (v:Int):M.bJ:=(⟨p.Id,p.aGl,p.Top,p.aGg,p.aW++[(⟨f,v⟩:M.aW)],p.aGu⟩:M.bJ)
def Hl (p:M.bJ) (f:ByteArray) (x:M.aGm):M.bJ×Bool:=if (x.aHO != 200)=true then (p,false) else if (x.aGg != p.aGg)=true then (p,false) else if Ef p=true then (if Ef (Fq p f x.aGg)=true then (Fq p f x.aGg,true) else (p,false)) else (p,false)
theorem Om {p:M.bJ} {f:ByteArray} {v:Int} (hp:p.ok) (hl:p.aW.length<=4194304) (hf:f.size<=maxLen) (hv:inI v):(Fq p f v).ok:=
 ⟨hp.Id,hp.aGl,hp.Top,hp.aGg,⟨by show (p.aW++_).length<=maxLen;unfold maxLen;simp;omega,λy hy=>by have hy':y∈p.aW++[(⟨f,v⟩:M.aW)]:=hy;simp only [qP,List.mem_cons,qO,or_false] at hy';rcases hy' with hy | rfl;(exact hp.aW.2 y hy);·exact ⟨hf,hv⟩⟩,hp.aGu⟩
theorem Ru {p:M.bJ} {f:ByteArray} {x:M.aGm} (hp:p.ok) (hl:p.aW.length<=4194304) (hf:f.size<=maxLen) (hv:inI x.aGg):(Hl p f x).1.ok:=by unfold Hl;split;(exact hp);·split;(exact hp);·split;(split;(exact Om hp hl hf hv);·exact hp);·exact hp
theorem Rf (p:M.bJ) (f:ByteArray) (x:M.aGm):M.bJ.sz (Hl p f x).1<=M.bJ.sz p+f.size+1:=by
 have h:M.bJ.sz (Fq p f x.aGg)=M.bJ.sz p+f.size+1:=by simp only [Fq,M.bJ.sz,qE,qJ,qK,tP,cX,M.aW.sz];omega
 unfold Hl
 split
 ·show M.bJ.sz p<=_;omega
 ·split;(show M.bJ.sz p<=_;omega);·split;(split;(show M.bJ.sz (Fq p f x.aGg)<=_;omega);·show M.bJ.sz p<=_;omega);·show M.bJ.sz p<=_;omega
theorem F6 {p:M.bJ} {f:ByteArray} {x:M.aGm} (hp:p.ok) (hl:p.aW.length<=4194304) (hz:M.bJ.sz p<=1073741824) (hf:f.size<=maxLen) (hv:inI x.aGg):kK p f x=some (Hl p f x):=by have e:=CO (Om hp hl hf hv);unfold Fq at e;unfold kK Hl;rw [DQ p hz,qA,dN qs,qA,CO hp,qA,e,qA];unfold Fq;cases (x.aHO != 200);(cases (x.aGg != p.aGg);(cases Ef p;(simp);·cases Ef (⟨p.Id,p.aGl,p.Top,p.aGg,p.aW++[(⟨f,x.aGg⟩:M.aW)],p.aGu⟩:M.bJ)<;>simp);·simp);·simp
def C5 (x:M.Instr):Prop:=M.Instr.ok x/\x.aHG.size<=8
theorem DM {k r n:Int} {s:ByteArray} (h1 : -1000000000000<=k/\k<=1000000000000) (h2:0<=r/\r<=1000000000000) (h3:0<=n/\n<=1000000000000) (hs:s.size<=8):C5 (⟨k,r,n,s⟩:M.Instr):=⟨⟨Km (by show -1000000000000000<=k;omega) (by show k<=_;omega),Km (by show -1000000000000000<=r;omega) (by show r<=_;omega),Km (by show -1000000000000000<=n;omega) (by show n<=_;omega),EF hs⟩,hs⟩
theorem R9 {b:List Int} {i h n:Int} (hn:0<=n/\n<=1000) (hc:okC b i h):Dr b C5 (Am (⟨b,i,h⟩:M.aN) n):=by
 have e0:(⟨#[]⟩:ByteArray).size<=8:=by decide
 unfold Am
 refine .bnd (aU hc) λi1 v1 r1 c1 q1=>.bnd (aU c1) λi2 v2 r2 c2 q2 => ?_
 dsimp only
 have hr1:=q1.2.1 qb
 have hr2:=q2.2.1 qb
 rw [wrap_small (n:=1+r1) qb qb,wrap_small (n:=n+1) qb qb]
 have a1 : -1000000000000<=1+r1/\1+r1<=1000000000000:=by omega
 have a2:0<=r2/\r2<=1000000000000:=by omega
 have a0:(0:Int)<=0/\(0:Int)<=1000000000000:=by omega
 have below : ∀ {m:Int} {f:Int×Int×Int->Option (Int×Int×M.Instr)},(∀i3 v3 r3,okC b i3 v3->(0<=r3/\r3<=1000000000000)->Dr b C5 (f (i3,v3,r3)))->Dr b C5 ((aF (⟨b,i2,v2⟩:M.aN) m).bind f):=λhf=>.bnd (aU c2) λi3 v3 r3 c3 q3=>hf i3 v3 r3 c3 ⟨q3.1,qb⟩
 split
 ·exact below λi3 v3 r3 c3 q3=>.ret c3 (DM a1 a2 q3 e0)
 split
 ·exact below λi3 v3 r3 c3 q3=>.ret c3 (DM a1 a2 q3 e0)
 split
 ·exact below λi3 v3 r3 c3 q3=>.ret c3 (DM a1 a2 q3 e0)
 split
 ·exact below λi3 v3 r3 c3 q3=>.ret c3 (DM a1 a0 q3 e0)
 split
 ·exact .bnd (Bl (λs=>s.size<=8) qe qe c2) λi3 v3 r3 c3 q3=>.ret c3 (DM a1 a2 a0 q3)
 split
 ·exact below λi3 v3 r3 c3 q3=>.bnd (Ay c3) λi4 v4 r4 c4 q4=>.ret c4 (DM a1 a2 q3 q4)
 split
 ·exact below λi3 v3 r3 c3 q3=>.bnd (Ay c3) λi4 v4 r4 c4 q4=>.ret c4 (DM a1 a2 q3 q4)
 split
 ·exact below λi3 v3 r3 c3 q3=>.bnd (Ay c3) λi4 v4 r4 c4 q4=>.ret c4 (DM a1 a2 q3 q4)
 split
 ·exact .ret c2 (DM a1 a0 a0 e0)
 ·exact .ret c2 (DM a1 a2 a0 e0)
def B2 (l:List M.Instr):Prop:=l.length<=8 /\ ∀x∈l,C5 x
theorem El {b:List Int} {i h:Int} (hc:okC b i h):Dr b B2 (iR (⟨b,i,h⟩:M.aN)):=by
 unfold iR
 refine .bnd (aU hc) λi1 v1 r1 c1 q1 => ?_
 obtain ⟨N,rfl⟩:=AI q1.1
 have hN:=q1.2.1 qb
 refine Yd (N:=N) (L:=λn v (s:List M.Instr×Int×Int)=>lC (⟨b,i,h⟩:M.aN) (i1,v1,(N:Int)) n v s.1 s.2.1 s.2.2) (I:=λk s=>okC b s.2.1 s.2.2/\s.1.length=k /\ ∀x∈s.1,C5 x) (Q:=Dr b B2) (λn k s hk hi ih => ?_) (λn s hi => ?_) fuel 0 (([]:List M.Instr),i1,v1) (kE qb) qb ⟨c1,rfl,qd⟩
 ·obtain ⟨l,ci,ch⟩:=s
  obtain ⟨k1,k2,k3⟩:=hi
  simp only at k1 k2 k3
  simp only [lC]
  rw [if_pos (aY hk)]
  refine .bnd (R9 ⟨qb,qb⟩ k1) λi3 v3 r3 c3 q3 => ?_
  rw [dN qs,qA,bD qb]
  refine ih (l++[r3],i3,v3) ⟨c3,by simp [k2],λx hx => ?_⟩
  rcases List.mem_append.1 hx with hx | hx
  ·exact k3 x hx
  ·rw [List.mem_singleton.1 hx];exact q3
 ·obtain ⟨l,ci,ch⟩:=s;obtain ⟨k1,k2,k3⟩:=hi;simp only at k1 k2 k3;simp only [lC];rw [if_neg qk];exact .ret k1 ⟨qb,k3⟩
theorem Ll {l:List M.Instr} (h:B2 l):CR l:=⟨Nat.le_trans h.1 qj,λx hx=>(h.2 x hx).1⟩
theorem OS {l:List M.Instr} (h:B2 l):l.length+cX M.Instr.sz l<=72:=by
 have h1:=KO (c:=M.Instr.sz) (A:=8) (xs:=l) λx hx=>(h.2 x hx).2
 have h2:=h.1
 omega
def Hq (p:M.bJ):Prop:=M.bJ.ok p/\p.aW.length<=3/\M.bJ.sz p<=1000
theorem T4 {b:List Int} {i h:Int} (hc:okC b i h):Dr b Hq (A7 (⟨b,i,h⟩:M.aN)):=by
 have fin : ∀ {L:Nat->Int->Int->ByteArray->ByteArray->Int->Int->Int->Bool->Bool->Int->Int->List M.aW->List M.Instr->List Int->Option (Int×Int×M.bJ)} {n:Int} {i1 h1:Int} {p:M.bJ},(∀m v a0 a1 a2 a3 a6 a8 a9 ae ci ch r0 r1 r2,L (m+1) v a0 a1 a2 a3 a6 a8 a9 ae ci ch r0 r1 r2=if (decide (v>0))=true then ((kN (⟨b,ci,ch⟩:M.aN)).bind λaf=>((kK (⟨a0,a1,a2,a3,r0,(⟨r1,a6,r2,a8,a9,ae⟩:M.aGu)⟩:M.bJ) af.2.2 (⟨0,200,a3,([]:List Int),false⟩:M.aGm)).bind λaa=>(L m (i64.wrap (v-1)) aa.1.Id aa.1.aGl aa.1.Top aa.1.aGg aa.1.aGu.Pc aa.1.aGu.aHV aa.1.aGu.aHd aa.1.aGu.aHf af.1 af.2.1 aa.1.aW aa.1.aGu.aHP aa.1.aGu.aHY))) else (some (ci,ch,(⟨a0,a1,a2,a3,r0,(⟨r1,a6,r2,a8,a9,ae⟩:M.aGu)⟩:M.bJ)))) ->
   (0<=n/\n<3)->okC b i1 h1->M.bJ.ok p->p.aW.length=0->M.bJ.sz p<=200->Dr b Hq (L fuel n p.Id p.aGl p.Top p.aGg p.aGu.Pc p.aGu.aHV p.aGu.aHd p.aGu.aHf i1 h1 p.aW p.aGu.aHP p.aGu.aHY):=by
  intro L n i1 h1 p hL hn hc hp hl hz
  obtain ⟨N,rfl⟩:=AI hn.1
  refine BC (L:=λm v (s:M.bJ×Int×Int)=>L m v s.1.Id s.1.aGl s.1.Top s.1.aGg s.1.aGu.Pc s.1.aGu.aHV s.1.aGu.aHd s.1.aGu.aHf s.2.1 s.2.2 s.1.aW s.1.aGu.aHP s.1.aGu.aHY) (I:=λk s=>okC b s.2.1 s.2.2/\M.bJ.ok s.1/\s.1.aW.length+k<=3/\M.bJ.sz s.1+20*k<=300) (Q:=Dr b Hq) (λm k s hi ih => ?_) (λm s hi => ?_) fuel N (p,i1,h1) (kE qb) ⟨hc,hp,by show p.aW.length+N<=3;omega,by show M.bJ.sz p+20*N<=300;omega⟩
  ·obtain ⟨p,ci,ch⟩:=s
   obtain ⟨k1,k2,k3,k4⟩:=hi
   simp only at k1 k2 k3 k4
   simp only [hL]
   rw [if_pos (by first | (simp;done) | (simp;omega))]
   refine .bnd (Lm k1) λi3 v3 r3 c3 q3 => ?_
   have hv:inI (⟨0,200,p.aGg,([]:List Int),false⟩:M.aGm).aGg:=k2.aGg
   show Dr b Hq ((kK p r3 _).bind _)
   rw [F6 k2 qb qb (EF q3) hv,qA,show i64.wrap (((k+1:Nat):Int)-1)=(k:Int) from by rw [wrap_small qb qb];omega]
   have z:=Rf p r3 (⟨0,200,p.aGg,([]:List Int),false⟩:M.aGm)
   refine ih ((Hl p r3 (⟨0,200,p.aGg,([]:List Int),false⟩:M.aGm)).1,i3,v3) ⟨c3,Ru k2 qb (EF q3) hv,?_,qg⟩
   have:(Hl p r3 (⟨0,200,p.aGg,([]:List Int),false⟩:M.aGm)).1.aW.length<=p.aW.length+1:=by unfold Hl;split;(show p.aW.length<=_;omega);·split;(show p.aW.length<=_;omega);·split;(split;(simp [Fq]);·show p.aW.length<=_;omega);·show p.aW.length<=_;omega
   dsimp only
   omega
  ·obtain ⟨p,ci,ch⟩:=s;obtain ⟨k1,k2,k3,k4⟩:=hi;simp only at k1 k2 k3 k4;simp only [hL];rw [if_neg qd];exact .ret k1 ⟨k2,by show p.aW.length<=3;omega,by show M.bJ.sz p<=_;omega⟩
 have page : ∀ {j v:Int} {s t:ByteArray} {l:List M.Instr},(0<=j/\j<=1000)->(0<=v/\v<=1000)->s.size<=8->t.size<=8->B2 l -> ∃r,kV (i64.wrap (1+j)) s t (i64.wrap (1+v)) l=some r/\(M.bJ.ok r.1/\r.1.aW.length=0/\M.bJ.sz r.1<=200):=by intro j v s t l hj hv hs ht hl;have h1:=OS hl;refine ⟨_,ES (bH _) (EF hs) (EF ht) (bH _) (Ll hl) qb,O0 (bH _) (EF hs) (EF ht) (bH _) (Ll hl),?_⟩;have h2:=N8 (i64.wrap (1+j)) s t (i64.wrap (1+v)) l;exact ⟨h2.2,qb⟩
 unfold A7
 refine .bnd (Fy hc) λi1 v1 r1 c1 q1=>.E0 (aAH c1 q1) λy hy=>.bnd (aU hy.2) λi4 v4 r4 c4 q4=>.bnd (aU c4) λi5 v5 r5 c5 q5=>.bnd (El c5) λi6 v6 r6 c6 q6 => ?_
 have z4:=q4.2.1 qb
 have z5:=q5.2.1 qb
 refine .E0 (page ⟨q4.1,qg⟩ ⟨q5.1,qg⟩ q1 hy.1 q6) λr hr=>.bnd (aU c6) λi7 v7 r7 c7 q7 => ?_
 have z7:=q7.2.1 qb
 exact fin (L:=oU (⟨b,i,h⟩:M.aN)) (λ_ _ _ _ _ _ _ _ _ _ _ _ _ _ _=>by simp only [oU]) ⟨q7.1,z7⟩ c7 hr.1 hr.2.1 hr.2.2
def stN (n:Nat) (s:M.aA):Prop:=s.aGj.length<=n /\ ∀b∈s.aGj,bkI b
theorem stN.ok {n:Nat} {s:M.aA} (h:stN n s) (hn:n<=1000):s.ok:=⟨⟨ml (by have:=h.1;omega),λb hb=>(h.2 b hb).ok⟩⟩
theorem stN.sz {n:Nat} {s:M.aA} (h:stN n s) (hn:n<=5):M.aA.sz s<=900005:=by
 have h1:=dI (w:=M.aG.sz) (b:=180000) (xs:=s.aGj) λb hb=>(h.2 b hb).sz
 have h2:=h.1
 simp only [M.aA.sz]
 omega
theorem stN.mono {n m:Nat} {s:M.aA} (h:stN n s) (hm:n<=m):stN m s:=⟨by have:=h.1;omega,h.2⟩
theorem aAE {n:Nat} {s:M.aA} {b:M.aG} (h:stN n s) (hn:n<=4) (hb:bkI b) : ∃x,gI s b=some x/\stN (n+1) x.1:=by have hz:=h.sz qb;have hzb:=hb.sz;refine ⟨_,J6 (h.ok qb) hb.ok qb qb,?_⟩;have hl:=Hs s b;have h1:=h.1;unfold E9 LU;split;(split;(refine ⟨qg,λx hx => ?_⟩;rcases Ii hx with rfl | hx;(exact hb);·exact h.2 x hx);·exact h.mono (Nat.le_succ n));·exact h.mono (Nat.le_succ n)
theorem Oy {b:List Int} {i h:Int} (c0:okC b i h):Dr b (stN 4) (tL (⟨b,i,h⟩:M.aN)):=by
 unfold tL
 refine .bnd (aU c0) λi1 v1 r1 c1 q1 => ?_
 obtain ⟨N,rfl⟩:=AI q1.1
 have hN:=q1.2.1 qb
 refine BC (L:=λn v (s:(M.aA)×Int×Int)=>jK (⟨b,i,h⟩:M.aN) n v s.2.1 s.2.2 s.1.aGj) (I:=λk s=>k<=100000/\okC b s.2.1 s.2.2/\k<=3/\stN (3-k) s.1) (Q:=Dr b (stN 4)) (λn k s hi ih => ?_) (λn s hi => ?_) fuel N ((⟨([]:List M.aG)⟩:M.aA),i1,v1) (kE qb) ⟨qb,c1,⟨qb,qd,qd⟩⟩
 ·obtain ⟨x,ci,ch⟩:=s
  obtain ⟨k0,k1,k2⟩:=hi
  dsimp only at k1 k2
  simp only [jK]
  rw [if_pos (SU k),Kc k0]
  refine .bnd (KF k1) λi3 v3 r3 c3 q3=>.E0 (aAE (s:=x) k2.2 qb q3.all) λy hy => ?_
  have:=k2.1
  exact ih (y.1,i3,v3) ⟨qb,c3,qb,hy.mono qb⟩
 ·obtain ⟨x,ci,ch⟩:=s
  obtain ⟨k0,k1,k2⟩:=hi
  dsimp only at k1 k2
  simp only [jK]
  rw [if_neg J1]
  refine .bnd (uK k1) λi3 v3 r3 c3 q3 => ?_
  have hl:=k2.2.1
  dsimp only
  split
  ·refine .bnd (WI c3) λi4 v4 r4 c4 q4 => ?_
   dsimp only
   rw [AK qs qb,qA]
   refine .ret c4 ⟨qn,λy hy => ?_⟩
   rcases List.mem_append.1 hy with hy | hy
   ·exact k2.2.2 y hy
   ·rw [List.mem_singleton.1 hy];exact q4
  ·exact .ret c3 (k2.2.mono qb)
theorem SL {b:List Int} {i h:Int} (c0:okC b i h):Dr b wsm (zV (⟨b,i,h⟩:M.aN)):=by
 unfold zV
 refine .bnd (aU c0) λi1 v1 r1 c1 q1=>.bnd (aU c1) λi2 v2 r2 c2 q2=>.bnd (yO c2) λi3 v3 r3 c3 q3=>.bnd (Ay c3) λi4 v4 r4 c4 q4=>.bnd (aU c4) λi5 v5 r5 c5 q5=>.bnd (aU c5) λi6 v6 r6 c6 q6 => ?_
 have hf:r4.size<=16:=Nat.le_trans q4 qb
 have hn:inI r5:=bgI (V6 q5)
 have hk:=q3.any
 dsimp only
 split
 ·exact .bnd (rU (λx => -1000000000000000<=x/\x<=1000000000000000) qe qe c6) λi7 v7 r7 c7 q7=>.ret c7 (Gw (bgI q7) (bH _) hk hf hn)
 split
 ·exact .bnd (rU (λx => -1000000000000000<=x/\x<=1000000000000000) qe qe c6) λi7 v7 r7 c7 q7=>.ret c7 (Gw (bH _) (bgI q7) hk hf hn)
 split
 ·exact .bnd (PS c6) λi7 v7 r7 c7 q7=>.ret c7 (Gw (bH _) (bH _) q7 hf hn)
 split
 ·exact .ret c6 (Gw (bH _) (bH _) hk qe hn)
 split
 ·exact .bnd (rU (λx => -1000000000000000<=x/\x<=1000000000000000) qe qe c6) λi7 v7 r7 c7 q7=>.ret c7 (Gw (bH _) (bH _) hk hf (bgI q7))
 ·exact .ret c6 (Gw (bH _) (bH _) hk hf hn)
def S7 (s:M.aGr):Prop:=M.aGr.ok s/\M.aGr.sz s<=30000
theorem Zr {s:M.aD} {a:List M.aP} {c:List M.bC} (hs:MP s) (ha:a.length<=100 /\ ∀x∈a,M.aP.ok x) (hc:c.length<=100 /\ ∀x∈c,wsm x):S7 (⟨s,a,c⟩:M.aGr):=by
 have h1:=hs.2
 have h2:=ha.1
 have h3:=hc.1
 have h4:=dI (w:=M.bC.sz) (b:=32) (xs:=c) λw hw=>(hc.2 w hw).2
 refine ⟨⟨hs.1,⟨ml qg,ha.2⟩,⟨ml qg,λw hw=>(hc.2 w hw).1⟩⟩,?_⟩
 simp only [M.aGr.sz]
 omega
end Go.Proofs.YtipmihbgjolaaaaGreat.gen
