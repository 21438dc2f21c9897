/-
  Helper text. No conditions.
-/
import Derived.Test.YtipmihbgjolaaaaGreatCompleteCachesPd5
set_option linter.unusedVariables false
set_option linter.unusedSimpArgs false
namespace Go.Proofs.YtipmihbgjolaaaaGreat.gen
open Go Go.Sh
theorem mkKey {a n:Int} {s:ByteArray} (h1 : -1000000000000000<=a/\a<=1000000000000000) (h2 : -1000000000000000<=n/\n<=1000000000000000) (h3:s.size<=16):NH (⟨a,n,s⟩:M.Key):=⟨⟨bgI h1,bgI h2,s16 h3⟩,h3⟩
def Qp (k:M.Key):Prop:=k.aG7=1/\0<=k.N/\k.N<=5/\k.aHG=(⟨#[]⟩:ByteArray)
theorem Qp.any {k:M.Key} (h:Qp k):NH k:=by obtain ⟨a,n,s⟩:=k;obtain ⟨h1,h2,h3,h4⟩:=h;dsimp only at h1 h2 h3 h4;subst h4;exact mkKey qb qb qe
def Np (k:M.Key):Prop:=NH k/\(k.aG7=1->k.N<=256\/k.N=1000000000000)
theorem Qp.auto {k:M.Key} (h:Qp k):Np k:=⟨h.any,λ_=>.inl (by have:=h.2.2.1;omega)⟩
theorem yO {b:List Int} {i h:Int} (c0:okC b i h):Dr b Qp (dR (⟨b,i,h⟩:M.aN)):=by
 unfold dR
 refine .bnd (aU c0) λi1 v1 r1 c1 q1 => ?_
 have:=q1.2.1 qb
 exact .ret c1 ⟨rfl,q1.1,by show r1<=5;omega,rfl⟩
theorem MT {b:List Int} {i h:Int} (c0:okC b i h):Dr b (λx => -1000000000000<=x/\x<=1000000000000/\(x<=256\/x=1000000000000)) (xE (⟨b,i,h⟩:M.aN)):=by
 unfold xE
 refine .bnd (aU c0) λi1 v1 r1 c1 q1 => ?_
 have:=q1.2.1 qb
 have:=q1.1
 exact .bnd (rU (λx => -1000000000000<=x/\x<=1000000000000/\(x<=256\/x=1000000000000)) qd (λx hx=>by simp only [List.mem_cons,qO,or_false] at hx;omega) c1) λi2 v2 r2 c2 q2=>.ret c2 q2
theorem Va {b:List Int} {i h:Int} (c0:okC b i h):Dr b Np (Br (⟨b,i,h⟩:M.aN)):=by
 unfold Br
 refine .bnd (Bl (λs=>s.size<=16) qe qe c0) λi1 v1 r1 c1 q1=>.bnd (aU c1) λi2 v2 r2 c2 q2 => ?_
 dsimp only
 split
 ·exact .ret c2 ⟨mkKey qb qb q1,λh=>by have h':(2:Int)=1:=h;omega⟩
 split
 ·exact .bnd (MT c2) λi3 v3 r3 c3 q3=>.ret c3 ⟨mkKey qb (aDV q3) q1,λh=>by have h':(3:Int)=1:=h;omega⟩
 ·exact .bnd (MT c2) λi3 v3 r3 c3 q3=>.ret c3 ⟨mkKey qb (aDV q3) qe,λ_=>q3.2.2⟩
theorem PS {b:List Int} {i h:Int} (c0:okC b i h):Dr b NH (zT (⟨b,i,h⟩:M.aN)):=by
 unfold zT
 refine .bnd (Va c0) λi1 v1 r1 c1 q1=>.bnd (aU c1) λi2 v2 r2 c2 q2 => ?_
 dsimp only
 have hk:=q1.1
 split
 ·exact .bnd (aU c2) λi3 v3 r3 c3 q3=>.ret c3 ⟨⟨bgI (V6 q3),hk.1.N,hk.1.aHG⟩,hk.2⟩
 split
 ·exact .bnd (rU (λx => -1000000000000000<=x/\x<=1000000000000000) qe qe c2) λi3 v3 r3 c3 q3=>.ret c3 ⟨⟨hk.1.aG7,bgI q3,hk.1.aHG⟩,hk.2⟩
 split
 ·exact .bnd (Bl (λs=>s.size<=16) qe qe c2) λi3 v3 r3 c3 q3=>.ret c3 ⟨⟨hk.1.aG7,hk.1.N,s16 q3⟩,q3⟩
 ·exact .ret c2 hk
def KK (r:M.aE):Prop:=r.ok/\cG r=true
theorem U6 {r:M.aE} {a:ByteArray} {n:Int} (h:KK r) (ha:a.size<=16) (hn : -1000000000000000<=n/\n<=1000000000000000) : ∃x,iP r a n=some x/\KK x.1:=by
 have hz:=GF h.2
 have hl:r.aGn.length<=1073741824:=by simp only [M.aE.sz] at hz;omega
 exact ⟨_,BD h.1 qb (s16 ha) (bgI hn),M7 h.1 hl (s16 ha) (bgI hn),Q0 h.2 _ _⟩
theorem Zz:KK (⟨([]:List M.Field)⟩:M.aE):=⟨HF,EK⟩
theorem C6 {b:List Int} {i h:Int} (c0:okC b i h):Dr b KK (kF (⟨b,i,h⟩:M.aN)):=by
 unfold kF
 refine .bnd (aU c0) λi1 v1 r1 c1 q1 => ?_
 have hN:=q1.2.2
 obtain ⟨N,rfl⟩:=AI q1.1
 have hN:=q1.2.1 qb
 refine BC (L:=λn v (s:(M.aE)×Int×Int)=>mY (⟨b,i,h⟩:M.aN) n v s.2.1 s.2.2 s.1.aGn) (I:=λk s=>k<=100000/\okC b s.2.1 s.2.2/\KK s.1) (Q:=Dr b KK) (λn k s hi ih => ?_) (λn s hi => ?_) fuel N ((⟨([]:List M.Field)⟩:M.aE),i1,v1) (kE qb) ⟨qb,c1,Zz⟩
 ·obtain ⟨x,ci,ch⟩:=s
  obtain ⟨k0,k1,k2⟩:=hi
  dsimp only at k1 k2
  simp only [mY]
  rw [if_pos (SU k),Kc k0]
  refine .bnd (Ay k1) λi3 v3 r3 c3 q3=>.bnd (aU c3) λi4 v4 r4 c4 q4=>.E0 (U6 k2 (Nat.le_trans q3 qb) (V6 q4)) λy hy => ?_
  exact ih (y.1,i4,v4) ⟨qb,c4,hy⟩
 ·obtain ⟨x,ci,ch⟩:=s;obtain ⟨k0,k1,k2⟩:=hi;dsimp only at k1 k2;simp only [mY];rw [if_neg J1];exact .ret k1 k2
theorem Y1 {r:M.aE} {a:ByteArray} {n:Int} (h:KK r) (ha:a.size<=16) (hn : -1000000000000000<=n/\n<=1000000000000000):M.aE.ok (⟨r.aGn++[(⟨a,n⟩:M.Field)]⟩:M.aE)/\M.aE.sz (⟨r.aGn++[(⟨a,n⟩:M.Field)]⟩:M.aE)<=200:=by have hz:=GF h.2;simp only [M.aE.sz] at hz ⊢;refine ⟨⟨ml qn,λy hy => ?_⟩,?_⟩;(rcases List.mem_append.1 hy with hy | hy;(exact h.1.aGn.2 y hy);·rw [List.mem_singleton.1 hy];exact ⟨s16 ha,bgI hn⟩);·rw [tP];simp only [cX,M.Field.sz,qE,qJ,qK];omega
def Q3 (r:M.aE):Prop:=r.ok/\M.aE.sz r<=200
theorem KK.any {r:M.aE} (h:KK r):Q3 r:=⟨h.1,by have:=GF h.2;omega⟩
theorem YG {b:List Int} {i h:Int} (c0:okC b i h):Dr b Q3 (Cs (⟨b,i,h⟩:M.aN)):=by
 unfold Cs
 refine .bnd (C6 c0) λi1 v1 r1 c1 q1=>.bnd (aU c1) λi2 v2 r2 c2 q2 => ?_
 dsimp only
 have hz:=GF q1.2
 have hl:r1.aGn.length<=100:=by simp only [M.aE.sz] at hz;omega
 split
 ·refine .bnd (Bl (λs=>s.size<=16) qe qe c2) λi3 v3 r3 c3 q3=>.bnd (rU (λx => -1000000000000000<=x/\x<=1000000000000000) qe qe c3) λi4 v4 r4 c4 q4 => ?_
  dsimp only
  rw [AK qs qb,qA]
  exact .ret c4 (Y1 q1 q3 q4)
 split
 ·have key : ∀(n k:Nat) (r:M.aE),6-k<n->k<=6->KK r->Dr b Q3 (tO (i2,v2,r2) n (k:Int) r.aGn):=by
   intro n
   induction n with
   | zero=>intro k r h _ _;omega
   | succ n ih =>
    intro k r h hk hr
    simp only [tO]
    rcases Nat.lt_or_ge k 6 with h6 | h6
    ·have e : ∃s,idx ([(⟨#[100]⟩:ByteArray),(⟨#[101]⟩:ByteArray),(⟨#[102]⟩:ByteArray),(⟨#[103]⟩:ByteArray),(⟨#[104]⟩:ByteArray),(⟨#[105]⟩:ByteArray)]) (k:Int)=some s/\s.size<=16:=by
      have:k=0\/k=1\/k=2\/k=3\/k=4\/k=5:=by omega
      rcases this with rfl | rfl | rfl | rfl | rfl | rfl<;>exact ⟨_,rfl,qe⟩
     rw [if_pos (aY h6)]
     refine .E0 e λs hs=>.E0 (U6 hr hs qb) λy hy => ?_
     rw [bD qb]
     exact ih (k+1) y.1 qb qb hy
    ·have:k=6:=by omega
     subst this
     rw [if_neg qd]
     exact .ret c2 hr.any
  exact key fuel 0 r1 (kE qb) qb q1
 ·exact .ret c2 q1.any
def XZ (s:M.aD):Prop:=s.aHD<=256 /\ ∀x∈s.aGk,x.Key.aG7=1->x.Key.N<=s.aHD\/x.Key.N=1000000000000
def SY (s:M.aD):Prop:=s.ok/\iI s=true/\XZ s
theorem WV {s:M.aD} {k:M.Key} {r:M.aE} (hs:XZ s) (hk:Np k):XZ (CE s k r).1:=by
 have ha:s.aHD<=H7 s k/\H7 s k<=256/\(k.aG7=1->k.N<=H7 s k\/k.N=1000000000000):=by obtain ⟨a1,a2⟩:=hs;have a3:=hk.2;unfold H7;by_cases hc:((k.aG7==1)&&(decide (k.N>s.aHD)&&decide (k.N<=1000000)))=true;(rw [if_pos hc];simp only [qM,qL,beq_iff_eq] at hc;have:=a3 hc.1;exact ⟨qb,qb,λ_=>.inl qb⟩);·rw [if_neg hc];refine ⟨qb,a1,λh1 => ?_⟩;have:=a3 h1;simp only [qM,qL,beq_iff_eq,not_and] at hc;by_cases h2:k.N>s.aHD;(have:=hc h1 h2;omega);·omega
 unfold CE
 split
 ·split;(split;(split;(refine ⟨ha.2.1,λx hx h1 => ?_⟩;have hx':x∈s.aGk.take (Dt s.aGk k)++([(⟨k,r⟩:M.aG1)]++s.aGk.drop (Dt s.aGk k)):=hx;simp only [qP,List.mem_singleton] at hx';show x.Key.N<=H7 s k\/_;rcases hx' with hx' | rfl | hx';(have:=hs.2 x (List.mem_of_mem_take hx') h1;omega);(exact ha.2.2 h1);·have:=hs.2 x (List.mem_of_mem_drop hx') h1;omega);·exact hs);·unfold P8;refine ⟨hs.1,?_⟩;dsimp only;split;(rename_i y hy;intro x hx h1;rcases List.mem_or_eq_of_mem_set hx with hx | rfl;(exact hs.2 x hx h1);·exact hs.2 y (List.mem_of_getElem? hy) h1);·exact hs.2);·exact hs
 ·exact hs
theorem Vg {s:M.aD} {k:M.Key} {r:M.aE} (hs:SY s) (hk:Np k) (hr:KK r) : ∃x,eF s k r=some x/\SY x.1:=by
 have hz:=pU hs.2.1
 have hl:s.aGk.length<=1073741824:=by simp only [M.aD.sz] at hz;omega
 refine ⟨_,zE hs.1 hk.1.1 hr.1 hr.2 qb (Nat.le_trans (GF hr.2) qb),Nj hs.1 hl hk.1.1 hr.1,?_,WV hs.2.2 hk⟩
 cases h2:(CE s k r).2 with
 | true=>exact DW hr.2 h2
 | false=>rw [Jp h2];exact hs.2.1
theorem XF {a:ByteArray} (hn:mT a=true) (ha:a.size<=16):SY (⟨a,([]:List M.aG1),0⟩:M.aD):=⟨⟨s16 ha,⟨by simp [maxLen],qd⟩,wU⟩,by unfold iI;simp [hn,inR],by show (0:Int)<=256;omega,qd⟩
theorem FD {b:List Int} {i h:Int} {a:ByteArray} (hn:mT a=true) (ha:a.size<=16) (c0:okC b i h):Dr b SY (pI (⟨b,i,h⟩:M.aN) a):=by
 unfold pI
 refine .bnd (rU (λx=>0<=x/\x<=6) qe qe c0) λi1 v1 r1 c1 q1 => ?_
 obtain ⟨N,rfl⟩:=AI q1.1
 have hN:=q1.2
 refine BC (L:=λn v (s:(M.aD)×Int×Int)=>oN (⟨b,i,h⟩:M.aN) n v s.1.Name s.1.aHD s.2.1 s.2.2 s.1.aGk) (I:=λk s=>k<=100000/\okC b s.2.1 s.2.2/\SY s.1) (Q:=Dr b SY) (λn k s hi ih => ?_) (λn s hi => ?_) fuel N ((⟨a,([]:List M.aG1),0⟩:M.aD),i1,v1) (kE qb) ⟨qb,c1,XF hn ha⟩
 ·obtain ⟨x,ci,ch⟩:=s
  obtain ⟨k0,k1,k2⟩:=hi
  dsimp only at k1 k2
  simp only [oN]
  rw [if_pos (SU k),Kc k0]
  refine .bnd (yO k1) λi3 v3 r3 c3 q3=>.bnd (C6 c3) λi4 v4 r4 c4 q4=>.E0 (Vg k2 q3.auto q4) λy hy => ?_
  exact ih (y.1,i4,v4) ⟨qb,c4,hy⟩
 ·obtain ⟨x,ci,ch⟩:=s
  obtain ⟨k0,k1,k2⟩:=hi
  dsimp only at k1 k2
  simp only [oN]
  rw [if_neg J1]
  refine .bnd (uK k1) λi3 v3 r3 c3 q3 => ?_
  dsimp only
  split
  ·exact .bnd (Va c3) λi4 v4 r4 c4 q4=>.bnd (C6 c4) λi5 v5 r5 c5 q5=>.E0 (Vg k2 q4 q5) λy hy=>.ret c5 hy
  ·exact .ret c3 k2
def MP (s:M.aD):Prop:=s.ok/\M.aD.sz s<=20000
theorem SY.any {s:M.aD} (h:SY s):MP s:=⟨h.1,by have:=pU h.2.1;omega⟩
def WM (s:M.aD):Prop:=s.aHD<=256+s.aGk.length /\ ∀x∈s.aGk,x.Key.aG7=1->x.Key.N<=s.aHD\/x.Key.N=1000000000000
theorem Ts {s:M.aD} (h1:s.ok) (h2:iI s=true) (h3:WM s) (hl:s.aGk.length<16) : ∃x,zR s (⟨([]:List M.Field)⟩:M.aE)=some x/\x.1.ok/\iI x.1=true/\WM x.1/\x.1.aGk.length=s.aGk.length+1:=by
 obtain ⟨_,_,_,h0,_⟩:=yA h2
 obtain ⟨a1,a2⟩:=h3
 have ew:IntKind.i64.wrap (s.aHD+1)=s.aHD+1:=wrap_small qb qb
 have hz:=pU h2
 have hkey:CN (⟨1,s.aHD+1,(⟨#[]⟩:ByteArray)⟩:M.Key)=true:=by
  unfold CN inR
  have e:LW (⟨#[]⟩:ByteArray)=true:=by decide
  simp [e]
  omega
 have hf:kG (zQ (⟨1,s.aHD+1,(⟨#[]⟩:ByteArray)⟩:M.Key)) s.aGk<0:=Classical.byContradiction λhn=>by obtain ⟨j,ej,hj⟩:=fI hn;obtain ⟨_,hit⟩:=AA ej;unfold zQ at hit;simp only [qM,beq_iff_eq] at hit;have:=a2 _ (qG hj) hit.1;omega
 have hk:M.Key.ok (⟨1,s.aHD+1,(⟨#[]⟩:ByteArray)⟩:M.Key):=(mkKey qb qb qe).1
 have e:=GH h1 hk HF EK qb (by simp [M.aE.sz,cX])
 have ep:CE s (⟨1,s.aHD+1,(⟨#[]⟩:ByteArray)⟩:M.Key) (⟨([]:List M.Field)⟩:M.aE)=(Ov s (⟨1,s.aHD+1,(⟨#[]⟩:ByteArray)⟩:M.Key) (⟨([]:List M.Field)⟩:M.aE),true):=by unfold CE;rw [if_pos h2,if_pos hkey,if_pos hf,if_pos hl]
 have hg:=DW (s:=s) (k:=(⟨1,s.aHD+1,(⟨#[]⟩:ByteArray)⟩:M.Key)) EK (by rw [ep])
 rw [ep] at hg
 have en:PG s (⟨1,s.aHD+1,(⟨#[]⟩:ByteArray)⟩:M.Key) (⟨([]:List M.Field)⟩:M.aE)=(Ov s (⟨1,s.aHD+1,(⟨#[]⟩:ByteArray)⟩:M.Key) (⟨([]:List M.Field)⟩:M.aE),true):=by unfold PG;rw [if_pos hf,ep]
 have ea:H7 s (⟨1,s.aHD+1,(⟨#[]⟩:ByteArray)⟩:M.Key)=s.aHD+1:=by unfold H7;rw [if_pos qc]
 have hp:=Ny s.aGk (⟨1,s.aHD+1,(⟨#[]⟩:ByteArray)⟩:M.Key)
 rw [en] at e
 refine ⟨(Ov s (⟨1,s.aHD+1,(⟨#[]⟩:ByteArray)⟩:M.Key) (⟨([]:List M.Field)⟩:M.aE),(⟨1,s.aHD+1,(⟨#[]⟩:ByteArray)⟩:M.Key),true),?_,?_,hg,?_,?_⟩
 ·unfold zR;rw [if_neg qc,ew,e,qA,if_neg qd]
 ·unfold Ov;exact UF _ h1 qb hk HF (by rw [ea];exact bgI qh)
 ·unfold Ov WM;dsimp only;rw [ea];refine ⟨qo,λx hx h1 => ?_⟩;simp only [qP,List.mem_singleton] at hx;rcases hx with hx | rfl | hx;(have:=a2 x (List.mem_of_mem_take hx) h1;omega);(exact .inl (Int.le_refl _));·have:=a2 x (List.mem_of_mem_drop hx) h1;omega
 ·unfold Ov;simp only [qE,qT,qU,qJ,qK];omega
theorem YK {s:M.aD} {k:M.Key} {r:M.aE} (hs:SY s) (hk:NH k) (hr:Q3 r):MP (⟨s.Name,s.aGk++[(⟨k,r⟩:M.aG1)],s.aHD⟩:M.aD):=by have hz:=pU hs.2.1;have h1:=hk.2;have h2:=hr.2;refine ⟨⟨hs.1.Name,⟨?_,λy hy => ?_⟩,hs.1.aHD⟩,?_⟩;(simp only [M.aD.sz] at hz;exact ml qn);(rcases List.mem_append.1 hy with hy | hy;(exact hs.1.aGk.2 y hy);·rw [List.mem_singleton.1 hy];exact ⟨hk.1,hr.1⟩);·simp only [M.aD.sz] at hz ⊢;rw [tP];simp only [cX,M.aG1.sz,M.Key.sz,qE,qJ,qK];omega
theorem Ur {b:List Int} {i h:Int} (c0:okC b i h):Dr b MP (Bp (⟨b,i,h⟩:M.aN)):=by
 unfold Bp
 refine .bnd (FD qe qe c0) λi1 v1 r1 c1 q1=>.bnd (aU c1) λi2 v2 r2 c2 q2 => ?_
 dsimp only
 have hz:=pU q1.2.1
 have hl:r1.aGk.length<=10000:=by simp only [M.aD.sz] at hz;omega
 split
 ·refine .bnd (Bl (λs=>s.size<=16) qe qe c2) λi3 v3 r3 c3 q3=>.ret c3 ⟨⟨s16 q3,q1.1.aGk,q1.1.aHD⟩,?_⟩
  have q3':r3.size<=16:=q3
  simp only [M.aD.sz] at hz ⊢
  omega
 split
 ·exact .bnd (rU (λx => -1000000000000000<=x/\x<=1000000000000000) qe qe c2) λi3 v3 r3 c3 q3=>.ret c3 ⟨⟨q1.1.Name,q1.1.aGk,bgI q3⟩,Nat.le_trans hz qb⟩
 split
 ·refine .bnd (PS c2) λi3 v3 r3 c3 q3=>.bnd (YG c3) λi4 v4 r4 c4 q4 => ?_
  dsimp only
  rw [AK qs qb,qA]
  exact .ret c4 (YK q1 q3 q4)
 split
 ·have key : ∀(n:Nat) (s:M.aD),16-s.aGk.length<n->s.ok->iI s=true->WM s->Dr b MP (xY (i2,v2,r2) n s.Name s.aHD s.aGk):=by
   intro n
   induction n with
   | zero=>intro s h _ _ _;omega
   | succ n ih =>
    intro s h hs hst hj
    have hm:=pU hst
    simp only [xY]
    rcases Nat.lt_or_ge s.aGk.length 16 with h6 | h6
    ·rw [if_pos qc,show (⟨s.Name,s.aGk,s.aHD⟩:M.aD)=s from rfl,zN hs,qA,hst,if_pos rfl]
     refine .E0 (Ts hs hst hj h6) λy hy => ?_
     have hy':=hy.2.2.2
     exact ih y.1 qb hy.1 hy.2.1 hy.2.2.1
    ·rw [if_neg qc];exact .ret c2 ⟨hs,by show M.aD.sz s<=_;omega⟩
  exact key fuel r1 (kE qb) q1.1 q1.2.1 ⟨by have:=q1.2.2.1;omega,q1.2.2.2⟩
 ·exact .ret c2 q1.any
theorem O3 {b:List Int} {i h n:Int} (hn:0<=n/\n<=1000) (c0:okC b i h):Dr b (λl=>okB l/\l.length<=1000) (zK (⟨b,i,h⟩:M.aN) n):=by
 unfold zK
 obtain ⟨N,rfl⟩:=AI hn.1
 refine Yd (N:=N) (L:=λm v (s:List Int×Int×Int)=>pC (⟨b,i,h⟩:M.aN) (N:Int) m v s.1 s.2.1 s.2.2) (I:=λk s=>okC b s.2.1 s.2.2/\s.1.length=k /\ ∀x∈s.1,0<=x/\x<=255) (Q:=Dr b (λl=>okB l/\l.length<=1000)) (λm k s hk hi ih => ?_) (λm s hi => ?_) fuel 0 (([]:List Int),i,h) (kE qb) qb ⟨c0,rfl,qd⟩
 ·obtain ⟨l,ci,ch⟩:=s
  obtain ⟨k1,k2,k3⟩:=hi
  dsimp only at k1 k2 k3
  simp only [pC]
  rw [if_pos (aY hk)]
  refine .bnd (HG k1) λi3 v3 r3 c3 q3 => ?_
  dsimp only
  rw [AK qs qb,qA,bD qb]
  refine ih (l++[_],i3,v3) ⟨c3,by simp [k2],λx hx => ?_⟩
  rcases List.mem_append.1 hx with hx | hx
  ·exact k3 x hx
  ·rw [List.mem_singleton.1 hx,wrap_u8];omega
 ·obtain ⟨l,ci,ch⟩:=s;obtain ⟨k1,k2,k3⟩:=hi;dsimp only at k1 k2 k3;simp only [pC];rw [if_neg qk];exact .ret k1 ⟨⟨ml qb,k3⟩,qb⟩
theorem W5 {b l:List Int} {i h:Int} (hl:okB l) (hz:l.length<=100000) (c0:okC b i h):Dr b (λr=>okB r/\r.length<=l.length+1) (BU (⟨b,i,h⟩:M.aN) l):=by
 unfold BU
 rw [Fe qb qb,qA]
 refine .bnd (aU c0) λi1 v1 r1 c1 q1 => ?_
 dsimp only
 split
 ·split
  ·rename_i hp
   refine .bnd (aU c1) λi2 v2 r2 c2 q2=>.bnd (aU c2) λi3 v3 r3 c3 q3 => ?_
   have hp':(0:Int)<(l.length:Int):=by simpa using hp
   obtain ⟨k,rfl⟩:=AI q2.1
   have hk:=q2.2.1 hp'
   dsimp only
   rw [aK qb,qA]
   refine .ret c3 ⟨⟨by rw [qN];exact hl.1,λx hx => ?_⟩,by rw [qN];omega⟩
   rcases List.mem_or_eq_of_mem_set hx with hx | rfl
   ·exact hl.2 x hx
   ·rw [wrap_u8];omega
  ·exact .ret c1 ⟨hl,qb⟩
 split
 ·refine .bnd (aU c1) λi2 v2 r2 c2 q2 => ?_
  have hw:IntKind.i64.wrap ((l.length:Int)+1)=(l.length:Int)+1:=wrap_small qb qb
  rw [hw] at q2
  obtain ⟨k,rfl⟩:=AI q2.1
  have hk:=q2.2.1 qb
  dsimp only
  rw [BG qb,qA,qH]
  exact .ret c2 ⟨⟨by have:=hl.1;rw [qT];omega,λx hx=>hl.2 x (List.mem_of_mem_take hx)⟩,by rw [qT];omega⟩
 split
 ·refine .bnd (rU (λ_=>True) qe (λ_ _=>trivial) c1) λi2 v2 r2 c2 q2 => ?_
  dsimp only
  rw [AK qs qb,qA]
  refine .ret c2 ⟨⟨ml qn,λx hx => ?_⟩,qd⟩
  rcases List.mem_append.1 hx with hx | hx
  ·exact hl.2 x hx
  ·rw [List.mem_singleton.1 hx,wrap_u8];omega
 ·exact .ret c1 ⟨hl,qb⟩
def XM (x:M.aGm):Prop:=x.ok/\x.aHT.length<=1000
theorem HZ {b:List Int} {i h:Int} (c0:okC b i h):Dr b XM (rE (⟨b,i,h⟩:M.aN)):=by
 unfold rE
 refine .bnd (aU c0) λi1 v1 r1 c1 q1=>.bnd (aU c1) λi2 v2 r2 c2 q2=>.bnd (aU c2) λi3 v3 r3 c3 q3=>.bnd (O3 (aF6 q3 qb qb) c3) λi4 v4 r4 c4 q4=>.bnd (uK c4) λi5 v5 r5 c5 q5=>.bnd (aU c5) λi6 v6 r6 c6 q6 => ?_
 dsimp only
 split
 ·exact .bnd (rU (λx => -1000000000000000<=x/\x<=1000000000000000) qe qe c6) λi7 v7 r7 c7 q7=>.ret c7 ⟨⟨bgI q7,bgI qh,bH _,q4.1⟩,q4.2⟩
 split
 ·exact .bnd (rU (λx => -1000000000000000<=x/\x<=1000000000000000) qe qe c6) λi7 v7 r7 c7 q7=>.ret c7 ⟨⟨bH _,bgI q7,bH _,q4.1⟩,q4.2⟩
 split
 ·exact .bnd (rU (λx=>0<=x/\x<=1000) qe qe c6) λi7 v7 r7 c7 q7=>.bnd (O3 q7 c7) λi8 v8 r8 c8 q8=>.ret c8 ⟨⟨bH _,bgI qh,bH _,q8.1⟩,q8.2⟩
 ·exact .ret c6 ⟨⟨bH _,bgI qh,bH _,q4.1⟩,q4.2⟩
def CJ (s:M.aC):Prop:=s.ok/\M.aC.sz s<=65536
theorem Nr {s:M.aC} {v:Int} (h:CJ s) (hv:inI v) : ∃x,kY s v=some x/\CJ x.1:=by
 have hz:=h.2
 refine ⟨_,E4 h.1 hv qb,KW h.1 hv qb,?_⟩
 cases h2:(DE s v).2 with
 | true=>exact Ap (IT h2)
 | false =>
  have e:(DE s v).1=s:=by unfold DE at h2 ⊢;split at h2;(cases h2);·rename_i hh;rw [if_neg hh]
  rw [e];exact h.2
theorem VK {s:M.aC} {v:Int} {a p:ByteArray} {x:M.aGm} (h:CJ s) (ha:a.size<=16) (hp:p.size<=16) (hx:XM x) : ∃y,jP s v a p x=some y/\CJ y.1:=by
 have hz:=h.2
 have hx2:=hx.2
 refine ⟨_,CM h.1 qb (s16 ha) (s16 hp) hx.1 (by simp only [M.aGm.sz];omega),Nv h.1 qb (s16 ha) (s16 hp) hx.1,?_⟩
 cases h2:(Iz s v a p x).2 with
 | true=>exact Ap (Kw h2)
 | false =>
  have e:(Iz s v a p x).1=s:=by unfold Iz at h2 ⊢;split at h2;(rename_i hh;rw [if_pos hh]);·rename_i hh;rw [if_neg hh];split at h2;(cases h2);·rename_i hh2;rw [if_neg hh2]
  rw [e];exact h.2
theorem UK:CJ (⟨([]:List M.aGo)⟩:M.aC):=⟨⟨⟨by simp [maxLen],qd⟩⟩,by simp [M.aC.sz,cX]⟩
theorem Vq {b:List Int} {i h:Int} {N:Nat} (hN:N<=10) {i1 v1:Int} (c1:okC b i1 v1) {s:M.aC} (hs:CJ s):Dr b CJ (nR (⟨b,i,h⟩:M.aN) fuel (N:Int) i1 v1 s.aGi):=by
 refine BC (L:=λn v (s:(M.aC)×Int×Int)=>nR (⟨b,i,h⟩:M.aN) n v s.2.1 s.2.2 s.1.aGi) (I:=λk s=>k<=100000/\okC b s.2.1 s.2.2/\CJ s.1) (Q:=Dr b CJ) (λn k s hi ih => ?_) (λn s hi => ?_) fuel N (s,i1,v1) (kE qb) ⟨qb,c1,hs⟩
 ·obtain ⟨x,ci,ch⟩:=s
  obtain ⟨k0,k1,k2⟩:=hi
  dsimp only at k1 k2
  simp only [nR]
  rw [if_pos (SU k),Kc k0]
  refine .bnd (aU k1) λi3 v3 r3 c3 q3=>.bnd (Fy c3) λi4 v4 r4 c4 q4=>.bnd (Lm c4) λi5 v5 r5 c5 q5=>.bnd (HZ c5) λi6 v6 r6 c6 q6=>.E0 (VK k2 (Nat.le_trans q4 qb) (Nat.le_trans q5 qb) q6) λy hy => ?_
  exact ih (y.1,i6,v6) ⟨qb,c6,hy⟩
 ·obtain ⟨x,ci,ch⟩:=s;obtain ⟨k0,k1,k2⟩:=hi;dsimp only at k1 k2;simp only [nR];rw [if_neg J1];exact .ret k1 k2
theorem Wb {b:List Int} {i h:Int} (c0:okC b i h):Dr b CJ (BA (⟨b,i,h⟩:M.aN)):=by
 unfold BA
 refine .bnd (aU c0) λi1 v1 r1 c1 q1 => ?_
 obtain ⟨N,rfl⟩:=AI q1.1
 have hN:=q1.2.1 qb
 refine BC (L:=λn v (s:(M.aC)×Int×Int)=>rP (⟨b,i,h⟩:M.aN) n v s.2.1 s.2.2 s.1.aGi) (I:=λk s=>k<=100000/\okC b s.2.1 s.2.2/\CJ s.1) (Q:=Dr b CJ) (λn k s hi ih => ?_) (λn s hi => ?_) fuel N ((⟨([]:List M.aGo)⟩:M.aC),i1,v1) (kE qb) ⟨qb,c1,UK⟩
 ·obtain ⟨x,ci,ch⟩:=s
  obtain ⟨k0,k1,k2⟩:=hi
  dsimp only at k1 k2
  simp only [rP]
  rw [if_pos (SU k),Kc k0]
  refine .bnd (aU k1) λi3 v3 r3 c3 q3=>.E0 (Nr k2 (bH _)) λy hy => ?_
  exact ih (y.1,i3,v3) ⟨qb,c3,hy⟩
 ·obtain ⟨x,ci,ch⟩:=s
  obtain ⟨k0,k1,k2⟩:=hi
  dsimp only at k1 k2
  simp only [rP]
  rw [if_neg J1]
  refine .bnd (aU k1) λi3 v3 r3 c3 q3 => ?_
  obtain ⟨M,rfl⟩:=AI q3.1
  have hM:=q3.2.1 qb
  exact Vq qb c3 k2
def Ho (s:M.aC):Prop:=s.ok/\M.aC.sz s<=70000
theorem CJ.all {s:M.aC} (h:CJ s):Ho s:=⟨h.1,by have:=h.2;omega⟩
theorem MY {b:List Int} {i h:Int} (c0:okC b i h):Dr b Ho (yB (⟨b,i,h⟩:M.aN)):=by
 unfold yB
 refine .bnd (Wb c0) λi1 v1 r1 c1 q1=>.bnd (aU c1) λi2 v2 r2 c2 q2 => ?_
 have hz:=q1.2
 simp only [M.aC.sz] at hz
 dsimp only
 split
 ·refine .bnd (rU (λx => -1000000000000000<=x/\x<=1000000000000000) qe qe c2) λi3 v3 r3 c3 q3 => ?_
  dsimp only
  rw [AK qs qb,qA]
  refine .ret c3 ⟨⟨⟨ml qn,λy hy => ?_⟩⟩,?_⟩
  ·rcases List.mem_append.1 hy with hy | hy;(exact q1.1.aGi.2 y hy);·rw [List.mem_singleton.1 hy];exact ⟨bgI q3,⟨by simp [maxLen],qd⟩⟩
  ·simp only [M.aC.sz];rw [tP];simp only [cX,M.aGo.sz,qE,qJ,qK];omega
 split
 ·split
  ·rename_i hp
   cases hc:r1.aGi with
   | nil=>rw [hc] at hp;simp at hp
   | cons x0 xs =>
    have hx0:x0∈r1.aGi:=by rw [hc];simp
    have ho:=q1.1.aGi.2 x0 hx0
    rw [hc] at hz
    simp only [cX,M.aGo.sz,qJ] at hz
    rw [show idx (x0::xs) 0=some x0 from rfl,qA]
    refine .bnd (Bl (λs=>s.size<=16) qe qe c2) λi3 v3 r3 c3 q3=>.bnd (HZ c3) λi4 v4 r4 c4 q4 => ?_
    dsimp only
    rw [AK qs qb,qA]
    have aa:=q4.2
    have ae:r3.size<=16:=q3
    refine .ret c4 ⟨⟨⟨ml (by show (List.set _ _ _).length<=_;rw [qN,qJ];omega),λy hy => ?_⟩⟩,?_⟩
    ·rcases List.mem_or_eq_of_mem_set hy with hy | rfl;(exact q1.1.aGi.2 y (by rw [hc];exact hy));·refine ⟨ho.aGg,ml qn,λz hz => ?_⟩;rcases List.mem_append.1 hz with hz | hz;(exact ho.aGs.2 z hz);·rw [List.mem_singleton.1 hz];exact ⟨s16 (s:=(⟨#[98,97,110,107]⟩:ByteArray)) qe,s16 q3,q4.1⟩
    ·have e4:(⟨#[98,97,110,107]⟩:ByteArray).size=4:=rfl;show M.aC.sz (⟨(⟨x0.aGg,x0.aGs++[_]⟩:M.aGo)::xs⟩:M.aC)<=70000;simp only [M.aC.sz,cX,M.aGo.sz,tP,M.aGw.sz,M.aGm.sz,qE,qJ,qK,e4];omega
  ·exact .ret c2 q1.all
 split
 ·have key : ∀(n k:Nat) (s:M.aC),5-k<n->k<=5->CJ s->Dr b Ho (rR (i2,v2,r2) n (k:Int) s.aGi):=by
   intro n
   induction n with
   | zero=>intro k s h _ _;omega
   | succ n ih =>
    intro k s h hk hs
    simp only [rR]
    rcases Nat.lt_or_ge k 5 with h6 | h6
    ·rw [if_pos qc]
     refine .E0 (Nr hs (bgI qh)) λy hy => ?_
     rw [bD qb]
     exact ih (k+1) y.1 qb qb hy
    ·rw [if_neg qc];exact .ret c2 hs.all
  exact key fuel 1 r1 (kE qb) qb q1
 ·exact .ret c2 q1.all
theorem OU {d:M.aGh} {u:M.lD} (hl:d.aG3.length<=100000) : ∃v,Cn d u=some v:=by
 have key : ∀(n k:Nat),d.aG3.length-k<n->k<=d.aG3.length -> ∃v,oF d u n (k:Int)=some v:=by
  intro n
  induction n with
  | zero=>intro k h _;omega
  | succ n ih =>
   intro k h hk
   simp only [oF]
   rcases Nat.lt_or_ge k d.aG3.length with h6 | h6
   ·rw [if_pos (aY h6),aK h6,qA,bD qb];have:=ih (k+1) qb qb;split;(split;(exact ⟨_,rfl⟩);·exact this);·exact this
   ·rw [if_neg qc];exact ⟨_,rfl⟩
 exact key fuel 0 (kE qb) qb
theorem aAm {d:M.aGh} {a f:ByteArray} (hd:d.ok) (hz:M.aGh.sz d<=100000) (ha:a.size<=16) (hf:f.size<=16) : ∃x,lP d (⟨3,a,f⟩:M.lD)=some x/\(x.1.ok/\M.aGh.sz x.1<=M.aGh.sz d+40):=by
 have hl:d.aG3.length<=100000:=by simp only [M.aGh.sz] at hz;omega
 obtain ⟨x5,e5⟩:=OU (u:=(⟨3,a,f⟩:M.lD)) hl
 have ok':M.aGh.ok (⟨d.Name,d.aGg,d.aGq,d.aG3++[(⟨a,f⟩:M.aO)]⟩:M.aGh):=⟨hd.Name,hd.aGg,hd.aGq,ml qn,λy hy=>by rcases List.mem_append.1 hy with hy | hy;(exact hd.aG3.2 y hy);·rw [List.mem_singleton.1 hy];exact ⟨s16 ha,s16 hf⟩⟩
 have sz':M.aGh.sz (⟨d.Name,d.aGg,d.aGq,d.aG3++[(⟨a,f⟩:M.aO)]⟩:M.aGh)<=M.aGh.sz d+40:=by simp only [M.aGh.sz,tP,cX,M.aO.sz,qE,qJ,qK];omega
 unfold lP
 rw [AF d qb,qA,CA hd,qA,e5,qA]
 dsimp only
 generalize kG (Cu a) d.aGq=x3
 have k1:((3:Int)==1)=false:=rfl
 have k2:((3:Int)==2)=false:=rfl
 have k3:((3:Int)==3)=true:=rfl
 have k4:((3:Int)==4)=false:=rfl
 simp only [k1,k2,k3,k4,qD,if_false,if_true,qA]
 by_cases h:x3>=0
 ·by_cases h5:x5<0;(simp only [h,h5,decide_true,if_true,qA];rw [AK qs qb,qA,tG hd qb,qA,tG ok' qb,qA];cases nDb d;(exact ⟨_,rfl,hd,qg⟩);·cases nDb (⟨d.Name,d.aGg,d.aGq,d.aG3++[(⟨a,f⟩:M.aO)]⟩:M.aGh);(exact ⟨_,rfl,hd,qg⟩);·exact ⟨_,rfl,ok',sz'⟩);·simp only [h,h5,decide_true,decide_false,qD,if_false,if_true,qA];exact ⟨_,rfl,hd,qg⟩
 ·simp only [h,decide_false,qD,if_false,qA];exact ⟨_,rfl,hd,qg⟩
def Z6 (d:M.aGh):Prop:=d.ok/\M.aGh.sz d<=40000
theorem aFo {l:List M.aD} (hl:l.length<=3) (h : ∀s∈l,SY s):M.aGh.ok (⟨(⟨#[97,112,112]⟩:ByteArray),1,l,([]:List M.aO)⟩:M.aGh)/\M.aGh.sz (⟨(⟨#[97,112,112]⟩:ByteArray),1,l,([]:List M.aO)⟩:M.aGh)<=39000:=by
 have h3:(⟨#[97,112,112]⟩:ByteArray).size=3:=rfl
 have:=dI (w:=M.aD.sz) (b:=10000) (xs:=l) λs hs=>pU (h s hs).2.1
 refine ⟨⟨s16 (s:=(⟨#[97,112,112]⟩:ByteArray)) qe,R8,⟨ml qg,λs hs=>(h s hs).1⟩,⟨by simp [maxLen],qd⟩⟩,?_⟩
 simp only [M.aGh.sz,cX,qK,h3]
 omega
theorem Zh {α:Type} {b:Nat} {xs:List α} (h:xs.length<=1000000) (hb:b<=1000):aAL b xs=some xs:=by unfold aAL;rw [if_pos (Nat.le_trans (Nat.mul_le_mul h hb) qb)]
theorem Wi {b:List Int} {i h:Int} (c0:okC b i h):Dr b Z6 (BM (⟨b,i,h⟩:M.aN)):=by
 unfold BM
 refine .bnd (FD qe qe c0) λi1 v1 r1 c1 q1=>.bnd (FD qe qe c1) λi2 v2 r2 c2 q2 => ?_
 dsimp only
 rw [Zh qd qb,qA]
 have fin : ∀ {l:List M.aD} {i5 v5:Int} {f:Int×Int×Bool->Option (Int×Int×M.aGh)},l.length<=3->(∀s∈l,SY s)->okC b i5 v5->f=(λaa=>(if aa.2.2=true then ((dG (⟨b,aa.1,aa.2.1⟩:M.aN)).bind λae=>((lP (⟨(⟨#[97,112,112]⟩:ByteArray),1,l,([]:List M.aO)⟩:M.aGh) (⟨3,(⟨#[110,111,116,101,115]⟩:ByteArray),ae.2.2⟩:M.lD)).bind λaf=>(some (ae.1,ae.2.1,af.1)))) else (some (aa.1,aa.2.1,(⟨(⟨#[97,112,112]⟩:ByteArray),1,l,([]:List M.aO)⟩:M.aGh)))))->Dr b Z6 ((bG (⟨b,i5,v5⟩:M.aN) 3).bind f):=by
  intro l i5 v5 f hl hg c5 hf
  subst hf
  obtain ⟨o1,o2⟩:=aFo hl hg
  refine .bnd (uK c5) λi6 v6 r6 c6 q6 => ?_
  dsimp only
  split
  ·refine .bnd (Ay c6) λi7 v7 r7 c7 q7=>.E0 (aAm o1 qb qe (Nat.le_trans q7 qb)) λy hy=>.ret c7 ⟨hy.1,?_⟩
   have:=hy.2
   omega
  ·exact .ret c6 ⟨o1,qb⟩
 refine .bnd (uK c2) λi3 v3 r3 c3 q3 => ?_
 dsimp only
 split
 ·refine .bnd (FD qe qe c3) λi4 v4 r4 c4 q4 => ?_
  dsimp only
  rw [AK qd qb,qA]
  exact fin (l:=[r4]++[r1,r2]) qd (by simp only [qP,List.mem_cons,qO,or_false];rintro s (rfl | rfl | rfl)<;>assumption) c4 rfl
 ·exact fin (l:=[r1,r2]) qd (by simp only [List.mem_cons,qO,or_false];rintro s (rfl | rfl)<;>assumption) c3 rfl
theorem ZN {b:List Int} {i h:Int} (c0:okC b i h):Dr b LG (Df (⟨b,i,h⟩:M.aN)):=by
 unfold Df
 refine .bnd (aU c0) λi1 v1 r1 c1 q1=>.bnd (Bl (λs=>s.size<=16) qe qe c1) λi2 v2 r2 c2 q2=>.bnd (yO c2) λi3 v3 r3 c3 q3 => ?_
 dsimp only
 have hk:=q3.any.1
 have e0:(⟨#[]⟩:ByteArray).size<=maxLen:=s16 qe
 split
 ·exact .bnd (C6 c3) λi4 v4 r4 c4 q4=>.ret c4 ⟨bH _,s16 q2,hk,q4.1,e0⟩
 split
 ·exact .bnd (C6 c3) λi4 v4 r4 c4 q4=>.ret c4 ⟨bH _,s16 q2,hk,q4.1,e0⟩
 split
 ·exact .bnd (Ay c3) λi4 v4 r4 c4 q4=>.ret c4 ⟨bH _,s16 q2,hk,HF,s16 (Nat.le_trans q4 qb)⟩
 split
 ·refine .bnd (uK c3) λi4 v4 r4 c4 q4 => ?_
  dsimp only
  split
  ·exact .bnd (yO c4) λi5 v5 r5 c5 q5=>.ret c5 ⟨R8,s16 q2,q5.any.1,HF,e0⟩
  ·exact .ret c4 ⟨bH _,s16 q2,PZ,HF,e0⟩
 ·exact .ret c3 ⟨bH _,s16 q2,hk,HF,e0⟩
def ZW (l:List M.Op):Prop:=l.length<=10 /\ ∀o∈l,LG o
theorem Yf {b:List Int} {i h:Int} (c0:okC b i h):Dr b ZW (Cw (⟨b,i,h⟩:M.aN) 3):=by
 unfold Cw
 rw [show IntKind.i64.wrap (3+1)=4 from by rw [wrap_small qb qb];rfl]
 refine .bnd (aU c0) λi1 v1 r1 c1 q1 => ?_
 obtain ⟨N,rfl⟩:=AI q1.1
 have hN:=q1.2.1 qb
 refine BC (L:=λn v (s:(List M.Op)×Int×Int)=>uI (⟨b,i,h⟩:M.aN) n v s.1 s.2.1 s.2.2) (I:=λk s=>k<=100000/\okC b s.2.1 s.2.2/\s.1.length+k<=10 /\ ∀o∈s.1,LG o) (Q:=Dr b ZW) (λn k s hi ih => ?_) (λn s hi => ?_) fuel N (([]:List M.Op),i1,v1) (kE qb) ⟨qb,c1,⟨by simp only [qK];omega,qd⟩⟩
 ·obtain ⟨x,ci,ch⟩:=s
  obtain ⟨k0,k1,k2⟩:=hi
  dsimp only at k1 k2
  simp only [uI]
  rw [if_pos (SU k),Kc k0]
  refine .bnd (ZN k1) λi3 v3 r3 c3 q3 => ?_
  dsimp only
  have aa:=k2.1
  rw [AK qs qb,qA]
  refine ih (x++[r3],i3,v3) ⟨qb,c3,qn,λo ho => ?_⟩
  rcases List.mem_append.1 ho with ho | ho
  ·exact k2.2 o ho
  ·rw [List.mem_singleton.1 ho];exact q3
 ·obtain ⟨x,ci,ch⟩:=s;obtain ⟨k0,k1,k2⟩:=hi;dsimp only at k1 k2;simp only [uI];rw [if_neg J1];exact .ret k1 ⟨by have:=k2.1;omega,k2.2⟩
theorem Pm {k:M.bW} {l:List M.Op} {n:Nat} (h:k.ok) (hz:M.bW.sz k<=n) (hn:n<=200000) (hl:l.length<=1000) (ho : ∀o∈l,LG o) : ∃x,oD k l=some x/\(x.1.ok/\M.bW.sz x.1<=n+4000):=⟨_,Jb h qb hl ho,(Mo h).1,by have:=(Mo (l:=l) h).2.1;omega⟩
def Tl (k:M.bW):Prop:=k.ok/\M.bW.sz k<=70000
theorem TX {b:List Int} {i h:Int} (c0:okC b i h):Dr b Tl (AY (⟨b,i,h⟩:M.aN)):=by
 unfold AY
 refine .bnd (Wi c0) λi0 v0 d aa q0=>.bnd (aU aa) λi1 v1 r1 c1 q1 => ?_
 obtain ⟨N,rfl⟩:=AI q1.1
 have hN:=q1.2.1 qb
 have hz:=q0.2
 refine BC (L:=λn v (s:(M.bW)×Int×Int)=>pE (⟨b,i,h⟩:M.aN) n v s.1.aG4.Name s.1.aG4.aGg s.1.aHM s.2.1 s.2.2 s.1.aG4.aGq s.1.aG4.aG3 s.1.Log) (I:=λk s=>k<=100000/\okC b s.2.1 s.2.2/\s.1.ok/\M.bW.sz s.1+4000*k<=60000) (Q:=Dr b Tl) (λn k s hi ih => ?_) (λn s hi => ?_) fuel N ((⟨d,([]:List Int),0⟩:M.bW),i1,v1) (kE qb) ⟨qb,c1,⟨⟨q0.1,⟨by simp [maxLen],qd⟩,wU⟩,by show M.aGh.sz d+0+4000*N<=60000;omega⟩⟩
 ·obtain ⟨x,ci,ch⟩:=s
  obtain ⟨k0,k1,k2⟩:=hi
  dsimp only at k1 k2
  simp only [pE]
  rw [if_pos (SU k),Kc k0]
  refine .bnd (Yf k1) λi3 v3 r3 c3 q3=>.E0 (Pm (k:=x) (n:=M.bW.sz x) k2.1 (Nat.le_refl _) (by have:=k2.2;omega) (Nat.le_trans q3.1 qb) q3.2) λy hy => ?_
  exact ih (y.1,i3,v3) ⟨qb,c3,hy.1,by have:=hy.2;have:=k2.2;dsimp only;omega⟩
 ·obtain ⟨x,ci,ch⟩:=s;obtain ⟨k0,k1,k2⟩:=hi;dsimp only at k1 k2;simp only [pE];rw [if_neg J1];exact .ret k1 ⟨k2.1,by have:=k2.2;show M.bW.sz x<=70000;omega⟩
theorem Zi {l b:List Int} {i:Int} (hl:okB l) (hz:l.length<=100000) (hb : ∀x∈b,0<=x/\x<=255):okB (Wk l i b).1/\(Wk l i b).1.length<=l.length+4000:=by unfold Wk;split;(exact ⟨hl,qg⟩);split;(exact ⟨hl,qg⟩);·rename_i hh;refine ⟨⟨ml qg,λy hy => ?_⟩,qg⟩;have hy':y∈VA l i b:=hy;unfold VA at hy';simp only [qP] at hy';rcases hy' with h | h | h;(exact hl.2 y h);(exact Et hb y h);·exact GN _ y h
def QC (k:M.bW):Prop:=k.ok/\M.bW.sz k<=80000
theorem Xa {b:List Int} {i h:Int} (c0:okC b i h):Dr b QC (BN (⟨b,i,h⟩:M.aN)):=by
 unfold BN
 refine .bnd (TX c0) λi1 v1 r1 c1 q1=>.bnd (aU c1) λi2 v2 r2 c2 q2 => ?_
 dsimp only
 have hz:=q1.2
 have hl:r1.Log.length<=70000:=by simp only [M.bW.sz] at hz;omega
 split
 ·exact .ret c2 ⟨⟨q1.1.aG4,q1.1.Log,bH _⟩,by simp only [M.bW.sz] at hz ⊢;omega⟩
 split
 ·refine .bnd (W5 q1.1.Log qb c2) λi3 v3 r3 c3 q3=>.ret c3 ⟨⟨q1.1.aG4,q3.1,q1.1.aHM⟩,?_⟩
  have:=q3.2
  simp only [M.bW.sz] at hz ⊢
  omega
 split
 ·rw [EW qb qe,qA];obtain ⟨o1,o2⟩:=Zi (i:=r1.aHM) (b:=[1,2]) q1.1.Log qb qe;refine .ret c2 ⟨⟨q1.1.aG4,o1,bH _⟩,?_⟩;simp only [M.bW.sz] at hz ⊢;omega
 ·exact .ret c2 ⟨q1.1,qb⟩
def wsm (w:M.bC):Prop:=w.ok/\M.bC.sz w<=32
theorem Gw {d q n:Int} {k:M.Key} {f:ByteArray} (hd:inI d) (hq:inI q) (hk:NH k) (hf:f.size<=16) (hn:inI n):wsm (⟨d,q,k,f,n⟩:M.bC):=⟨⟨hd,hq,hk.1,s16 hf,hn⟩,by have:=hk.2;simp only [M.bC.sz,M.Key.sz];omega⟩
def obI (o:M.aM):Prop:=inI o.aGp/\inI o.aHH/\o.aG0.length<=30 /\ ∀w∈o.aG0,wsm w
theorem obI.ok {o:M.aM} (h:obI o):o.ok:=⟨h.1,h.2.1,ml (by have:=h.2.2.1;omega),λw hw=>(h.2.2.2 w hw).1⟩
theorem obI.sz {o:M.aM} (h:obI o):M.aM.sz o<=1000:=by
 have h1:=dI (w:=M.bC.sz) (b:=32) (xs:=o.aG0) λw hw=>(h.2.2.2 w hw).2
 have h2:=h.2.2.1
 simp only [M.aM.sz]
 omega
theorem P6 {o:M.aM} (h:tN o=true):o.aG0.length<=20:=by unfold tN at h;simp only [qM,qL] at h;exact h.2.2.2
theorem TS {o:M.aM} {k:M.Key} {f:ByteArray} {n:Int} (h:obI o) (hk:NH k) (hf:f.size<=16) (hn:inI n):obI (PD o k f n).1:=by unfold PD;split;(split;(rename_i h2;have:=P6 h2;refine ⟨h.1,bH _,by show (HA o k f n).aG0.length<=30;omega,λw hw => ?_⟩;have hw':w∈o.aG0++[(⟨o.aGp,o.aHH,k,f,n⟩:M.bC)]:=hw;rcases List.mem_append.1 hw' with hw | hw;(exact h.2.2.2 w hw);·rw [List.mem_singleton.1 hw];exact Gw h.1 h.2.1 hk hf hn);·exact h);·exact h
theorem Q9 {o:M.aM} {k:M.Key} {f:ByteArray} {n:Int} (h:obI o) (hk:NH k) (hf:f.size<=16) (hn:inI n):iL o k f n=some (PD o k f n):=Di h.ok (by have:=h.sz;omega) hk.1 (s16 hf) hn
theorem Pk {d n:Int} (hd:inI d) (hn:inI n):obI (⟨d,n,([]:List M.bC)⟩:M.aM):=⟨hd,hn,qd,qd⟩
theorem Xq {d:Int} (hd:inI d) : ∃x,nQ d=some x/\obI x.1/\x.1.aHH<=1/\x.1.aG0.length<=0:=by unfold nQ;rw [pS (Pk hd R8).ok,qA];cases tN (⟨d,1,([]:List M.bC)⟩:M.aM);(exact ⟨_,rfl,Pk wU wU,qe,qd⟩);·exact ⟨_,rfl,Pk hd R8,by show (1:Int)<=1;omega,qd⟩
theorem Ug {o:M.aM} {q:Int} (h:obI o) : ∃x,dA o q=some x/\obI x.1/\x.1.aHH=o.aHH/\inI x.2/\x.1.aG0.length<=o.aG0.length:=by
 have hlen:=h.2.2.1
 have fin : ∀(k:Nat),k<=o.aG0.length -> ∃x,(Cb o.aG0 (k:Int)).bind (λaa=>((app 72 ([]:List M.bC) (List.drop (k:Int).toNat o.aG0)).bind λae=>(some ((⟨o.aGp,o.aHH,(List.drop (k:Int).toNat o.aG0)⟩:M.aM),(k:Int)))))=some x/\obI x.1/\x.1.aHH=o.aHH/\inI x.2/\x.1.aG0.length<=o.aG0.length:=by intro k hk;rw [Iu hk,qA,qH,Fe (by rw [qU];omega) qb,qA];exact ⟨_,rfl,⟨h.1,h.2.1,by show (List.drop k o.aG0).length<=30;rw [qU];omega,λw hw=>h.2.2.2 w (List.mem_of_mem_drop hw)⟩,rfl,bgI qg,by show (List.drop k o.aG0).length<=_;rw [qU];omega⟩
 have key : ∀(n k:Nat),o.aG0.length-k<n->k<=o.aG0.length -> ∃x,oC o q o n (k:Int)=some x/\obI x.1/\x.1.aHH=o.aHH/\inI x.2/\x.1.aG0.length<=o.aG0.length:=by
  intro n
  induction n with
  | zero=>intro k h _;omega
  | succ n ih =>
   intro k hn hk
   simp only [oC]
   rcases Nat.lt_or_ge k o.aG0.length with h6 | h6
   ·rw [if_pos (aY h6),aK h6,qA,bD qb];split;(exact ih (k+1) qb qb);·exact fin k hk
   ·rw [if_neg qc];exact fin k hk
 unfold dA
 rw [Cf o (by have:=h.sz;omega),qA,pS h.ok,qA]
 cases tN o
 ·rw [if_pos qd];exact ⟨_,rfl,h,rfl,wU,Nat.le_refl _⟩
 ·rw [if_neg qd];exact key fuel 0 (kE qb) qb
theorem Zo (o:M.aM) (k:M.Key) (f:ByteArray) (n:Int):(PD o k f n).1.aG0.length<=o.aG0.length+1:=by unfold PD;split;(split;(simp [HA]);·exact Nat.le_succ _);·exact Nat.le_succ _
theorem V3 {o:M.aM} {k:M.Key} {f:ByteArray} {n:Int} (h:o.aHH<=1000):(PD o k f n).1.aHH<=1+o.aHH\/(PD o k f n).1.aHH=o.aHH:=by unfold PD;split;(rename_i h1;split;(left;unfold tN inR at h1;simp only [qM,qL] at h1;show IntKind.i64.wrap (o.aHH+1)<=_;rw [wrap_small qb qb];omega);·exact .inr rfl);·exact .inr rfl
theorem P4 {b:List Int} {i h d:Int} (hd:inI d) (c0:okC b i h):Dr b (λo=>obI o/\o.aHH<=10/\o.aG0.length<=20) (yY (⟨b,i,h⟩:M.aN) d):=by
 unfold yY
 refine .E0 (Xq hd) λo ho=>.bnd (rU (λx=>0<=x/\x<=6) qe qe c0) λi1 v1 r1 c1 q1 => ?_
 obtain ⟨N,rfl⟩:=AI q1.1
 have hN:=q1.2
 refine BC (L:=λn v (s:(M.aM)×Int×Int)=>lH (⟨b,i,h⟩:M.aN) n v s.1.aGp s.1.aHH s.2.1 s.2.2 s.1.aG0) (I:=λk s=>k<=100000/\okC b s.2.1 s.2.2/\obI s.1/\s.1.aHH+k<=8/\s.1.aG0.length+k<=7) (Q:=Dr b (λo=>obI o/\o.aHH<=10/\o.aG0.length<=20)) (λn k s hi ih => ?_) (λn s hi => ?_) fuel N (o.1,i1,v1) (kE qb) ⟨qb,c1,⟨ho.1,by have:=ho.2.1;dsimp only;omega,by have:=ho.2.2;dsimp only;omega⟩⟩
 ·obtain ⟨x,ci,ch⟩:=s
  obtain ⟨k0,k1,k2⟩:=hi
  dsimp only at k1 k2
  simp only [lH]
  rw [if_pos (SU k),Kc k0]
  refine .bnd (yO k1) λi3 v3 r3 c3 q3=>.bnd (Ay c3) λi4 v4 r4 c4 q4=>.bnd (aU c4) λi5 v5 r5 c5 q5 => ?_
  dsimp only
  have hf:r4.size<=16:=Nat.le_trans q4 qb
  have hn:inI r5:=bgI (V6 q5)
  rw [show (⟨x.aGp,x.aHH,x.aG0⟩:M.aM)=x from rfl,Q9 k2.1 q3.any hf hn,qA]
  refine ih ((PD x r3 r4 r5).1,i5,v5) ⟨qb,c5,TS k2.1 q3.any hf hn,?_,?_⟩
  ·have h1:=k2.2.1;dsimp only;rcases V3 (o:=x) (k:=r3) (f:=r4) (n:=r5) qb with h2 | h2<;>omega
  ·have h1:=k2.2.2;have h2:=Zo x r3 r4 r5;dsimp only;omega
 ·obtain ⟨x,ci,ch⟩:=s
  obtain ⟨k0,k1,k2⟩:=hi
  dsimp only at k1 k2
  simp only [lH]
  rw [if_neg J1]
  refine .bnd (uK k1) λi3 v3 r3 c3 q3 => ?_
  dsimp only
  have h1:=k2.2.1
  have h2:=k2.2.2
  split
  ·refine .bnd (aU c3) λi4 v4 r4 c4 q4 => ?_
   dsimp only
   obtain ⟨y,e,y1,y2,_,y3⟩:=Ug (q:=r4) k2.1
   rw [show (⟨x.aGp,x.aHH,x.aG0⟩:M.aM)=x from rfl,e,qA]
   exact .ret c4 ⟨y1,qb,qb⟩
  ·exact .ret c3 ⟨k2.1,qg,qg⟩
theorem V9 {o:M.aM} {k:M.Key} {f:ByteArray} {n:Int} (h:tN o=true) (hN:o.aHH<=1000) (hl:o.aG0.length<20) (hq:DO (⟨o.aGp,o.aHH,k,f,n⟩:M.bC)=true):tN (HA o k f n)=true:=by
 unfold tN inR at h
 simp only [qM,qL,qQ,qR] at h
 obtain ⟨h1,⟨h2,h3⟩,⟨h4,h5⟩,h6⟩:=h
 have ew:IntKind.i64.wrap (o.aHH+1)=o.aHH+1:=wrap_small qb qb
 unfold tN inR HA
 simp only [qM,qL,qQ,qR,qE,qJ,qK,ew]
 refine ⟨λj hj => ?_,⟨h2,h3⟩,⟨qb,qb⟩,qb⟩
 unfold DJ
 simp only [qE,qJ,qK]
 rcases Nat.lt_or_ge j o.aG0.length with hlt | hge
 ·have:=h1 j hlt;unfold DJ at this;rw [qF hlt,Option.any_some] at this;rw [List.getElem?_append_left hlt,qF hlt,Option.any_some,show (o.aHH+1-((o.aG0.length+(0+1):Nat):Int))=o.aHH-(o.aG0.length:Int) by omega];exact this
 ·have:j=o.aG0.length:=by omega
  subst this
  rw [List.getElem?_append_right (Nat.le_refl _),Nat.sub_self]
  simp only [List.getElem?_cons_zero,Option.any_some]
  rw [hq,show (o.aHH+1-((o.aG0.length+(0+1):Nat):Int))=o.aHH-(o.aG0.length:Int) by omega,wrap_small (n:=o.aHH-(o.aG0.length:Int)) qb qb,show o.aHH-(o.aG0.length:Int)+(o.aG0.length:Int)=o.aHH by omega,wrap_small qb qb]
  simp
theorem Qp.n {k:M.Key} (h:Qp k):CN k=true:=by
 obtain ⟨a,n,s⟩:=k
 obtain ⟨h1,h2,h3,h4⟩:=h
 dsimp only at h1 h2 h3 h4
 subst h4 h1
 unfold CN inR
 have e:LW (⟨#[]⟩:ByteArray)=true:=by decide
 simp [e]
 omega
theorem We {b:List Int} {i h:Int} (c0:okC b i h):Dr b obI (Bx (⟨b,i,h⟩:M.aN)):=by
 unfold Bx
 refine .bnd (aU c0) λi1 v1 r1 c1 q1=>.bnd (P4 (bH _) c1) λi2 v2 o c2 q2=>.bnd (aU c2) λi3 v3 r3 c3 q3 => ?_
 dsimp only
 obtain ⟨ho,hN,q2len⟩:=q2
 have hlen:=ho.2.2.1
 split
 ·exact .bnd (rU (λx => -1000000000000000<=x/\x<=1000000000000000) qe qe c3) λi4 v4 r4 c4 q4=>.ret c4 ⟨bgI q4,ho.2.1,ho.2.2⟩
 split
 ·exact .bnd (rU (λx => -1000000000000000<=x/\x<=1000000000000000) qe qe c3) λi4 v4 r4 c4 q4=>.ret c4 ⟨ho.1,bgI q4,ho.2.2⟩
 split
 ·refine .bnd (PS c3) λi4 v4 r4 c4 q4=>.bnd (rU (λx => -1000000000000000<=x/\x<=1000000000000000) qe qe c4) λi5 v5 r5 c5 q5 => ?_
  dsimp only
  rw [AK qs qb,qA]
  refine .ret c5 ⟨ho.1,ho.2.1,qn,λw hw => ?_⟩
  rcases List.mem_append.1 hw with hw | hw
  ·exact ho.2.2.2 w hw
  ·rw [List.mem_singleton.1 hw];exact Gw ho.1 ho.2.1 q4 qe (bgI q5)
 split
 ·have key : ∀(n:Nat) (o:M.aM) (ci ch:Int),20-o.aG0.length<n->obI o->o.aHH<=10+o.aG0.length->okC b ci ch->Dr b obI (vG (⟨b,i,h⟩:M.aN) n o.aGp o.aHH ci ch o.aG0):=by
   intro n
   induction n with
   | zero=>intro o ci ch h _ _ _;omega
   | succ n ih =>
    intro o ci ch hn ho hN k1
    simp only [vG]
    rcases Nat.lt_or_ge o.aG0.length 20 with h6 | h6
    ·rw [if_pos qc,show (⟨o.aGp,o.aHH,o.aG0⟩:M.aM)=o from rfl,pS ho.ok,qA]
     cases hob:tN o with
     | false=>rw [if_neg qd];exact .ret k1 ho
     | true =>
      rw [if_pos rfl]
      refine .bnd (yO k1) λi4 v4 r4 c4 q4 => ?_
      dsimp only
      have hf:(⟨#[97]⟩:ByteArray).size<=16:=by decide
      rw [Q9 ho q4.any hf R8,qA]
      have h7:=hob
      unfold tN inR at h7
      simp only [qM,qL] at h7
      have hq:DO (⟨o.aGp,o.aHH,r4,(⟨#[97]⟩:ByteArray),1⟩:M.bC)=true:=by
       have e:mT (⟨#[97]⟩:ByteArray)=true:=by decide
       unfold DO inR
       simp [q4.n,e]
       omega
      have hb:=V9 hob qb h6 hq
      have en:PD o r4 (⟨#[97]⟩:ByteArray) 1=(HA o r4 (⟨#[97]⟩:ByteArray) 1,true):=by unfold PD;rw [if_pos hob,if_pos hb]
      have hob2:=TS (k:=r4) (f:=(⟨#[97]⟩:ByteArray)) (n:=1) ho q4.any hf R8
      rw [en] at hob2 ⊢
      have e3:(HA o r4 (⟨#[97]⟩:ByteArray) 1).aG0.length=o.aG0.length+1:=by simp [HA]
      have e4:(HA o r4 (⟨#[97]⟩:ByteArray) 1).aHH=o.aHH+1:=wrap_small qb qb
      exact ih (HA o r4 (⟨#[97]⟩:ByteArray) 1) i4 v4 qb hob2 qb c4
    ·rw [if_neg qc];exact .ret k1 ho
  exact key fuel o i3 v3 (kE qb) ho qb c3
 ·exact .ret c3 ho
def svI (n:Nat) (s:M.aGr):Prop:=s.aD.ok/\iI s.aD=true/\(s.aP.length<=60 /\ ∀a∈s.aP,M.aP.ok a)/\s.aG9.length<=n /\ ∀w∈s.aG9,wsm w
theorem svI.ok {n:Nat} {s:M.aGr} (h:svI n s) (hn:n<=1000):M.aGr.ok s:=⟨h.1,⟨ml (by have:=h.2.2.1.1;omega),h.2.2.1.2⟩,⟨ml (by have:=h.2.2.2.1;omega),λw hw=>(h.2.2.2.2 w hw).1⟩⟩
theorem svI.mono {n m:Nat} {s:M.aGr} (h:svI n s) (hm:n<=m):svI m s:=⟨h.1,h.2.1,h.2.2.1,by have:=h.2.2.2.1;omega,h.2.2.2.2⟩
theorem Tu {n:Nat} {s:M.aGr} (h:svI n s) (hn:n<=1000):gP s=some s:=by have h1:=pU h.2.1;have h2:=h.2.2.1.1;have h3:=h.2.2.2.1;unfold gP;rw [nG _ qb,qA,Fe qb qb,qA,Fe qb qb,qA]
theorem Kr {s:M.aGr} {d:Int} (h:s.aP.length<=60 /\ ∀a∈s.aP,M.aP.ok a) : ∃v,wO s d=some v/\inI v:=by
 have hl:=h.1
 have key : ∀(n k:Nat),s.aP.length-k<n->k<=s.aP.length -> ∃v,tH s d n (k:Int)=some v/\inI v:=by
  intro n
  induction n with
  | zero=>intro k h _;omega
  | succ n ih =>
   intro k hn hk
   simp only [tH]
   rcases Nat.lt_or_ge k s.aP.length with h6 | h6
   ·rw [if_pos (aY h6),aK h6,qA,bD qb];split;(exact ⟨_,rfl,(h.2 _ (qG h6)).Seq⟩);·exact ih (k+1) qb qb
   ·rw [if_neg qc];exact ⟨_,rfl,wU⟩
 exact key fuel 0 (kE qb) qb
end Go.Proofs.YtipmihbgjolaaaaGreat.gen
