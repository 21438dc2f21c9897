/-
  Helper text. No conditions.
-/
import Derived.Test.YtipmihbgjolaaaaGreatWorldsPd6
set_option linter.unusedVariables false
set_option linter.unusedSimpArgs false
namespace Go.Proofs.YtipmihbgjolaaaaGreat.gen
open Go Go.Sh
open Go.IntKind (i64)
theorem VX {b:List Int} {i h:Int} {X:M.aO×Bool} {N:Nat} {i1 v1:Int} (hX:nbI X.1) (hN:N<=4) (c1:okC b i1 v1):Dr b bkS (fB (⟨b,i,h⟩:M.aQ) X fuel (N:Int) X.1.cR.aAU.Name X.1.cR.aAU.aAB X.1.cR.aAn i1 v1 X.1.cR.aAU.aAH X.1.cR.aAU.aAS X.1.cR.Log):=by
 have h5:=hX.2.2.2.2.1
 refine yD (L:=λn v (s:(M.cR)×Int×Int)=>fB (⟨b,i,h⟩:M.aQ) X n v s.1.aAU.Name s.1.aAU.aAB s.1.aAn s.2.1 s.2.2 s.1.aAU.aAH s.1.aAU.aAS s.1.Log) (I:=λk s=>k<=100000/\okC b s.2.1 s.2.2/\s.1.ok/\M.cR.sz s.1+4000*k<=20000) (Q:=Dr b bkS) (λn k s hi ih => ?_) (λn s hi => ?_) fuel N (X.1.cR,i1,v1) (kD qb) ⟨qb,c1,⟨h5.1,by have:=h5.2;dsimp only;omega⟩⟩
 ·obtain ⟨x,ci,ch⟩:=s
  obtain ⟨k0,k1,k2⟩:=hi
  dsimp only at k1 k2
  simp only [fB]
  rw [if_pos (Of k),Gy k0]
  refine .bnd (uC k1) λi3 v3 r3 c3 q3=>.bnd (AA c3) λi4 v4 r4 c4 q4=>.Ep (K8 (k:=x) (n:=M.cR.sz x) k2.1 (Nat.le_refl _) (by have:=k2.2;omega) qd (by simp only [List.mem_cons,qO,or_false];rintro o rfl;exact ⟨MK,s16 (s:=(⟨#[110,111,116,101,115]⟩:ByteArray)) qe,q3.any.1,q4.1,s16 (s:=(⟨#[]⟩:ByteArray)) qe⟩)) λy hy => ?_
  exact ih (y.1,i4,v4) ⟨qb,c4,hy.1,by have:=hy.2;have:=k2.2;dsimp only;omega⟩
 ·obtain ⟨x,ci,ch⟩:=s
  obtain ⟨k0,k1,k2⟩:=hi
  dsimp only at k1 k2
  simp only [fB]
  rw [if_neg Gm]
  refine .bnd (aV k1) λi3 v3 r3 c3 q3 => ?_
  obtain ⟨M,rfl⟩:=zB q3.1
  have hM:=q3.2.1 qb
  exact Wa hX (kd:=x) ⟨k2.1,by have:=k2.2;omega⟩ qb c3
theorem G7 {b:List Int} {i h:Int} (c0:okC b i h):Dr b bkS (rA (⟨b,i,h⟩:M.aQ)):=by
 unfold rA
 refine .bnd (DU c0) λi1 v1 r1 c1 q1=>.Ep (U0 c1 q1) λy hy=>.bnd (aV hy.2) λi4 v4 r4 c4 q4=>.Ep (U3 (Nat.le_trans q1 qb) (Nat.le_trans hy.1 qb) (bH _)) λx hx=>.bnd (aV c4) λi5 v5 r5 c5 q5 => ?_
 obtain ⟨N,rfl⟩:=zB q5.1
 have hN:=q5.2.1 qb
 exact VX hx qb c5
theorem RL {b:List Int} {i h:Int} (c0:okC b i h):Dr b bkI (yS (⟨b,i,h⟩:M.aQ)):=by
 unfold yS
 refine .bnd (G7 c0) λi1 v1 r1 c1 q1=>.bnd (aV c1) λi2 v2 r2 c2 q2 => ?_
 have q0:=q1.all
 obtain ⟨h1,h2,h3,h4,h5,h6,h7⟩:=q1
 have h5a:=h5.all
 dsimp only
 split
 ·exact .bnd (zM (λs=>s.size<=16) qe qe c2) λi3 v3 r3 c3 q3=>.ret c3 ⟨q3,h2,h3,h4,h5a,h6,h7⟩
 split
 ·exact .bnd (Q3 c2) λi3 v3 r3 c3 q3=>.ret c3 ⟨h1,h2,h3,q3,h5a,h6,h7⟩
 split
 ·exact .bnd (Sb c2) λi3 v3 r3 c3 q3=>.ret c3 ⟨h1,h2,h3,h4,q3,h6,h7⟩
 split
 ·exact .bnd (QR c2) λi3 v3 r3 c3 q3=>.ret c3 ⟨h1,h2,h3,h4,h5a,q3,h7⟩
 split
 ·exact .bnd (nP (λx => -1000000000000000<=x/\x<=1000000000000000) qe qe c2) λi3 v3 r3 c3 q3=>.ret c3 ⟨h1,h2,h3,h4,h5a,h6,bgI q3⟩
 split
 ·have hz:=h5.2
  simp only [M.cR.sz] at hz
  have key : ∀(n:Nat) (l:List Int),100000<n+l.length->okB l->l.length<=20000->Dr b bkI (lB (i1,v1,r1) (i2,v2,r2) n l):=by
   intro n
   induction n with
   | zero=>intro l h _ hz2;exact absurd h qb
   | succ n ih =>
    intro l hn hl hz2
    have e1:(l++[(0:Int)]).length=l.length+1:=by rw [qE];rfl
    simp only [lB]
    by_cases h6':(l.length:Int)<2600
    ·have h7':l.length<2600:=by omega
     rw [if_pos (decide_eq_true h6'),wP (by show l.length+1<=_;omega) qb,qA]
     refine ih (l++[0]) qb ⟨ml qb,λx hx => ?_⟩ qb
     rcases List.mem_append.1 hx with hx | hx
     ·exact hl.2 x hx
     ·rw [List.mem_singleton.1 hx];exact ⟨Int.le_refl _,qe⟩
    ·rw [if_neg (by rw [decide_eq_false h6'];exact Bool.false_ne_true)];exact .ret c2 ⟨h1,h2,h3,h4,⟨⟨h5.1.aAU,hl,h5.1.aAn⟩,by show M.aAA.sz r1.cR.aAU+l.length<=80000;omega⟩,h6,h7⟩
  exact key fuel r1.cR.Log (Nat.lt_of_lt_of_le (kD (k:=100000) qb) (Nat.le_add_right _ _)) h5.1.Log qb
 ·exact .ret c2 q0
theorem jn {α β:Type} {o:Option α} {v:α} {f:α->Option β} {r:Option β} (h1:o=some v) (h2:f v=r):o.bind f=r:=by rw [h1];exact h2
theorem UA {l:List Int} {i:Int} (hl:l.length<=1048576) (hb : ∀b∈l,0<=b/\b<=255) (h0:0<=i) (h3:i<=3) : ∃a,CD l i=some a/\0<=a/\a<=255:=by
 unfold CD
 by_cases h:i<(l.length:Int)
 ·rw [if_pos (by simpa using h)]
  have hi:i.toNat<l.length:=by omega
  have hm:=hb _ (qG hi)
  have e:idx l i=some l[i.toNat]:=by unfold idx;rw [if_pos h0,qF hi]
  rw [e,qA,bI qb qb]
  exact ⟨_,rfl,hm⟩
 ·rw [if_neg (by simpa using h),bI (n:=i*31) qb qb,bI (n:=(l.length:Int)*7) qb qb,bI qb qb];refine ⟨_,rfl,?_⟩;rw [Int.tmod_eq_emod_of_nonneg qb];omega
theorem lF {α:Type} {f:α->α->Bool} (hf : ∀x,f x x=true) : ∀l:List α,eqL f l l=true
 | []=>rfl
 | x::l=>by simp only [eqL,hf x,lF hf l,Bool.and_self]
theorem Iv (x:M.aAM):Cz x x=true:=by simp [Cz,lF (f:=yA) (λx=>by simp [yA])]
theorem Iu (x:M.aF):Eb x x=true:=lF (λc=>by simp [Ky,lF (f:=EK) (λy=>by simp [EK,Iv])]) _
theorem Kn (x:M.aC):Jj x x=true:=lF (λy=>by simp [GQ]) _
theorem DH (x:M.aA):D9 x x=true:=by simp [D9,Vi,lF (f:=N9) (λy=>by simp [N9,Vi,Kn])]
theorem H6 (x:M.aAA):Cr x x=true:=by simp [Cr,lF (f:=D9) DH,lF (f:=AN) (λy=>by simp [AN])]
theorem NP (x:M.cR):Pv x x=true:=by simp [Pv,H6,lF (f:=yA) (λx=>by simp [yA])]
theorem KJ (x:M.aH):HD x x=true:=by simp [HD,lF (f:=AX) (λy=>by simp [AX])]
theorem Jg (x:M.aG):Es x x=true:=by simp [Es,RH,DH,KJ]
theorem KG (x:M.aO):Fx x x=true:=by simp [Fx,V7,Iu,NP,Jg]
theorem B9 (x:List M.Instr) (hs:x.length<=1073741824):pX x=some x:=by unfold pX;rw [IY hs qb,qA]
theorem H7 (x:M.aAJ) (hs:M.aAJ.sz x<=1073741824):xB x=some x:=by simp only [M.aAJ.sz] at hs;unfold xB;rw [B9 _ qb,qA,IY qb qb,qA]
theorem Ii (x:M.bV) (hs:M.bV.sz x<=1073741824):mH x=some x:=by simp only [M.bV.sz] at hs;unfold mH;rw [IY qb qb,qA,H7 _ qb,qA]
theorem ZQ (n:Int):inR n 0 0=(n==0):=by unfold inR;rw [Bool.eq_iff_iff];simp only [qM,qL,beq_iff_eq];omega
theorem NV {k:Int} (h:inR k 1 9=true):k=1\/k=2\/k=3\/k=4\/k=5\/k=6\/k=7\/k=8\/k=9:=by unfold inR at h;simp only [qM,qL] at h;omega
theorem Wr {α β:Type} (c:Bool) (x y:Option α) (f:α->Option β):(if c=true then x else y).bind f=if c=true then x.bind f else y.bind f:=by split<;>rfl
theorem NT {k r n m:Int} {t:ByteArray} (ht:t.size<=maxLen) : ∃b,sA (⟨k,r,n,t⟩:M.Instr) m=some b:=by
 unfold sA
 simp only [bX,cV ht,qA,ZQ]
 generalize inR r 0 3=a1
 generalize (r != 0)=a2
 generalize kI t=a3
 generalize (t.toList==(⟨#[]⟩:ByteArray).toList)=a4
 generalize inR n 0 1000=a5
 generalize inR n 0 3=a6
 generalize inR n 0 m=a7
 generalize inR n 0 100=a8
 generalize (n==0)=a9
 cases hk:inR k 1 9 with
 | false=>exact ⟨false,by simp only [Wr,qA,qC,if_true,ite_self]⟩
 | true =>
  rcases NV hk with rfl | rfl | rfl | rfl | rfl | rfl | rfl | rfl | rfl
  all_goals clear hk
  all_goals simp +decide only [qA,Wr,if_true,if_false,qB,qC,show inR 1 6 8=false from rfl,show inR 2 6 8=false from rfl,show inR 3 6 8=false from rfl,show inR 4 6 8=false from rfl,show inR 6 6 8=true from rfl,show inR 7 6 8=true from rfl,show inR 8 6 8=true from rfl,show inR 9 6 8=false from rfl]
  all_goals (try generalize inR n 0 1000=b1)
  all_goals (try generalize inR n 0 3=b2)
  all_goals (try generalize inR n 0 m=b3)
  all_goals (try generalize inR n 0 100=b4)
  all_goals (try generalize inR n 0 0=b5)
  all_goals (try generalize (n==0)=b6)
  all_goals (try cases b1)
  all_goals (try cases b2)
  all_goals (try cases b3)
  all_goals (try cases b4)
  all_goals (try cases b5)
  all_goals (try cases b6)
  all_goals (try clear a1)
  all_goals (try clear a2)
  all_goals (try clear a3)
  all_goals (try clear a4)
  all_goals (try clear a5)
  all_goals (try clear a6)
  all_goals (try clear a7)
  all_goals (try clear a8)
  all_goals (try clear a9)
  all_goals (try cases a1)
  all_goals (try cases a2)
  all_goals (try cases a3)
  all_goals (try cases a4)
  all_goals (try cases a5)
  all_goals (try cases a6)
  all_goals (try cases a7)
  all_goals (try cases a8)
  all_goals (try cases a9)
  all_goals first | exact ⟨true,rfl⟩ | exact ⟨false,rfl⟩
def QA (x:M.Instr) (m:Int):Bool:=(sA x m).getD false
theorem H8 {x:M.Instr} {m:Int} (hx:x.ok):sA x m=some (QA x m):=by obtain ⟨k,r,n,t⟩:=x;obtain ⟨b,e1⟩:=NT (k:=k) (r:=r) (n:=n) (m:=m) hx.aAf;unfold QA;rw [e1];rfl
def JG (l:List M.Instr) (k:Nat):Bool:=(l[k]?).any λx=>QA x (List.length l:Int)
def JH (l:List M.Instr):Bool:=(List.range l.length).all (JG l)&&decide ((List.length l:Int)<=16)
def BE (l:List M.Instr):Prop:=l.length<=maxLen /\ ∀x∈l,M.Instr.ok x
theorem HN {l:List M.Instr} (hl:BE l):vZ l=some (JH l):=by have hm:=le_max hl.1;unfold vZ JH;rw [lI (L:=kL l) (g:=JG l) (F:=some false) (E:=some (decide ((List.length l:Int)<=16))) hl.1 (λn k hk => ?_) (λn => ?_),aY];(simp only [kL];rw [if_pos (bB hk),aM hk,qA,bM qb,H8 (hl.2 _ (qG hk)),qA];unfold JG;rw [qF hk,Option.any_some];simp only [fE]);·simp only [kL];rw [if_neg qk]
def LG (l:List M.Instr):M.aAJ:=if JH l=true then (⟨l,0,[0,0,0,0],0,false,false⟩:M.aAJ) else (⟨([]:List M.Instr),0,[0,0,0,0],0,true,false⟩:M.aAJ)
theorem O1:okI [0,0,0,0]:=⟨by unfold maxLen;simp,λx hx=>by simp only [List.mem_cons,qO,or_false,or_self] at hx;subst hx;exact sL⟩
theorem Q6 {l:List M.Instr} (hl:BE l):(LG l).ok:=by unfold LG;split;(exact ⟨hl,sL,O1,sL⟩);·exact ⟨⟨qd,qd⟩,sL,O1,sL⟩
theorem Q9 (l:List M.Instr):M.aAJ.sz (LG l)<=l.length+gO M.Instr.sz l+4:=by unfold LG;split;(simp only [M.aAJ.sz,qJ,qK];omega);·simp only [M.aAJ.sz,gO,qJ,qK];omega
theorem Fo {l:List M.Instr} (hl:BE l) (hz:l.length<=1073741824):tJ l=some (LG l):=by unfold tJ LG;rw [HN hl,qA,B9 l hz];cases JH l<;>rfl
def CG (i:Int) (a b:ByteArray) (v:Int) (l:List M.Instr):M.bV:=(⟨i,a,b,v,([]:List M.aU),LG l⟩:M.bV)
def Em:M.bV:=(⟨0,(⟨#[]⟩:ByteArray),(⟨#[]⟩:ByteArray),0,([]:List M.aU),(⟨([]:List M.Instr),0,([]:List Int),0,false,false⟩:M.aAJ)⟩:M.bV)
def HM (i:Int) (a b:ByteArray) (v:Int) (l:List M.Instr):M.bV×Bool:=if DE (CG i a b v l)=true then (CG i a b v l,true) else (Em,false)
theorem IX {i v:Int} {a b:ByteArray} {l:List M.Instr} (hi:inI i) (ha:a.size<=maxLen) (hb:b.size<=maxLen) (hv:inI v) (hl:BE l):(CG i a b v l).ok:=⟨hi,ha,hb,hv,⟨by simp [CG],by simp [CG]⟩,Q6 hl⟩
theorem Ot:Em.ok:=⟨sL,sz0,sz0,sL,⟨by simp [Em],by simp [Em]⟩,⟨⟨by simp [Em],by simp [Em]⟩,sL,⟨by simp [Em],by simp [Em]⟩,sL⟩⟩
theorem KP {i v:Int} {a b:ByteArray} {l:List M.Instr} (hi:inI i) (ha:a.size<=maxLen) (hb:b.size<=maxLen) (hv:inI v) (hl:BE l):(HM i a b v l).1.ok:=by unfold HM;split;(exact IX hi ha hb hv hl);·exact Ot
theorem J7 (i:Int) (a b:ByteArray) (v:Int) (l:List M.Instr):M.bV.sz (HM i a b v l).1<=a.size+b.size+(l.length+gO M.Instr.sz l)+4/\(HM i a b v l).1.aU.length=0:=by have h:=Q9 l;unfold HM;split;(refine ⟨?_,rfl⟩;simp only [CG,M.bV.sz,gO,qK];omega);·refine ⟨?_,rfl⟩;have h0:(⟨#[]⟩:ByteArray).size=0:=rfl;simp only [Em,M.bV.sz,M.aAJ.sz,gO,qK,h0];omega
theorem B2 {i v:Int} {a b:ByteArray} {l:List M.Instr} (hi:inI i) (ha:a.size<=maxLen) (hb:b.size<=maxLen) (hv:inI v) (hl:BE l) (hz:l.length<=1073741824):kY i a b v l=some (HM i a b v l):=by unfold kY HM;rw [Fo hl hz,qA];show ((oG (CG i a b v l)).bind _)=_;rw [Ap (IX hi ha hb hv hl),qA];cases DE (CG i a b v l)<;>rfl
def DR (p:M.bV) (f:ByteArray) (v:Int):M.bV:=(⟨p.Id,p.aAO,p.Top,p.aAB,p.aU++[(⟨f,v⟩:M.aU)],p.aAJ⟩:M.bV)
def JZ (p:M.bV) (f:ByteArray) (x:M.aAM):M.bV×Bool:=if (x.aAw != 200)=true then (p,false) else if (x.aAB != p.aAB)=true then (p,false) else if DE p=true then (if DE (DR p f x.aAB)=true then (DR p f x.aAB,true) else (p,false)) else (p,false)
theorem Kk {p:M.bV} {f:ByteArray} {v:Int} (hp:p.ok) (hl:p.aU.length<=4194304) (hf:f.size<=maxLen) (hv:inI v):(DR p f v).ok:=
 ⟨hp.Id,hp.aAO,hp.Top,hp.aAB,⟨by show (p.aU++_).length<=maxLen;unfold maxLen;simp;omega,λy hy=>by have hy':y∈p.aU++[(⟨f,v⟩:M.aU)]:=hy;simp only [qP,List.mem_cons,qO,or_false] at hy';rcases hy' with hy | rfl;(exact hp.aU.2 y hy);·exact ⟨hf,hv⟩⟩,hp.aAJ⟩
theorem Sd {p:M.bV} {f:ByteArray} {x:M.aAM} (hp:p.ok) (hl:p.aU.length<=4194304) (hf:f.size<=maxLen) (hv:inI x.aAB):(JZ p f x).1.ok:=by unfold JZ;split;(exact hp);·split;(exact hp);·split;(split;(exact Kk hp hl hf hv);·exact hp);·exact hp
theorem RK (p:M.bV) (f:ByteArray) (x:M.aAM):M.bV.sz (JZ p f x).1<=M.bV.sz p+f.size+1:=by
 have h:M.bV.sz (DR p f x.aAB)=M.bV.sz p+f.size+1:=by simp only [DR,M.bV.sz,qE,qJ,qK,xZ,gO,M.aU.sz];omega
 unfold JZ
 split
 ·show M.bV.sz p<=_;omega
 ·split;(show M.bV.sz p<=_;omega);·split;(split;(show M.bV.sz (DR p f x.aAB)<=_;omega);·show M.bV.sz p<=_;omega);·show M.bV.sz p<=_;omega
theorem HY {p:M.bV} {f:ByteArray} {x:M.aAM} (hp:p.ok) (hl:p.aU.length<=4194304) (hz:M.bV.sz p<=1073741824) (hf:f.size<=maxLen) (hv:inI x.aAB):pD p f x=some (JZ p f x):=by have e:=Ap (Kk hp hl hf hv);unfold DR at e;unfold pD JZ;rw [Ii p hz,qA,fQ qs,qA,Ap hp,qA,e,qA];unfold DR;cases (x.aAw != 200);(cases (x.aAB != p.aAB);(cases DE p;(simp);·cases DE (⟨p.Id,p.aAO,p.Top,p.aAB,p.aU++[(⟨f,x.aAB⟩:M.aU)],p.aAJ⟩:M.bV)<;>simp);·simp);·simp
def Az (x:M.Instr):Prop:=M.Instr.ok x/\x.aAf.size<=8
theorem A8 {k r n:Int} {s:ByteArray} (h1 : -1000000000000<=k/\k<=1000000000000) (h2:0<=r/\r<=1000000000000) (h3:0<=n/\n<=1000000000000) (hs:s.size<=8):Az (⟨k,r,n,s⟩:M.Instr):=⟨⟨GJ (by show -1000000000000000<=k;omega) (by show k<=_;omega),GJ (by show -1000000000000000<=r;omega) (by show r<=_;omega),GJ (by show -1000000000000000<=n;omega) (by show n<=_;omega),BR hs⟩,hs⟩
theorem NC {b:List Int} {i h n:Int} (hn:0<=n/\n<=1000) (hc:okC b i h):Dr b Az (vY (⟨b,i,h⟩:M.aQ) n):=by
 have e0:(⟨#[]⟩:ByteArray).size<=8:=by decide
 unfold vY
 refine .bnd (aV hc) λi1 v1 r1 c1 q1=>.bnd (aV c1) λi2 v2 r2 c2 q2 => ?_
 dsimp only
 have hr1:=q1.2.1 qb
 have hr2:=q2.2.1 qb
 rw [wrap_small (n:=1+r1) qb qb,wrap_small (n:=n+1) qb qb]
 have a1 : -1000000000000<=1+r1/\1+r1<=1000000000000:=by omega
 have a2:0<=r2/\r2<=1000000000000:=by omega
 have a0:(0:Int)<=0/\(0:Int)<=1000000000000:=by omega
 have below : ∀ {m:Int} {f:Int×Int×Int->Option (Int×Int×M.Instr)},(∀i3 v3 r3,okC b i3 v3->(0<=r3/\r3<=1000000000000)->Dr b Az (f (i3,v3,r3)))->Dr b Az ((aE (⟨b,i2,v2⟩:M.aQ) m).bind f):=λhf=>.bnd (aV c2) λi3 v3 r3 c3 q3=>hf i3 v3 r3 c3 ⟨q3.1,qb⟩
 split
 ·exact below λi3 v3 r3 c3 q3=>.ret c3 (A8 a1 a2 q3 e0)
 split
 ·exact below λi3 v3 r3 c3 q3=>.ret c3 (A8 a1 a2 q3 e0)
 split
 ·exact below λi3 v3 r3 c3 q3=>.ret c3 (A8 a1 a2 q3 e0)
 split
 ·exact below λi3 v3 r3 c3 q3=>.ret c3 (A8 a1 a0 q3 e0)
 split
 ·exact .bnd (zM (λs=>s.size<=8) qe qe c2) λi3 v3 r3 c3 q3=>.ret c3 (A8 a1 a2 a0 q3)
 split
 ·exact below λi3 v3 r3 c3 q3=>.bnd (wG c3) λi4 v4 r4 c4 q4=>.ret c4 (A8 a1 a2 q3 q4)
 split
 ·exact below λi3 v3 r3 c3 q3=>.bnd (wG c3) λi4 v4 r4 c4 q4=>.ret c4 (A8 a1 a2 q3 q4)
 split
 ·exact below λi3 v3 r3 c3 q3=>.bnd (wG c3) λi4 v4 r4 c4 q4=>.ret c4 (A8 a1 a2 q3 q4)
 split
 ·exact .ret c2 (A8 a1 a0 a0 e0)
 ·exact .ret c2 (A8 a1 a2 a0 e0)
def zG (l:List M.Instr):Prop:=l.length<=8 /\ ∀x∈l,Az x
theorem GS {b:List Int} {i h:Int} (hc:okC b i h):Dr b zG (pY (⟨b,i,h⟩:M.aQ)):=by
 unfold pY
 refine .bnd (aV hc) λi1 v1 r1 c1 q1 => ?_
 obtain ⟨N,rfl⟩:=zB q1.1
 have hN:=q1.2.1 qb
 refine S3 (N:=N) (L:=λn v (s:List M.Instr×Int×Int)=>iV (⟨b,i,h⟩:M.aQ) (i1,v1,(N:Int)) n v s.1 s.2.1 s.2.2) (I:=λk s=>okC b s.2.1 s.2.2/\s.1.length=k /\ ∀x∈s.1,Az x) (Q:=Dr b zG) (λn k s hk hi ih => ?_) (λn s hi => ?_) fuel 0 (([]:List M.Instr),i1,v1) (kD qb) qb ⟨c1,rfl,qd⟩
 ·obtain ⟨l,ci,ch⟩:=s
  obtain ⟨k1,k2,k3⟩:=hi
  simp only at k1 k2 k3
  simp only [iV]
  rw [if_pos (bB hk)]
  refine .bnd (NC ⟨qb,qb⟩ k1) λi3 v3 r3 c3 q3 => ?_
  rw [fQ qs,qA,bM qb]
  refine ih (l++[r3],i3,v3) ⟨c3,by simp [k2],λx hx => ?_⟩
  rcases List.mem_append.1 hx with hx | hx
  ·exact k3 x hx
  ·rw [List.mem_singleton.1 hx];exact q3
 ·obtain ⟨l,ci,ch⟩:=s;obtain ⟨k1,k2,k3⟩:=hi;simp only at k1 k2 k3;simp only [iV];rw [if_neg qk];exact .ret k1 ⟨qb,k3⟩
theorem Ew {l:List M.Instr} (h:zG l):BE l:=⟨Nat.le_trans h.1 qj,λx hx=>(h.2 x hx).1⟩
theorem KI {l:List M.Instr} (h:zG l):l.length+gO M.Instr.sz l<=72:=by
 have h1:=Hg (c:=M.Instr.sz) (A:=8) (xs:=l) λx hx=>(h.2 x hx).2
 have h2:=h.1
 omega
def DP (p:M.bV):Prop:=M.bV.ok p/\p.aU.length<=3/\M.bV.sz p<=1000
theorem Pk {b:List Int} {i h:Int} (hc:okC b i h):Dr b DP (xD (⟨b,i,h⟩:M.aQ)):=by
 have fin : ∀ {L:Nat->Int->Int->ByteArray->ByteArray->Int->Int->Int->Bool->Bool->Int->Int->List M.aU->List M.Instr->List Int->Option (Int×Int×M.bV)} {n:Int} {i1 h1:Int} {p:M.bV},(∀m v a0 a1 a2 a3 a6 a8 a9 ae ci ch r0 r1 r2,L (m+1) v a0 a1 a2 a3 a6 a8 a9 ae ci ch r0 r1 r2=if (decide (v>0))=true then ((sG (⟨b,ci,ch⟩:M.aQ)).bind λaf=>((pD (⟨a0,a1,a2,a3,r0,(⟨r1,a6,r2,a8,a9,ae⟩:M.aAJ)⟩:M.bV) af.2.2 (⟨0,200,a3,([]:List Int),false⟩:M.aAM)).bind λaa=>(L m (i64.wrap (v-1)) aa.1.Id aa.1.aAO aa.1.Top aa.1.aAB aa.1.aAJ.Pc aa.1.aAJ.aAy aa.1.aAJ.aA6 aa.1.aAJ.aA7 af.1 af.2.1 aa.1.aU aa.1.aAJ.aAp aa.1.aAJ.aA1))) else (some (ci,ch,(⟨a0,a1,a2,a3,r0,(⟨r1,a6,r2,a8,a9,ae⟩:M.aAJ)⟩:M.bV)))) ->
   (0<=n/\n<3)->okC b i1 h1->M.bV.ok p->p.aU.length=0->M.bV.sz p<=200->Dr b DP (L fuel n p.Id p.aAO p.Top p.aAB p.aAJ.Pc p.aAJ.aAy p.aAJ.aA6 p.aAJ.aA7 i1 h1 p.aU p.aAJ.aAp p.aAJ.aA1):=by
  intro L n i1 h1 p hL hn hc hp hl hz
  obtain ⟨N,rfl⟩:=zB hn.1
  refine yD (L:=λm v (s:M.bV×Int×Int)=>L m v s.1.Id s.1.aAO s.1.Top s.1.aAB s.1.aAJ.Pc s.1.aAJ.aAy s.1.aAJ.aA6 s.1.aAJ.aA7 s.2.1 s.2.2 s.1.aU s.1.aAJ.aAp s.1.aAJ.aA1) (I:=λk s=>okC b s.2.1 s.2.2/\M.bV.ok s.1/\s.1.aU.length+k<=3/\M.bV.sz s.1+20*k<=300) (Q:=Dr b DP) (λm k s hi ih => ?_) (λm s hi => ?_) fuel N (p,i1,h1) (kD qb) ⟨hc,hp,by show p.aU.length+N<=3;omega,by show M.bV.sz p+20*N<=300;omega⟩
  ·obtain ⟨p,ci,ch⟩:=s
   obtain ⟨k1,k2,k3,k4⟩:=hi
   simp only at k1 k2 k3 k4
   simp only [hL]
   rw [if_pos (by first | (simp;done) | (simp;omega))]
   refine .bnd (KZ k1) λi3 v3 r3 c3 q3 => ?_
   have hv:inI (⟨0,200,p.aAB,([]:List Int),false⟩:M.aAM).aAB:=k2.aAB
   show Dr b DP ((pD p r3 _).bind _)
   rw [HY k2 qb qb (BR q3) hv,qA,show i64.wrap (((k+1:Nat):Int)-1)=(k:Int) from by rw [wrap_small qb qb];omega]
   have z:=RK p r3 (⟨0,200,p.aAB,([]:List Int),false⟩:M.aAM)
   refine ih ((JZ p r3 (⟨0,200,p.aAB,([]:List Int),false⟩:M.aAM)).1,i3,v3) ⟨c3,Sd k2 qb (BR q3) hv,?_,qg⟩
   have:(JZ p r3 (⟨0,200,p.aAB,([]:List Int),false⟩:M.aAM)).1.aU.length<=p.aU.length+1:=by unfold JZ;split;(show p.aU.length<=_;omega);·split;(show p.aU.length<=_;omega);·split;(split;(simp [DR]);·show p.aU.length<=_;omega);·show p.aU.length<=_;omega
   dsimp only
   omega
  ·obtain ⟨p,ci,ch⟩:=s;obtain ⟨k1,k2,k3,k4⟩:=hi;simp only at k1 k2 k3 k4;simp only [hL];rw [if_neg qd];exact .ret k1 ⟨k2,by show p.aU.length<=3;omega,by show M.bV.sz p<=_;omega⟩
 have page : ∀ {j v:Int} {s t:ByteArray} {l:List M.Instr},(0<=j/\j<=1000)->(0<=v/\v<=1000)->s.size<=8->t.size<=8->zG l -> ∃r,kY (i64.wrap (1+j)) s t (i64.wrap (1+v)) l=some r/\(M.bV.ok r.1/\r.1.aU.length=0/\M.bV.sz r.1<=200):=by intro j v s t l hj hv hs ht hl;have h1:=KI hl;refine ⟨_,B2 (bH _) (BR hs) (BR ht) (bH _) (Ew hl) qb,KP (bH _) (BR hs) (BR ht) (bH _) (Ew hl),?_⟩;have h2:=J7 (i64.wrap (1+j)) s t (i64.wrap (1+v)) l;exact ⟨h2.2,qb⟩
 unfold xD
 refine .bnd (DU hc) λi1 v1 r1 c1 q1=>.Ep (U0 c1 q1) λy hy=>.bnd (aV hy.2) λi4 v4 r4 c4 q4=>.bnd (aV c4) λi5 v5 r5 c5 q5=>.bnd (GS c5) λi6 v6 r6 c6 q6 => ?_
 have z4:=q4.2.1 qb
 have z5:=q5.2.1 qb
 refine .Ep (page ⟨q4.1,qg⟩ ⟨q5.1,qg⟩ q1 hy.1 q6) λr hr=>.bnd (aV c6) λi7 v7 r7 c7 q7 => ?_
 have z7:=q7.2.1 qb
 exact fin (L:=lW (⟨b,i,h⟩:M.aQ)) (λ_ _ _ _ _ _ _ _ _ _ _ _ _ _ _=>by simp only [lW]) ⟨q7.1,z7⟩ c7 hr.1 hr.2.1 hr.2.2
def stN (n:Nat) (s:M.aJ):Prop:=s.aAG.length<=n /\ ∀b∈s.aAG,bkI b
theorem stN.ok {n:Nat} {s:M.aJ} (h:stN n s) (hn:n<=1000):s.ok:=⟨⟨ml (by have:=h.1;omega),λb hb=>(h.2 b hb).ok⟩⟩
theorem stN.sz {n:Nat} {s:M.aJ} (h:stN n s) (hn:n<=5):M.aJ.sz s<=900005:=by
 have h1:=fR (w:=M.aO.sz) (b:=180000) (xs:=s.aAG) λb hb=>(h.2 b hb).sz
 have h2:=h.1
 simp only [M.aJ.sz]
 omega
theorem stN.mono {n m:Nat} {s:M.aJ} (h:stN n s) (hm:n<=m):stN m s:=⟨by have:=h.1;omega,h.2⟩
theorem UX {n:Nat} {s:M.aJ} {b:M.aO} (h:stN n s) (hn:n<=4) (hb:bkI b) : ∃x,nJ s b=some x/\stN (n+1) x.1:=by have hz:=h.sz qb;have hzb:=hb.sz;refine ⟨_,Gs (h.ok qb) hb.ok qb qb,?_⟩;have hl:=Kc s b;have h1:=h.1;unfold Vg Q5;split;(split;(refine ⟨qg,λx hx => ?_⟩;rcases HU hx with rfl | hx;(exact hb);·exact h.2 x hx);·exact h.mono (Nat.le_succ n));·exact h.mono (Nat.le_succ n)
theorem FR {b:List Int} {i h:Int} (c0:okC b i h):Dr b (stN 4) (mA (⟨b,i,h⟩:M.aQ)):=by
 unfold mA
 refine .bnd (aV c0) λi1 v1 r1 c1 q1 => ?_
 obtain ⟨N,rfl⟩:=zB q1.1
 have hN:=q1.2.1 qb
 refine yD (L:=λn v (s:(M.aJ)×Int×Int)=>gZ (⟨b,i,h⟩:M.aQ) n v s.2.1 s.2.2 s.1.aAG) (I:=λk s=>k<=100000/\okC b s.2.1 s.2.2/\k<=3/\stN (3-k) s.1) (Q:=Dr b (stN 4)) (λn k s hi ih => ?_) (λn s hi => ?_) fuel N ((⟨([]:List M.aO)⟩:M.aJ),i1,v1) (kD qb) ⟨qb,c1,⟨qb,qd,qd⟩⟩
 ·obtain ⟨x,ci,ch⟩:=s
  obtain ⟨k0,k1,k2⟩:=hi
  dsimp only at k1 k2
  simp only [gZ]
  rw [if_pos (Of k),Gy k0]
  refine .bnd (G7 k1) λi3 v3 r3 c3 q3=>.Ep (UX (s:=x) k2.2 qb q3.all) λy hy => ?_
  have:=k2.1
  exact ih (y.1,i3,v3) ⟨qb,c3,qb,hy.mono qb⟩
 ·obtain ⟨x,ci,ch⟩:=s
  obtain ⟨k0,k1,k2⟩:=hi
  dsimp only at k1 k2
  simp only [gZ]
  rw [if_neg Gm]
  refine .bnd (xK k1) λi3 v3 r3 c3 q3 => ?_
  have hl:=k2.2.1
  dsimp only
  split
  ·refine .bnd (RL c3) λi4 v4 r4 c4 q4 => ?_
   dsimp only
   rw [wP qs qb,qA]
   refine .ret c4 ⟨qn,λy hy => ?_⟩
   rcases List.mem_append.1 hy with hy | hy
   ·exact k2.2.2 y hy
   ·rw [List.mem_singleton.1 hy];exact q4
  ·exact .ret c3 (k2.2.mono qb)
theorem Oa {b:List Int} {i h:Int} (c0:okC b i h):Dr b wsm (vF (⟨b,i,h⟩:M.aQ)):=by
 unfold vF
 refine .bnd (aV c0) λi1 v1 r1 c1 q1=>.bnd (aV c1) λi2 v2 r2 c2 q2=>.bnd (uC c2) λi3 v3 r3 c3 q3=>.bnd (wG c3) λi4 v4 r4 c4 q4=>.bnd (aV c4) λi5 v5 r5 c5 q5=>.bnd (aV c5) λi6 v6 r6 c6 q6 => ?_
 have hf:r4.size<=16:=Nat.le_trans q4 qb
 have hn:inI r5:=bgI (Rb q5)
 have hk:=q3.any
 dsimp only
 split
 ·exact .bnd (nP (λx => -1000000000000000<=x/\x<=1000000000000000) qe qe c6) λi7 v7 r7 c7 q7=>.ret c7 (C8 (bgI q7) (bH _) hk hf hn)
 split
 ·exact .bnd (nP (λx => -1000000000000000<=x/\x<=1000000000000000) qe qe c6) λi7 v7 r7 c7 q7=>.ret c7 (C8 (bH _) (bgI q7) hk hf hn)
 split
 ·exact .bnd (LD c6) λi7 v7 r7 c7 q7=>.ret c7 (C8 (bH _) (bH _) q7 hf hn)
 split
 ·exact .ret c6 (C8 (bH _) (bH _) hk qe hn)
 split
 ·exact .bnd (nP (λx => -1000000000000000<=x/\x<=1000000000000000) qe qe c6) λi7 v7 r7 c7 q7=>.ret c7 (C8 (bH _) (bH _) hk hf (bgI q7))
 ·exact .ret c6 (C8 (bH _) (bH _) hk hf hn)
def QL (s:M.aAI):Prop:=M.aAI.ok s/\M.aAI.sz s<=30000
theorem Uf {s:M.aA} {a:List M.aK} {c:List M.bA} (hs:I0 s) (ha:a.length<=100 /\ ∀x∈a,M.aK.ok x) (hc:c.length<=100 /\ ∀x∈c,wsm x):QL (⟨s,a,c⟩:M.aAI):=by
 have h1:=hs.2
 have h2:=ha.1
 have h3:=hc.1
 have h4:=fR (w:=M.bA.sz) (b:=32) (xs:=c) λw hw=>(hc.2 w hw).2
 refine ⟨⟨hs.1,⟨ml qg,ha.2⟩,⟨ml qg,λw hw=>(hc.2 w hw).1⟩⟩,?_⟩
 simp only [M.aAI.sz]
 omega
theorem R0 {b:List Int} {i h:Int} (c0:okC b i h):Dr b QL (wM (⟨b,i,h⟩:M.aQ)):=by
 unfold wM
 refine .bnd (H0 c0) λi1 v1 r1 c1 q1=>.bnd (aV c1) λi2 v2 r2 c2 q2 => ?_
 dsimp only
 have hs:I0 r1.aA:=⟨q1.1,by have:=mV q1.2.1;omega⟩
 have ha:r1.aK.length<=60:=q1.2.2.1.1
 have hc:r1.aAZ.length<=5:=q1.2.2.2.1
 have ha2:=q1.2.2.1.2
 have hc2:=q1.2.2.2.2
 have ha':r1.aK.length<=100 /\ ∀x∈r1.aK,M.aK.ok x:=⟨qb,ha2⟩
 have hc':r1.aAZ.length<=100 /\ ∀x∈r1.aAZ,wsm x:=⟨qb,hc2⟩
 split
 ·exact .bnd (PH c2) λi3 v3 r3 c3 q3=>.ret c3 (Uf q3 ha' hc')
 split
 ·refine .bnd (nP (λx => -1000000000000000<=x/\x<=1000000000000000) qe qe c2) λi3 v3 r3 c3 q3=>.bnd (nP (λx => -1000000000000000<=x/\x<=1000000000000000) qe qe c3) λi4 v4 r4 c4 q4 => ?_
  dsimp only
  rw [wP qs qb,qA]
  refine .ret c4 (Uf hs ⟨qn,λx hx => ?_⟩ hc')
  rcases List.mem_append.1 hx with hx | hx
  ·exact ha2 x hx
  ·rw [List.mem_singleton.1 hx];exact ⟨bgI q3,bgI q4⟩
 split
 ·refine .bnd (Oa c2) λi3 v3 r3 c3 q3 => ?_
  dsimp only
  rw [wP qs qb,qA]
  refine .ret c3 (Uf hs ha' ⟨qn,λx hx => ?_⟩)
  rcases List.mem_append.1 hx with hx | hx
  ·exact hc2 x hx
  ·rw [List.mem_singleton.1 hx];exact q3
 split
 ·have key : ∀(n k:Nat) (l:List M.aK),64-k<n->k<=64->l.length<=k->(∀x∈l,M.aK.ok x)->Dr b QL (rD (i1,v1,r1) (i2,v2,r2) n (k:Int) l):=by
   intro n
   induction n with
   | zero=>intro k l h _ _ _;omega
   | succ n ih =>
    intro k l hn hk hl hx
    simp only [rD]
    rcases Nat.lt_or_ge k 64 with h6 | h6
    ·rw [if_pos qc,wP qs qb,qA,bM qb]
     refine ih (k+1) (l++[_]) qb qb qn λx hx' => ?_
     rcases List.mem_append.1 hx' with hx' | hx'
     ·exact hx x hx'
     ·rw [List.mem_singleton.1 hx'];exact ⟨bgI qh,sL⟩
    ·rw [if_neg qc];exact .ret c2 (Uf hs ⟨qb,hx⟩ hc')
  exact key fuel 4 [] (kD qb) qb qd qd
 ·exact .ret c2 (Uf hs ha' hc')
def NQ (p:M.bV):Prop:=M.bV.ok p/\M.bV.sz p<=2000
theorem RW {b:List Int} {i h:Int} (c0:okC b i h):Dr b NQ (wF (⟨b,i,h⟩:M.aQ)):=by
 unfold wF
 refine .bnd (Pk c0) λi1 v1 r1 c1 q1=>.bnd (aV c1) λi2 v2 r2 c2 q2 => ?_
 dsimp only
 obtain ⟨ho,hl,hz⟩:=q1
 have hz':=hz
 simp only [M.bV.sz] at hz'
 split
 ·exact .bnd (nP (λx => -1000000000000000<=x/\x<=1000000000000000) qe qe c2) λi3 v3 r3 c3 q3=>.ret c3 ⟨⟨bgI q3,ho.aAO,ho.Top,ho.aAB,ho.aU,ho.aAJ⟩,by show M.bV.sz r1<=2000;omega⟩
 split
 ·refine .bnd (zM (λs=>s.size<=16) qe qe c2) λi3 v3 r3 c3 q3=>.bnd (aV c3) λi4 v4 r4 c4 q4 => ?_
  dsimp only
  rw [wP qs qb,qA]
  have q3':r3.size<=16:=q3
  refine .ret c4 ⟨⟨ho.Id,ho.aAO,ho.Top,ho.aAB,⟨ml qn,λx hx => ?_⟩,ho.aAJ⟩,?_⟩
  ·rcases List.mem_append.1 hx with hx | hx;(exact ho.aU.2 x hx);·rw [List.mem_singleton.1 hx];exact ⟨s16 q3,bH _⟩
  ·simp only [M.bV.sz,xZ,gO,M.aU.sz,qE,qJ,qK];omega
 split
 ·exact .bnd (nP (λx => -1000000000000000<=x/\x<=1000000000000000) qe qe c2) λi3 v3 r3 c3 q3=>.ret c3 ⟨⟨ho.Id,ho.aAO,ho.Top,bgI q3,ho.aU,ho.aAJ⟩,by show M.bV.sz r1<=2000;omega⟩
 split
 ·have e5:(⟨#[105,110,100,101,120]⟩:ByteArray).size=5:=rfl
  have key : ∀(n:Nat) (l:List M.aU),8-l.length<n->l.length<=8->(∀x∈l,M.aU.ok x)->gO M.aU.sz l+6*(8-l.length)<=gO M.aU.sz r1.aU+48->Dr b NQ (pT (i1,v1,r1) (i2,v2,r2) n l):=by
   intro n
   induction n with
   | zero=>intro l h _ _ _;omega
   | succ n ih =>
    intro l hn hk hx hs
    simp only [pT]
    rcases Nat.lt_or_ge l.length 8 with h6 | h6
    ·rw [if_pos qc,wP qs qb,qA];refine ih (l++[_]) qn qn (λx hx' => ?_) ?_;(rcases List.mem_append.1 hx' with hx' | hx';(exact hx x hx');·rw [List.mem_singleton.1 hx'];exact ⟨s16 (show (⟨#[105,110,100,101,120]⟩:ByteArray).size<=16 by decide),ho.aAB⟩);·simp only [xZ,gO,M.aU.sz,e5,qE,qJ,qK];omega
    ·rw [if_neg qc];refine .ret c2 ⟨⟨ho.Id,ho.aAO,ho.Top,ho.aAB,⟨ml (by show l.length<=_;omega),hx⟩,ho.aAJ⟩,?_⟩;simp only [M.bV.sz];omega
  exact key fuel r1.aU (kD qb) qb ho.aU.2 qb
 ·exact .ret c2 ⟨ho,qb⟩
def wdI (n:Nat) (w:M.World):Prop:=inI w.Now/\inI w.aAK/\stN 4 w.aJ/\(w.aAX.length<=n /\ ∀p∈w.aAX,NQ p)/\inI w.aAg/\(w.aAW.aAW=[])/\(w.aAa.aAx=[])/\(w.aAe.length<=3/\(∀s∈w.aAe,M.aAO.ok s/\M.aAO.sz s<=100))/\(w.aAY.length<=3 /\ ∀s∈w.aAY,QL s)
theorem wdI.ok {n:Nat} {w:M.World} (h:wdI n w) (hn:n<=20):M.World.ok w:=by obtain ⟨h1,h2,h3,h4,h5,h6,h7,h8,h9⟩:=h;exact ⟨h1,h2,h3.ok qb,⟨ml qb,λp hp=>(h4.2 p hp).1⟩,h5,⟨by rw [h6];simp [maxLen],by rw [h6];simp⟩,⟨by rw [h7];simp [maxLen],by rw [h7];simp⟩,⟨ml qb,λp hp=>(h8.2 p hp).1⟩,⟨ml qb,λp hp=>(h9.2 p hp).1⟩⟩
theorem wdI.sz {n:Nat} {w:M.World} (h:wdI n w) (hn:n<=20):M.World.sz w<=900000:=by
 obtain ⟨h1,h2,h3,h4,h5,h6,h7,h8,h9⟩:=h
 have a1:=fR (w:=M.aO.sz) (b:=180000) (xs:=w.aJ.aAG) λb hb=>(h3.2 b hb).sz
 have a2:=fR (w:=M.bV.sz) (b:=2000) (xs:=w.aAX) λb hb=>(h4.2 b hb).2
 have a3:=fR (w:=M.aAO.sz) (b:=100) (xs:=w.aAe) λb hb=>(h8.2 b hb).2
 have a4:=fR (w:=M.aAI.sz) (b:=30000) (xs:=w.aAY) λb hb=>(h9.2 b hb).2
 have b1:=h3.1
 have b2:=h4.1
 have b3:=h8.1
 have b4:=h9.1
 simp only [M.World.sz,M.aJ.sz,M.cH.sz,M.aAa.sz,h6,h7,gO,qK]
 omega
theorem Sx {d:Int}:wdI 0 (Oj d):=by unfold Oj;split;(rename_i h;refine ⟨sL,bgI qh,⟨qd,qd⟩,⟨qd,qd⟩,MK,rfl,rfl,⟨by simp [mW],λs hs => ?_⟩,⟨by simp [mW],λs hs => ?_⟩⟩;(simp only [mW,List.map_cons,List.map_nil,List.mem_cons,qO,or_false] at hs;rcases hs with rfl | rfl | rfl<;>exact ⟨⟨s16 qe,MK,⟨ml qd,λy hy=>by simp only [List.mem_cons,qO,or_false] at hy;rcases hy with rfl | rfl | rfl | rfl<;>exact s16 qe⟩⟩,qe⟩);·simp only [mW,List.map_cons,List.map_nil,List.mem_cons,qO,or_false] at hs;rcases hs with rfl | rfl | rfl<;>exact Uf Jn.any ⟨qd,qd⟩ ⟨qd,qd⟩);·exact ⟨sL,sL,⟨qd,qd⟩,⟨qd,qd⟩,sL,rfl,rfl,⟨qd,qd⟩,⟨qd,qd⟩⟩
theorem PE {b:List Int} {i h nx:Int} {w:M.World} {st:M.aJ} {pg:List M.bV} (c0:okC b i h) (hw:wdI 8 (⟨w.Now,w.aAi,w.aAK,st,pg,nx,w.aAW,w.aAa,w.aAe,w.aAY⟩:M.World)) (h3:w.aAe.length=3) (hs:w.aAY.length=3) : ∃r,((aE (⟨b,i,h⟩:M.aQ) 24).bind λx=>(if (x.2.2==0)=true then ((bE (⟨b,x.1,x.2.1⟩:M.aQ) ([(-1),999999990000,999999990001])).bind λy=>(some (⟨y.2.2,w.aAi,w.aAK,st,pg,nx,w.aAW,w.aAa,w.aAe,w.aAY⟩:M.World))) else (if (x.2.2==1)=true then (some (⟨w.Now,w.aAi,0,st,pg,nx,w.aAW,w.aAa,w.aAe,w.aAY⟩:M.World)) else (if (x.2.2==2)=true then ((xE w.aAe 2).bind λy=>(some (⟨w.Now,w.aAi,w.aAK,st,pg,nx,w.aAW,w.aAa,(List.take (2:Int).toNat w.aAe),w.aAY⟩:M.World))) else (if (x.2.2==3)=true then ((mA (⟨b,x.1,x.2.1⟩:M.aQ)).bind λy=>(some (⟨w.Now,w.aAi,w.aAK,y.2.2,pg,nx,w.aAW,w.aAa,w.aAe,w.aAY⟩:M.World))) else (if (x.2.2==4)=true then ((wF (⟨b,x.1,x.2.1⟩:M.aQ)).bind λy=>((app 144 pg ([y.2.2])).bind λz=>(some (⟨w.Now,w.aAi,w.aAK,st,(pg++[y.2.2]),nx,w.aAW,w.aAa,w.aAe,w.aAY⟩:M.World)))) else (if (x.2.2==5)=true then (some (⟨w.Now,w.aAi,w.aAK,st,pg,0,w.aAW,w.aAa,w.aAe,w.aAY⟩:M.World)) else (if (x.2.2==6)=true then ((wM (⟨b,x.1,x.2.1⟩:M.aQ)).bind λy=>((idx w.aAY 0).bind λz=>(some (⟨w.Now,w.aAi,w.aAK,st,pg,nx,w.aAW,w.aAa,w.aAe,(List.set w.aAY (0:Int).toNat y.2.2)⟩:M.World)))) else (some (⟨w.Now,w.aAi,w.aAK,st,pg,nx,w.aAW,w.aAa,w.aAe,w.aAY⟩:M.World))))))))))=some r/\wdI 9 r:=by obtain ⟨a1,a2,a3,a4,a5,a6,a7,a8,a9⟩:=hw;dsimp only at a1 a2 a3 a4 a5 a6 a7 a8 a9;have a4':pg.length<=9 /\ ∀p∈pg,NQ p:=⟨qb,a4.2⟩;obtain ⟨i1,v1,r1,e1,c1,q1⟩:=aV (n:=24) c0;rw [e1,qA];dsimp only;split;(obtain ⟨i2,v2,r2,e2,c2,q2⟩:=nP (l:=[(-1),999999990000,999999990001]) (λx => -1000000000000000<=x/\x<=1000000000000000) qe qe c1;rw [e2,qA];exact ⟨_,rfl,bgI q2,a2,a3,a4',a5,a6,a7,a8,a9⟩);split;(exact ⟨_,rfl,a1,sL,a3,a4',a5,a6,a7,a8,a9⟩);split;(rw [show xE w.aAe 2=xE w.aAe ((2:Nat):Int) from rfl,AJ qb,qA];exact ⟨_,rfl,a1,a2,a3,a4',a5,a6,a7,⟨by show (List.take 2 w.aAe).length<=3;rw [qT];omega,λs hs=>a8.2 s (List.mem_of_mem_take hs)⟩,a9⟩);split;(obtain ⟨i2,v2,r2,e2,c2,q2⟩:=FR c1;rw [e2,qA];exact ⟨_,rfl,a1,a2,q2,a4',a5,a6,a7,a8,a9⟩);split;(obtain ⟨i2,v2,r2,e2,c2,q2⟩:=RW c1;rw [e2,qA];dsimp only;rw [wP qs qb,qA];refine ⟨_,rfl,a1,a2,a3,⟨qn,λp hp => ?_⟩,a5,a6,a7,a8,a9⟩;rcases List.mem_append.1 hp with hp | hp;(exact a4.2 p hp);·rw [List.mem_singleton.1 hp];exact q2);split;(exact ⟨_,rfl,a1,a2,a3,a4',sL,a6,a7,a8,a9⟩);split;(obtain ⟨i2,v2,r2,e2,c2,q2⟩:=R0 c1;rw [e2,qA,show idx w.aAY 0=idx w.aAY ((0:Nat):Int) from rfl,aM qb,qA];refine ⟨_,rfl,a1,a2,a3,a4',a5,a6,a7,a8,⟨by show (List.set w.aAY 0 r2).length<=3;rw [qN];omega,λs hs => ?_⟩⟩;rcases List.mem_or_eq_of_mem_set hs with hs | rfl;(exact a9.2 s hs);·exact q2);·exact ⟨_,rfl,a1,a2,a3,a4',a5,a6,a7,a8,a9⟩
theorem Sm {nx v:Int} {a t:ByteArray} {l:List M.Instr} (hn:inI nx) (ha:a.size<=16) (ht:t.size<=16) (hv:inI v) (hl:zG l) : ∃r,kY nx a t v l=some r/\NQ r.1:=by have h1:=KI hl;have h2:=J7 nx a t v l;exact ⟨_,B2 hn (s16 ha) (s16 ht) hv (Ew hl) qb,KP hn (s16 ha) (s16 ht) hv (Ew hl),qb⟩
theorem Uc {p0:List Int} (hl:p0.length<=1048576) (hb : ∀x∈p0,0<=x/\x<=255) : ∃w,rQ p0=some w/\wdI 9 w:=by
 unfold rQ
 obtain ⟨h,e,c0⟩:=Md hl hb
 rw [e,qA]
 obtain ⟨i1,v1,r1,e1,c1,q1⟩:=aV (n:=3) c0
 have hr:=q1.2.1 qb
 have hr0:=q1.1
 rw [e1,qA]
 dsimp only
 rw [CF,qA,wrap_small qb qb]
 obtain ⟨i2,v2,st,e2,c2,q2⟩:=FR c1
 rw [e2,qA]
 have hN:(Oj (1+r1)).aAe.length=3/\(Oj (1+r1)).aAY.length=3/\(Oj (1+r1)).aAX=[]:=by unfold Oj;rw [if_pos qb];exact ⟨rfl,rfl,rfl⟩
 obtain ⟨a1,a2,a3,a4,a5,a6,a7,a8,a9⟩:=Sx (d:=1+r1)
 generalize Oj (1+r1)=w at *
 have key : ∀(n k:Nat) (nx ci ch:Int) (pg:List M.bV),st.aAG.length-k<n->k<=st.aAG.length->okC p0 ci ch->inI nx->pg.length<=k->(∀p∈pg,NQ p) -> ∃r,gJ (⟨p0,0,h⟩:M.aQ) w (i2,v2,st) n (k:Int) nx ci ch pg=some r/\wdI 9 r:=by
  intro n
  induction n with
  | zero=>intro k nx ci ch pg h _ _ _ _ _;omega
  | succ n ih =>
   intro k nx ci ch pg hn hk hc hnx hl hp
   have hst:=q2.1
   have hW:wdI 8 (⟨w.Now,w.aAi,w.aAK,st,pg,nx,w.aAW,w.aAa,w.aAe,w.aAY⟩:M.World):=⟨a1,a2,q2,⟨qg,hp⟩,hnx,a6,a7,a8,a9⟩
   simp only [gJ]
   rcases Nat.lt_or_ge k st.aAG.length with h6 | h6
   ·rw [if_pos (bB h6)]
    obtain ⟨i3,v3,r3,e3,c3,q3⟩:=xK (n:=2) hc
    rw [e3,qA,qA]
    dsimp only
    split
    ·have hbk:=q2.2 _ (qG h6)
     rw [aM h6,qA]
     obtain ⟨i4,v4,r4,e4,c4,q4⟩:=GS c3
     rw [e4,qA]
     dsimp only
     obtain ⟨y,ey,hy⟩:=Sm hnx hbk.1 hbk.2.1 MK q4
     rw [ey,qA,wP qs qb,qA,bM qb]
     refine ih (k+1) _ i4 v4 (pg++[y.1]) qb qb c4 (bH _) qn λp hp' => ?_
     rcases List.mem_append.1 hp' with hp' | hp'
     ·exact hp p hp'
     ·rw [List.mem_singleton.1 hp'];exact hy
    ·exact PE c3 hW hN.1 hN.2.1
   ·rw [if_neg qc,qA];dsimp only;rw [if_neg qd];exact PE hc hW hN.1 hN.2.1
 rw [hN.2.2]
 exact key fuel 0 w.aAg i2 v2 [] (kD (by have:=q2.1;omega)) qb c2 a5 qd qd
theorem Jb (x:M.aJ):GK x x=true:=lF KG _
theorem N6 (x:M.bV):Ls x x=true:=by simp [Ls,GH,lF (f:=Cg) (λy=>by simp [Cg]),lF (f:=EJ) (λy=>by simp [EJ]),lF (f:=J5) (λy=>by simp [J5])]
theorem Km (x:M.aAI):DI x x=true:=by simp [DI,DH,lF (f:=Bp) (λy=>by simp [Bp]),lF (f:=AX) (λy=>by simp [AX])]
theorem Oc (x:M.aAO):L9 x x=true:=by simp [L9,lF (f:=CH) (λy=>by simp [CH])]
theorem Hk (x:M.World):Nf x x=true:=by simp [Nf,Jb,lF (f:=Ls) N6,lF (f:=HZ) (λy=>by simp [HZ]),lF (f:=Hn) (λy=>by simp [Hn]),lF (f:=L9) Oc,lF (f:=DI) Km]
theorem Rx (a:ByteArray):BO a = -1\/BO a=0\/BO a=1\/BO a=2:=by
 unfold BO
 by_cases h:oF (λx:ByteArray=>x.toList==a.toList) mW<0
 ·left
  unfold oF at h ⊢
  cases e:mW.findIdx? (λx:ByteArray=>x.toList==a.toList) with
  | none=>rfl
  | some k=>rw [e] at h;simp only at h;omega
 ·obtain ⟨k,ek,hk⟩:=lE h;have:mW.length=3:=rfl;omega
set_option maxHeartbeats 4000000 in
theorem Us (p0:List Int) (hb : ∀b∈p0,0<=b/\b<=255):uZ p0=some true:=by
 unfold uZ CW
 rw [qA]
 by_cases hl:(p0.length:Int)>1048576
 ·rw [if_pos (by simpa using hl)]
 rw [if_neg (by simpa using hl)]
 have hl':p0.length<=1048576:=by omega
 have hD : ∃d,pK p0=some d/\(d=0\/d=1\/d=7\/d=1000000\/d=1000001):=by unfold pK;obtain ⟨h,e,c0⟩:=Md hl' hb;rw [e,qA];obtain ⟨i1,v1,r1,e1,c1,q1⟩:=nP (l:=[0,1,7,1000000,1000001]) (λx=>x=0\/x=1\/x=7\/x=1000000\/x=1000001) qe qe c0;rw [e1,qA];exact ⟨_,rfl,q1⟩
 obtain ⟨d,ed,hd⟩:=hD
 rw [ed,qA,Hh,qA]
 have hnw:=Sx (d:=d)
 rw [Di (hnw.ok qb) (by have:=hnw.sz qb;omega)]
 refine jn (v:=false) ?_ ?_
 ·rw [qA];rcases hd with rfl | rfl | rfl | rfl | rfl<;>decide +kernel
 rw [if_neg qd]
 obtain ⟨w,ew,hw⟩:=Uc hl' hb
 rw [ew,qA]
 obtain ⟨a,ea,ha⟩:=UA hl' hb (i:=1) qb qb
 rw [ea,qA]
 have ho:=hw.ok qb
 have hz:=hw.sz qb
 rw [Gg ho,qA]
 have hS : ∃s,mQ p0=some s:=by unfold mQ;obtain ⟨h,e,c0⟩:=Md hl' hb;rw [e,qA];obtain ⟨i1,v1,r1,e1,c1,q1⟩:=zM (l:=[(⟨#[98,97,110,107]⟩:ByteArray),(⟨#[110,101,119,115]⟩:ByteArray),(⟨#[115,104,111,112]⟩:ByteArray),(⟨#[]⟩:ByteArray),(⟨#[122,122,122]⟩:ByteArray)]) (λ_=>True) qe (λ_ _=>trivial) c0;rw [e1,qA];exact ⟨_,rfl⟩
 obtain ⟨s,es⟩:=hS
 rw [es,qA,Bi,qA]
 have hr:=Rx s
 generalize BO s=n at hr
 refine jn (v:=true) ?_ rfl
 rw [Di ho qb,qA,Ij ho qb,qA,if_pos qd,A4 ho,qA,Hk,if_pos rfl,F8 ho,qA,if_pos qd,if_pos qc,if_pos qc,qA]
 by_cases hi:HB (Oj d)=true
 ·rw [if_neg (by rw [hi];simp),CF,qA,A4 (hnw.ok qb),qA,Hk,if_pos rfl];clear ea ed ew es hw ho hz;rcases hd with rfl | rfl | rfl | rfl | rfl;(exact absurd hi qf);(rcases hr with rfl | rfl | rfl | rfl<;>decide +kernel);(rcases hr with rfl | rfl | rfl | rfl<;>decide +kernel);(rcases hr with rfl | rfl | rfl | rfl<;>decide +kernel);·exact absurd hi qf
 ·rw [if_pos (by simpa using hi)]
end Go.Proofs.YtipmihbgjolaaaaGreat.gen
