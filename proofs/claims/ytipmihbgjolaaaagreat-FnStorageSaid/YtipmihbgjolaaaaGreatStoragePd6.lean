/-
  Helper text. No conditions.
-/
import Derived.Test.YtipmihbgjolaaaaGreatStoragePd5
set_option linter.unusedVariables false
set_option linter.unusedSimpArgs false
namespace Go.Proofs.YtipmihbgjolaaaaGreat.gen
open Go Go.Sh
theorem Ol{o:M.aF}{k:M.Key}{f:ByteArray}{n:Int}(h:obI o)(U:Jb k)(J:f.size<=16)(hn:inI n):obI (KJ o k f n).1:=by unfold KJ;split;(split;(rename_i I;have:=K3 I;refine⟨h.1,cH _,by show(DP o k f n).Y9.length<=30;omega,λw j=> ?_⟩;have C:w∈o.Y9++[(⟨o.Zg,o.Zr,k,f,n⟩:M.aV)]:=j;rcases List.mem_append.1 C with j|j;(exact h.2.2.2 w j);·rw[List.mem_singleton.1 j];exact LA h.1 h.2.1 U J hn);·exact h);·exact h
theorem Ma{o:M.aF}{k:M.Key}{f:ByteArray}{n:Int}(h:obI o)(C:Jb k)(j:f.size<=16)(I:inI n):fW o k f n=some (KJ o k f n):=An h.ok (by have:=h.sz;omega) C.1 (s16 j) I
theorem Ku{d n:Int}(j:inI d)(C:inI n):obI (⟨d,n,([]:List M.aV)⟩:M.aF):=⟨j,C,qe,qe⟩
theorem Ri{d:Int}(j:inI d):∃x,kU d=some x/\obI x.1/\x.1.Zr<=1/\x.1.Y9.length<=0:=by unfold kU;rw[mJ (Ku j Og).ok,qA];cases oI (⟨d,1,([]:List M.aV)⟩:M.aF);(exact⟨_,rfl,Ku tD tD,qf,qe⟩);·exact⟨_,rfl,Ku j Og,by show(1:Int)<=1;omega,qe⟩
theorem OH{o:M.aF}{q:Int}(h:obI o):∃x,cE o q=some x/\obI x.1/\x.1.Zr=o.Zr/\inI x.2/\x.1.Y9.length<=o.Y9.length:=by
 have hlen:=h.2.2.1
 have fin:∀(k:Nat),k<=o.Y9.length->∃x,(zN o.Y9 (k:Int)).bind (λJ=>(app 72 ([]:List M.aV) (List.drop (k:Int).toNat o.Y9)).bind λU=>some ((⟨o.Zg,o.Zr,List.drop (k:Int).toNat o.Y9⟩:M.aF),(k:Int)))=some x/\obI x.1/\x.1.Zr=o.Zr/\inI x.2/\x.1.Y9.length<=o.Y9.length:=by intro k j;rw[Ir j,qA,qH,Hh (by rw[qV];omega) qc,qA];exact⟨_,rfl,⟨h.1,h.2.1,by show(List.drop k o.Y9).length<=30;rw[qV];omega,λw C=>h.2.2.2 w (List.mem_of_mem_drop C)⟩,rfl,bgI qh,by show(List.drop k o.Y9).length<=_;rw[qV];omega⟩
 have key:∀(n k:Nat),o.Y9.length-k<n->k<=o.Y9.length->∃x,lE o q o n (k:Int)=some x/\obI x.1/\x.1.Zr=o.Zr/\inI x.2/\x.1.Y9.length<=o.Y9.length:=by
  intro n
  induction n with
  |zero=>intro k h _;omega
  |succ n I=>
   intro k hn j
   simp only[lE]
   rcases Nat.lt_or_ge k o.Y9.length with h6|h6
   ·rw[if_pos (aY h6),aN h6,qA,bN qc];split;(exact I (k+1) qc qc);·exact fin k j
   ·rw[if_neg qd];exact fin k j
 unfold cE
 rw[yQ o (by have:=h.sz;omega),qA,mJ h.ok,qA]
 cases oI o
 ·rw[if_pos qe];exact⟨_,rfl,h,rfl,tD,Nat.le_refl _⟩
 ·rw[if_neg qe];exact key fuel 0 (jZ qc) qc
theorem SZ(o:M.aF)(k:M.Key)(f:ByteArray)(n:Int):(KJ o k f n).1.Y9.length<=o.Y9.length+1:=by unfold KJ;split;(split;(simp[DP]);·exact Nat.le_succ _);·exact Nat.le_succ _
theorem Qi{o:M.aF}{k:M.Key}{f:ByteArray}{n:Int}(h:o.Zr<=1000):(KJ o k f n).1.Zr<=1+o.Zr\/(KJ o k f n).1.Zr=o.Zr:=by unfold KJ;split;(rename_i j;split;(left;unfold oI inR at j;simp only[qM,qL]at j;show IntKind.i64.wrap (o.Zr+1)<=_;rw[wrap_small qc qc];omega);·exact .inr rfl);·exact .inr rfl
theorem K1{b:List Int}{i h d:Int}(hd:inI d)(c0:okC b i h):Dr b (λo=>obI o/\o.Zr<=10/\o.Y9.length<=20) (tT (⟨b,i,h⟩:M.aO) d):=by
 unfold tT
 refine .D9 (Ri hd) λo ho=>.bnd (vW (λx=>0<=x/\x<=6) qf qf c0) λi1 v1 r1 c1 q1=> ?_
 obtain⟨N,rfl⟩:=xL q1.1
 have hN:=q1.2
 refine wQ (L:=λn v (s:(M.aF)×Int×Int)=>iR (⟨b,i,h⟩:M.aO) n v s.1.Zg s.1.Zr s.2.1 s.2.2 s.1.Y9) (I:=λk s=>k<=100000/\okC b s.2.1 s.2.2/\obI s.1/\s.1.Zr+k<=8/\s.1.Y9.length+k<=7) (Q:=Dr b (λo=>obI o/\o.Zr<=10/\o.Y9.length<=20)) (λn k s hi ih=> ?_) (λn s hi=> ?_) fuel N (o.1,i1,v1) (jZ qc) ⟨qc,c1,⟨ho.1,by have:=ho.2.1;dsimp only;omega,by have:=ho.2.2;dsimp only;omega⟩⟩
 ·obtain⟨x,ci,ch⟩:=s
  obtain⟨k0,J,j⟩:=hi
  dsimp only at J j
  simp only[iR]
  rw[if_pos (Nr k),Gc k0]
  refine .bnd (uO J) λi3 v3 r3 U q3=>.bnd (wP U) λi4 v4 C c4 q4=>.bnd (aU c4) λi5 v5 r5 c5 q5=> ?_
  dsimp only
  have hf:C.size<=16:=Nat.le_trans q4 qc
  have hn:inI r5:=bgI (Rj q5)
  rw[show(⟨x.Zg,x.Zr,x.Y9⟩:M.aF)=x from rfl,Ma j.1 q3.any hf hn,qA]
  refine ih ((KJ x r3 C r5).1,i5,v5) ⟨qc,c5,Ol j.1 q3.any hf hn,?_,?_⟩
  ·have h1:=j.2.1;dsimp only;rcases Qi (o:=x) (k:=r3) (f:=C) (n:=r5) qc with h2|h2<;>omega
  ·have h1:=j.2.2;have h2:=SZ x r3 C r5;dsimp only;omega
 ·obtain⟨x,ci,ch⟩:=s
  obtain⟨k0,J,j⟩:=hi
  dsimp only at J j
  simp only[iR]
  rw[if_neg F4]
  refine .bnd (xC J) λi3 v3 r3 U q3=> ?_
  dsimp only
  have h1:=j.2.1
  have h2:=j.2.2
  split
  ·refine .bnd (aU U) λi4 v4 C c4 q4=> ?_
   dsimp only
   obtain⟨y,e,y1,y2,_,y3⟩:=OH (q:=C) j.1
   rw[show(⟨x.Zg,x.Zr,x.Y9⟩:M.aF)=x from rfl,e,qA]
   exact .ret c4 ⟨y1,qc,qc⟩
  ·exact .ret U ⟨j.1,qh,qh⟩
theorem Qn{o:M.aF}{k:M.Key}{f:ByteArray}{n:Int}(h:oI o=true)(hN:o.Zr<=1000)(hl:o.Y9.length<20)(hq:AR (⟨o.Zg,o.Zr,k,f,n⟩:M.aV)=true):oI (DP o k f n)=true:=by
 unfold oI inR at h
 simp only[qM,qL,qQ,qR]at h
 obtain⟨I,⟨J,U⟩,⟨h4,h5⟩,h6⟩:=h
 have C:IntKind.i64.wrap (o.Zr+1)=o.Zr+1:=wrap_small qc qc
 unfold oI inR DP
 simp only[qM,qL,qQ,qR,qE,qJ,qK,C]
 refine⟨λj hj=> ?_,⟨J,U⟩,⟨qc,qc⟩,qc⟩
 unfold AL
 simp only[qE,qJ,qK]
 rcases Nat.lt_or_ge j o.Y9.length with hlt|hge
 ·have:=I j hlt;unfold AL at this;rw[qF hlt,Option.any_some]at this;rw[List.getElem?_append_left hlt,qF hlt,Option.any_some,show(o.Zr+1-((o.Y9.length+(0+1):Nat):Int))=o.Zr-(o.Y9.length:Int)by omega];exact this
 ·have:j=o.Y9.length:=by omega
  subst this
  rw[List.getElem?_append_right (Nat.le_refl _),Nat.sub_self]
  simp only[List.getElem?_cons_zero,Option.any_some]
  rw[hq,show(o.Zr+1-((o.Y9.length+(0+1):Nat):Int))=o.Zr-(o.Y9.length:Int)by omega,wrap_small (n:=o.Zr-(o.Y9.length:Int)) qc qc,show o.Zr-(o.Y9.length:Int)+(o.Y9.length:Int)=o.Zr by omega,wrap_small qc qc]
  simp
theorem Lm.n{k:M.Key}(h:Lm k):zQ k=true:=by
 obtain⟨a,n,s⟩:=k
 obtain⟨j,I,J,C⟩:=h
 dsimp only at j I J C
 subst C j
 unfold zQ inR
 have e:HC (⟨#[]⟩:ByteArray)=true:=by decide
 simp[e]
 omega
theorem Qr{b:List Int}{i h:Int}(c0:okC b i h):Dr b obI (xF (⟨b,i,h⟩:M.aO)):=by
 unfold xF
 refine .bnd (aU c0) λi1 v1 r1 c1 q1=>.bnd (K1 (cH _) c1) λi2 v2 o c2 q2=>.bnd (aU c2) λi3 v3 r3 U q3=> ?_
 dsimp only
 obtain⟨j,hN,q2len⟩:=q2
 have hlen:=j.2.2.1
 split
 ·exact .bnd (vW (λx=> -1000000000000000<=x/\x<=1000000000000000) qf qf U) λi4 v4 C J I=>.ret J ⟨bgI I,j.2.1,j.2.2⟩
 split
 ·exact .bnd (vW (λx=> -1000000000000000<=x/\x<=1000000000000000) qf qf U) λi4 v4 C J I=>.ret J ⟨j.1,bgI I,j.2.2⟩
 split
 ·refine .bnd (Oe U) λi4 v4 C J I=>.bnd (vW (λx=> -1000000000000000<=x/\x<=1000000000000000) qf qf J) λi5 v5 r5 c5 q5=> ?_
  dsimp only
  rw[As qt qc,qA]
  refine .ret c5 ⟨j.1,j.2.1,qo,λw hw=> ?_⟩
  rcases List.mem_append.1 hw with hw|hw
  ·exact j.2.2.2 w hw
  ·rw[List.mem_singleton.1 hw];exact LA j.1 j.2.1 I qf (bgI q5)
 split
 ·have key:∀(n:Nat) (o:M.aF) (ci ch:Int),20-o.Y9.length<n->obI o->o.Zr<=10+o.Y9.length->okC b ci ch->Dr b obI (pR (⟨b,i,h⟩:M.aO) n o.Zg o.Zr ci ch o.Y9):=by
   intro n
   induction n with
   |zero=>intro o ci ch h _ _ _;omega
   |succ n ih=>
    intro o ci ch hn j hN k1
    simp only[pR]
    rcases Nat.lt_or_ge o.Y9.length 20 with h6|h6
    ·rw[if_pos qd,show(⟨o.Zg,o.Zr,o.Y9⟩:M.aF)=o from rfl,mJ j.ok,qA]
     cases hob:oI o with
     |false=>rw[if_neg qe];exact .ret k1 j
     |true=>
      rw[if_pos rfl]
      refine .bnd (uO k1) λi4 v4 C J I=> ?_
      dsimp only
      have hf:(⟨#[97]⟩:ByteArray).size<=16:=by decide
      rw[Ma j I.any hf Og,qA]
      have h7:=hob
      unfold oI inR at h7
      simp only[qM,qL]at h7
      have hq:AR (⟨o.Zg,o.Zr,C,(⟨#[97]⟩:ByteArray),1⟩:M.aV)=true:=by
       have e:nS (⟨#[97]⟩:ByteArray)=true:=by decide
       unfold AR inR
       simp[I.n,e]
       omega
      have hb:=Qn hob qc h6 hq
      have en:KJ o C (⟨#[97]⟩:ByteArray) 1=(DP o C (⟨#[97]⟩:ByteArray) 1,true):=by unfold KJ;rw[if_pos hob,if_pos hb]
      have hob2:=Ol (k:=C) (f:=(⟨#[97]⟩:ByteArray)) (n:=1) j I.any hf Og
      rw[en]at hob2⊢
      have e3:(DP o C (⟨#[97]⟩:ByteArray) 1).Y9.length=o.Y9.length+1:=by simp[DP]
      have e4:(DP o C (⟨#[97]⟩:ByteArray) 1).Zr=o.Zr+1:=wrap_small qc qc
      exact ih (DP o C (⟨#[97]⟩:ByteArray) 1) i4 v4 qc hob2 qc J
    ·rw[if_neg qd];exact .ret k1 j
  exact key fuel o i3 v3 (jZ qc) j qc U
 ·exact .ret U j
def svI(n:Nat)(s:M.Zk):Prop:=s.aA.ok/\gC s.aA=true/\(s.aT.length<=60/\∀a∈s.aT,M.aT.ok a)/\s.Zq.length<=n/\∀w∈s.Zq,wsm w
theorem svI.ok{n:Nat}{s:M.Zk}(h:svI n s)(C:n<=1000):M.Zk.ok s:=⟨h.1,⟨ml (by have:=h.2.2.1.1;omega),h.2.2.1.2⟩,⟨ml (by have:=h.2.2.2.1;omega),λw j=>(h.2.2.2.2 w j).1⟩⟩
theorem svI.mono{n m:Nat}{s:M.Zk}(h:svI n s)(j:n<=m):svI m s:=⟨h.1,h.2.1,h.2.2.1,by have:=h.2.2.2.1;omega,h.2.2.2.2⟩
theorem NW{n:Nat}{s:M.Zk}(h:svI n s)(J:n<=1000):jT s=some s:=by have j:=nQ h.2.1;have C:=h.2.2.1.1;have I:=h.2.2.2.1;unfold jT;rw[mA _ qc,qA,Hh qc qc,qA,Hh qc qc,qA]
theorem Gt{s:M.Zk}{d:Int}(h:s.aT.length<=60/\∀a∈s.aT,M.aT.ok a):∃v,rO s d=some v/\inI v:=by
 have I:=h.1
 have key:∀(n k:Nat),s.aT.length-k<n->k<=s.aT.length->∃v,oD s d n (k:Int)=some v/\inI v:=by
  intro n
  induction n with
  |zero=>intro k h _;omega
  |succ n j=>
   intro k J C
   simp only[oD]
   rcases Nat.lt_or_ge k s.aT.length with h6|h6
   ·rw[if_pos (aY h6),aN h6,qA,bN qc];split;(exact⟨_,rfl,(h.2 _ (qG h6)).ZI⟩);·exact j (k+1) qc qc
   ·rw[if_neg qd];exact⟨_,rfl,tD⟩
 exact key fuel 0 (jZ qc) qc
theorem R9{l:List M.aT}{d q:Int}(h:l.length<=60/\∀a∈l,M.aT.ok a)(J:inI d)(I:inI q):∃r,wC l d q=some r/\∀a∈r,M.aT.ok a:=by
 have hl:=h.1
 have ins:∀(k:Nat),k<=l.length->∀a∈(List.take k l++[(⟨d,q⟩:M.aT)])++List.drop k l,M.aT.ok a:=by intro k C a j;simp only[qP,List.mem_singleton]at j;rcases j with(j|rfl)|j;(exact h.2 a (List.mem_of_mem_take j));(exact⟨J,I⟩);·exact h.2 a (List.mem_of_mem_drop j)
 have fin:∀(k:Nat),k<=l.length->∃r,((yK l (k:Int)).bind λaa=>(app 16 ([]:List M.aT) (List.take (k:Int).toNat l)).bind λae=>(app 16 (List.take (k:Int).toNat l) ([(⟨d,q⟩:M.aT)])).bind λaf=>(zN l (k:Int)).bind λah=>(app 16 ((List.take (k:Int).toNat l)++[(⟨d,q⟩:M.aT)]) (List.drop (k:Int).toNat l)).bind λai=>some (((List.take (k:Int).toNat l)++[(⟨d,q⟩:M.aT)])++(List.drop (k:Int).toNat l)))=some r/\∀a∈r,M.aT.ok a:=by intro k C;rw[Bu C,qA,qH,Hh (by rw[qU];omega) qc,qA,As qv qc,qA,Ir C,qA,As qp qc,qA];exact⟨_,rfl,ins k C⟩
 have key:∀(n k:Nat),l.length-k<n->k<=l.length->∃r,oF l d q n (k:Int)=some r/\∀a∈r,M.aT.ok a:=by
  intro n
  induction n with
  |zero=>intro k h _;omega
  |succ n U=>
   intro k hn C
   simp only[oF]
   rcases Nat.lt_or_ge k l.length with h6|h6
   ·rw[if_pos (aY h6),aN h6,qA,bN qc];split;(exact U (k+1) qc qc);split;(refine⟨_,rfl,λa j=> ?_⟩;rcases List.mem_or_eq_of_mem_set j with j|rfl;(exact h.2 a j);·exact⟨(h.2 _ (qG h6)).Zg,I⟩);·exact fin k C
   ·rw[if_neg qd];exact fin k C
 unfold wC
 rw[Hh qc qc,qA]
 exact key fuel 0 (jZ qc) qc
theorem Oy{s:M.aA}{w:M.aV}(j:gC s=true):gC (H5 s w).1=true:=by
 cases h2:(H5 s w).2 with
 |false=>rw[Hj h2];exact j
 |true=>
  unfold H5 at h2⊢
  by_cases h1:(Fg (iI s w.Key) w.Field w.N).2=true
  ·rw[if_pos h1]at h2⊢;exact AV (Ck h1) h2
  ·rw[if_neg h1]at h2;cases h2
theorem recv{n:Nat}{s:M.Zk}{w:M.aV}(h:svI n s)(hn:n<=900)(j:wsm w):∃x,cA s w=some x/\svI (n+1) x.1:=by
 have I:=h.mono (Nat.le_succ n)
 have hz:=nQ h.2.1
 have hc:=h.2.2.2.1
 unfold cA
 rw[NW h qc,qA,Aj (h.ok qc),qA]
 cases GN s
 ·exact⟨_,rfl,I⟩
 rw[if_neg qe,vV j.1,qA]
 cases AR w
 ·exact⟨_,rfl,I⟩
 rw[if_neg qe]
 obtain⟨r,er,U⟩:=R9 h.2.2.1 j.1.Zg j.1.ZI
 obtain⟨v,ev,hv⟩:=Gt (s:=s) (d:=w.Zg) h.2.2.1
 rw[er,qA,ev,qA]
 by_cases aa:(r.length:Int)>60
 ·rw[if_pos (by simpa using aa)];exact⟨_,rfl,I⟩
 rw[if_neg (by simpa using aa)]
 split
 ·exact⟨_,rfl,I⟩
 split
 ·exact⟨_,rfl,I⟩
 have C:∀y∈s.Zq++[w],wsm y:=λy J=>by rcases List.mem_append.1 J with J|J;(exact h.2.2.2.2 y J);·rw[List.mem_singleton.1 J];exact j
 have hlen:(s.Zq++[w]).length<=n+1:=by simp only[qE,qJ,qK];omega
 rw[wT h.1 j.1 qc,qA,As qt qc,qA]
 split
 ·exact⟨_,rfl,(Gp h.1 j.1 qc).1,Oy h.2.1,⟨qh,U⟩,hlen,C⟩
 ·exact⟨_,rfl,h.1,h.2.1,⟨qh,U⟩,hlen,C⟩
theorem Lu{b:List Int}{i h:Int}(c0:okC b i h):Dr b (svI 5) (tM (⟨b,i,h⟩:M.aO)):=by
 unfold tM
 refine .bnd (Cb qf qf c0) λi0 v0 s0 aa q0=>.bnd (aU aa) λi1 v1 r1 c1 q1=> ?_
 obtain⟨N,rfl⟩:=xL q1.1
 have hN:=q1.2.1 qc
 refine wQ (L:=λn v (s:(M.Zk)×Int×Int)=>iX (⟨b,i,h⟩:M.aO) n v s.1.aA.Name s.1.aA.Zn s.2.1 s.2.2 s.1.aA.Y3 s.1.aT s.1.Zq) (I:=λk s=>k<=100000/\okC b s.2.1 s.2.2/\k<=5/\svI (5-k) s.1) (Q:=Dr b (svI 5)) (λn k s J ih=> ?_) (λn s J=> ?_) fuel N ((⟨s0,([]:List M.aT),([]:List M.aV)⟩:M.Zk),i1,v1) (jZ qc) ⟨qc,c1,⟨qc,q0.1,q0.2.1,⟨qe,qe⟩,qe,qe⟩⟩
 ·obtain⟨x,ci,ch⟩:=s
  obtain⟨U,C,j⟩:=J
  dsimp only at C j
  simp only[iX]
  rw[if_pos (Nr k),Gc U]
  obtain⟨j,k3⟩:=j
  refine .bnd (aU C) λi3 v3 r3 c3 q3=> ?_
  dsimp only
  rw[show(⟨(⟨x.aA.Name,x.aA.Y3,x.aA.Zn⟩:M.aA),x.aT,x.Zq⟩:M.Zk)=x from rfl]
  refine .D9 (Gt k3.2.2.1) λv hv=>.bnd (uO c3) λi4 v4 r4 c4 q4=>.bnd (wP c4) λi5 v5 r5 c5 q5=>.bnd (aU c5) λi6 v6 r6 c6 q6=>.D9 (recv k3 qc (LA (cH _) (cH _) q4.any (Nat.le_trans q5 qc) (bgI (Rj q6)))) λy hy=> ?_
  exact ih (y.1,i6,v6) ⟨qc,c6,qc,hy.mono qc⟩
 ·obtain⟨x,ci,ch⟩:=s;obtain⟨U,C,j⟩:=J;dsimp only at C j;simp only[iX];rw[if_neg F4];exact .ret C (j.2.mono qc)
def rpI(r:M.aD):Prop:=r.Zf.ok/\M.aA.sz r.Zf<=10000/\inI r.Zx/\obI r.Ze.aF/\inI r.Ze.Zt/\inI r.Ze.Zj
theorem rpI.ok{r:M.aD}(h:rpI r):r.ok:=⟨h.1,h.2.2.1,h.2.2.2.1.ok,h.2.2.2.2.1,h.2.2.2.2.2⟩
theorem rpI.sz{r:M.aD}(h:rpI r):M.aD.sz r<=11000:=by have j:=h.2.1;have C:=h.2.2.2.1.sz;simp only[M.aD.sz,M.Ze.sz];omega
theorem Jo:rpI (⟨(⟨(⟨#[]⟩:ByteArray),([]:List M.Zd),0⟩:M.aA),0,(⟨(⟨0,0,([]:List M.aV)⟩:M.aF),0,0⟩:M.Ze)⟩:M.aD):=⟨⟨s16 qf,⟨by simp[maxLen],qe⟩,tD⟩,qf,tD,Ku tD tD,tD,tD⟩
theorem Tl{n:Nat}{s:M.Zk}{d:Int}(h:svI n s)(hn:n<=900)(I:inI d):∃x,sE s d=some x/\rpI x.1:=by have U:=nQ h.2.1;have hc:=h.2.2.2.1;obtain⟨o,C,J,_⟩:=Ri I;have j:rpI (⟨s.aA,(List.length s.Zq:Int),(⟨o.1,0,0⟩:M.Ze)⟩:M.aD):=⟨h.1,U,bgI qh,J,tD,tD⟩;unfold sE;rw[C,qA,mA _ qc,qA];cases o.2;(exact⟨_,rfl,Jo⟩);rw[if_neg qe,Aj (h.ok qc),qA];cases GN s;(exact⟨_,rfl,Jo⟩);rw[if_neg qe,wN j.ok,qA];cases yS (⟨s.aA,(List.length s.Zq:Int),(⟨o.1,0,0⟩:M.Ze)⟩:M.aD);(exact⟨_,rfl,Jo⟩);·exact⟨_,rfl,j⟩
theorem IZ{r:M.aD}{k:M.Key}{f:ByteArray}{n:Int}(h:rpI r)(C:Jb k)(j:f.size<=16)(I:inI n):∃x,jH r k f n=some x/\rpI x.1:=by refine⟨_,E9 h.ok (by have:=h.sz;omega) C.1 (s16 j) I,?_⟩;unfold nWL;split;(exact⟨h.1,h.2.1,h.2.2.1,Ol h.2.2.2.1 C j I,h.2.2.2.2.1,h.2.2.2.2.2⟩);·exact h
theorem SH{l:List M.aV}:∀{s:M.aA},s.ok->gC s=true->(∀w∈l,M.aV.ok w)->(AI s l).ok/\gC (AI s l)=true:=by
 induction l with
 |nil=>intro s C j _;exact⟨C,j⟩
 |cons w l U=>
  intro s C j I
  have hz:=nQ j
  exact U (s:=(H5 s w).1) (Gp C (I w qe) qc).1 (Oy j) λy J=>I y (by simp[J])
theorem RL{n:Nat}{r:M.aD}{s:M.Zk}(h:rpI r)(j:svI n s)(hn:n<=900):∃x,rG r s=some x/\rpI x.1:=by
 have hc:=j.2.2.2.1
 unfold rG
 rw[AS _ (by have:=h.sz;omega),qA,wN h.ok,qA]
 cases hR:yS r
 ·exact⟨_,rfl,h⟩
 rw[if_neg qe,Aj (j.ok qc),qA]
 cases GN s
 ·exact⟨_,rfl,h⟩
 rw[if_neg qe]
 by_cases hgt:r.Zx>(s.Zq.length:Int)
 ·rw[if_pos (by simpa using hgt)];exact⟨_,rfl,h⟩
 rw[if_neg (by simpa using hgt)]
 unfold yS inR at hR
 simp only[qM,qL]at hR
 obtain⟨k,U⟩:=xL hR.2.2.1.1
 rw[U]at hgt⊢
 have hbs:=nQ hR.1
 have C:∀w∈List.drop k s.Zq,M.aV.ok w:=λw hw=>(j.2.2.2.2 w (List.mem_of_mem_drop hw)).1
 obtain⟨I,J⟩:=SH h.1 hR.1 C
 obtain⟨v,ev,hv⟩:=Gt (s:=s) (d:=r.Ze.aF.Zg) j.2.2.1
 obtain⟨y,ey,y1,_⟩:=OH (q:=v) h.2.2.2.1
 rw[Ir qc,qA,qH,B8 h.1 (ml (by rw[qV];omega)) C qc,qA,ev,qA,ey,qA]
 exact⟨_,rfl,I,nQ J,bgI qh,y1,h.2.2.2.2.1,h.2.2.2.2.2⟩
theorem Tm{a c:Int}(j:inI a)(C:inI c):∃r,fR a c=some r/\inI r:=by unfold fR;split;(exact⟨_,rfl,C⟩);·exact⟨_,rfl,j⟩
theorem UE{c:Int}:∃r,fR 60 c=some r/\r<=60/\(inI c->inI r):=by unfold fR;split;(rename_i h;exact⟨_,rfl,by have:=of_decide_eq_true h;omega,λh=>h⟩);·exact⟨_,rfl,qc,λ_=>bgI qi⟩
theorem R5{t:Int}(J:t<=60):∃r,gA t=some r:=by
 have key:∀(n k:Nat) (v:Int),100-k<n->k<=99->∃r,lO t n v (k:Int)=some r:=by
  intro n
  induction n with
  |zero=>intro k v h _;omega
  |succ n j=>
   intro k v I C
   simp only[lO]
   split
   ·rename_i h;have:=of_decide_eq_true h;split;(rw[bN qc];exact j (k+1) _ qc qc);·exact⟨_,rfl⟩
   ·exact⟨_,rfl⟩
 exact key fuel 0 1 (jZ qc) qc
def Op'{α:Type}(P:α->Prop)(o:Option α):Prop:=∃r,o=some r/\P r
theorem Op'.bnd{α β:Type}{P:β->Prop}{Q:α->Prop}{o:Option α}{f:α->Option β}(C:∃r,o=some r/\Q r)(j:∀r,Q r->Op' P (f r)):Op' P (o.bind f):=by obtain⟨r,rfl,I⟩:=C;exact j r I
def syI(n:Nat)(x:M.Ze×M.Zk×Int):Prop:=obI x.1.aF/\inI x.1.Zt/\inI x.1.Zj/\svI n x.2.1
theorem SQ{n:Nat}{y:M.Ze}{s:M.Zk}{now fate:Int}(hy:obI y.aF)(ht:inI y.Zt)(hw:inI y.Zj)(hs:svI n s)(hn:n<=800):Op' (syI (n+2)) (uS y s now fate):=by
 have hs1:=hs.mono (Nat.le_succ n)
 have hs2:=hs.mono (show n<=n+2 by omega)
 have hz:=hy.sz
 have j:∀{q:Int},∃x,cE y.aF q=some x/\obI x.1:=λ{q}=>by obtain⟨x,e,h,_⟩:=OH (q:=q) hy;exact⟨x,e,h⟩
 have fail:∀{x:M.Zk} {f:Int->Option (M.Ze×M.Zk×Int)},svI (n+2) x->(f=λae=>(fR 60 (IntKind.i64.wrap (ae+1))).bind λaa=>(gA aa).bind λaf=>some ((⟨y.aF,aa,IntKind.i64.wrap (now+af)⟩:M.Ze),x,2))->Op' (syI (n+2)) ((fR 59 y.Zt).bind f):=by
  intro x f hx hf
  subst hf
  refine .bnd (Tm (bgI qi) ht) λt1 U=>.bnd UE λt2 I=> ?_
  obtain⟨r,er⟩:=R5 I.1
  rw[er,qA]
  exact⟨_,rfl,hy,I.2 (cH _),cH _,hx⟩
 unfold uS rN vJ
 rw[yQ _ qc,qA,qA,NW hs qc,mJ hy.ok]
 have same:syI (n+2) (y,s,0):=⟨hy,ht,hw,hs2⟩
 cases hW:y.aF.Y9 with
 |nil=>exact⟨_,rfl,same⟩
 |cons w ws=>
  have J:wsm w:=hy.2.2.2 w (by rw[hW];simp)
  rw[if_neg qd,show idx (w::ws) 0=some w from rfl]
  simp only[qA]
  rw[if_neg qe]
  cases oI y.aF
  ·exact⟨_,rfl,same⟩
  rw[if_neg qe]
  split
  ·exact⟨_,rfl,same⟩
  rw[dB,qA]
  split
  ·exact⟨_,rfl,same⟩
  have good:∀{x:M.Ze×M.Zk×Int},obI x.1.aF->inI x.1.Zt->inI x.1.Zj->svI (n+2) x.2.1->Op' (syI (n+2)) (some x):=λa1 a2 a3 a4=>⟨_,rfl,a1,a2,a3,a4⟩
  have two:∀{a:M.Zk} {c:Int},svI (n+1) a->svI (n+2) a:=λh=>h.mono qc
  split
  ·refine .bnd (recv hs qc J) λx1 U=> ?_
   split
   ·refine .bnd (recv U qc J) λx2 I=> ?_
    split
    ·exact .bnd j λq C=>good C tD tD I
    split
    ·exact .bnd j λq C=>good C tD tD I
    ·exact fail I rfl
   ·split;(exact .bnd j λq C=>good C tD tD (U.mono qc));split;(exact .bnd j λq C=>good C tD tD (U.mono qc));·exact fail (U.mono qc) rfl
  split
  ·refine .bnd (recv hs qc J) λx1 U=> ?_
   split
   ·refine .bnd (recv U qc J) λx2 I=> ?_
    split
    ·exact .bnd j λq C=>good C tD tD I
    split
    ·exact .bnd j λq C=>good C tD tD I
    ·exact fail I rfl
   ·exact fail (U.mono qc) rfl
  split
  ·refine .bnd (recv hs qc J) λx1 U=>.bnd (recv U qc J) λx2 I=> ?_
   split
   ·exact .bnd j λq C=>good C tD tD I
   split
   ·exact .bnd j λq C=>good C tD tD I
   ·exact fail I rfl
  ·exact fail hs2 rfl
def prI(n:Nat)(x:M.aD×M.Zk):Prop:=rpI x.1/\svI n x.2
theorem Py{b:List Int}{i h:Int}(c0:okC b i h):Dr b (prI 20) (wM (⟨b,i,h⟩:M.aO)):=by
 unfold wM
 refine .bnd (Lu c0) λi0 v0 s0 aa q0=>.D9 (Tl q0 qc (bgI qi)) λr0 h0=>.bnd (aU aa) λi1 v1 r1 c1 q1=> ?_
 obtain⟨N,rfl⟩:=xL q1.1
 have hN:=q1.2.1 qc
 refine wQ (L:=λn v (s:(M.aD×M.Zk)×Int×Int)=>eD (⟨b,i,h⟩:M.aO) n v s.1.1.Zf.Name s.1.1.Zf.Zn s.1.1.Zx s.1.1.Ze.aF.Zg s.1.1.Ze.aF.Zr s.1.1.Ze.Zt s.1.1.Ze.Zj s.2.1 s.2.2 s.1.2.aA.Name s.1.2.aA.Zn s.1.1.Zf.Y3 s.1.1.Ze.aF.Y9 s.1.2.aA.Y3 s.1.2.aT s.1.2.Zq) (I:=λk s=>k<=100000/\okC b s.2.1 s.2.2/\k<=5/\prI (15-2*k) s.1) (Q:=Dr b (prI 20)) (λn k s hi ih=> ?_) (λn s hi=> ?_) fuel N ((r0.1,s0),i1,v1) (jZ qc) ⟨qc,c1,⟨qc,h0,q0.mono qc⟩⟩
 ·obtain⟨x,ci,ch⟩:=s
  obtain⟨k0,k1,U⟩:=hi
  dsimp only at k1 U
  simp only[eD]
  rw[if_pos (Nr k),Gc k0]
  obtain⟨U,C,k4⟩:=U
  rw[show(⟨(⟨x.1.Zf.Name,x.1.Zf.Y3,x.1.Zf.Zn⟩:M.aA),x.1.Zx,(⟨(⟨x.1.Ze.aF.Zg,x.1.Ze.aF.Zr,x.1.Ze.aF.Y9⟩:M.aF),x.1.Ze.Zt,x.1.Ze.Zj⟩:M.Ze)⟩:M.aD)=x.1 from rfl,show(⟨(⟨x.2.aA.Name,x.2.aA.Y3,x.2.aA.Zn⟩:M.aA),x.2.aT,x.2.Zq⟩:M.Zk)=x.2 from rfl]
  refine .bnd (aU k1) λi3 v3 r3 c3 q3=> ?_
  dsimp only
  split
  ·refine .bnd (uO c3) λi4 v4 r4 J q4=>.bnd (wP J) λi5 v5 r5 c5 q5=>.bnd (aU c5) λi6 v6 r6 c6 q6=>.D9 (IZ C q4.any (Nat.le_trans q5 qc) (bgI (Rj q6))) λy j=> ?_
   exact ih ((y.1,x.2),i6,v6) ⟨qc,c6,qc,j,k4.mono qc⟩
  split
  ·refine .bnd (uO c3) λi4 v4 r4 J q4=>.bnd (wP J) λi5 v5 r5 c5 q5=>.bnd (aU c5) λi6 v6 r6 c6 q6=>.D9 (IZ C q4.any (Nat.le_trans q5 qc) (bgI (Rj q6))) λy j=> ?_
   exact ih ((y.1,x.2),i6,v6) ⟨qc,c6,qc,j,k4.mono qc⟩
  split
  ·refine .bnd (aU c3) λi4 v4 r4 J q4=>.D9 (SQ (y:=x.1.Ze) C.2.2.2.1 C.2.2.2.2.1 C.2.2.2.2.2 k4 qc) λy j=> ?_
   exact ih (((⟨x.1.Zf,x.1.Zx,y.1⟩:M.aD),y.2.1),i4,v4) ⟨qc,J,qc,⟨C.1,C.2.1,C.2.2.1,j.1,j.2.1,j.2.2.1⟩,j.2.2.2.mono qc⟩
  split
  ·refine .bnd (aU c3) λi4 v4 r4 J q4=>.D9 (Gt k4.2.2.1) λv hv=>.bnd (uO J) λi5 v5 r5 c5 q5=>.bnd (wP c5) λi6 v6 r6 c6 q6=>.bnd (aU c6) λi7 v7 r7 c7 q7=>.D9 (recv k4 qc (LA (cH _) (cH _) q5.any (Nat.le_trans q6 qc) (bgI (Rj q7)))) λy j=> ?_
   exact ih ((x.1,y.1),i7,v7) ⟨qc,c7,qc,C,j.mono qc⟩
  ·refine .D9 (RL C k4 qc) λy j=> ?_
   exact ih ((y.1,x.2),i3,v3) ⟨qc,c3,qc,j,k4.mono qc⟩
 ·obtain⟨x,ci,ch⟩:=s;obtain⟨k0,k1,U⟩:=hi;dsimp only at k1 U;simp only[eD];rw[if_neg F4];exact .ret k1 ⟨U.2.1,U.2.2.mono qc⟩
def P6(r:M.aD):Prop:=r.ok/\M.aD.sz r<=25000
theorem rpI.all{r:M.aD}(h:rpI r):P6 r:=⟨h.ok,by have:=h.sz;omega⟩
theorem P4{b:List Int}{i h:Int}(c0:okC b i h):Dr b P6 (xN (⟨b,i,h⟩:M.aO)):=by
 unfold xN
 refine .bnd (Py c0) λi1 v1 r1 c1 q1=>.bnd (aU c1) λi2 v2 r2 J q2=> ?_
 dsimp only
 have j:=q1.1
 have hz:=j.2.2.2.1.sz
 have hz1:=j.2.1
 split
 ·refine .bnd (Su J) λi3 v3 U I C=>.ret I ⟨⟨C.1,j.2.2.1,j.ok.Ze⟩,?_⟩
  have:=C.2
  simp only[M.aD.sz,M.Ze.sz]
  omega
 split
 ·refine .bnd (vW (λx=> -1000000000000000<=x/\x<=1000000000000000) qf qf J) λi3 v3 U I C=>.ret I ⟨⟨j.1,bgI C,j.ok.Ze⟩,?_⟩
  simp only[M.aD.sz,M.Ze.sz]
  omega
 split
 ·refine .bnd (Qr J) λi3 v3 U I C=>.ret I ⟨⟨j.1,j.2.2.1,⟨C.ok,j.2.2.2.2.1,j.2.2.2.2.2⟩⟩,?_⟩
  have:=C.sz
  simp only[M.aD.sz,M.Ze.sz]
  omega
 ·exact .ret J j.all
def nbI(x:M.aK):Prop:=x.Zh.size<=16/\x.Zw.size<=16/\(M.YZ.ok x.YZ/\x.YZ.Zh.size<=16)/\zP x.Y1/\(x.bG.ok/\M.bG.sz x.bG<=1000)/\rpI x.aD/\inI x.Zo
theorem L0:Nt (⟨(⟨#[110,111,116,101,115]⟩:ByteArray),([]:List M.Zd),0⟩:M.aA):=Rp qf qf
theorem TN{a t:ByteArray}{d:Int}(j:a.size<=16)(I:t.size<=16)(C:inI d):∃x,pE a t d=some x/\nbI x.1:=by refine⟨_,Gg (s16 j) (s16 I) C,?_⟩;have J:nbI yA:=⟨qf,qf,⟨⟨s16 qf,tD,tD,tD⟩,qf⟩,Pb,⟨(NR).bG,qf⟩,Jo,tD⟩;unfold SL;split;(split;(have ok:=L1 (s16 j) (s16 I) C;exact⟨j,I,⟨ok.YZ,j⟩,Pb,⟨ok.bG,by show M.bG.sz (CS (⟨#[]⟩:ByteArray) (⟨#[]⟩:ByteArray) 0).bG<=1000;decide⟩,⟨L0.1,nQ L0.2.1,tD,Ku C Og,tD,tD⟩,tD⟩);·exact J);·exact J
def bkI(x:M.aK):Prop:=x.Zh.size<=16/\x.Zw.size<=16/\(M.YZ.ok x.YZ/\x.YZ.Zh.size<=16)/\Jv x.Y1/\Lx x.bG/\P6 x.aD/\inI x.Zo
theorem bkI.ok{x:M.aK}(h:bkI x):x.ok:=⟨s16 h.1,s16 h.2.1,h.2.2.1.1,h.2.2.2.1.1,h.2.2.2.2.1.1,h.2.2.2.2.2.1.1,h.2.2.2.2.2.2⟩
theorem bkI.sz{x:M.aK}(h:bkI x):M.aK.sz x<=180000:=by obtain⟨j,C,⟨_,I⟩,⟨_,J⟩,⟨_,U⟩,⟨_,h6⟩,_⟩:=h;simp only[M.aK.sz,M.YZ.sz];omega
def LZ(k:M.bG):Prop:=k.ok/\M.bG.sz k<=20000
def bkS(x:M.aK):Prop:=x.Zh.size<=16/\x.Zw.size<=16/\(M.YZ.ok x.YZ/\x.YZ.Zh.size<=16)/\Jv x.Y1/\LZ x.bG/\P6 x.aD/\inI x.Zo
theorem LZ.all{k:M.bG}(h:LZ k):Lx k:=⟨h.1,by have:=h.2;omega⟩
theorem bkS.all{x:M.aK}(h:bkS x):bkI x:=⟨h.1,h.2.1,h.2.2.1,h.2.2.2.1,h.2.2.2.2.1.all,h.2.2.2.2.2⟩
theorem US{b:List Int}{i h:Int}{X:M.aK×Bool}{kd:M.bG}{N:Nat}{i1 v1:Int}(hX:nbI X.1)(hk:LZ kd)(hN:N<=10)(c1:okC b i1 v1):Dr b bkS (eO (⟨b,i,h⟩:M.aO) X kd.Zf.Name kd.Zf.Y2 kd.Zu kd.Zf.Y5 kd.Zf.Za kd.ZD fuel (N:Int) X.1.aD.Zf.Name X.1.aD.Zf.Zn X.1.aD.Zx X.1.aD.Ze.aF.Zg X.1.aD.Ze.aF.Zr X.1.aD.Ze.Zt X.1.aD.Ze.Zj i1 v1 X.1.aD.Zf.Y3 X.1.aD.Ze.aF.Y9):=by
 obtain⟨h1,h2,J,h4,h5,h6,h7⟩:=hX
 refine wQ (L:=λn v (s:(M.aD)×Int×Int)=>eO (⟨b,i,h⟩:M.aO) X kd.Zf.Name kd.Zf.Y2 kd.Zu kd.Zf.Y5 kd.Zf.Za kd.ZD n v s.1.Zf.Name s.1.Zf.Zn s.1.Zx s.1.Ze.aF.Zg s.1.Ze.aF.Zr s.1.Ze.Zt s.1.Ze.Zj s.2.1 s.2.2 s.1.Zf.Y3 s.1.Ze.aF.Y9) (I:=λk s=>k<=100000/\okC b s.2.1 s.2.2/\rpI s.1) (Q:=Dr b bkS) (λn k s hi ih=> ?_) (λn s hi=> ?_) fuel N (X.1.aD,i1,v1) (jZ qc) ⟨qc,c1,h6⟩
 ·obtain⟨x,ci,ch⟩:=s
  obtain⟨k0,k1,j⟩:=hi
  dsimp only at k1 j
  simp only[eO]
  rw[if_pos (Nr k),Gc k0]
  refine .bnd (uO k1) λi3 v3 r3 c3 q3=>.bnd (wP c3) λi4 v4 r4 c4 q4=>.bnd (aU c4) λi5 v5 r5 C q5=>.D9 (IZ (r:=x) j q3.any (Nat.le_trans q4 qc) (bgI (Rj q5))) λy hy=> ?_
  exact ih (y.1,i5,v5) ⟨qc,C,hy⟩
 ·obtain⟨x,ci,ch⟩:=s
  obtain⟨k0,k1,j⟩:=hi
  dsimp only at k1 j
  simp only[eO]
  rw[if_neg F4]
  have U:=hk
  have hl:∀{r:Int},(0<=r/\(0<(50:Int)->r<50)/\r<=16777215)->inI r:=λq=>bgI ⟨qc,qc⟩
  refine .bnd (xC k1) λi3 v3 r3 c3 q3=> ?_
  dsimp only
  split
  ·refine .bnd (aU c3) λi4 v4 r4 c4 q4=>.D9 (IT h4 (cH _)) λy hy=>.bnd (aU c4) λi5 v5 r5 C q5=>.bnd (xC C) λi6 v6 r6 c6 q6=>.ret c6 ⟨h1,h2,⟨⟨J.1.Zh,J.1.Zm,J.1.Zs,cH _⟩,J.2⟩,hy.all,U,j.all,hl q5⟩
  ·exact .bnd (aU c3) λi5 v5 r5 C q5=>.bnd (xC C) λi6 v6 r6 c6 q6=>.ret c6 ⟨h1,h2,J,h4.all,U,j.all,hl q5⟩
theorem UG{b:List Int}{i h:Int}{X:M.aK×Bool}{N:Nat}{i1 v1:Int}(hX:nbI X.1)(hN:N<=4)(c1:okC b i1 v1):Dr b bkS (eQ (⟨b,i,h⟩:M.aO) X fuel (N:Int) X.1.bG.Zf.Name X.1.bG.Zf.Y2 X.1.bG.Zu i1 v1 X.1.bG.Zf.Y5 X.1.bG.Zf.Za X.1.bG.ZD):=by
 have h5:=hX.2.2.2.2.1
 refine wQ (L:=λn v (s:(M.bG)×Int×Int)=>eQ (⟨b,i,h⟩:M.aO) X n v s.1.Zf.Name s.1.Zf.Y2 s.1.Zu s.2.1 s.2.2 s.1.Zf.Y5 s.1.Zf.Za s.1.ZD) (I:=λk s=>k<=100000/\okC b s.2.1 s.2.2/\s.1.ok/\M.bG.sz s.1+4000*k<=20000) (Q:=Dr b bkS) (λn k s hi ih=> ?_) (λn s hi=> ?_) fuel N (X.1.bG,i1,v1) (jZ qc) ⟨qc,c1,⟨h5.1,by have:=h5.2;dsimp only;omega⟩⟩
 ·obtain⟨x,ci,ch⟩:=s
  obtain⟨k0,C,j⟩:=hi
  dsimp only at C j
  simp only[eQ]
  rw[if_pos (Nr k),Gc k0]
  refine .bnd (uO C) λi3 v3 r3 U J=>.bnd (Ac U) λi4 v4 r4 c4 q4=>.D9 (Kw (k:=x) (n:=M.bG.sz x) j.1 (Nat.le_refl _) (by have:=j.2;omega) qe (by simp only[List.mem_cons,qO,or_false];rintro o rfl;exact⟨Og,s16 (s:=(⟨#[110,111,116,101,115]⟩:ByteArray)) qf,J.any.1,q4.1,s16 (s:=(⟨#[]⟩:ByteArray)) qf⟩)) λy hy=> ?_
  exact ih (y.1,i4,v4) ⟨qc,c4,hy.1,by have:=hy.2;have:=j.2;dsimp only;omega⟩
 ·obtain⟨x,ci,ch⟩:=s
  obtain⟨k0,C,j⟩:=hi
  dsimp only at C j
  simp only[eQ]
  rw[if_neg F4]
  refine .bnd (aU C) λi3 v3 r3 U J=> ?_
  obtain⟨M,rfl⟩:=xL J.1
  have hM:=J.2.1 qc
  exact US hX (kd:=x) ⟨j.1,by have:=j.2;omega⟩ qc U
theorem GB{b:List Int}{i h:Int}(J:okC b i h):Dr b bkS (pP (⟨b,i,h⟩:M.aO)):=by
 unfold pP
 refine .bnd (DM J) λi1 v1 r1 U C=>.D9 (TH U C) λy j=>.bnd (aU j.2) λi4 v4 r4 c4 q4=>.D9 (TN (Nat.le_trans C qc) (Nat.le_trans j.1 qc) (cH _)) λx hx=>.bnd (aU c4) λi5 v5 r5 c5 I=> ?_
 obtain⟨N,rfl⟩:=xL I.1
 have hN:=I.2.1 qc
 exact UG hx qc c5
theorem Mh{b:List Int}{i h:Int}(c0:okC b i h):Dr b bkI (vG (⟨b,i,h⟩:M.aO)):=by
 unfold vG
 refine .bnd (GB c0) λi1 v1 r1 c1 q1=>.bnd (aU c1) λi2 v2 r2 J q2=> ?_
 have q0:=q1.all
 obtain⟨h1,U,h3,h4,h5,h6,h7⟩:=q1
 have C:=h5.all
 dsimp only
 split
 ·exact .bnd (yM (λs=>s.size<=16) qf qf J) λi3 v3 r3 j I=>.ret j ⟨I,U,h3,h4,C,h6,h7⟩
 split
 ·exact .bnd (Qe J) λi3 v3 r3 j I=>.ret j ⟨h1,U,h3,I,C,h6,h7⟩
 split
 ·exact .bnd (Q6 J) λi3 v3 r3 j I=>.ret j ⟨h1,U,h3,h4,I,h6,h7⟩
 split
 ·exact .bnd (P4 J) λi3 v3 r3 j I=>.ret j ⟨h1,U,h3,h4,C,I,h7⟩
 split
 ·exact .bnd (vW (λx=> -1000000000000000<=x/\x<=1000000000000000) qf qf J) λi3 v3 r3 j I=>.ret j ⟨h1,U,h3,h4,C,h6,bgI I⟩
 split
 ·have hz:=h5.2
  simp only[M.bG.sz]at hz
  have key:∀(n:Nat) (l:List Int),100000<n+l.length->okB l->l.length<=20000->Dr b bkI (kY (i1,v1,r1) (i2,v2,r2) n l):=by
   intro n
   induction n with
   |zero=>intro l h _ hz2;exact absurd h qc
   |succ n ih=>
    intro l hn hl hz2
    have e1:(l++[(0:Int)]).length=l.length+1:=by rw[qE];rfl
    simp only[kY]
    by_cases h6':(l.length:Int)<2600
    ·have h7':l.length<2600:=by omega
     rw[if_pos (decide_eq_true h6'),As (by show l.length+1<=_;omega) qc,qA]
     refine ih (l++[0]) qc ⟨ml qc,λx hx=> ?_⟩ qc
     rcases List.mem_append.1 hx with hx|hx
     ·exact hl.2 x hx
     ·rw[List.mem_singleton.1 hx];exact⟨Int.le_refl _,qf⟩
    ·rw[if_neg (by rw[decide_eq_false h6'];exact Bool.false_ne_true)];exact .ret J ⟨h1,U,h3,h4,⟨⟨h5.1.Zf,hl,h5.1.Zu⟩,by show M.YY.sz r1.bG.Zf+l.length<=80000;omega⟩,h6,h7⟩
  exact key fuel r1.bG.ZD (Nat.lt_of_lt_of_le (jZ (k:=100000) qc) (Nat.le_add_right _ _)) h5.1.ZD qc
 ·exact .ret J q0
theorem jn{α β:Type}{o:Option α}{v:α}{f:α->Option β}{r:Option β}(j:o=some v)(C:f v=r):o.bind f=r:=by rw[j];exact C
theorem xT{α:Type}{f:α->α->Bool}(j:∀x,f x x=true):∀l:List α,eqL f l l=true
 |[]=>rfl
 |x::l=>by simp only[eqL,j x,xT j l,Bool.and_self]
theorem HN(x:M.Y7):Ap x x=true:=by simp[Ap,xT (f:=xG) (λx=>by simp[xG])]
theorem HM(x:M.aE):Ce x x=true:=xT (λc=>by simp[H2,xT (f:=BU) (λy=>by simp[BU,HN])]) _
theorem JL(x:M.aC):GH x x=true:=xT (λy=>by simp[Ee]) _
theorem Hg(x:M.aA):Cd x x=true:=by simp[Cd,T4,xT (f:=Lg) (λy=>by simp[Lg,T4,JL])]
theorem Hu(x:M.YY):Ah x x=true:=by simp[Ah,xT (f:=Cd) Hg,xT (f:=tB) (λy=>by simp[tB])]
theorem M7(x:M.bG):KZ x x=true:=by simp[KZ,Hu,xT (f:=xG) (λx=>by simp[xG])]
theorem J5(x:M.aF):E1 x x=true:=by simp[E1,xT (f:=CG) (λy=>by simp[CG])]
theorem Iy(x:M.aD):BB x x=true:=by simp[BB,M6,Hg,J5]
theorem AB(x:M.aK):Cr x x=true:=by simp[Cr,TZ,HM,M7,Iy]
def Ci(b:M.aK):ByteArray:=(b.Zh++(⟨#[47]⟩:ByteArray))++b.Zw
def nEv(l:List M.fS)(n:Int)(s:List ByteArray×List M.aK)(b:M.aK):List ByteArray×List M.aK:=if fQ b l n=true then(s.1++[Ci b],s.2)else(s.1,s.2++[b])
theorem OK{s:M.aH}{l:List M.fS}{n:Int}(hs:s.ok)(hl:l.length<=maxLen)(hz:M.aH.sz s<=1048576):
  rT s l n=some ((⟨(s.Y0.foldl (nEv l n) ([],[])).2⟩:M.aH),(s.Y0.foldl (nEv l n) ([],[])).1):=by
 simp only[M.aH.sz]at hz
 have key:=JC (L:=λm k (q:List ByteArray×List M.aK)=>gV s l n m k q.1 q.2) (xs:=s.Y0) (step:=nEv l n) (I:=λk q=>q.1.length+q.2.length=k) (E:=λq=>some ((⟨q.2⟩:M.aH),q.1)) hs.Y0.1
  (λq k j U=>by unfold nEv;split<;>simp only[qE,qJ,qK]<;>omega) (λm q k j U=> ?_) (λm q U=> ?_) ([],[]) rfl
 ·unfold rT;exact key.1
 ·have hz1:=iE (f:=M.aK.sz) (qG j)
  have hz2:s.Y0[k].Zh.size+s.Y0[k].Zw.size<=M.aK.sz s.Y0[k]:=by simp only[M.aK.sz];omega
  have C:cat s.Y0[k].Zh (⟨#[47]⟩:ByteArray)=some (s.Y0[k].Zh++(⟨#[47]⟩:ByteArray)):=by unfold cat;rw[if_pos (by show s.Y0[k].Zh.size+1<=_;omega)]
  have J:cat (s.Y0[k].Zh++(⟨#[47]⟩:ByteArray)) s.Y0[k].Zw=some (Ci s.Y0[k]):=by unfold cat Ci;rw[if_pos (by rw[ByteArray.size_append];show s.Y0[k].Zh.size+1+_<=_;omega)]
  simp only[gV]
  rw[if_pos (aY j),aN j,qA,AH hl,qA,bN qc,C,qA,J,qA,vO _ qc,qA]
  unfold nEv
  by_cases he:fQ s.Y0[k] l n=true
  ·rw[if_pos he,if_pos he,eJ qt,qA];rfl
  ·rw[if_neg he,if_neg he,eJ qt,qA]
 ·simp only[gV];rw[if_neg ql]
theorem BS(x:List M.Instr)(j:x.length<=1073741824):pN x=some x:=by unfold pN;rw[Hh j qc,qA]
theorem Hv(x:M.Zc)(j:M.Zc.sz x<=1073741824):wF x=some x:=by simp only[M.Zc.sz]at j;unfold wF;rw[BS _ qc,qA,Hh qc qc,qA]
theorem HE(x:M.fS)(j:M.fS.sz x<=1073741824):lY x=some x:=by simp only[M.fS.sz]at j;unfold lY;rw[Hh qc qc,qA,Hv _ qc,qA]
theorem YF(n:Int):inR n 0 0=(n==0):=by unfold inR;rw[Bool.eq_iff_iff];simp only[qM,qL,beq_iff_eq];omega
theorem Nc{k:Int}(h:inR k 1 9=true):k=1\/k=2\/k=3\/k=4\/k=5\/k=6\/k=7\/k=8\/k=9:=by unfold inR at h;simp only[qM,qL]at h;omega
theorem Vc{α β:Type}(c:Bool)(x y:Option α)(f:α->Option β):(if c=true then x else y).bind f=if c=true then x.bind f else y.bind f:=by split<;>rfl
theorem Na{k r n m:Int}{t:ByteArray}(j:t.size<=maxLen):∃b,rK (⟨k,r,n,t⟩:M.Instr) m=some b:=by
 unfold rK
 simp only[dB,dG j,qA,YF]
 generalize inR r 0 3=a1
 generalize (r !=0)=a2
 generalize nS t=a3
 generalize (t.toList==(⟨#[]⟩:ByteArray).toList)=a4
 generalize inR n 0 1000=a5
 generalize inR n 0 3=a6
 generalize inR n 0 m=a7
 generalize inR n 0 100=a8
 generalize (n==0)=a9
 cases hk:inR k 1 9 with
 |false=>exact⟨false,by simp only[Vc,qA,qC,if_true,ite_self]⟩
 |true=>
  rcases Nc hk with rfl|rfl|rfl|rfl|rfl|rfl|rfl|rfl|rfl
  all_goals clear hk
  all_goals simp+decide only[qA,Vc,if_true,if_false,qB,qC,show inR 1 6 8=false from rfl,show inR 2 6 8=false from rfl,show inR 3 6 8=false from rfl,show inR 4 6 8=false from rfl,show inR 6 6 8=true from rfl,show inR 7 6 8=true from rfl,show inR 8 6 8=true from rfl,show inR 9 6 8=false from rfl]
  all_goals (try generalize inR n 0 1000=b1)
  all_goals (try generalize inR n 0 3=b2)
  all_goals (try generalize inR n 0 m=b3)
  all_goals (try generalize inR n 0 100=b4)
  all_goals (try generalize inR n 0 0=b5)
  all_goals (try generalize (n==0)=b6)
  all_goals (try cases b1)
  all_goals (try cases b2)
  all_goals (try cases b3)
  all_goals (try cases b4)
  all_goals (try cases b5)
  all_goals (try cases b6)
  all_goals (try clear a1)
  all_goals (try clear a2)
  all_goals (try clear a3)
  all_goals (try clear a4)
  all_goals (try clear a5)
  all_goals (try clear a6)
  all_goals (try clear a7)
  all_goals (try clear a8)
  all_goals (try clear a9)
  all_goals (try cases a1)
  all_goals (try cases a2)
  all_goals (try cases a3)
  all_goals (try cases a4)
  all_goals (try cases a5)
  all_goals (try cases a6)
  all_goals (try cases a7)
  all_goals (try cases a8)
  all_goals (try cases a9)
  all_goals first|exact⟨true,rfl⟩|exact⟨false,rfl⟩
def PQ(x:M.Instr)(m:Int):Bool:=(rK x m).getD false
theorem Hw{x:M.Instr}{m:Int}(j:x.ok):rK x m=some (PQ x m):=by obtain⟨k,r,n,t⟩:=x;obtain⟨b,e1⟩:=Na (k:=k) (r:=r) (n:=n) (m:=m) j.Zp;unfold PQ;rw[e1];rfl
def I6(l:List M.Instr)(k:Nat):Bool:=(l[k]?).any λx=>PQ x (List.length l:Int)
def I8(l:List M.Instr):Bool:=(List.range l.length).all (I6 l)&&decide ((List.length l:Int)<=16)
def Br(l:List M.Instr):Prop:=l.length<=maxLen/\∀x∈l,M.Instr.ok x
theorem Hd{l:List M.Instr}(C:Br l):uX l=some (I8 l):=by have I:=le_max C.1;unfold uX I8;rw[uG (L:=kG l) (g:=I6 l) (F:=some false) (E:=some (decide ((List.length l:Int)<=16))) C.1 (λn k j=> ?_) (λn=> ?_),aW];(simp only[kG];rw[if_pos (aY j),aN j,qA,bN qc,Hw (C.2 _ (qG j)),qA];unfold I6;rw[qF j,Option.any_some];simp only[iG]);·simp only[kG];rw[if_neg ql]
def KW(l:List M.Instr):M.Zc:=if I8 l=true then(⟨l,0,[0,0,0,0],0,false,false⟩:M.Zc)else(⟨([]:List M.Instr),0,[0,0,0,0],0,true,false⟩:M.Zc)
theorem N8:okI [0,0,0,0]:=⟨by unfold maxLen;simp,λx j=>by simp only[List.mem_cons,qO,or_false,or_self]at j;subst j;exact tD⟩
theorem Qg{l:List M.Instr}(j:Br l):(KW l).ok:=by unfold KW;split;(exact⟨j,tD,N8,tD⟩);·exact⟨⟨qe,qe⟩,tD,N8,tD⟩
theorem Qj(l:List M.Instr):M.Zc.sz (KW l)<=l.length+jO M.Instr.sz l+4:=by unfold KW;split;(simp only[M.Zc.sz,qJ,qK];omega);·simp only[M.Zc.sz,jO,qJ,qK];omega
theorem EY{l:List M.Instr}(j:Br l)(C:l.length<=1073741824):sN l=some (KW l):=by unfold sN KW;rw[Hd j,qA,BS l C];cases I8 l<;>rfl
def Co(i:Int)(a b:ByteArray)(v:Int)(l:List M.Instr):M.fS:=(⟨i,a,b,v,([]:List M.bC),KW l⟩:M.fS)
def D6:M.fS:=(⟨0,(⟨#[]⟩:ByteArray),(⟨#[]⟩:ByteArray),0,([]:List M.bC),(⟨([]:List M.Instr),0,([]:List Int),0,false,false⟩:M.Zc)⟩:M.fS)
def Hc(i:Int)(a b:ByteArray)(v:Int)(l:List M.Instr):M.fS×Bool:=if Kd (Co i a b v l)=true then(Co i a b v l,true)else(D6,false)
theorem Ih{i v:Int}{a b:ByteArray}{l:List M.Instr}(I:inI i)(j:a.size<=maxLen)(C:b.size<=maxLen)(U:inI v)(J:Br l):(Co i a b v l).ok:=⟨I,j,C,U,⟨by simp[Co],by simp[Co]⟩,Qg J⟩
theorem NB:D6.ok:=⟨tD,sz0,sz0,tD,⟨by simp[D6],by simp[D6]⟩,⟨⟨by simp[D6],by simp[D6]⟩,tD,⟨by simp[D6],by simp[D6]⟩,tD⟩⟩
theorem O7{i v:Int}{a b:ByteArray}{l:List M.Instr}(I:inI i)(j:a.size<=maxLen)(C:b.size<=maxLen)(U:inI v)(J:Br l):(Hc i a b v l).1.ok:=by unfold Hc;split;(exact Ih I j C U J);·exact NB
theorem NA(i:Int)(a b:ByteArray)(v:Int)(l:List M.Instr):M.fS.sz (Hc i a b v l).1<=a.size+b.size+(l.length+jO M.Instr.sz l)+4/\(Hc i a b v l).1.bC.length=0:=by have h:=Qj l;unfold Hc;split;(refine⟨?_,rfl⟩;simp only[Co,M.fS.sz,jO,qK];omega);·refine⟨?_,rfl⟩;have j:(⟨#[]⟩:ByteArray).size=0:=rfl;simp only[D6,M.fS.sz,M.Zc.sz,jO,qK,j];omega
theorem FT{i v:Int}{a b:ByteArray}{l:List M.Instr}(J:inI i)(C:a.size<=maxLen)(I:b.size<=maxLen)(U:inI v)(j:Br l)(hz:l.length<=1073741824):pM i a b v l=some (Hc i a b v l):=by unfold pM Hc;rw[EY j hz,qA];show((rJ (Co i a b v l)).bind _)=_;rw[Bo (Ih J C I U j),qA];cases Kd (Co i a b v l)<;>rfl
def DJ(p:M.fS)(f:ByteArray)(v:Int):M.fS:=(⟨p.Id,p.Zh,p.Zw,p.Y2,p.bC++[(⟨f,v⟩:M.bC)],p.Zc⟩:M.fS)
def Jr(p:M.fS)(f:ByteArray)(x:M.Y7):M.fS×Bool:=if(x.ZA !=200)=true then(p,false)else if(x.Y2 !=p.Y2)=true then(p,false)else if Kd p=true then if Kd (DJ p f x.Y2)=true then(DJ p f x.Y2,true)else(p,false)else(p,false)
theorem JJ{p:M.fS}{f:ByteArray}{v:Int}(j:p.ok)(hl:p.bC.length<=4194304)(J:f.size<=maxLen)(U:inI v):(DJ p f v).ok:=
 ⟨j.Id,j.Zh,j.Zw,j.Y2,⟨by show(p.bC++_).length<=maxLen;unfold maxLen;simp;omega,λy I=>by have C:y∈p.bC++[(⟨f,v⟩:M.bC)]:=I;simp only[qP,List.mem_cons,qO,or_false]at C;rcases C with I|rfl;(exact j.bC.2 y I);·exact⟨J,U⟩⟩,j.Zc⟩
theorem Q7{p:M.fS}{f:ByteArray}{x:M.Y7}(j:p.ok)(I:p.bC.length<=4194304)(C:f.size<=maxLen)(J:inI x.Y2):(Jr p f x).1.ok:=by unfold Jr;split;(exact j);·split;(exact j);·split;(split;(exact JJ j I C J);·exact j);·exact j
theorem QO(p:M.fS)(f:ByteArray)(x:M.Y7):M.fS.sz (Jr p f x).1<=M.fS.sz p+f.size+1:=by
 have h:M.fS.sz (DJ p f x.Y2)=M.fS.sz p+f.size+1:=by simp only[DJ,M.fS.sz,qE,qJ,qK,Ae,jO,M.bC.sz];omega
 unfold Jr
 split
 ·show M.fS.sz p<=_;omega
 ·split;(show M.fS.sz p<=_;omega);·split;(split;(show M.fS.sz (DJ p f x.Y2)<=_;omega);·show M.fS.sz p<=_;omega);·show M.fS.sz p<=_;omega
theorem Hp{p:M.fS}{f:ByteArray}{x:M.Y7}(j:p.ok)(I:p.bC.length<=4194304)(U:M.fS.sz p<=1073741824)(C:f.size<=maxLen)(J:inI x.Y2):oP p f x=some (Jr p f x):=by have e:=Bo (JJ j I C J);unfold DJ at e;unfold oP Jr;rw[HE p U,qA,eJ qt,qA,Bo j,qA,e,qA];unfold DJ;cases (x.ZA !=200);(cases (x.Y2 !=p.Y2);(cases Kd p;(simp);·cases Kd (⟨p.Id,p.Zh,p.Zw,p.Y2,p.bC++[(⟨f,x.Y2⟩:M.bC)],p.Zc⟩:M.fS)<;>simp);·simp);·simp
def Ab(x:M.Instr):Prop:=M.Instr.ok x/\x.Zp.size<=8
theorem AQ{k r n:Int}{s:ByteArray}(C: -1000000000000<=k/\k<=1000000000000)(I:0<=r/\r<=1000000000000)(J:0<=n/\n<=1000000000000)(j:s.size<=8):Ab (⟨k,r,n,s⟩:M.Instr):=⟨⟨Gn (by show -1000000000000000<=k;omega) (by show k<=_;omega),Gn (by show -1000000000000000<=r;omega) (by show r<=_;omega),Gn (by show -1000000000000000<=n;omega) (by show n<=_;omega),zV j⟩,j⟩
end Go.Proofs.YtipmihbgjolaaaaGreat.gen
