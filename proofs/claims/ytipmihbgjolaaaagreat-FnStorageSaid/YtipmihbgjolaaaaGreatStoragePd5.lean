/-
  Helper text. No conditions.
-/
import Derived.Test.YtipmihbgjolaaaaGreatStoragePd4
set_option linter.unusedVariables false
set_option linter.unusedSimpArgs false
namespace Go.Proofs.YtipmihbgjolaaaaGreat.gen
open Go Go.Sh
open Go.IntKind (i64)
theorem Aj{s:M.Zk}(C:s.ok):oU s=some (GN s):=by
 have hm:=le_max C.aT.1
 have U:=le_max C.Zq.1
 unfold oU GN
 rw[uG (L:=fN s) (g:=EA s.aT) (F:=some false) (E:=gT s fuel 0) C.aT.1 (λn k j=> ?_) (λn=> ?_),
  uG (L:=gT s) (g:=Gv s.Zq) (F:=some false) (E:=some (gC s.aA&&((s.aA.Name.toList==(⟨#[110,111,116,101,115]⟩:ByteArray).toList)&&decide ((s.aT.length:Int)<=60)))) C.Zq.1 (λn k j=> ?_) (λn=> ?_),aW,aW]
 ·have J:=C.Zq.2 _ (qG j);simp only[gT];rw[if_pos (aY j),aN j,qA,bN qc,vV J,qA,iG];unfold Gv;rw[qF j,Option.any_some]
 ·simp only[gT];rw[if_neg ql,uE C.aA,qA,aW,aW]
 ·simp only[fN]
  rw[if_pos (aY j),aN j,qA,bN qc,dB,qA,dB,qA]
  unfold EA
  rw[qF j]
  generalize fN s n ((k+1:Nat):Int)=Z
  by_cases h0:k=0
  ·subst h0;simp only[Option.any_some];cases inR s.aT[0].Zg 1 1000000<;>cases inR s.aT[0].ZI 0 1000000<;>simp
  ·have e:i64.wrap ((k:Int)-1)=((k-1:Nat):Int):=by rw[bT qc qc];omega
   have I:k-1<s.aT.length:=by omega
   have ed:decide (s.aT[k-1].Zg>=s.aT[k].Zg)= !decide (s.aT[k-1].Zg<s.aT[k].Zg):=by rw[Bool.eq_iff_iff];simp
   rw[if_pos (c:=(decide ((k:Int)>0))=true) qd,e,aN I,qA,qF I,ed]
   simp only[Option.any_some,h0,decide_false,Bool.false_or]
   cases inR s.aT[k].Zg 1 1000000<;>cases inR s.aT[k].ZI 0 1000000<;>cases decide (s.aT[k-1].Zg<s.aT[k].Zg)<;>simp
 ·simp only[fN];rw[if_neg ql]
def GQ(p:M.fS)(k:Nat):Bool:=(p.bC[k]?).any λx=>nS x.Zy&&(x.Y2==p.Y2)
def Kd(p:M.fS):Bool:=(List.range p.bC.length).all (GQ p)&&(inR p.Id 1 1000000000000&&(nS p.Zh&&(nS p.Zw&&(inR p.Y2 1 1000000000000&&decide ((p.bC.length:Int)<=8)))))
theorem Bo{p:M.fS}(j:p.ok):rJ p=some (Kd p):=by have J:=le_max j.bC.1;unfold rJ Kd;rw[uG (L:=nA p) (g:=GQ p) (F:=some false) (E:=some (inR p.Id 1 1000000000000&&(nS p.Zh&&(nS p.Zw&&(inR p.Y2 1 1000000000000&&decide ((p.bC.length:Int)<=8)))))) j.bC.1 (λn k C=> ?_) (λn=> ?_),aW];(have I:=j.bC.2 _ (qG C);simp only[nA];rw[if_pos (aY C),aN C,qA,bN qc,dG I.Zy,qA];unfold GQ;rw[qF C,Option.any_some];simp only[yX,iG,OJ]);·simp only[nA];rw[if_neg ql];simp only[dG j.Zh,dG j.Zw,dB,qA,aW]
def okC(b:List Int)(i h:Int):Prop:=b.length<=1048576/\(∀x∈b,0<=x/\x<=255)/\0<=i/\i<=1048576/\inI h
def Dr{α:Type}(b:List Int)(P:α->Prop)(o:Option (Int×Int×α)):Prop:=∃i h r,o=some (i,h,r)/\okC b i h/\P r
theorem Dr.ret{α:Type}{b:List Int}{P:α->Prop}{i h:Int}{r:α}(j:okC b i h)(C:P r):Dr b P (some (i,h,r)):=⟨i,h,r,rfl,j,C⟩
theorem Dr.bnd{α β:Type}{b:List Int}{P:β->Prop}{Q:α->Prop}{o:Option (Int×Int×α)}{f:Int×Int×α->Option (Int×Int×β)}(I:Dr b Q o)(C:∀i h r,okC b i h->Q r->Dr b P (f (i,h,r))):Dr b P (o.bind f):=by obtain⟨i,h,r,rfl,j,J⟩:=I;exact C i h r j J
theorem Dr.D9{α β:Type}{b:List Int}{P:β->Prop}{Q:α->Prop}{o:Option α}{f:α->Option (Int×Int×β)}(C:∃r,o=some r/\Q r)(j:∀r,Q r->Dr b P (f r)):Dr b P (o.bind f):=by obtain⟨r,rfl,I⟩:=C;exact j r I
theorem Dr.mono{α:Type}{b:List Int}{P Q:α->Prop}{o:Option (Int×Int×α)}(h:∀r,P r->Q r)(I:Dr b P o):Dr b Q o:=by obtain⟨i,j,r,e,C,J⟩:=I;exact⟨i,j,r,e,C,h r J⟩
theorem wQ{σ R:Type}{L:Nat->Int->σ->Option R}{I:Nat->σ->Prop}{Q:Option R->Prop}(U:∀n (k:Nat) s,I (k+1) s->(∀s',I k s'->Q (L n (k:Int) s'))->Q (L (n+1) ((k+1:Nat):Int) s))(J:∀n s,I 0 s->Q (L (n+1) 0 s)):∀(n k:Nat) (s:σ),k<n->I k s->Q (L n (k:Int) s)
 |0,_,_,h,_=>by omega
 |n+1,0,s,_,j=>J n s j
 |n+1,k+1,s,h,j=>U n k s j λs' C=>wQ U J n k s' qc C
theorem RR{σ R:Type}{N:Nat}{L:Nat->Int->σ->Option R}{I:Nat->σ->Prop}{Q:Option R->Prop}(C:∀n (k:Nat) s,k<N->I k s->(∀s',I (k+1) s'->Q (L n ((k+1:Nat):Int) s'))->Q (L (n+1) (k:Int) s))(J:∀n s,I N s->Q (L (n+1) (N:Int) s)):∀(n k:Nat) (s:σ),N-k<n->k<=N->I k s->Q (L n (k:Int) s)
 |0,_,_,h,_,_=>by omega
 |n+1,k,s,h,hk,U=>by
  rcases Nat.lt_or_ge k N with hlt|hge
  ·exact C n k s hlt U λs' j=>RR C J n (k+1) s' qc qc j
  ·have e:k=N:=by omega
   subst e
   exact J n s U
theorem jZ{k:Nat}(h:k<=9223372036854775808):k<fuel:=by unfold fuel;omega
theorem JS(x:BitVec IntKind.i64.bits):0<=i64.wrap ((x&&&BitVec.ofInt IntKind.i64.bits 255).toNat:Int)/\i64.wrap ((x&&&BitVec.ofInt IntKind.i64.bits 255).toNat:Int)<=255:=by
 have j:(x&&&BitVec.ofInt IntKind.i64.bits 255).toNat<=255:=by rw[BitVec.toNat_and];exact Nat.le_trans Nat.and_le_right qf
 rw[bT qc qc]
 omega
theorem DV{b:List Int}{i h:Int}(U:okC b i h):Dr b (λr=>0<=r/\r<=255) (nU (⟨b,i,h⟩:M.aO)):=by
 obtain⟨j,C,I,J,h5⟩:=U
 unfold nU
 by_cases hl:i<(b.length:Int)
 ·rw[if_pos (by simpa using hl)]
  obtain⟨k,rfl⟩:=Int.eq_ofNat_of_zero_le I
  have hk:k<b.length:=by omega
  show Dr b _ ((idx b (k:Int)).bind _)
  rw[aN hk,qA]
  refine .ret ⟨j,C,?_,?_,cH _⟩ (JS _)
  ·show 0<=i64.wrap ((k:Int)+1);rw[bN qc];omega
  ·show i64.wrap ((k:Int)+1)<=_;rw[bN qc];omega
 ·rw[if_neg (by simpa using hl)];exact .ret ⟨j,C,I,J,cH _⟩ (JS _)
theorem K9{x n:Int}(j:0<=x)(J:0<n):x%n<=x:=by have C:=Int.emod_add_mul_ediv x n;have I:0<=n*(x/n):=Int.mul_nonneg qc (Int.ediv_nonneg j qc);omega
theorem OU{x n:Int}(C:0<=x)(j:0<n):0<=Int.tmod x n/\Int.tmod x n<n:=by rw[Int.tmod_eq_emod_of_nonneg C];exact⟨Int.emod_nonneg _ qc,Int.emod_lt_of_pos _ j⟩
theorem aU{b:List Int}{i h n:Int}(J:okC b i h):Dr b (λr=>0<=r/\(0<n->r<n)/\r<=16777215) (aJ (⟨b,i,h⟩:M.aO) n):=by
 unfold aJ
 by_cases h0:n<=0
 ·rw[if_pos (by simpa using h0)];exact .ret J ⟨qc,qc,qc⟩
 ·rw[if_neg (by simpa using h0)]
  by_cases h1:n<=256
  ·rw[if_pos (by simpa using h1)]
   refine .bnd (DV J) λi1 v1 j I q1=> ?_
   rw[if_neg qd]
   have:=OU q1.1 (show 0<n by omega)
   exact .ret I ⟨this.1,λ_=>this.2,by show Int.tmod j n<=_;omega⟩
  ·rw[if_neg (by simpa using h1)]
   refine .bnd (DV J) λi1 v1 j I q1=>.bnd (DV I) λi2 v2 C c2 q2=>.bnd (DV c2) λi3 v3 U c3 q3=> ?_
   rw[if_neg qd]
   dsimp only
   rw[bT (n:=j*65536) qc qc,bT (n:=C*256) qc qc,bT (n:=j*65536+C*256) qc qc,bT qc qc]
   have:=OU (show 0<=j*65536+C*256+U by omega) (show 0<n by omega)
   have h3:=Int.tmod_eq_emod_of_nonneg (b:=n) (show 0<=j*65536+C*256+U by omega)
   have h4:=K9 (n:=n) (show 0<=j*65536+C*256+U by omega) (show 0<n by omega)
   exact .ret c3 ⟨this.1,λ_=>this.2,qc⟩
theorem xC{b:List Int}{i h n:Int}(C:okC b i h):Dr b (λ_=>True) (cM (⟨b,i,h⟩:M.aO) n):=by unfold cM;exact .bnd (aU C) λi1 U J j I=>.ret j trivial
theorem vW{b:List Int}{i h:Int}{l:List Int}(P:Int->Prop)(hl:0<l.length)(U:∀x∈l,P x)(J:okC b i h):Dr b P (cU (⟨b,i,h⟩:M.aO) l):=by
 unfold cU
 refine .bnd (aU J) λi1 v1 r1 I C=> ?_
 dsimp only
 obtain⟨k,rfl⟩:=Int.eq_ofNat_of_zero_le C.1
 have:=C.2.1 qc
 have j:k<l.length:=by omega
 rw[aN j,qA]
 exact .ret I (U _ (qG j))
theorem yM{b:List Int}{i h:Int}{l:List ByteArray}(P:ByteArray->Prop)(hl:0<l.length)(U:∀x∈l,P x)(J:okC b i h):Dr b P (eK (⟨b,i,h⟩:M.aO) l):=by
 unfold eK
 refine .bnd (aU J) λi1 v1 r1 I C=> ?_
 dsimp only
 obtain⟨k,rfl⟩:=Int.eq_ofNat_of_zero_le C.1
 have:=C.2.1 qc
 have j:k<l.length:=by omega
 rw[aN j,qA]
 exact .ret I (U _ (qG j))
theorem MD{b:List Int}:∀(n k:Nat) (v:Int),b.length-k<n->k<=b.length->b.length<=1048576->inI v->∃h,kK b n v (k:Int)=some (⟨b,0,h⟩:M.aO)/\inI h
 |0,_,_,h,_,_,_=>by omega
 |n+1,k,v,h,I,C,j=>by simp only[kK];by_cases h1:k<b.length;(rw[if_pos (aY h1)];by_cases h2:(k:Int)<4000;(rw[if_pos (by simpa using h2),aN h1,qA,bN qc];exact MD n (k+1) _ qc qc C (cH _));·rw[if_neg (by simpa using h2)];exact⟨v,rfl,j⟩);·rw[if_neg qd];exact⟨v,rfl,j⟩
theorem PD{b:List Int}(j:b.length<=1048576)(C:∀x∈b,0<=x/\x<=255):∃h,wY b=some (⟨b,0,h⟩:M.aO)/\okC b 0 h:=by unfold wY;obtain⟨h,e1,e2⟩:=MD (b:=b) fuel 0 (i64.wrap (193017+(List.length b:Int))) (jZ qc) qc j (cH _);exact⟨h,e1,j,C,qc,qc,e2⟩
theorem xL{r:Int}(h:0<=r):∃k:Nat,r=(k:Int):=⟨r.toNat,qc⟩
theorem Gn{n:Int}(j: -1000000000000000<=n)(C:n<=1000000000000000):inI n:=by unfold inI;omega
theorem zV{s:ByteArray}(h:s.size<=8):s.size<=maxLen:=by unfold maxLen;omega
theorem wrap_small{n:Int}(j: -1000000000000000<=n)(C:n<=1000000000000000):i64.wrap n=n:=bT qc qc
theorem DM{b:List Int}{i h:Int}(C:okC b i h):Dr b (λs=>s.size<=8) (jV (⟨b,i,h⟩:M.aO)):=by unfold jV;exact .bnd (yM (λs=>s.size<=8) qf qf C) λi1 U J j I=>.ret j I
theorem Kl{b:List Int}{i h:Int}(C:okC b i h):Dr b (λs=>s.size<=8) (rP (⟨b,i,h⟩:M.aO)):=by unfold rP;exact .bnd (yM (λs=>s.size<=8) qf qf C) λi1 U J j I=>.ret j I
theorem wP{b:List Int}{i h:Int}(C:okC b i h):Dr b (λs=>s.size<=8) (cT (⟨b,i,h⟩:M.aO)):=by unfold cT;exact .bnd (yM (λs=>s.size<=8) qf qf C) λi1 U J j I=>.ret j I
theorem TH{b:List Int}{i1 U:Int}{J:ByteArray}(c1:okC b i1 U)(q1:J.size<=8):∃r:ByteArray×Int×Int,((cM (⟨b,i1,U⟩:M.aO) 3).bind λj=>if j.2.2=true then(jV (⟨b,j.1,j.2.1⟩:M.aO)).bind λC=>some (C.2.2,C.1,C.2.1)else some (J,j.1,j.2.1))=some r/\(r.1.size<=8/\okC b r.2.1 r.2.2):=by obtain⟨i2,v2,r2,e2,I,q2⟩:=xC (n:=3) c1;rw[e2,qA];dsimp only;split;(obtain⟨i3,v3,r3,e3,c3,q3⟩:=DM I;rw[e3,qA];exact⟨_,rfl,q3,c3⟩);·exact⟨_,rfl,q1,I⟩
theorem Nr(k:Nat):(decide (((k+1:Nat):Int)>0))=true:=decide_eq_true qc
theorem F4:¬(decide ((0:Int)>0))=true:=by simp
theorem Gc{k:Nat}(h:k+1<=100000):i64.wrap (((k+1:Nat):Int)-1)=(k:Int):=by rw[wrap_small qc qc];omega
theorem bgI{x:Int}(h: -1000000000000000<=x/\x<=1000000000000000):inI x:=Gn h.1 h.2
theorem Rj{r n:Int}(q:0<=r/\(0<n->r<n)/\r<=16777215): -1000000000000000<=r/\r<=1000000000000000:=⟨qc,qc⟩
theorem Wc{x:Int}(q: -1000000000000<=x/\x<=1000000000000/\(x<=256\/x=1000000000000)): -1000000000000000<=x/\x<=1000000000000000:=⟨qc,qc⟩
theorem Yq{r n:Int}(q:0<=r/\(0<n->r<n)/\r<=16777215)(j:0<n)(h:n<=1000):0<=r/\r<=1000:=⟨q.1,by have:=q.2.1 j;omega⟩
theorem s16{s:ByteArray}(h:s.size<=16):s.size<=maxLen:=by unfold maxLen;omega
theorem ml{n:Nat}(h:n<=1000000):n<=maxLen:=by unfold maxLen;omega
theorem As{α:Type}{b:Nat}{xs ys:List α}(h:xs.length+ys.length<=1000000)(j:b<=1000):app b xs ys=some (xs++ys):=eJ (Nat.le_trans (Nat.mul_le_mul h j) qc)
def Jb(k:M.Key):Prop:=M.Key.ok k/\k.Zp.size<=16
theorem mkKey{a n:Int}{s:ByteArray}(C: -1000000000000000<=a/\a<=1000000000000000)(I: -1000000000000000<=n/\n<=1000000000000000)(j:s.size<=16):Jb (⟨a,n,s⟩:M.Key):=⟨⟨bgI C,bgI I,s16 j⟩,j⟩
def Lm(k:M.Key):Prop:=k.Zi=1/\0<=k.N/\k.N<=5/\k.Zp=(⟨#[]⟩:ByteArray)
theorem Lm.any{k:M.Key}(h:Lm k):Jb k:=by obtain⟨a,n,s⟩:=k;obtain⟨C,I,J,j⟩:=h;dsimp only at C I J j;subst j;exact mkKey qc qc qf
def IQ(k:M.Key):Prop:=Jb k/\(k.Zi=1->k.N<=256\/k.N=1000000000000)
theorem Lm.auto{k:M.Key}(h:Lm k):IQ k:=⟨h.any,λ_=>.inl (by have:=h.2.2.1;omega)⟩
theorem uO{b:List Int}{i h:Int}(C:okC b i h):Dr b Lm (dK (⟨b,i,h⟩:M.aO)):=by
 unfold dK
 refine .bnd (aU C) λi1 U J I j=> ?_
 have:=j.2.1 qc
 exact .ret I ⟨rfl,j.1,by show J<=5;omega,rfl⟩
theorem Il{b:List Int}{i h:Int}(C:okC b i h):Dr b (λx=> -1000000000000<=x/\x<=1000000000000/\(x<=256\/x=1000000000000)) (sB (⟨b,i,h⟩:M.aO)):=by
 unfold sB
 refine .bnd (aU C) λi1 v1 r1 I j=> ?_
 have:=j.2.1 qc
 have:=j.1
 exact .bnd (vW (λx=> -1000000000000<=x/\x<=1000000000000/\(x<=256\/x=1000000000000)) qe (λx U=>by simp only[List.mem_cons,qO,or_false]at U;omega) I) λi2 v2 r2 J q2=>.ret J q2
theorem Pz{b:List Int}{i h:Int}(U:okC b i h):Dr b IQ (xB (⟨b,i,h⟩:M.aO)):=by
 unfold xB
 refine .bnd (yM (λs=>s.size<=16) qf qf U) λi1 v1 r1 c1 J=>.bnd (aU c1) λi2 v2 r2 C q2=> ?_
 dsimp only
 split
 ·exact .ret C ⟨mkKey qc qc J,λh=>by have h':(2:Int)=1:=h;omega⟩
 split
 ·exact .bnd (Il C) λi3 v3 r3 I j=>.ret I ⟨mkKey qc (Wc j) J,λh=>by have h':(3:Int)=1:=h;omega⟩
 ·exact .bnd (Il C) λi3 v3 r3 I j=>.ret I ⟨mkKey qc (Wc j) qf,λ_=>j.2.2⟩
theorem Oe{b:List Int}{i h:Int}(c0:okC b i h):Dr b Jb (wZ (⟨b,i,h⟩:M.aO)):=by
 unfold wZ
 refine .bnd (Pz c0) λi1 v1 r1 c1 q1=>.bnd (aU c1) λi2 v2 r2 J q2=> ?_
 dsimp only
 have j:=q1.1
 split
 ·exact .bnd (aU J) λi3 v3 U I C=>.ret I ⟨⟨bgI (Rj C),j.1.N,j.1.Zp⟩,j.2⟩
 split
 ·exact .bnd (vW (λx=> -1000000000000000<=x/\x<=1000000000000000) qf qf J) λi3 v3 U I C=>.ret I ⟨⟨j.1.Zi,bgI C,j.1.Zp⟩,j.2⟩
 split
 ·exact .bnd (yM (λs=>s.size<=16) qf qf J) λi3 v3 U I C=>.ret I ⟨⟨j.1.Zi,j.1.N,s16 C⟩,C⟩
 ·exact .ret J j
def GG(r:M.aC):Prop:=r.ok/\bO r=true
theorem Pw{r:M.aC}{a:ByteArray}{n:Int}(h:GG r)(j:a.size<=16)(C: -1000000000000000<=n/\n<=1000000000000000):∃x,fY r a n=some x/\GG x.1:=by
 have J:=C1 h.2
 have I:r.Y4.length<=1073741824:=by simp only[M.aC.sz]at J;omega
 exact⟨_,xJ h.1 qc (s16 j) (bgI C),IE h.1 I (s16 j) (bgI C),L3 h.2 _ _⟩
theorem S8:GG (⟨([]:List M.Field)⟩:M.aC):=⟨DT,BE⟩
theorem Ac{b:List Int}{i h:Int}(c0:okC b i h):Dr b GG (hJ (⟨b,i,h⟩:M.aO)):=by
 unfold hJ
 refine .bnd (aU c0) λi1 v1 r1 c1 U=> ?_
 have hN:=U.2.2
 obtain⟨N,rfl⟩:=xL U.1
 have hN:=U.2.1 qc
 refine wQ (L:=λn v (s:(M.aC)×Int×Int)=>kH (⟨b,i,h⟩:M.aO) n v s.2.1 s.2.2 s.1.Y4) (I:=λk s=>k<=100000/\okC b s.2.1 s.2.2/\GG s.1) (Q:=Dr b GG) (λn k s J ih=> ?_) (λn s J=> ?_) fuel N ((⟨([]:List M.Field)⟩:M.aC),i1,v1) (jZ qc) ⟨qc,c1,S8⟩
 ·obtain⟨x,ci,ch⟩:=s
  obtain⟨k0,j,C⟩:=J
  dsimp only at j C
  simp only[kH]
  rw[if_pos (Nr k),Gc k0]
  refine .bnd (wP j) λi3 v3 r3 c3 q3=>.bnd (aU c3) λi4 v4 r4 c4 q4=>.D9 (Pw C (Nat.le_trans q3 qc) (Rj q4)) λy hy=> ?_
  exact ih (y.1,i4,v4) ⟨qc,c4,hy⟩
 ·obtain⟨x,ci,ch⟩:=s;obtain⟨k0,j,C⟩:=J;dsimp only at j C;simp only[kH];rw[if_neg F4];exact .ret j C
theorem SE{r:M.aC}{a:ByteArray}{n:Int}(h:GG r)(C:a.size<=16)(I: -1000000000000000<=n/\n<=1000000000000000):M.aC.ok (⟨r.Y4++[(⟨a,n⟩:M.Field)]⟩:M.aC)/\M.aC.sz (⟨r.Y4++[(⟨a,n⟩:M.Field)]⟩:M.aC)<=200:=by have J:=C1 h.2;simp only[M.aC.sz]at J⊢;refine⟨⟨ml qo,λy j=> ?_⟩,?_⟩;(rcases List.mem_append.1 j with j|j;(exact h.1.Y4.2 y j);·rw[List.mem_singleton.1 j];exact⟨s16 C,bgI I⟩);·rw[Ae];simp only[jO,M.Field.sz,qE,qJ,qK];omega
def L5(r:M.aC):Prop:=r.ok/\M.aC.sz r<=200
theorem GG.any{r:M.aC}(h:GG r):L5 r:=⟨h.1,by have:=C1 h.2;omega⟩
theorem Sm{b:List Int}{i h:Int}(U:okC b i h):Dr b L5 (zG (⟨b,i,h⟩:M.aO)):=by
 unfold zG
 refine .bnd (Ac U) λi1 v1 J c1 j=>.bnd (aU c1) λi2 v2 r2 C q2=> ?_
 dsimp only
 have hz:=C1 j.2
 have hl:J.Y4.length<=100:=by simp only[M.aC.sz]at hz;omega
 split
 ·refine .bnd (yM (λs=>s.size<=16) qf qf C) λi3 v3 r3 c3 q3=>.bnd (vW (λx=> -1000000000000000<=x/\x<=1000000000000000) qf qf c3) λi4 v4 r4 c4 q4=> ?_
  dsimp only
  rw[As qt qc,qA]
  exact .ret c4 (SE j q3 q4)
 split
 ·have key:∀(n k:Nat) (r:M.aC),6-k<n->k<=6->GG r->Dr b L5 (oJ (i2,v2,r2) n (k:Int) r.Y4):=by
   intro n
   induction n with
   |zero=>intro k r h _ _;omega
   |succ n ih=>
    intro k r h hk I
    simp only[oJ]
    rcases Nat.lt_or_ge k 6 with h6|h6
    ·have e:∃s,idx ([(⟨#[100]⟩:ByteArray),(⟨#[101]⟩:ByteArray),(⟨#[102]⟩:ByteArray),(⟨#[103]⟩:ByteArray),(⟨#[104]⟩:ByteArray),(⟨#[105]⟩:ByteArray)]) (k:Int)=some s/\s.size<=16:=by
      have:k=0\/k=1\/k=2\/k=3\/k=4\/k=5:=by omega
      rcases this with rfl|rfl|rfl|rfl|rfl|rfl<;>exact⟨_,rfl,qf⟩
     rw[if_pos (aY h6)]
     refine .D9 e λs hs=>.D9 (Pw I hs qc) λy hy=> ?_
     rw[bN qc]
     exact ih (k+1) y.1 qc qc hy
    ·have:k=6:=by omega
     subst this
     rw[if_neg qe]
     exact .ret C I.any
  exact key fuel 0 J (jZ qc) qc j
 ·exact .ret C j.any
def RK(s:M.aA):Prop:=s.Zn<=256/\∀x∈s.Y3,x.Key.Zi=1->x.Key.N<=s.Zn\/x.Key.N=1000000000000
def Nt(s:M.aA):Prop:=s.ok/\gC s=true/\RK s
theorem QY{s:M.aA}{k:M.Key}{r:M.aC}(C:RK s)(hk:IQ k):RK (zM s k r).1:=by
 have ha:s.Zn<=Ef s k/\Ef s k<=256/\(k.Zi=1->k.N<=Ef s k\/k.N=1000000000000):=by obtain⟨a1,a2⟩:=C;have U:=hk.2;unfold Ef;by_cases hc:((k.Zi==1)&&(decide (k.N>s.Zn)&&decide (k.N<=1000000)))=true;(rw[if_pos hc];simp only[qM,qL,beq_iff_eq]at hc;have:=U hc.1;exact⟨qc,qc,λ_=>.inl qc⟩);·rw[if_neg hc];refine⟨qc,a1,λI=> ?_⟩;have:=U I;simp only[qM,qL,beq_iff_eq,not_and]at hc;by_cases h2:k.N>s.Zn;(have:=hc I h2;omega);·omega
 unfold zM
 split
 ·split;(split;(split;(refine⟨ha.2.1,λx J I=> ?_⟩;have j:x∈s.Y3.take (Au s.Y3 k)++([(⟨k,r⟩:M.Zd)]++s.Y3.drop (Au s.Y3 k)):=J;simp only[qP,List.mem_singleton]at j;show x.Key.N<=Ef s k\/_;rcases j with j|rfl|j;(have:=C.2 x (List.mem_of_mem_take j) I;omega);(exact ha.2.2 I);·have:=C.2 x (List.mem_of_mem_drop j) I;omega);·exact C);·unfold K6;refine⟨C.1,?_⟩;dsimp only;split;(rename_i y hy;intro x J I;rcases List.mem_or_eq_of_mem_set J with J|rfl;(exact C.2 x J I);·exact C.2 y (List.mem_of_getElem? hy) I);·exact C.2);·exact C
 ·exact C
theorem PE{s:M.aA}{k:M.Key}{r:M.aC}(C:Nt s)(I:IQ k)(j:GG r):∃x,dI s k r=some x/\Nt x.1:=by
 have U:=nQ C.2.1
 have J:s.Y3.length<=1073741824:=by simp only[M.aA.sz]at U;omega
 refine⟨_,tV C.1 I.1.1 j.1 j.2 qc (Nat.le_trans (C1 j.2) qc),IN C.1 J I.1.1 j.1,?_,QY C.2.2 I⟩
 cases h2:(zM s k r).2 with
 |true=>exact AV j.2 h2
 |false=>rw[Fh h2];exact C.2.1
theorem Rp{a:ByteArray}(C:nS a=true)(j:a.size<=16):Nt (⟨a,([]:List M.Zd),0⟩:M.aA):=⟨⟨s16 j,⟨by simp[maxLen],qe⟩,tD⟩,by unfold gC;simp[C,inR],by show(0:Int)<=256;omega,qe⟩
theorem Cb{b:List Int}{i h:Int}{a:ByteArray}(hn:nS a=true)(ha:a.size<=16)(c0:okC b i h):Dr b Nt (lZ (⟨b,i,h⟩:M.aO) a):=by
 unfold lZ
 refine .bnd (vW (λx=>0<=x/\x<=6) qf qf c0) λi1 v1 r1 c1 q1=> ?_
 obtain⟨N,rfl⟩:=xL q1.1
 have hN:=q1.2
 refine wQ (L:=λn v (s:(M.aA)×Int×Int)=>lK (⟨b,i,h⟩:M.aO) n v s.1.Name s.1.Zn s.2.1 s.2.2 s.1.Y3) (I:=λk s=>k<=100000/\okC b s.2.1 s.2.2/\Nt s.1) (Q:=Dr b Nt) (λn k s hi ih=> ?_) (λn s hi=> ?_) fuel N ((⟨a,([]:List M.Zd),0⟩:M.aA),i1,v1) (jZ qc) ⟨qc,c1,Rp hn ha⟩
 ·obtain⟨x,ci,ch⟩:=s
  obtain⟨k0,C,j⟩:=hi
  dsimp only at C j
  simp only[lK]
  rw[if_pos (Nr k),Gc k0]
  refine .bnd (uO C) λi3 v3 r3 J q3=>.bnd (Ac J) λi4 v4 r4 U q4=>.D9 (PE j q3.auto q4) λy hy=> ?_
  exact ih (y.1,i4,v4) ⟨qc,U,hy⟩
 ·obtain⟨x,ci,ch⟩:=s
  obtain⟨k0,C,j⟩:=hi
  dsimp only at C j
  simp only[lK]
  rw[if_neg F4]
  refine .bnd (xC C) λi3 v3 r3 J q3=> ?_
  dsimp only
  split
  ·exact .bnd (Pz J) λi4 v4 r4 U q4=>.bnd (Ac U) λi5 v5 r5 c5 q5=>.D9 (PE j q4 q5) λy hy=>.ret c5 hy
  ·exact .ret J j
def Mx(s:M.aA):Prop:=s.ok/\M.aA.sz s<=20000
theorem Nt.any{s:M.aA}(h:Nt s):Mx s:=⟨h.1,by have:=nQ h.2.1;omega⟩
def QS(s:M.aA):Prop:=s.Zn<=256+s.Y3.length/\∀x∈s.Y3,x.Key.Zi=1->x.Key.N<=s.Zn\/x.Key.N=1000000000000
theorem NV{s:M.aA}(J:s.ok)(h2:gC s=true)(h3:QS s)(hl:s.Y3.length<16):∃x,uI s (⟨([]:List M.Field)⟩:M.aC)=some x/\x.1.ok/\gC x.1=true/\QS x.1/\x.1.Y3.length=s.Y3.length+1:=by
 obtain⟨_,_,_,h0,_⟩:=sY h2
 obtain⟨a1,U⟩:=h3
 have ew:i64.wrap (s.Zn+1)=s.Zn+1:=wrap_small qc qc
 have hz:=nQ h2
 have hkey:zQ (⟨1,s.Zn+1,(⟨#[]⟩:ByteArray)⟩:M.Key)=true:=by
  unfold zQ inR
  have e:HC (⟨#[]⟩:ByteArray)=true:=by decide
  simp[e]
  omega
 have hf:pU (uH (⟨1,s.Zn+1,(⟨#[]⟩:ByteArray)⟩:M.Key)) s.Y3<0:=Classical.byContradiction λhn=>by obtain⟨j,ej,hj⟩:=kI hn;obtain⟨_,C⟩:=yJ ej;unfold uH at C;simp only[qM,beq_iff_eq]at C;have:=U _ (qG hj) C.1;omega
 have hk:M.Key.ok (⟨1,s.Zn+1,(⟨#[]⟩:ByteArray)⟩:M.Key):=(mkKey qc qc qf).1
 have e:=C4 J hk DT BE qc (by simp[M.aC.sz,jO])
 have ep:zM s (⟨1,s.Zn+1,(⟨#[]⟩:ByteArray)⟩:M.Key) (⟨([]:List M.Field)⟩:M.aC)=(JO s (⟨1,s.Zn+1,(⟨#[]⟩:ByteArray)⟩:M.Key) (⟨([]:List M.Field)⟩:M.aC),true):=by unfold zM;rw[if_pos h2,if_pos hkey,if_pos hf,if_pos hl]
 have hg:=AV (s:=s) (k:=(⟨1,s.Zn+1,(⟨#[]⟩:ByteArray)⟩:M.Key)) BE (by rw[ep])
 rw[ep]at hg
 have en:KN s (⟨1,s.Zn+1,(⟨#[]⟩:ByteArray)⟩:M.Key) (⟨([]:List M.Field)⟩:M.aC)=(JO s (⟨1,s.Zn+1,(⟨#[]⟩:ByteArray)⟩:M.Key) (⟨([]:List M.Field)⟩:M.aC),true):=by unfold KN;rw[if_pos hf,ep]
 have ea:Ef s (⟨1,s.Zn+1,(⟨#[]⟩:ByteArray)⟩:M.Key)=s.Zn+1:=by unfold Ef;rw[if_pos qd]
 have hp:=IY s.Y3 (⟨1,s.Zn+1,(⟨#[]⟩:ByteArray)⟩:M.Key)
 rw[en]at e
 refine⟨(JO s (⟨1,s.Zn+1,(⟨#[]⟩:ByteArray)⟩:M.Key) (⟨([]:List M.Field)⟩:M.aC),(⟨1,s.Zn+1,(⟨#[]⟩:ByteArray)⟩:M.Key),true),?_,?_,hg,?_,?_⟩
 ·unfold uI;rw[if_neg qd,ew,e,qA,if_neg qe]
 ·unfold JO;exact O3 _ J qc hk DT (by rw[ea];exact bgI qi)
 ·unfold JO QS;dsimp only;rw[ea];refine⟨qp,λx I J=> ?_⟩;simp only[qP,List.mem_singleton]at I;rcases I with I|rfl|I;(have:=U x (List.mem_of_mem_take I) J;omega);(exact .inl (Int.le_refl _));·have:=U x (List.mem_of_mem_drop I) J;omega
 ·unfold JO;simp only[qE,qU,qV,qJ,qK];omega
theorem Sq{s:M.aA}{k:M.Key}{r:M.aC}(C:Nt s)(I:Jb k)(J:L5 r):Mx (⟨s.Name,s.Y3++[(⟨k,r⟩:M.Zd)],s.Zn⟩:M.aA):=by have U:=nQ C.2.1;have h1:=I.2;have h2:=J.2;refine⟨⟨C.1.Name,⟨?_,λy j=> ?_⟩,C.1.Zn⟩,?_⟩;(simp only[M.aA.sz]at U;exact ml qo);(rcases List.mem_append.1 j with j|j;(exact C.1.Y3.2 y j);·rw[List.mem_singleton.1 j];exact⟨I.1,J.1⟩);·simp only[M.aA.sz]at U⊢;rw[Ae];simp only[jO,M.Zd.sz,M.Key.sz,qE,qJ,qK];omega
theorem Su{b:List Int}{i h:Int}(c0:okC b i h):Dr b Mx (zC (⟨b,i,h⟩:M.aO)):=by
 unfold zC
 refine .bnd (Cb qf qf c0) λi1 v1 r1 c1 j=>.bnd (aU c1) λi2 v2 r2 J q2=> ?_
 dsimp only
 have hz:=nQ j.2.1
 have hl:r1.Y3.length<=10000:=by simp only[M.aA.sz]at hz;omega
 split
 ·refine .bnd (yM (λs=>s.size<=16) qf qf J) λi3 v3 r3 U I=>.ret U ⟨⟨s16 I,j.1.Y3,j.1.Zn⟩,?_⟩
  have q3':r3.size<=16:=I
  simp only[M.aA.sz]at hz⊢
  omega
 split
 ·exact .bnd (vW (λx=> -1000000000000000<=x/\x<=1000000000000000) qf qf J) λi3 v3 r3 U I=>.ret U ⟨⟨j.1.Name,j.1.Y3,bgI I⟩,Nat.le_trans hz qc⟩
 split
 ·refine .bnd (Oe J) λi3 v3 r3 U I=>.bnd (Sm U) λi4 v4 r4 c4 q4=> ?_
  dsimp only
  rw[As qt qc,qA]
  exact .ret c4 (Sq j I q4)
 split
 ·have key:∀(n:Nat) (s:M.aA),16-s.Y3.length<n->s.ok->gC s=true->QS s->Dr b Mx (sW (i2,v2,r2) n s.Name s.Zn s.Y3):=by
   intro n
   induction n with
   |zero=>intro s h _ _ _;omega
   |succ n ih=>
    intro s h hs C hj
    have hm:=nQ C
    simp only[sW]
    rcases Nat.lt_or_ge s.Y3.length 16 with h6|h6
    ·rw[if_pos qd,show(⟨s.Name,s.Y3,s.Zn⟩:M.aA)=s from rfl,uE hs,qA,C,if_pos rfl]
     refine .D9 (NV hs C hj h6) λy hy=> ?_
     have hy':=hy.2.2.2
     exact ih y.1 qc hy.1 hy.2.1 hy.2.2.1
    ·rw[if_neg qd];exact .ret J ⟨hs,by show M.aA.sz s<=_;omega⟩
  exact key fuel r1 (jZ qc) j.1 j.2.1 ⟨by have:=j.2.2.1;omega,j.2.2.2⟩
 ·exact .ret J j.any
theorem Kc{b:List Int}{i h n:Int}(hn:0<=n/\n<=1000)(c0:okC b i h):Dr b (λl=>okB l/\l.length<=1000) (uD (⟨b,i,h⟩:M.aO) n):=by
 unfold uD
 obtain⟨N,rfl⟩:=xL hn.1
 refine RR (N:=N) (L:=λm v (s:List Int×Int×Int)=>lU (⟨b,i,h⟩:M.aO) (N:Int) m v s.1 s.2.1 s.2.2) (I:=λk s=>okC b s.2.1 s.2.2/\s.1.length=k/\∀x∈s.1,0<=x/\x<=255) (Q:=Dr b (λl=>okB l/\l.length<=1000)) (λm k s hk hi ih=> ?_) (λm s hi=> ?_) fuel 0 (([]:List Int),i,h) (jZ qc) qc ⟨c0,rfl,qe⟩
 ·obtain⟨l,ci,ch⟩:=s
  obtain⟨C,U,J⟩:=hi
  dsimp only at C U J
  simp only[lU]
  rw[if_pos (aY hk)]
  refine .bnd (DV C) λi3 v3 r3 c3 q3=> ?_
  dsimp only
  rw[As qt qc,qA,bN qc]
  refine ih (l++[_],i3,v3) ⟨c3,by simp[U],λx j=> ?_⟩
  rcases List.mem_append.1 j with j|j
  ·exact J x j
  ·rw[List.mem_singleton.1 j,wrap_u8];omega
 ·obtain⟨l,ci,ch⟩:=s;obtain⟨C,U,J⟩:=hi;dsimp only at C U J;simp only[lU];rw[if_neg ql];exact .ret C ⟨⟨ml qc,J⟩,qc⟩
theorem Q2{b l:List Int}{i h:Int}(C:okB l)(hz:l.length<=100000)(c0:okC b i h):Dr b (λr=>okB r/\r.length<=l.length+1) (xV (⟨b,i,h⟩:M.aO) l):=by
 unfold xV
 rw[Hh qc qc,qA]
 refine .bnd (aU c0) λi1 v1 r1 J q1=> ?_
 dsimp only
 split
 ·split
  ·rename_i hp
   refine .bnd (aU J) λi2 v2 r2 U I=>.bnd (aU U) λi3 v3 r3 c3 q3=> ?_
   have hp':(0:Int)<(l.length:Int):=by simpa using hp
   obtain⟨k,rfl⟩:=xL I.1
   have hk:=I.2.1 hp'
   dsimp only
   rw[aN qc,qA]
   refine .ret c3 ⟨⟨by rw[qN];exact C.1,λx j=> ?_⟩,by rw[qN];omega⟩
   rcases List.mem_or_eq_of_mem_set j with j|rfl
   ·exact C.2 x j
   ·rw[wrap_u8];omega
  ·exact .ret J ⟨C,qc⟩
 split
 ·refine .bnd (aU J) λi2 v2 r2 U I=> ?_
  have hw:i64.wrap ((l.length:Int)+1)=(l.length:Int)+1:=wrap_small qc qc
  rw[hw]at I
  obtain⟨k,rfl⟩:=xL I.1
  have hk:=I.2.1 qc
  dsimp only
  rw[Bu qc,qA,qH]
  exact .ret U ⟨⟨by have:=C.1;rw[qU];omega,λx j=>C.2 x (List.mem_of_mem_take j)⟩,by rw[qU];omega⟩
 split
 ·refine .bnd (vW (λ_=>True) qf (λ_ _=>trivial) J) λi2 v2 r2 U I=> ?_
  dsimp only
  rw[As qt qc,qA]
  refine .ret U ⟨⟨ml qo,λx j=> ?_⟩,qe⟩
  rcases List.mem_append.1 j with j|j
  ·exact C.2 x j
  ·rw[List.mem_singleton.1 j,wrap_u8];omega
 ·exact .ret J ⟨C,qc⟩
def Rv(x:M.Y7):Prop:=x.ok/\x.ZE.length<=1000
theorem D7{b:List Int}{i h:Int}(c0:okC b i h):Dr b Rv (mQ (⟨b,i,h⟩:M.aO)):=by
 unfold mQ
 refine .bnd (aU c0) λi1 v1 r1 c1 q1=>.bnd (aU c1) λi2 v2 r2 c2 q2=>.bnd (aU c2) λi3 v3 r3 c3 q3=>.bnd (Kc (Yq q3 qc qc) c3) λi4 v4 r4 c4 j=>.bnd (xC c4) λi5 v5 r5 c5 q5=>.bnd (aU c5) λi6 v6 r6 I q6=> ?_
 dsimp only
 split
 ·exact .bnd (vW (λx=> -1000000000000000<=x/\x<=1000000000000000) qf qf I) λi7 v7 U c7 C=>.ret c7 ⟨⟨bgI C,bgI qi,cH _,j.1⟩,j.2⟩
 split
 ·exact .bnd (vW (λx=> -1000000000000000<=x/\x<=1000000000000000) qf qf I) λi7 v7 U c7 C=>.ret c7 ⟨⟨cH _,bgI C,cH _,j.1⟩,j.2⟩
 split
 ·exact .bnd (vW (λx=>0<=x/\x<=1000) qf qf I) λi7 v7 U c7 C=>.bnd (Kc C c7) λi8 v8 r8 c8 J=>.ret c8 ⟨⟨cH _,bgI qi,cH _,J.1⟩,J.2⟩
 ·exact .ret I ⟨⟨cH _,bgI qi,cH _,j.1⟩,j.2⟩
def zP(s:M.aE):Prop:=s.ok/\M.aE.sz s<=65536
theorem IT{s:M.aE}{v:Int}(h:zP s)(j:inI v):∃x,kZ s v=some x/\zP x.1:=by
 have I:=h.2
 refine⟨_,Gf h.1 j qc,OT h.1 j qc,?_⟩
 cases h2:(C2 s v).2 with
 |true=>exact FE (M4 h2)
 |false=>
  have e:(C2 s v).1=s:=by unfold C2 at h2⊢;split at h2;(cases h2);·rename_i C;rw[if_neg C]
  rw[e];exact h.2
theorem P2{s:M.aE}{v:Int}{a p:ByteArray}{x:M.Y7}(h:zP s)(J:a.size<=16)(U:p.size<=16)(I:Rv x):∃y,kR s v a p x=some y/\zP y.1:=by
 have hz:=h.2
 have hx2:=I.2
 refine⟨_,CT h.1 qc (s16 J) (s16 U) I.1 (by simp only[M.Y7.sz];omega),QM h.1 qc (s16 J) (s16 U) I.1,?_⟩
 cases h2:(HB s v a p x).2 with
 |true=>exact FE (NG h2)
 |false=>
  have e:(HB s v a p x).1=s:=by unfold HB at h2⊢;split at h2;(rename_i j;rw[if_pos j]);·rename_i j;rw[if_neg j];split at h2;(cases h2);·rename_i C;rw[if_neg C]
  rw[e];exact h.2
theorem Pb:zP (⟨([]:List M.Y6)⟩:M.aE):=⟨⟨⟨by simp[maxLen],qe⟩⟩,by simp[M.aE.sz,jO]⟩
theorem PL{b:List Int}{i h:Int}{N:Nat}(hN:N<=10){i1 U:Int}(c1:okC b i1 U){s:M.aE}(hs:zP s):Dr b zP (kV (⟨b,i,h⟩:M.aO) fuel (N:Int) i1 U s.Y1):=by
 refine wQ (L:=λn v (s:(M.aE)×Int×Int)=>kV (⟨b,i,h⟩:M.aO) n v s.2.1 s.2.2 s.1.Y1) (I:=λk s=>k<=100000/\okC b s.2.1 s.2.2/\zP s.1) (Q:=Dr b zP) (λn k s J ih=> ?_) (λn s J=> ?_) fuel N (s,i1,U) (jZ qc) ⟨qc,c1,hs⟩
 ·obtain⟨x,ci,ch⟩:=s
  obtain⟨k0,j,C⟩:=J
  dsimp only at j C
  simp only[kV]
  rw[if_pos (Nr k),Gc k0]
  refine .bnd (aU j) λi3 v3 r3 c3 q3=>.bnd (DM c3) λi4 v4 r4 c4 q4=>.bnd (Kl c4) λi5 v5 r5 c5 q5=>.bnd (D7 c5) λi6 v6 r6 c6 q6=>.D9 (P2 C (Nat.le_trans q4 qc) (Nat.le_trans q5 qc) q6) λy hy=> ?_
  exact ih (y.1,i6,v6) ⟨qc,c6,hy⟩
 ·obtain⟨x,ci,ch⟩:=s;obtain⟨k0,j,C⟩:=J;dsimp only at j C;simp only[kV];rw[if_neg F4];exact .ret j C
theorem Qo{b:List Int}{i h:Int}(c0:okC b i h):Dr b zP (xH (⟨b,i,h⟩:M.aO)):=by
 unfold xH
 refine .bnd (aU c0) λi1 v1 r1 c1 q1=> ?_
 obtain⟨N,rfl⟩:=xL q1.1
 have hN:=q1.2.1 qc
 refine wQ (L:=λn v (s:(M.aE)×Int×Int)=>mZ (⟨b,i,h⟩:M.aO) n v s.2.1 s.2.2 s.1.Y1) (I:=λk s=>k<=100000/\okC b s.2.1 s.2.2/\zP s.1) (Q:=Dr b zP) (λn k s U ih=> ?_) (λn s U=> ?_) fuel N ((⟨([]:List M.Y6)⟩:M.aE),i1,v1) (jZ qc) ⟨qc,c1,Pb⟩
 ·obtain⟨x,ci,ch⟩:=s
  obtain⟨k0,j,C⟩:=U
  dsimp only at j C
  simp only[mZ]
  rw[if_pos (Nr k),Gc k0]
  refine .bnd (aU j) λi3 v3 r3 J q3=>.D9 (IT C (cH _)) λy hy=> ?_
  exact ih (y.1,i3,v3) ⟨qc,J,hy⟩
 ·obtain⟨x,ci,ch⟩:=s
  obtain⟨k0,j,C⟩:=U
  dsimp only at j C
  simp only[mZ]
  rw[if_neg F4]
  refine .bnd (aU j) λi3 v3 r3 J q3=> ?_
  obtain⟨M,rfl⟩:=xL q3.1
  have hM:=q3.2.1 qc
  exact PL qc J C
def Jv(s:M.aE):Prop:=s.ok/\M.aE.sz s<=70000
theorem zP.all{s:M.aE}(h:zP s):Jv s:=⟨h.1,by have:=h.2;omega⟩
theorem Qe{b:List Int}{i h:Int}(c0:okC b i h):Dr b Jv (xM (⟨b,i,h⟩:M.aO)):=by
 unfold xM
 refine .bnd (Qo c0) λi1 v1 r1 c1 I=>.bnd (aU c1) λi2 v2 r2 U q2=> ?_
 have C:=I.2
 simp only[M.aE.sz]at C
 dsimp only
 split
 ·refine .bnd (vW (λx=> -1000000000000000<=x/\x<=1000000000000000) qf qf U) λi3 v3 r3 c3 q3=> ?_
  dsimp only
  rw[As qt qc,qA]
  refine .ret c3 ⟨⟨⟨ml qo,λy j=> ?_⟩⟩,?_⟩
  ·rcases List.mem_append.1 j with j|j;(exact I.1.Y1.2 y j);·rw[List.mem_singleton.1 j];exact⟨bgI q3,⟨by simp[maxLen],qe⟩⟩
  ·simp only[M.aE.sz];rw[Ae];simp only[jO,M.Y6.sz,qE,qJ,qK];omega
 split
 ·split
  ·rename_i hp
   cases hc:r1.Y1 with
   |nil=>rw[hc]at hp;simp at hp
   |cons J xs=>
    have hx0:J∈r1.Y1:=by rw[hc];simp
    have ho:=I.1.Y1.2 J hx0
    rw[hc]at C
    simp only[jO,M.Y6.sz,qJ]at C
    rw[show idx (J::xs) 0=some J from rfl,qA]
    refine .bnd (yM (λs=>s.size<=16) qf qf U) λi3 v3 r3 c3 q3=>.bnd (D7 c3) λi4 v4 r4 c4 q4=> ?_
    dsimp only
    rw[As qt qc,qA]
    have aa:=q4.2
    have ae:r3.size<=16:=q3
    refine .ret c4 ⟨⟨⟨ml (by show(List.set _ _ _).length<=_;rw[qN,qJ];omega),λy j=> ?_⟩⟩,?_⟩
    ·rcases List.mem_or_eq_of_mem_set j with j|rfl;(exact I.1.Y1.2 y (by rw[hc];exact j));·refine⟨ho.Y2,ml qo,λz C=> ?_⟩;rcases List.mem_append.1 C with C|C;(exact ho.Y8.2 z C);·rw[List.mem_singleton.1 C];exact⟨s16 (s:=(⟨#[98,97,110,107]⟩:ByteArray)) qf,s16 q3,q4.1⟩
    ·have e4:(⟨#[98,97,110,107]⟩:ByteArray).size=4:=rfl;show M.aE.sz (⟨(⟨J.Y2,J.Y8++[_]⟩:M.Y6)::xs⟩:M.aE)<=70000;simp only[M.aE.sz,jO,M.Y6.sz,Ae,M.Zb.sz,M.Y7.sz,qE,qJ,qK,e4];omega
  ·exact .ret U I.all
 split
 ·have key:∀(n k:Nat) (s:M.aE),5-k<n->k<=5->zP s->Dr b Jv (nB (i2,v2,r2) n (k:Int) s.Y1):=by
   intro n
   induction n with
   |zero=>intro k s h _ _;omega
   |succ n ih=>
    intro k s h hk hs
    simp only[nB]
    rcases Nat.lt_or_ge k 5 with h6|h6
    ·rw[if_pos qd]
     refine .D9 (IT hs (bgI qi)) λy j=> ?_
     rw[bN qc]
     exact ih (k+1) y.1 qc qc j
    ·rw[if_neg qd];exact .ret U hs.all
  exact key fuel 1 r1 (jZ qc) qc I
 ·exact .ret U I.all
theorem J6{d:M.YY}{u:M.iN}(I:d.Za.length<=100000):∃v,yZ d u=some v:=by
 have key:∀(n k:Nat),d.Za.length-k<n->k<=d.Za.length->∃v,lG d u n (k:Int)=some v:=by
  intro n
  induction n with
  |zero=>intro k h _;omega
  |succ n j=>
   intro k h C
   simp only[lG]
   rcases Nat.lt_or_ge k d.Za.length with h6|h6
   ·rw[if_pos (aY h6),aN h6,qA,bN qc];have:=j (k+1) qc qc;split;(split;(exact⟨_,rfl⟩);·exact this);·exact this
   ·rw[if_neg qd];exact⟨_,rfl⟩
 exact key fuel 0 (jZ qc) qc
theorem Uc{d:M.YY}{a f:ByteArray}(j:d.ok)(hz:M.YY.sz d<=100000)(U:a.size<=16)(hf:f.size<=16):∃x,iY d (⟨3,a,f⟩:M.iN)=some x/\(x.1.ok/\M.YY.sz x.1<=M.YY.sz d+40):=by
 have hl:d.Za.length<=100000:=by simp only[M.YY.sz]at hz;omega
 obtain⟨x5,e5⟩:=J6 (u:=(⟨3,a,f⟩:M.iN)) hl
 have I:M.YY.ok (⟨d.Name,d.Y2,d.Y5,d.Za++[(⟨a,f⟩:M.aM)]⟩:M.YY):=⟨j.Name,j.Y2,j.Y5,ml qo,λy C=>by rcases List.mem_append.1 C with C|C;(exact j.Za.2 y C);·rw[List.mem_singleton.1 C];exact⟨s16 U,s16 hf⟩⟩
 have J:M.YY.sz (⟨d.Name,d.Y2,d.Y5,d.Za++[(⟨a,f⟩:M.aM)]⟩:M.YY)<=M.YY.sz d+40:=by simp only[M.YY.sz,Ae,jO,M.aM.sz,qE,qJ,qK];omega
 unfold iY
 rw[vN d qc,qA,zL j,qA,e5,qA]
 dsimp only
 generalize pU (zI a) d.Y5=x3
 have k1:((3:Int)==1)=false:=rfl
 have k2:((3:Int)==2)=false:=rfl
 have k3:((3:Int)==3)=true:=rfl
 have k4:((3:Int)==4)=false:=rfl
 simp only[k1,k2,k3,k4,qD,if_false,if_true,qA]
 by_cases h:x3>=0
 ·by_cases h5:x5<0;(simp only[h,h5,decide_true,if_true,qA];rw[As qt qc,qA,oC j qc,qA,oC I qc,qA];cases nDb d;(exact⟨_,rfl,j,qh⟩);·cases nDb (⟨d.Name,d.Y2,d.Y5,d.Za++[(⟨a,f⟩:M.aM)]⟩:M.YY);(exact⟨_,rfl,j,qh⟩);·exact⟨_,rfl,I,J⟩);·simp only[h,h5,decide_true,decide_false,qD,if_false,if_true,qA];exact⟨_,rfl,j,qh⟩
 ·simp only[h,decide_false,qD,if_false,qA];exact⟨_,rfl,j,qh⟩
def Tx(d:M.YY):Prop:=d.ok/\M.YY.sz d<=40000
theorem Yb{l:List M.aA}(I:l.length<=3)(h:∀s∈l,Nt s):M.YY.ok (⟨(⟨#[97,112,112]⟩:ByteArray),1,l,([]:List M.aM)⟩:M.YY)/\M.YY.sz (⟨(⟨#[97,112,112]⟩:ByteArray),1,l,([]:List M.aM)⟩:M.YY)<=39000:=by
 have C:(⟨#[97,112,112]⟩:ByteArray).size=3:=rfl
 have:=jW (w:=M.aA.sz) (b:=10000) (xs:=l) λs j=>nQ (h s j).2.1
 refine⟨⟨s16 (s:=(⟨#[97,112,112]⟩:ByteArray)) qf,Og,⟨ml qh,λs j=>(h s j).1⟩,⟨by simp[maxLen],qe⟩⟩,?_⟩
 simp only[M.YY.sz,jO,qK,C]
 omega
theorem SS{α:Type}{b:Nat}{xs:List α}(h:xs.length<=1000000)(j:b<=1000):TO b xs=some xs:=by unfold TO;rw[if_pos (Nat.le_trans (Nat.mul_le_mul h j) qc)]
theorem Qv{b:List Int}{i h:Int}(c0:okC b i h):Dr b Tx (xP (⟨b,i,h⟩:M.aO)):=by
 unfold xP
 refine .bnd (Cb qf qf c0) λi1 v1 r1 c1 q1=>.bnd (Cb qf qf c1) λi2 v2 r2 c2 q2=> ?_
 dsimp only
 rw[SS qe qc,qA]
 have fin:∀{l:List M.aA} {i5 I:Int} {f:Int×Int×Bool->Option (Int×Int×M.YY)},l.length<=3->(∀s∈l,Nt s)->okC b i5 I->f=(λj=>if j.2.2=true then(cT (⟨b,j.1,j.2.1⟩:M.aO)).bind λC=>(iY (⟨(⟨#[97,112,112]⟩:ByteArray),1,l,([]:List M.aM)⟩:M.YY) (⟨3,(⟨#[110,111,116,101,115]⟩:ByteArray),C.2.2⟩:M.iN)).bind λaf=>some (C.1,C.2.1,af.1)else some (j.1,j.2.1,(⟨(⟨#[97,112,112]⟩:ByteArray),1,l,([]:List M.aM)⟩:M.YY)))->Dr b Tx ((cM (⟨b,i5,I⟩:M.aO) 3).bind f):=by
  intro l i5 I f hl hg c5 hf
  subst hf
  obtain⟨o1,o2⟩:=Yb hl hg
  refine .bnd (xC c5) λi6 v6 r6 U q6=> ?_
  dsimp only
  split
  ·refine .bnd (wP U) λi7 v7 r7 c7 q7=>.D9 (Uc o1 qc qf (Nat.le_trans q7 qc)) λy hy=>.ret c7 ⟨hy.1,?_⟩
   have:=hy.2
   omega
  ·exact .ret U ⟨o1,qc⟩
 refine .bnd (xC c2) λi3 v3 r3 J q3=> ?_
 dsimp only
 split
 ·refine .bnd (Cb qf qf J) λi4 v4 r4 c4 q4=> ?_
  dsimp only
  rw[As qe qc,qA]
  exact fin (l:=[r4]++[r1,r2]) qe (by simp only[qP,List.mem_cons,qO,or_false];rintro s (rfl|rfl|rfl)<;>assumption) c4 rfl
 ·exact fin (l:=[r1,r2]) qe (by simp only[List.mem_cons,qO,or_false];rintro s (rfl|rfl)<;>assumption) J rfl
theorem Th{b:List Int}{i h:Int}(c0:okC b i h):Dr b Ht (Al (⟨b,i,h⟩:M.aO)):=by
 unfold Al
 refine .bnd (aU c0) λi1 v1 r1 c1 q1=>.bnd (yM (λs=>s.size<=16) qf qf c1) λi2 v2 r2 c2 C=>.bnd (uO c2) λi3 v3 r3 J q3=> ?_
 dsimp only
 have hk:=q3.any.1
 have U:(⟨#[]⟩:ByteArray).size<=maxLen:=s16 qf
 split
 ·exact .bnd (Ac J) λi4 v4 r4 j I=>.ret j ⟨cH _,s16 C,hk,I.1,U⟩
 split
 ·exact .bnd (Ac J) λi4 v4 r4 j I=>.ret j ⟨cH _,s16 C,hk,I.1,U⟩
 split
 ·exact .bnd (wP J) λi4 v4 r4 j I=>.ret j ⟨cH _,s16 C,hk,DT,s16 (Nat.le_trans I qc)⟩
 split
 ·refine .bnd (xC J) λi4 v4 r4 j I=> ?_
  dsimp only
  split
  ·exact .bnd (uO j) λi5 v5 r5 c5 q5=>.ret c5 ⟨Og,s16 C,q5.any.1,DT,U⟩
  ·exact .ret j ⟨cH _,s16 C,KX,DT,U⟩
 ·exact .ret J ⟨cH _,s16 C,hk,DT,U⟩
def Tp(l:List M.Op):Prop:=l.length<=10/\∀o∈l,Ht o
theorem RS{b:List Int}{i h:Int}(c0:okC b i h):Dr b Tp (zJ (⟨b,i,h⟩:M.aO) 3):=by
 unfold zJ
 rw[show i64.wrap (3+1)=4 from by rw[wrap_small qc qc];rfl]
 refine .bnd (aU c0) λi1 v1 r1 c1 q1=> ?_
 obtain⟨N,rfl⟩:=xL q1.1
 have hN:=q1.2.1 qc
 refine wQ (L:=λn v (s:(List M.Op)×Int×Int)=>pA (⟨b,i,h⟩:M.aO) n v s.1 s.2.1 s.2.2) (I:=λk s=>k<=100000/\okC b s.2.1 s.2.2/\s.1.length+k<=10/\∀o∈s.1,Ht o) (Q:=Dr b Tp) (λn k s U ih=> ?_) (λn s U=> ?_) fuel N (([]:List M.Op),i1,v1) (jZ qc) ⟨qc,c1,⟨by simp only[qK];omega,qe⟩⟩
 ·obtain⟨x,ci,ch⟩:=s
  obtain⟨k0,J,j⟩:=U
  dsimp only at J j
  simp only[pA]
  rw[if_pos (Nr k),Gc k0]
  refine .bnd (Th J) λi3 v3 r3 c3 q3=> ?_
  dsimp only
  have aa:=j.1
  rw[As qt qc,qA]
  refine ih (x++[r3],i3,v3) ⟨qc,c3,qo,λo C=> ?_⟩
  rcases List.mem_append.1 C with C|C
  ·exact j.2 o C
  ·rw[List.mem_singleton.1 C];exact q3
 ·obtain⟨x,ci,ch⟩:=s;obtain⟨k0,J,j⟩:=U;dsimp only at J j;simp only[pA];rw[if_neg F4];exact .ret J ⟨by have:=j.1;omega,j.2⟩
theorem Kw{k:M.bG}{l:List M.Op}{n:Nat}(h:k.ok)(J:M.bG.sz k<=n)(I:n<=200000)(j:l.length<=1000)(C:∀o∈l,Ht o):∃x,lF k l=some x/\(x.1.ok/\M.bG.sz x.1<=n+4000):=⟨_,EZ h qc j C,(HV h).1,by have:=(HV (l:=l) h).2.1;omega⟩
def NO(k:M.bG):Prop:=k.ok/\M.bG.sz k<=70000
theorem Oq{b:List Int}{i h:Int}(c0:okC b i h):Dr b NO (wD (⟨b,i,h⟩:M.aO)):=by
 unfold wD
 refine .bnd (Qv c0) λi0 v0 d aa q0=>.bnd (aU aa) λi1 v1 r1 c1 q1=> ?_
 obtain⟨N,rfl⟩:=xL q1.1
 have hN:=q1.2.1 qc
 have hz:=q0.2
 refine wQ (L:=λn v (s:(M.bG)×Int×Int)=>lV (⟨b,i,h⟩:M.aO) n v s.1.Zf.Name s.1.Zf.Y2 s.1.Zu s.2.1 s.2.2 s.1.Zf.Y5 s.1.Zf.Za s.1.ZD) (I:=λk s=>k<=100000/\okC b s.2.1 s.2.2/\s.1.ok/\M.bG.sz s.1+4000*k<=60000) (Q:=Dr b NO) (λn k s J ih=> ?_) (λn s J=> ?_) fuel N ((⟨d,([]:List Int),0⟩:M.bG),i1,v1) (jZ qc) ⟨qc,c1,⟨⟨q0.1,⟨by simp[maxLen],qe⟩,tD⟩,by show M.YY.sz d+0+4000*N<=60000;omega⟩⟩
 ·obtain⟨x,ci,ch⟩:=s
  obtain⟨k0,C,j⟩:=J
  dsimp only at C j
  simp only[lV]
  rw[if_pos (Nr k),Gc k0]
  refine .bnd (RS C) λi3 v3 r3 c3 q3=>.D9 (Kw (k:=x) (n:=M.bG.sz x) j.1 (Nat.le_refl _) (by have:=j.2;omega) (Nat.le_trans q3.1 qc) q3.2) λy U=> ?_
  exact ih (y.1,i3,v3) ⟨qc,c3,U.1,by have:=U.2;have:=j.2;dsimp only;omega⟩
 ·obtain⟨x,ci,ch⟩:=s;obtain⟨k0,C,j⟩:=J;dsimp only at C j;simp only[lV];rw[if_neg F4];exact .ret C ⟨j.1,by have:=j.2;show M.bG.sz x<=70000;omega⟩
theorem SU{l b:List Int}{i:Int}(C:okB l)(hz:l.length<=100000)(I:∀x∈b,0<=x/\x<=255):okB (Qx l i b).1/\(Qx l i b).1.length<=l.length+4000:=by unfold Qx;split;(exact⟨C,qh⟩);split;(exact⟨C,qh⟩);·rename_i U;refine⟨⟨ml qh,λy J=> ?_⟩,qh⟩;have j:y∈PS l i b:=J;unfold PS at j;simp only[qP]at j;rcases j with h|h|h;(exact C.2 y h);(exact Bt I y h);·exact Db _ y h
def Lx(k:M.bG):Prop:=k.ok/\M.bG.sz k<=80000
theorem Q6{b:List Int}{i h:Int}(c0:okC b i h):Dr b Lx (xQ (⟨b,i,h⟩:M.aO)):=by
 unfold xQ
 refine .bnd (Oq c0) λi1 v1 U c1 j=>.bnd (aU c1) λi2 v2 r2 C q2=> ?_
 dsimp only
 have I:=j.2
 have hl:U.ZD.length<=70000:=by simp only[M.bG.sz]at I;omega
 split
 ·exact .ret C ⟨⟨j.1.Zf,j.1.ZD,cH _⟩,by simp only[M.bG.sz]at I⊢;omega⟩
 split
 ·refine .bnd (Q2 j.1.ZD qc C) λi3 v3 r3 c3 J=>.ret c3 ⟨⟨j.1.Zf,J.1,j.1.Zu⟩,?_⟩
  have:=J.2
  simp only[M.bG.sz]at I⊢
  omega
 split
 ·rw[BL qc qf,qA];obtain⟨o1,o2⟩:=SU (i:=U.Zu) (b:=[1,2]) j.1.ZD qc qf;refine .ret C ⟨⟨j.1.Zf,o1,cH _⟩,?_⟩;simp only[M.bG.sz]at I⊢;omega
 ·exact .ret C ⟨j.1,qc⟩
def wsm(w:M.aV):Prop:=w.ok/\M.aV.sz w<=32
theorem LA{d q n:Int}{k:M.Key}{f:ByteArray}(C:inI d)(U:inI q)(j:Jb k)(I:f.size<=16)(J:inI n):wsm (⟨d,q,k,f,n⟩:M.aV):=⟨⟨C,U,j.1,s16 I,J⟩,by have:=j.2;simp only[M.aV.sz,M.Key.sz];omega⟩
def obI(o:M.aF):Prop:=inI o.Zg/\inI o.Zr/\o.Y9.length<=30/\∀w∈o.Y9,wsm w
theorem obI.ok{o:M.aF}(h:obI o):o.ok:=⟨h.1,h.2.1,ml (by have:=h.2.2.1;omega),λw j=>(h.2.2.2 w j).1⟩
theorem obI.sz{o:M.aF}(h:obI o):M.aF.sz o<=1000:=by
 have C:=jW (w:=M.aV.sz) (b:=32) (xs:=o.Y9) λw j=>(h.2.2.2 w j).2
 have I:=h.2.2.1
 simp only[M.aF.sz]
 omega
theorem K3{o:M.aF}(h:oI o=true):o.Y9.length<=20:=by unfold oI at h;simp only[qM,qL]at h;exact h.2.2.2
end Go.Proofs.YtipmihbgjolaaaaGreat.gen
