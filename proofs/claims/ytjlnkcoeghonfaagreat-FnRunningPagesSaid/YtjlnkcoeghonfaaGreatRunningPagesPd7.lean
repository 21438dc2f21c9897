/-
  Helper text. No conditions.
-/
import Derived.Test.YtjlnkcoeghonfaaGreatRunningPagesPd6
set_option linter.all false
namespace Go.Proofs.YtjlnkcoeghonfaaGreat.gen
open Go Go.Sh
open Go.IntKind (i64)
theorem YP{a:ByteArray}{k:Nat}(hk:k<vD.length):(GL a==k)=(a.toList==(vD[k]).toList):=by
 have d:∀i j:Nat,(J:i<vD.length)->(C:j<vD.length)->(vD[i]).toList=(vD[j]).toList->i=j:=by
  intro i j J C h
  have e1:(⟨#[110,101,119,115]⟩:ByteArray).toList=[110,101,119,115]:=by rw[ByteArray.toList_eq]
  rw[aCd]at J C
  rcases i with _|_|_|i<;>rcases j with _|_|_|j<;>first|rfl|(omega)|(simp[vD,e1]at h)
 have U:=dM (f:=λx:ByteArray=>x.toList==a.toList) (xs:=vD)
 have I:=LH (λx:ByteArray=>x.toList==a.toList) vD
 unfold GL
 rw[jQ,beq_iff_eq,beq_iff_eq]
 constructor
 ·intro h
  have h2:vD.findIdx? (λx:ByteArray=>x.toList==a.toList)=some k:=by
   unfold kP at h
   cases e:vD.findIdx? (λx:ByteArray=>x.toList==a.toList)with
   |none=>rw[e]at h;simp only at h;omega
   |some i=>rw[e]at h;simp only at h;congr 1;omega
  have:=(List.findIdx?_eq_some_iff_getElem.1 h2).2.1
  exact(eq_of_beq this).symm
 ·intro h
  have hex:vD.any (λx:ByteArray=>x.toList==a.toList)=true:=List.any_eq_true.2 ⟨vD[k],qG hk,by rw[h];exact beq_self_eq_true _⟩
  rw[hex]at I
  obtain⟨j,e,C⟩:=U (by have:=of_decide_eq_true I;omega)
  rw[e]
  have h2:vD.findIdx? (λx:ByteArray=>x.toList==a.toList)=some j:=by
   unfold kP at e
   cases e2:vD.findIdx? (λx:ByteArray=>x.toList==a.toList)with
   |none=>rw[e2]at e;simp only at e;omega
   |some i=>rw[e2]at e;simp only at e;congr 1;omega
  have:=(List.findIdx?_eq_some_iff_getElem.1 h2).2.1
  rw[d j k C hk (by rw[eq_of_beq this,h])]
def H8(w:M.aD)(k:Nat):Bool:=(w.aLf[k]?).any λx=>EW x&&(decide (x.Id<w.aLd)&&((decide (k=0)||(w.aLf[k-1]?).any λy=>decide (y.Id<x.Id))&&decide (0<=kP (nAt x.aLa x.Top) w.aC.Buckets)))
def K1(w:M.aD)(k:Nat):Bool:=(w.aLp[k]?).any λx=>OP x&&((vD[k]?).any (λj=>x.Name.toList==j.toList)&&(w.aLh[k]?).any Jp)
def CJ(w:M.aD):Bool:=decide (w.aLp.length=3)&&(decide (w.aLh.length=3)&&(decide (w.aLf.length<=6)&&((List.range 3).all (K1 w)&&((List.range w.aLf.length).all (H8 w)&&(inR w.Now 0 999999990000&&(inR w.aLZ 1 1000000&&(sH w.aC&&(inR w.aLd 1 1000000000000&&Mg w.aLk))))))))
theorem Ep{w:M.aD}(j:M.aD.sz w<=1500000):M.aC.sz w.aC<=1500000:=by simp only[M.aD.sz]at j;omega
theorem W5{w:M.aD}(C:w.ok){E:Option Bool}(I:∀n,gL w (n+1) w.aLf.length=E):gL w aH 0=if(List.range w.aLf.length).all (H8 w)=true then E else some false:=by
 have U:=aY C.aLf.1
 refine sM (L:=gL w) (g:=H8 w) (F:=some false) (E:=E) C.aLf.1 (λn k hk=> ?_) I
 have J:=C.aLf.2 _ (qG hk)
 simp only[gL]
 rw[jE (bE hk),aM hk,qA,bL wi,F7 J,qA,oH C.aC,qA]
 unfold H8
 rw[qF hk,qf]
 have e1:decide (w.aLf[k].Id>=w.aLd)= !decide (w.aLf[k].Id<w.aLd):=by rw[jQ];simp
 have e2:decide (kP (nAt w.aLf[k].aLa w.aLf[k].Top) w.aC.Buckets<0)= !decide (0<=kP (nAt w.aLf[k].aLa w.aLf[k].Top) w.aC.Buckets):=by rw[jQ];simp
 rw[e1]
 simp only[e2]
 by_cases h0:k=0
 ·subst h0;cases EW w.aLf[0]<;>cases decide (w.aLf[0].Id<w.aLd)<;>cases decide (0<=kP (nAt w.aLf[0].aLa w.aLf[0].Top) w.aC.Buckets)<;>simp
 ·have e:i64.wrap (k-1)=((k-1:Nat)):=by rw[bQ wi wi];omega
  have j:k-1<w.aLf.length:=by omega
  have e3:decide (w.aLf[k-1].Id>=w.aLf[k].Id)= !decide (w.aLf[k-1].Id<w.aLf[k].Id):=by rw[jQ];simp
  rw[jE (c:=(decide ((k:Int)>0))=true) wX,e,aM j,qA,qF j,e3]
  simp only[qf,h0,jc]
  cases EW w.aLf[k]<;>cases decide (w.aLf[k].Id<w.aLd)<;>cases decide (w.aLf[k-1].Id<w.aLf[k].Id)<;>cases decide (0<=kP (nAt w.aLf[k].aLa w.aLf[k].Top) w.aC.Buckets)<;>simp
theorem Wp{w:M.aD}(C:w.ok){E:Option Bool}(I:∀n,iX w (n+1) w.aLf.length=E):iX w aH 0=if(List.range w.aLf.length).all (H8 w)=true then E else some false:=by
 have U:=aY C.aLf.1
 refine sM (L:=iX w) (g:=H8 w) (F:=some false) (E:=E) C.aLf.1 (λn k hk=> ?_) I
 have J:=C.aLf.2 _ (qG hk)
 simp only[iX]
 rw[jE (bE hk),aM hk,qA,bL wi,H6 J,qA,yT C.aC,qA]
 unfold H8
 rw[qF hk,qf]
 have e1:decide (w.aLf[k].Id>=w.aLd)= !decide (w.aLf[k].Id<w.aLd):=by rw[jQ];simp
 have e2:decide (kP (nAt w.aLf[k].aLa w.aLf[k].Top) w.aC.Buckets<0)= !decide (0<=kP (nAt w.aLf[k].aLa w.aLf[k].Top) w.aC.Buckets):=by rw[jQ];simp
 rw[e1]
 simp only[e2]
 by_cases h0:k=0
 ·subst h0;cases EW w.aLf[0]<;>cases decide (w.aLf[0].Id<w.aLd)<;>cases decide (0<=kP (nAt w.aLf[0].aLa w.aLf[0].Top) w.aC.Buckets)<;>simp
 ·have e:i64.wrap (k-1)=((k-1:Nat)):=by rw[bQ wi wi];omega
  have j:k-1<w.aLf.length:=by omega
  have e3:decide (w.aLf[k].Id<=w.aLf[k-1].Id)= !decide (w.aLf[k-1].Id<w.aLf[k].Id):=by rw[jQ];simp
  rw[jE (c:=(decide ((k:Int)>0))=true) wX,e,aM j,qA,qF j,e3]
  simp only[qf,h0,jc]
  cases EW w.aLf[k]<;>cases decide (w.aLf[k].Id<w.aLd)<;>cases decide (w.aLf[k-1].Id<w.aLf[k].Id)<;>cases decide (0<=kP (nAt w.aLf[k].aLa w.aLf[k].Top) w.aC.Buckets)<;>simp
theorem JA{w:M.aD}(J:w.ok)(hz:∀b∈w.aC.Buckets,M.aLS.sz b.bP.aLq<=1500000):lL w=some (CJ w):=by
 unfold lL CJ
 by_cases h1:w.aLp.length=3
 ·by_cases h2:w.aLh.length=3
  ·have e3:decide ((w.aLf.length:Int)>6)= !decide (w.aLf.length<=6):=by rw[jQ];simp;omega
   rw[jF (by rw[h1];simp),jF (by rw[h2];simp),e3,decide_eq_true h1,decide_eq_true h2]
   rw[sM (N:=3) (L:=oR w) (g:=K1 w) (F:=some false) (E:=gL w aH 0) wE (λn k hk=> ?_) (λn=> ?_),
    W5 J (E:=some (inR w.Now 0 999999990000&&(inR w.aLZ 1 1000000&&(sH w.aC&&(inR w.aLd 1 1000000000000&&Mg w.aLk))))) (λn=> ?_)]
   ·cases decide (w.aLf.length<=6)<;>cases (List.range 3).all (K1 w)<;>cases (List.range w.aLf.length).all (H8 w)<;>simp
   ·simp only[gL];rw[jF we];simp only[cK,E2 J.aC hz,L9 J.aLk,qA,bF]
   ·have j:k<w.aLp.length:=by omega
    have C:k<w.aLh.length:=by omega
    have I:k<vD.length:=by exact hk
    have U:zG=some vD:=rfl
    simp only[oR,U,qA]
    rw[jE wX,aM j,qA,bL wi,H3 (J.aLp.2 _ (qG j)),qA,aM I,qA,aM C,qA,Eu (J.aLh.2 _ (qG C)),qA]
    unfold K1
    rw[qF j,qF C,qF I]
    simp only[qf]
    generalize oR w n ((k+1:Nat))=Z
    have gen:∀(a b c:Bool),(if(!a)=true then some false else if(!b)=true then some false else if(!c)=true then some false else Z)=if(a&&(b&&c))=true then Z else some false:=by intro a b c;cases a<;>cases b<;>cases c<;>rfl
    exact gen _ _ _
   ·simp only[oR];rw[jF we]
  ·rw[jF (by rw[h1];simp),jE wX,decide_eq_false h2];simp
 grind
theorem Pf{w:M.aD}(J:w.ok)(U:∀b∈w.aC.Buckets,M.aLS.sz b.bP.aLq<=1500000):Ct w=some (CJ w):=by
 unfold Ct CJ
 have e3:decide ((w.aLf.length:Int)>6)= !decide (w.aLf.length<=6):=by rw[jQ];simp;omega
 have e1:((w.aLp.length:Int) !=3)= !decide (w.aLp.length=3):=by rw[jQ];simp;omega
 have e2:((w.aLh.length:Int) !=3)= !decide (w.aLh.length=3):=by rw[jQ];simp;omega
 simp only[bY,Ff J.aC U,LB J.aLk,e1,e2,e3]
 by_cases h1:w.aLp.length=3
 ·by_cases h2:w.aLh.length=3
  ·rw[Wp J (E:=lU w aH 0) (λn=>by
     simp only[iX]
     rw[jF we]),
    sM (N:=3) (L:=lU w) (g:=K1 w) (F:=some false) (E:=some true) wE (λn k hk=> ?_) (λn=> ?_)]
   ·rw[decide_eq_true h1,decide_eq_true h2];cases inR w.Now 0 999999990000<;>cases inR w.aLZ 1 1000000<;>cases sH w.aC<;>cases decide (w.aLf.length<=6)<;>cases inR w.aLd 1 1000000000000<;>cases Mg w.aLk<;>cases (List.range 3).all (K1 w)<;>cases (List.range w.aLf.length).all (H8 w)<;>rfl
   ·have j:k<w.aLp.length:=by omega
    have C:k<w.aLh.length:=by omega
    have I:k<vD.length:=by exact hk
    simp only[lU]
    rw[jE (bE j),aM j,qA,bL wi,HY (J.aLp.2 _ (qG j)),qA,HC,qA,aM C,qA,Ou (J.aLh.2 _ (qG C)),qA,xY,YP I]
    unfold K1
    rw[qF j,qF C,qF I]
    simp only[qf]
    generalize lU w n ((k+1:Nat))=Z
    have gen:∀(a b c:Bool),(if(!a)=true then some false else if b=true then if(!c)=true then some false else Z else some false)=if(a&&(b&&c))=true then Z else some false:=by intro a b c;cases a<;>cases b<;>cases c<;>rfl
    exact gen _ _ _
   ·simp only[lU];rw[jF (by rw[h1];simp)]
  ·rw[decide_eq_true h1,decide_eq_false h2];cases inR w.Now 0 999999990000<;>cases inR w.aLZ 1 1000000<;>cases sH w.aC<;>cases decide (w.aLf.length<=6)<;>cases inR w.aLd 1 1000000000000<;>cases Mg w.aLk<;>rfl
 ·rw[decide_eq_false h1];cases inR w.Now 0 999999990000<;>cases inR w.aLZ 1 1000000<;>cases sH w.aC<;>cases decide (w.aLf.length<=6)<;>cases inR w.aLd 1 1000000000000<;>cases Mg w.aLk<;>rfl
theorem Vc{w:M.aD}(j:M.aD.sz w<=1500000):∀b∈w.aC.Buckets,M.aLS.sz b.bP.aLq<=1500000:=λb hb=>BG (by have h1:=Ep j;have h2:=eA (f:=M.Bucket.sz) hb;simp only[M.aC.sz]at h1;omega)
theorem DM{w:M.aD}(j:w.ok)(C:M.aD.sz w<=1500000):lL w=some (CJ w):=JA j (Vc C)
theorem Hu{w:M.aD}(j:w.ok)(C:M.aD.sz w<=1500000):Ct w=some (CJ w):=Pf j (Vc C)
def okC(b:List Int)(i h:Int):Prop:=b.length<=1500000/\(∀x∈b,0<=x/\x<=255)/\0<=i/\i<=1500000/\inI h
def Dr{α:Type}(b:List Int)(P:α->Prop)(o:Option (Int×Int×α)):Prop:=∃i h r,o=some (i,h,r)/\okC b i h/\P r
theorem Dr.ret{α:Type}{b:List Int}{P:α->Prop}{i h:Int}{r:α}(hc:okC b i h)(j:P r):Dr b P (some (i,h,r)):=⟨i,h,r,rfl,hc,j⟩
theorem Dr.bnd{α β:Type}{b:List Int}{P:β->Prop}{Q:α->Prop}{o:Option (Int×Int×α)}{f:Int×Int×α->Option (Int×Int×β)}(j:Dr b Q o)(C:∀i h r,okC b i h->Q r->Dr b P (f (i,h,r))):Dr b P (o.bind f):=by obtain⟨i,h,r,rfl,hc,I⟩:=j;simp_all
theorem Dr.J9{α β:Type}{b:List Int}{P:β->Prop}{Q:α->Prop}{o:Option α}{f:α->Option (Int×Int×β)}(C:∃r,o=some r/\Q r)(j:∀r,Q r->Dr b P (f r)):Dr b P (o.bind f):=by grind
theorem Dr.mono{α:Type}{b:List Int}{P Q:α->Prop}{o:Option (Int×Int×α)}(h:∀r,P r->Q r)(C:Dr b P o):Dr b Q o:=by obtain⟨i,j,r,e,hc,I⟩:=C;exact⟨i,j,r,e,hc,h r I⟩
theorem Et{σ R:Type}{L:Nat->Int->σ->Option R}{I:Nat->σ->Prop}{Q:Option R->Prop}(h1:∀n (k:Nat) s,I (k+1) s->(∀s',I k s'->Q (L n k s'))->Q (L (n+1) ((k+1:Nat)) s))(J:∀n s,I 0 s->Q (L (n+1) 0 s)):∀(n k:Nat) (s:σ),k<n->I k s->Q (L n k s)
 |0,_,_,h,_=>by omega
 |n+1,0,s,_,j=>J n s j
 |n+1,k+1,s,h,j=>h1 n k s j λs' C=>Et h1 J n k s' wi C
theorem aB2{σ R:Type}{N:Nat}{L:Nat->Int->σ->Option R}{I:Nat->σ->Prop}{Q:Option R->Prop}(h1:∀n (k:Nat) s,k<N->I k s->(∀s',I (k+1) s'->Q (L n ((k+1:Nat)) s'))->Q (L (n+1) k s))(h2:∀n s,I N s->Q (L (n+1) N s)):∀(n k:Nat) (s:σ),N-k<n->k<=N->I k s->Q (L n k s)
 |0,_,_,h,_,_=>by omega
 |n+1,k,s,h,hk,U=>by rcases jR k N with C|J;(exact h1 n k s C U λs' j=>aB2 h1 h2 n (k+1) s' wi wi j);grind
theorem nN{k:Nat}(h:k<=9223372036854775808):k<aH:=by unfold aH;omega
theorem SO(x:BitVec IntKind.i64.bits):0<=i64.wrap ((x&&&BitVec.ofInt IntKind.i64.bits 255).toNat)/\i64.wrap ((x&&&BitVec.ofInt IntKind.i64.bits 255).toNat)<=255:=by
 have h1:(x&&&BitVec.ofInt IntKind.i64.bits 255).toNat<=255:=by exact qh Nat.and_le_right wh
 rw[bQ wi wi]
 omega
theorem Lr{b:List Int}{i h:Int}(hc:okC b i h):Dr b (λr=>0<=r/\r<=255) (yB ⟨b,i,h⟩):=by
 obtain⟨h1,h2,h3,h4,h5⟩:=hc
 unfold yB
 by_cases hl:i<b.length
 ·rw[jE (by simpa using hl)]
  obtain⟨k,rfl⟩:=jU h3
  have hk:k<b.length:=by omega
  rw[aM hk,qA]
  refine .ret ⟨h1,h2,?_,?_,bV _⟩ (SO _)
  ·rw[bL wi];omega
  ·rw[bL wi];omega
 ·rw[jF wZ];exact .ret ⟨h1,h2,h3,h4,bV _⟩ (SO _)
theorem Uq{x n:Int}(j:0<=x)(C:0<n):x%n<=x:=by have h1:=Int.emod_add_mul_ediv x n;have h2:0<=n*(x/n):=Int.mul_nonneg wi (Int.ediv_nonneg j wi);omega
theorem YE{x n:Int}(C:0<=x)(j:0<n):0<=Int.tmod x n/\Int.tmod x n<n:=by rw[Int.tmod_eq_emod_of_nonneg C];exact⟨Int.emod_nonneg _ wi,Int.emod_lt_of_pos _ j⟩
theorem bA{b:List Int}{i h n:Int}(hc:okC b i h):Dr b (λr=>0<=r/\(0<n->r<n)/\r<=16777215) (aK ⟨b,i,h⟩ n):=by
 unfold aK
 by_cases h0:n<=0
 ·rw[jE wZ];exact .ret hc ⟨wi,wi,wi⟩
 ·rw[jF wZ]
  by_cases h1:n<=256
  ·rw[jE wZ]
   refine .bnd (Lr hc) λi1 v1 j I U=> ?_
   rw[jF wX]
   have:=YE U.1 (show 0<n by omega)
   exact .ret I ⟨this.1,λ_=>this.2,wc⟩
  ·rw[jF wZ]
   refine .bnd (Lr hc) λi1 v1 j I U=>.bnd (Lr I) λi2 v2 C c2 q2=>.bnd (Lr c2) λi3 v3 J c3 q3=> ?_
   rw[jF wX]
   dsimp only
   rw[bQ (n:=j*65536) wi wi,bQ (n:=C*256) wi wi,bQ (n:=j*65536+C*256) wi wi,bQ wi wi]
   have:=YE (show 0<=j*65536+C*256+J by omega) (show 0<n by omega)
   have h3:=Int.tmod_eq_emod_of_nonneg (b:=n) (show 0<=j*65536+C*256+J by omega)
   have h4:=Uq (n:=n) (show 0<=j*65536+C*256+J by omega) (show 0<n by omega)
   exact .ret c3 ⟨this.1,λ_=>this.2,wi⟩
theorem CG{b:List Int}{i h n:Int}(hc:okC b i h):Dr b (λ_=>True) (dF ⟨b,i,h⟩ n):=by exact .bnd (bA hc) λi1 J I j C=>.ret j trivial
theorem xX{b:List Int}{i h:Int}{l:List Int}(P:Int->Prop)(J:0<l.length)(C:∀x∈l,P x)(hc:okC b i h):Dr b P (cD ⟨b,i,h⟩ l):=by
 refine .bnd (bA hc) λi1 v1 U j I=> ?_
 obtain⟨k,rfl⟩:=jU I.1
 have hk:k<l.length:=by omega
 rw[aM hk,qA]
 exact .ret j (C _ (qG hk))
theorem Fo{b:List Int}{i h:Int}{l:List ByteArray}(P:ByteArray->Prop)(J:0<l.length)(C:∀x∈l,P x)(hc:okC b i h):Dr b P (kD ⟨b,i,h⟩ l):=by
 refine .bnd (bA hc) λi1 v1 U j I=> ?_
 obtain⟨k,rfl⟩:=jU I.1
 have hk:k<l.length:=by omega
 rw[aM hk,qA]
 exact .ret j (C _ (qG hk))
theorem VW{b:List Int}:∀(n k:Nat) (v:Int),b.length-k<n->k<=b.length->b.length<=1500000->inI v->∃h,rC b n v k=some ⟨b,0,h⟩/\inI h
 |0,_,_,h,_,_,_=>by omega
 |n+1,k,v,h,hk,j,C=>by simp only[rC];by_cases h1:k<b.length;(rw[jE (bE h1)];by_cases h2:(k:Int)<4000;(rw[jE (by simpa using h2),aM h1,qA,bL wi];exact VW n (k+1) _ wi wi j (bV _));·rw[jF (by simpa using h2)];exact⟨v,rfl,C⟩);grind
theorem aC3{b:List Int}(j:b.length<=1500000)(hb:∀x∈b,0<=x/\x<=255):∃h,G4 b=some ⟨b,0,h⟩/\okC b 0 h:=by obtain⟨h,e1,e2⟩:=VW (b:=b) aH 0 (i64.wrap (193017+(b.length))) (nN wi) wi j (bV _);exact⟨h,e1,j,hb,wi,wi,e2⟩
theorem Dw{r:Int}(h:0<=r):∃k:Nat,r=k:=⟨r.toNat,wi⟩
theorem Oa{n:Int}(h1: -1000000000000000<=n)(h2:n<=1000000000000000):inI n:=by unfold inI;omega
theorem Ia{s:ByteArray}(h:s.size<=8):s.size<=maxLen:=by unfold maxLen;omega
theorem mO{n:Int}(h1: -1000000000000000<=n)(h2:n<=1000000000000000):i64.wrap n=n:=bQ wi wi
theorem Lk{b:List Int}{i h:Int}(hc:okC b i h):Dr b (λs=>s.size<=8) (uC ⟨b,i,h⟩):=by exact .bnd (Fo (λs=>s.size<=8) wh wh hc) λi1 J I j C=>.ret j C
theorem Tp{b:List Int}{i h:Int}(hc:okC b i h):Dr b (λs=>s.size<=8) (Cz ⟨b,i,h⟩):=by exact .bnd (Fo (λs=>s.size<=8) wh wh hc) λi1 J I j C=>.ret j C
theorem Dj{b:List Int}{i h:Int}(hc:okC b i h):Dr b (λs=>s.size<=8) (eK ⟨b,i,h⟩):=by exact .bnd (Fo (λs=>s.size<=8) wh wh hc) λi1 J I j C=>.ret j C
theorem Dp{a:ByteArray}:tW a=some (GL a):=by unfold tW;rw[show zG=some vD from rfl,qA];rw[pI (L:=rN a vD) (f:=λx:ByteArray=>x.toList==a.toList) (A:=λi=>some (i:Int)) (E:=some (-1)) Ql (λm k hk=> ?_) (λm=> ?_),uQ];(rfl);(have j:k<3:=hk;simp only[rN];rw[jE (bE hk),aM hk,qA,bL wi]);rfl
def Xj(d:Int):M.aD:=if 1<=d/\d<=1000000 then⟨0,true,d,⟨[]⟩,[],1,⟨[]⟩,⟨[]⟩,
   vD.map (λx=>⟨x,1,[⟨#[99,111,100,101]⟩,⟨#[100,97,116,97]⟩,⟨#[105,110,100,101,120]⟩,⟨#[115,116,121,108,101]⟩],x.toList==(⟨#[110,101,119,115]⟩:ByteArray).toList⟩),
   vD.map (λ_=>⟨⟨⟨#[110,111,116,101,115]⟩,[],0⟩,[],[]⟩)⟩
  else⟨0,false,0,⟨[]⟩,[],0,⟨[]⟩,⟨[]⟩,[],[]⟩
theorem O8{d:Int}:CS d=some (Xj d):=by unfold CS Xj bG;by_cases h:1<=d/\d<=1000000;(rw[jE h,jE (by simpa using h.1),qA,jF (by simpa using h.2)];rfl);grind
theorem Zj{l:List M.bO}{f:Int}(j:l.length<=maxLen):DW l f=some (kP (λp:M.bO=>p.Id==f) l):=by have C:=aY j;unfold DW;rw[pI (L:=sS l f) (f:=λp:M.bO=>p.Id==f) (A:=λi=>some (i:Int)) (E:=some (-1)) j (λm k hk=> ?_) (λm=> ?_),uQ];(simp only[sS];rw[jE (bE hk),aM hk,qA,bL wi]);·simp only[sS];rw[jF we]
def G0(w:M.aD)(f:Int):Int:=kP (λp:M.bO=>p.Id==f) w.aLf
theorem D3{w:M.aD}{f:Int}(j:w.ok):rZ w f=some (G0 w f):=by unfold rZ;rw[Zj j.aLf.1,qA];rfl
theorem D5{w:M.aD}{f:Int}(j:w.ok):AE w f=some (G0 w f):=by unfold AE;rw[N3 (p:=λC=>A3 C f) (f:=λp:M.bO=>p.Id==f) j.aLf.1 (λx _=>rfl),qA];rfl
theorem aEC{b:List Int}{i1 J:Int}{I:ByteArray}(c1:okC b i1 J)(q1:I.size<=8):∃r:ByteArray×Int×Int,((dF ⟨b,i1,J⟩ 3).bind λj=>if j.2.2=true then(uC ⟨b,j.1,j.2.1⟩).bind λC=>some (C.2.2,C.1,C.2.1)else some (I,j.1,j.2.1))=some r/\(r.1.size<=8/\okC b r.2.1 r.2.2):=by obtain⟨i2,v2,r2,e2,U,q2⟩:=CG (n:=3) c1;rw[e2,qA];split;(obtain⟨i3,v3,r3,e3,c3,q3⟩:=Lk U;rw[e3,qA];exact⟨_,rfl,q3,c3⟩);simp_all
theorem Xc(k:Nat):(decide (((k+1:Nat):Int)>0))=true:=decide_eq_true wi
theorem SY:¬(decide ((0:Int)>0))=true:=by simp
theorem NY{k:Nat}(h:k+1<=100000):i64.wrap (((k+1:Nat))-1)=k:=by rw[mO wi wi];omega
theorem bgI{x:Int}(h: -1000000000000000<=x/\x<=1000000000000000):inI x:=Oa h.1 h.2
theorem aAC{r n:Int}(q:0<=r/\(0<n->r<n)/\r<=16777215): -1000000000000000<=r/\r<=1000000000000000:=⟨wi,wi⟩
theorem aHw{x:Int}(q: -1000000000000<=x/\x<=1000000000000/\(x<=256\/x=1000000000000)): -1000000000000000<=x/\x<=1000000000000000:=⟨wi,wi⟩
theorem aKl{r n:Int}(q:0<=r/\(0<n->r<n)/\r<=16777215)(j:0<n)(h:n<=1000):0<=r/\r<=1000:=⟨q.1,wi⟩
theorem s16{s:ByteArray}(h:s.size<=16):s.size<=maxLen:=by unfold maxLen;omega
theorem ml{n:Nat}(h:n<=1000000):n<=maxLen:=by unfold maxLen;omega
theorem DY{α:Type}{b:Nat}{xs ys:List α}(h:xs.length+ys.length<=1000000)(hb:b<=1000):app b xs ys=some (xs++ys):=dN (qh (Nat.mul_le_mul h hb) wi)
def RF(k:M.bD):Prop:=M.bD.ok k/\k.aLu.size<=16
theorem mkKey{a n:Int}{s:ByteArray}(h1: -1000000000000000<=a/\a<=1000000000000000)(h2: -1000000000000000<=n/\n<=1000000000000000)(h3:s.size<=16):RF ⟨a,n,s⟩:=⟨⟨bgI h1,bgI h2,s16 h3⟩,h3⟩
def UG(k:M.bD):Prop:=k.aLn=1/\0<=k.N/\k.N<=5/\k.aLu=⟨#[]⟩
theorem UG.any{k:M.bD}(h:UG k):RF k:=by obtain⟨a,n,s⟩:=k;obtain⟨h1,h2,h3,h4⟩:=h;dsimp only at h1 h2 h3 h4;subst h4;exact mkKey wi wi wh
def Rg(k:M.bD):Prop:=RF k/\(k.aLn=1->k.N<=256\/k.N=1000000000000)
theorem UG.auto{k:M.bD}(h:UG k):Rg k:=⟨h.any,λ_=>.inl (by have:=h.2.2.1;omega)⟩
theorem Ci{b:List Int}{i h:Int}(j:okC b i h):Dr b UG (fI ⟨b,i,h⟩):=by
 refine .bnd (bA j) λi1 U J C I=> ?_
 exact .ret C ⟨rfl,I.1,wc,rfl⟩
theorem QQ{b:List Int}{i h:Int}(j:okC b i h):Dr b (λx=> -1000000000000<=x/\x<=1000000000000/\(x<=256\/x=1000000000000)) (CP ⟨b,i,h⟩):=by
 refine .bnd (bA j) λi1 v1 r1 C q1=> ?_
 exact .bnd (xX (λx=> -1000000000000<=x/\x<=1000000000000/\(x<=256\/x=1000000000000)) we (λx J=>by simp only[qq,qO,or_false]at J;omega) C) λi2 v2 r2 I U=>.ret I U
theorem Zi{b:List Int}{i h:Int}(U:okC b i h):Dr b Rg (FJ ⟨b,i,h⟩):=by
 refine .bnd (Fo (λs=>s.size<=16) wh wh U) λi1 v1 r1 c1 J=>.bnd (bA c1) λi2 v2 r2 C q2=> ?_
 split
 ·exact .ret C ⟨mkKey wi wi J,λh=>by simp⟩
 split
 ·exact .bnd (QQ C) λi3 v3 r3 I j=>.ret I ⟨mkKey wi (aHw j) J,λh=>by have h':(3:Int)=1:=h;omega⟩
 ·exact .bnd (QQ C) λi3 v3 r3 I j=>.ret I ⟨mkKey wi (aHw j) wh,λ_=>j.2.2⟩
theorem T9{b:List Int}{i h:Int}(c0:okC b i h):Dr b RF (Eh ⟨b,i,h⟩):=by
 refine .bnd (Zi c0) λi1 v1 r1 c1 q1=>.bnd (bA c1) λi2 v2 r2 I q2=> ?_
 have hk:=q1.1
 split
 ·exact .bnd (bA I) λi3 U J C j=>.ret C ⟨⟨bgI (aAC j),hk.1.N,hk.1.aLu⟩,hk.2⟩
 split
 ·exact .bnd (xX (λx=> -1000000000000000<=x/\x<=1000000000000000) wh wh I) λi3 U J C j=>.ret C ⟨⟨hk.1.aLn,bgI j,hk.1.aLu⟩,hk.2⟩
 split
 ·exact .bnd (Fo (λs=>s.size<=16) wh wh I) λi3 U J C j=>.ret C ⟨⟨hk.1.aLn,hk.1.N,s16 j⟩,j⟩
 ·exact .ret I hk
def OB(r:M.aF):Prop:=r.ok/\cT r=true
theorem Zd{r:M.aF}{a:ByteArray}{n:Int}(h:OB r)(j:a.size<=16)(C: -1000000000000000<=n/\n<=1000000000000000):∃x,iS r a n=some x/\OB x.1:=by
 have J:=IE h.2
 have I:r.aLY.length<=1073741824:=by simp only[M.aF.sz]at J;omega
 exact⟨_,CR h.1 wi (s16 j) (bgI C),Mq h.1 I (s16 j) (bgI C),Vm h.2 _ _⟩
theorem aDN:OB ⟨[]⟩:=⟨Ji,Ij⟩
theorem Gq{b:List Int}{i h:Int}(c0:okC b i h):Dr b OB (pT ⟨b,i,h⟩):=by
 refine .bnd (bA c0) λi1 v1 r1 c1 q1=> ?_
 obtain⟨N,rfl⟩:=Dw q1.1
 refine Et (L:=λn v (s:(M.aF)×Int×Int)=>vJ ⟨b,i,h⟩ n v s.2.1 s.2.2 s.1.aLY) (I:=λk s=>k<=100000/\okC b s.2.1 s.2.2/\OB s.1) (Q:=Dr b OB) (λn k s j ih=> ?_) (λn s j=> ?_) aH N (⟨[]⟩,i1,v1) (nN wi) ⟨wi,c1,aDN⟩
 ·obtain⟨U,C,J⟩:=j
  simp only[vJ]
  rw[jE (Xc k),NY U]
  refine .bnd (Dj C) λi3 v3 r3 c3 q3=>.bnd (bA c3) λi4 v4 r4 c4 q4=>.J9 (Zd J (qh q3 wi) (aAC q4)) λy hy=> ?_
  exact ih (y.1,i4,v4) ⟨wi,c4,hy⟩
 ·obtain⟨U,C,J⟩:=j;exact .ret C J
theorem aCl{r:M.aF}{a:ByteArray}{n:Int}(h:OB r)(C:a.size<=16)(I: -1000000000000000<=n/\n<=1000000000000000):M.aF.ok ⟨r.aLY++[⟨a,n⟩]⟩/\M.aF.sz ⟨r.aLY++[⟨a,n⟩]⟩<=200:=by have J:=IE h.2;simp only[M.aF.sz]at J⊢;refine⟨⟨ml wc,λy j=> ?_⟩,?_⟩;(rcases qP.1 j with j|j;(exact h.1.aLY.2 y j);·rw[qQ.1 j];exact⟨s16 C,bgI I⟩);·rw[yY];simp only[dV,M.aR.sz,qE,qJ,qK];omega
def Vs(r:M.aF):Prop:=r.ok/\M.aF.sz r<=200
theorem OB.any{r:M.aF}(h:OB r):Vs r:=⟨h.1,by have:=IE h.2;omega⟩
theorem aCT{b:List Int}{i h:Int}(U:okC b i h):Dr b Vs (Hh ⟨b,i,h⟩):=by
 refine .bnd (Gq U) λi1 v1 J c1 j=>.bnd (bA c1) λi2 v2 r2 C q2=> ?_
 have hz:=IE j.2
 have hl:J.aLY.length<=100:=by simp only[M.aF.sz]at hz;omega
 split
 ·refine .bnd (Fo (λs=>s.size<=16) wh wh C) λi3 v3 r3 c3 q3=>.bnd (xX (λx=> -1000000000000000<=x/\x<=1000000000000000) wh wh c3) λi4 v4 r4 c4 q4=> ?_
  rw[DY wc wi,qA]
  exact .ret c4 (aCl j q3 q4)
 split
 ·have key:∀(n k:Nat) (r:M.aF),6-k<n->k<=6->OB r->Dr b Vs (yV (i2,v2,r2) n k r.aLY):=by
   intro n
   induction n with
   |zero=>simp
   |succ n ih=>
    intro k r h hk I
    simp only[yV]
    rcases jR k 6 with h6|h6
    ·have e:∃s,idx ([⟨#[100]⟩,⟨#[101]⟩,⟨#[102]⟩,⟨#[103]⟩,⟨#[104]⟩,(⟨#[105]⟩:ByteArray)]) k=some s/\s.size<=16:=by
      have:k=0\/k=1\/k=2\/k=3\/k=4\/k=5:=by omega
      rcases this with rfl|rfl|rfl|rfl|rfl|rfl<;>exact⟨_,rfl,wh⟩
     rw[jE (bE h6)]
     refine .J9 e λs hs=>.J9 (Zd I hs wi) λy hy=> ?_
     rw[bL wi]
     exact ih (k+1) y.1 wi wi hy
    ·have:k=6:=by omega
     subst this
     exact .ret C I.any
  exact key aH 0 J (nN wi) wi j
 ·exact .ret C j.any
def aBq(s:M.aE):Prop:=s.aLx<=256/\∀x∈s.aLV,x.Key.aLn=1->x.Key.N<=s.aLx\/x.Key.N=1000000000000
def Xh(s:M.aE):Prop:=s.ok/\kB s=true/\aBq s
theorem aAs{s:M.aE}{k:M.bD}{r:M.aF}(C:aBq s)(hk:Rg k):aBq (EX s k r).1:=by
 have J:s.aLx<=L4 s k/\L4 s k<=256/\(k.aLn=1->k.N<=L4 s k\/k.N=1000000000000):=by obtain⟨a1,a2⟩:=C;have a3:=hk.2;unfold L4;grind
 unfold EX
 split
 ·split;(split;(split;(refine⟨J.2.1,λx I h1=> ?_⟩;have j:x∈s.aLV.take (Fl s.aLV k)++([⟨k,r⟩]++s.aLV.drop (Fl s.aLV k)):=I;simp only[qP,qQ]at j;show x.Key.N<=L4 s k\/_;rcases j with j|rfl|j;(have:=C.2 x (qk j) h1;omega);(simp_all);·have:=C.2 x (qv j) h1;omega);·exact C);·unfold Ro;refine⟨C.1,?_⟩;split;(rename_i y U;intro x I h1;rcases jD I with I|rfl;(exact C.2 x I h1);·exact C.2 y (jC U) h1);·exact C.2);·exact C
 ·exact C
theorem Zl{s:M.aE}{k:M.bD}{r:M.aF}(C:Xh s)(hk:Rg k)(j:OB r):∃x,fG s k r=some x/\Xh x.1:=by
 have J:=uZ C.2.1
 have I:s.aLV.length<=1073741824:=by simp only[M.aE.sz]at J;omega
 refine⟨_,Cw C.1 hk.1.1 j.1 j.2 wi (qh (IE j.2) wi),Ra C.1 I hk.1.1 j.1,?_,aAs C.2.2 hk⟩
 cases h2:(EX s k r).2 with
 |true=>exact Hv j.2 h2
 |false=>rw[M5 h2];exact C.2.1
theorem aBY{a:ByteArray}(C:pS a=true)(j:a.size<=16):Xh ⟨a,[],0⟩:=⟨⟨s16 j,⟨we,we⟩,zV⟩,by unfold kB;simp[C,inR],we,we⟩
theorem Jn{b:List Int}{i h:Int}{a:ByteArray}(hn:pS a=true)(ha:a.size<=16)(c0:okC b i h):Dr b Xh (yF ⟨b,i,h⟩ a):=by
 refine .bnd (xX (λx=>0<=x/\x<=6) wh wh c0) λi1 v1 r1 c1 q1=> ?_
 obtain⟨N,rfl⟩:=Dw q1.1
 refine Et (L:=λn v (s:(M.aE)×Int×Int)=>yL ⟨b,i,h⟩ n v s.1.Name s.1.aLx s.2.1 s.2.2 s.1.aLV) (I:=λk s=>k<=100000/\okC b s.2.1 s.2.2/\Xh s.1) (Q:=Dr b Xh) (λn k s U ih=> ?_) (λn s U=> ?_) aH N (⟨a,[],0⟩,i1,v1) (nN wi) ⟨wi,c1,aBY hn ha⟩
 ·obtain⟨k0,k1,C⟩:=U
  simp only[yL]
  rw[jE (Xc k),NY k0]
  refine .bnd (Ci k1) λi3 v3 r3 j q3=>.bnd (Gq j) λi4 v4 r4 J q4=>.J9 (Zl C q3.auto q4) λy hy=> ?_
  exact ih (y.1,i4,v4) ⟨wi,J,hy⟩
 ·obtain⟨k0,k1,C⟩:=U
  refine .bnd (CG k1) λi3 v3 r3 j q3=> ?_
  split
  ·exact .bnd (Zi j) λi4 v4 r4 J q4=>.bnd (Gq J) λi5 v5 r5 c5 q5=>.J9 (Zl C q4 q5) λy hy=>.ret c5 hy
  ·exact .ret j C
def QM(s:M.aE):Prop:=s.ok/\M.aE.sz s<=20000
theorem Xh.any{s:M.aE}(h:Xh s):QM s:=⟨h.1,by have:=uZ h.2.1;omega⟩
def aAn(s:M.aE):Prop:=s.aLx<=256+s.aLV.length/\∀x∈s.aLV,x.Key.aLn=1->x.Key.N<=s.aLx\/x.Key.N=1000000000000
theorem XL{s:M.aE}(h1:s.ok)(h2:kB s=true)(h3:aAn s)(hl:s.aLV.length<16):∃x,CM s ⟨[]⟩=some x/\x.1.ok/\kB x.1=true/\aAn x.1/\x.1.aLV.length=s.aLV.length+1:=by
 obtain⟨_,_,_,h0,_⟩:=B2 h2
 obtain⟨a1,a2⟩:=h3
 have ew:i64.wrap (s.aLx+1)=s.aLx+1:=mO wi wi
 have hz:=uZ h2
 have hkey:EZ ⟨1,s.aLx+1,⟨#[]⟩⟩=true:=by
  unfold EZ inR
  have e:PQ ⟨#[]⟩=true:=by decide
  simp[e]
  omega
 have J:kP (zK ⟨1,s.aLx+1,⟨#[]⟩⟩) s.aLV<0:=Classical.byContradiction λhn=>by obtain⟨j,ej,hj⟩:=dM hn;obtain⟨_,I⟩:=CC ej;unfold zK at I;grind
 have hk:M.bD.ok ⟨1,s.aLx+1,⟨#[]⟩⟩:=(mkKey wi wi wh).1
 have e:=Kq h1 hk Ji Ij wi (by simp[M.aF.sz,dV])
 have C:EX s ⟨1,s.aLx+1,⟨#[]⟩⟩ ⟨[]⟩=(Q3 s ⟨1,s.aLx+1,⟨#[]⟩⟩ ⟨[]⟩,true):=by unfold EX;rw[jE h2,jE hkey,jE J,jE hl]
 have U:=Hv (s:=s) (k:=⟨1,s.aLx+1,⟨#[]⟩⟩) Ij (by rw[C])
 rw[C]at U
 have en:QT s ⟨1,s.aLx+1,⟨#[]⟩⟩ ⟨[]⟩=(Q3 s ⟨1,s.aLx+1,⟨#[]⟩⟩ ⟨[]⟩,true):=by unfold QT;rw[jE J,C]
 have ea:L4 s ⟨1,s.aLx+1,⟨#[]⟩⟩=s.aLx+1:=by unfold L4;rw[jE wX]
 rw[en]at e
 refine⟨(Q3 s ⟨1,s.aLx+1,⟨#[]⟩⟩ ⟨[]⟩,⟨1,s.aLx+1,⟨#[]⟩⟩,true),?_,?_,U,?_,?_⟩
 ·unfold CM;rw[jF wX,ew,e,qA,jF we]
 ·exact Us _ h1 wi hk Ji (by exact bgI wi)
 ·unfold Q3 aAn;grind
 ·unfold Q3;grind
theorem aCW{s:M.aE}{k:M.bD}{r:M.aF}(C:Xh s)(hk:RF k)(I:Vs r):QM ⟨s.Name,s.aLV++[⟨k,r⟩],s.aLx⟩:=by have J:=uZ C.2.1;have h1:=hk.2;have h2:=I.2;refine⟨⟨C.1.Name,⟨?_,λy j=> ?_⟩,C.1.aLx⟩,?_⟩;(simp only[M.aE.sz]at J;exact ml wc);(rcases qP.1 j with j|j;(exact C.1.aLV.2 y j);·rw[qQ.1 j];exact⟨hk.1,I.1⟩);·simp only[M.aE.sz]at J⊢;rw[yY];simp only[dV,M.aLo.sz,M.bD.sz,qE,qJ,qK];omega
theorem YC{b:List Int}{i h:Int}(c0:okC b i h):Dr b QM (FE ⟨b,i,h⟩):=by
 refine .bnd (Jn wh wh c0) λi1 v1 r1 c1 j=>.bnd (bA c1) λi2 v2 r2 I q2=> ?_
 have hz:=uZ j.2.1
 have hl:r1.aLV.length<=10000:=by simp only[M.aE.sz]at hz;omega
 split
 ·refine .bnd (Fo (λs=>s.size<=16) wh wh I) λi3 v3 r3 J U=>.ret J ⟨⟨s16 U,j.1.aLV,j.1.aLx⟩,?_⟩
  simp only[M.aE.sz]at hz⊢
  omega
 split
 ·exact .bnd (xX (λx=> -1000000000000000<=x/\x<=1000000000000000) wh wh I) λi3 v3 r3 J U=>.ret J ⟨⟨j.1.Name,j.1.aLV,bgI U⟩,qh hz wi⟩
 split
 ·refine .bnd (T9 I) λi3 v3 r3 J U=>.bnd (aCT J) λi4 v4 r4 c4 q4=> ?_
  rw[DY wc wi,qA]
  exact .ret c4 (aCW j U q4)
 split
 ·have key:∀(n:Nat) (s:M.aE),16-s.aLV.length<n->s.ok->kB s=true->aAn s->Dr b QM (BT (i2,v2,r2) n s.Name s.aLx s.aLV):=by
   intro n
   induction n with
   |zero=>simp
   |succ n ih=>
    intro s h hs C hj
    have hm:=uZ C
    simp only[BT]
    rcases jR s.aLV.length 16 with h6|h6
    ·rw[jE wX,show⟨s.Name,s.aLV,s.aLx⟩=s from rfl,CE hs,qA,C,jE rfl]
     refine .J9 (XL hs C hj h6) λy hy=> ?_
     grind
    ·rw[jF wX];exact .ret I ⟨hs,by show M.aE.sz s<=_;omega⟩
  exact key aH r1 (nN wi) j.1 j.2.1 ⟨by have:=j.2.2.1;omega,j.2.2.2⟩
 ·exact .ret I j.any
theorem Ti{b:List Int}{i h n:Int}(hn:0<=n/\n<=1000)(c0:okC b i h):Dr b (λl=>okB l/\l.length<=1000) (DS ⟨b,i,h⟩ n):=by
 obtain⟨N,rfl⟩:=Dw hn.1
 refine aB2 (N:=N) (L:=λm v s=>tU ⟨b,i,h⟩ N m v s.1 s.2.1 s.2.2) (I:=λk s=>okC b s.2.1 s.2.2/\s.1.length=k/\∀x∈s.1,0<=x/\x<=255) (Q:=Dr b (λl=>okB l/\l.length<=1000)) (λm k s hk J ih=> ?_) (λm s J=> ?_) aH 0 ([],i,h) (nN wi) wi ⟨c0,rfl,we⟩
 ·obtain⟨l,ci,ch⟩:=s
  obtain⟨C,U,k3⟩:=J
  simp only[tU]
  rw[jE (bE hk)]
  refine .bnd (Lr C) λi3 v3 r3 c3 q3=> ?_
  rw[DY wc wi,qA,bL wi]
  refine ih (l++[_],i3,v3) ⟨c3,by simp[U],λx j=> ?_⟩
  rcases qP.1 j with j|j
  ·simp_all
  ·rw[qQ.1 j,wrap_u8];omega
 ·obtain⟨l,ci,ch⟩:=s;obtain⟨C,U,k3⟩:=J;dsimp only at C U k3;simp only[tU];rw[jF we];exact .ret C ⟨⟨ml wi,k3⟩,wi⟩
theorem aA2{b l:List Int}{i h:Int}(C:okB l)(hz:l.length<=100000)(c0:okC b i h):Dr b (λr=>okB r/\r.length<=l.length+1) (ER ⟨b,i,h⟩ l):=by
 unfold ER
 rw[IP wi wi,qA]
 refine .bnd (bA c0) λi1 v1 r1 I q1=> ?_
 split
 ·split
  ·rename_i hp
   refine .bnd (bA I) λi2 v2 r2 J U=>.bnd (bA J) λi3 v3 r3 c3 q3=> ?_
   have hp':0<(l.length:Int):=by simpa using hp
   obtain⟨k,rfl⟩:=Dw U.1
   rw[aM wi,qA]
   refine .ret c3 ⟨⟨by rw[qN];exact C.1,λx j=> ?_⟩,by rw[qN];omega⟩
   rcases jD j with j|rfl
   ·exact C.2 x j
   ·rw[wrap_u8];omega
  ·exact .ret I ⟨C,wi⟩
 split
 ·refine .bnd (bA I) λi2 v2 r2 J U=> ?_
  have hw:i64.wrap (l.length+1)=l.length+1:=mO wi wi
  obtain⟨k,rfl⟩:=Dw U.1
  rw[FT wi,qA,qH]
  exact .ret J ⟨⟨by have:=C.1;rw[qV];omega,λx j=>C.2 x (qk j)⟩,wR⟩
 split
 ·refine .bnd (xX (λ_=>True) wh (λ_ _=>trivial) I) λi2 v2 r2 J U=> ?_
  rw[DY wc wi,qA]
  refine .ret J ⟨⟨ml wc,λx j=> ?_⟩,we⟩
  rcases qP.1 j with j|j
  ·exact C.2 x j
  ·rw[qQ.1 j,wrap_u8];omega
 ·exact .ret I ⟨C,wi⟩
def aBd(x:M.aLb):Prop:=x.ok/\x.aMN.length<=1000
theorem LS{b:List Int}{i h:Int}(J:okC b i h):Dr b aBd (AW ⟨b,i,h⟩):=by
 refine .bnd (bA J) λi1 v1 r1 U q1=>.bnd (bA U) λi2 v2 r2 c2 q2=>.bnd (bA c2) λi3 v3 r3 c3 q3=>.bnd (Ti (aKl q3 wi wi) c3) λi4 v4 r4 c4 j=>.bnd (CG c4) λi5 v5 r5 c5 q5=>.bnd (bA c5) λi6 v6 r6 C q6=> ?_
 split
 ·exact .bnd (xX (λx=> -1000000000000000<=x/\x<=1000000000000000) wh wh C) λi7 v7 r7 c7 q7=>.ret c7 ⟨⟨bgI q7,bgI we,bV _,j.1⟩,j.2⟩
 split
 ·exact .bnd (xX (λx=> -1000000000000000<=x/\x<=1000000000000000) wh wh C) λi7 v7 r7 c7 q7=>.ret c7 ⟨⟨bV _,bgI q7,bV _,j.1⟩,j.2⟩
 split
 ·exact .bnd (xX (λx=>0<=x/\x<=1000) wh wh C) λi7 v7 r7 c7 q7=>.bnd (Ti q7 c7) λi8 v8 r8 c8 I=>.ret c8 ⟨⟨bV _,bgI we,bV _,I.1⟩,I.2⟩
 ·exact .ret C ⟨⟨bV _,bgI we,bV _,j.1⟩,j.2⟩
def FZ(s:M.aJ):Prop:=s.ok/\M.aJ.sz s<=65536
theorem Rh{s:M.aJ}{v:Int}(h:FZ s)(j:inI v):∃x,sD s v=some x/\FZ x.1:=by
 have I:=h.2
 refine⟨_,N2 h.1 j wi,YD h.1 j wi,?_⟩
 cases h2:(Ko s v).2 with
 |true=>exact Nq (WD h2)
 |false=>
  have e:(Ko s v).1=s:=by unfold Ko at h2⊢;split at h2;(cases h2);·rename_i C;rw[jF C]
  rw[e];exact h.2
theorem ZP{s:M.aJ}{v:Int}{a p:ByteArray}{x:M.aLb}(h:FZ s)(J:a.size<=16)(U:p.size<=16)(I:aBd x):∃y,rM s v a p x=some y/\FZ y.1:=by
 have hz:=h.2
 have hx2:=I.2
 refine⟨_,Ka h.1 wi (s16 J) (s16 U) I.1 (by simp only[M.aLb.sz];omega),aAd h.1 wi (s16 J) (s16 U) I.1,?_⟩
 cases h2:(PL s v a p x).2 with
 |true=>exact Nq (Xw h2)
 |false=>
  have e:(PL s v a p x).1=s:=by unfold PL at h2⊢;split at h2;(rename_i j;rw[jE j]);·rename_i j;rw[jF j];split at h2;(cases h2);·rename_i C;rw[jF C]
  rw[e];exact h.2
theorem YU:FZ ⟨[]⟩:=⟨⟨⟨we,we⟩⟩,by simp[M.aJ.sz,dV]⟩
theorem Zw{b:List Int}{i h:Int}{N:Nat}(hN:N<=10){i1 U:Int}(c1:okC b i1 U){s:M.aJ}(hs:FZ s):Dr b FZ (xH ⟨b,i,h⟩ aH N i1 U s.aLW):=by
 refine Et (L:=λn v s=>xH ⟨b,i,h⟩ n v s.2.1 s.2.2 s.1.aLW) (I:=λk s=>k<=100000/\okC b s.2.1 s.2.2/\FZ s.1) (Q:=Dr b FZ) (λn k s j ih=> ?_) (λn s j=> ?_) aH N (s,i1,U) (nN wi) ⟨wi,c1,hs⟩
 ·obtain⟨k0,C,J⟩:=j
  simp only[xH]
  rw[jE (Xc k),NY k0]
  refine .bnd (bA C) λi3 v3 r3 c3 q3=>.bnd (Lk c3) λi4 v4 r4 c4 q4=>.bnd (Tp c4) λi5 v5 r5 c5 q5=>.bnd (LS c5) λi6 v6 r6 c6 q6=>.J9 (ZP J (qh q4 wi) (qh q5 wi) q6) λy hy=> ?_
  exact ih (y.1,i6,v6) ⟨wi,c6,hy⟩
 ·obtain⟨k0,C,J⟩:=j;exact .ret C J
theorem aAH{b:List Int}{i h:Int}(c0:okC b i h):Dr b FZ (F8 ⟨b,i,h⟩):=by
 refine .bnd (bA c0) λi1 v1 r1 c1 q1=> ?_
 obtain⟨N,rfl⟩:=Dw q1.1
 refine Et (L:=λn v s=>Ai ⟨b,i,h⟩ n v s.2.1 s.2.2 s.1.aLW) (I:=λk s=>k<=100000/\okC b s.2.1 s.2.2/\FZ s.1) (Q:=Dr b FZ) (λn k s C ih=> ?_) (λn s C=> ?_) aH N (⟨[]⟩,i1,v1) (nN wi) ⟨wi,c1,YU⟩
 ·obtain⟨k0,J,U⟩:=C
  simp only[Ai]
  rw[jE (Xc k),NY k0]
  refine .bnd (bA J) λi3 v3 r3 j q3=>.J9 (Rh U (bV _)) λy hy=> ?_
  exact ih (y.1,i3,v3) ⟨wi,j,hy⟩
 ·obtain⟨k0,J,U⟩:=C
  refine .bnd (bA J) λi3 v3 r3 j q3=> ?_
  obtain⟨M,rfl⟩:=Dw q3.1
  exact Zw wi j U
def Se(s:M.aJ):Prop:=s.ok/\M.aJ.sz s<=70000
theorem FZ.all{s:M.aJ}(h:FZ s):Se s:=⟨h.1,by have:=h.2;omega⟩
theorem Z1{b:List Int}{i h:Int}(c0:okC b i h):Dr b Se (Gc ⟨b,i,h⟩):=by
 refine .bnd (aAH c0) λi1 v1 r1 c1 I=>.bnd (bA c1) λi2 v2 r2 J q2=> ?_
 have C:=I.2
 simp only[M.aJ.sz]at C
 split
 ·refine .bnd (xX (λx=> -1000000000000000<=x/\x<=1000000000000000) wh wh J) λi3 v3 r3 c3 q3=> ?_
  rw[DY wc wi,qA]
  refine .ret c3 ⟨⟨⟨ml wc,λy j=> ?_⟩⟩,?_⟩
  ·rcases qP.1 j with j|j;(exact I.1.aLW.2 y j);·rw[qQ.1 j];exact⟨bgI q3,⟨we,we⟩⟩
  ·simp only[M.aJ.sz];rw[yY];simp only[dV,M.aLi.sz,qE,qJ,qK];omega
 split
 ·split
  ·cases hc:r1.aLW with
   |nil=>simp_all
   |cons U xs=>
    have hx0:U∈r1.aLW:=by rw[hc];simp
    have ho:=I.1.aLW.2 U hx0
    rw[hc]at C
    simp only[dV,M.aLi.sz,qJ]at C
    refine .bnd (Fo (λs=>s.size<=16) wh wh J) λi3 v3 r3 c3 q3=>.bnd (LS c3) λi4 v4 r4 c4 q4=> ?_
    rw[DY wA wi,qA]
    have aa:=q4.2
    refine .ret c4 ⟨⟨⟨ml (by rw[qN,qJ];omega),λy j=> ?_⟩⟩,?_⟩
    ·rcases jD j with j|rfl;(exact I.1.aLW.2 y (by rw[hc];exact j));·refine⟨ho.aLT,ml jv,λz C=> ?_⟩;rcases qP.1 C with C|C;(exact ho.aLg.2 z C);·rw[qQ.1 C];exact⟨s16 (s:=⟨#[98,97,110,107]⟩) wh,s16 q3,q4.1⟩
    ·have e4:(⟨#[98,97,110,107]⟩:ByteArray).size=4:=rfl;show M.aJ.sz ⟨⟨U.aLT,U.aLg++[_]⟩::xs⟩<=70000;simp only[M.aJ.sz,dV,M.aLi.sz,yY,M.aLr.sz,M.aLb.sz,qE,qJ,qK];omega
  ·exact .ret J I.all
 split
 ·have key:∀(n k:Nat) (s:M.aJ),5-k<n->k<=5->FZ s->Dr b Se (xD (i2,v2,r2) n k s.aLW):=by
   intro n
   induction n with
   |zero=>simp
   |succ n ih=>
    intro k s h hk hs
    simp only[xD]
    rcases jR k 5 with h6|h6
    ·rw[jE wX]
     refine .J9 (Rh hs (bgI wi)) λy j=> ?_
     rw[bL wi]
     exact ih (k+1) y.1 wi wi j
    ·rw[jF wX];exact .ret J hs.all
  exact key aH 1 r1 (nN wi) wi I
 ·exact .ret J I.all
theorem S8{d:M.aLS}{u:M.pR}(C:d.aLm.length<=100000):∃v,FC d u=some v:=by
 have key:∀(n k:Nat),d.aLm.length-k<n->k<=d.aLm.length->∃v,sQ d u n k=some v:=by
  intro n
  induction n with
  |zero=>simp
  |succ n j=>
   intro k h hk
   simp only[sQ]
   rcases jR k d.aLm.length with h6|h6
   ·rw[jE (bE h6),aM h6,qA,bL wi];have:=j (k+1) wi wi;split;(split;(exact⟨_,rfl⟩);·exact this);·exact this
   ·rw[jF wX];exact⟨_,rfl⟩
 exact key aH 0 (nN wi) wi
