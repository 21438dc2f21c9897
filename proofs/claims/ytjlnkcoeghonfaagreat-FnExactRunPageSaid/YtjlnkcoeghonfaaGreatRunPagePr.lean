/-
  Helper text. No conditions.
-/
import Derived.Test.YtjlnkcoeghonfaaGreatRunPagePq5
set_option linter.all false
namespace Go.Proofs.YtjlnkcoeghonfaaGreat.gen
open Go Go.Sh
theorem aAO{α β:Type}(c:Bool)(x y:Option α)(f:α->Option β):(if c=true then x else y).bind f=if c=true then x.bind f else y.bind f:=by split<;>rfl
theorem aGA(n:Int):inR n 0 0=(n==0):=by unfold inR;rw[Bool.eq_iff_iff];simp only[qM,qL,beq_iff_eq];omega
theorem Pg{k:Int}(h:inR k 1 9=true):k=1\/k=2\/k=3\/k=4\/k=5\/k=6\/k=7\/k=8\/k=9:=by unfold inR at h;simp only[qM,qL]at h;omega
theorem Pf{k r n m:Int}{t:ByteArray}(j:t.size<=maxLen):∃b,Ar (⟨k,r,n,t⟩:M.Instr) m=some b/\rQ (⟨k,r,n,t⟩:M.Instr) m=some b:=by
 unfold Ar rQ
 simp only[cG,bR,dG j,cT j,qA,aGA]
 generalize inR r 0 3=a1
 generalize (r !=0)=a2
 generalize mN t=a3
 generalize (t.toList==(⟨#[]⟩:ByteArray).toList)=a4
 cases hk:inR k 1 9 with
 |false=>exact⟨false,by simp only[aAO,qA,qC,if_true,ite_self],by simp only[aAO,qA,qC,if_true,ite_self]⟩
 |true=>
  rcases Pg hk with rfl|rfl|rfl|rfl|rfl|rfl|rfl|rfl|rfl
  all_goals clear hk
  all_goals simp+decide only[qA,aAO,if_true,if_false,qB,qC,aGA,show inR 1 6 8=false from rfl,show inR 2 6 8=false from rfl,show inR 3 6 8=false from rfl,show inR 4 6 8=false from rfl,show inR 6 6 8=true from rfl,show inR 7 6 8=true from rfl,show inR 8 6 8=true from rfl,show inR 9 6 8=false from rfl]
  all_goals (try generalize inR n 0 1000=b1)
  all_goals (try generalize inR n 0 3=b2)
  all_goals (try generalize inR n 0 m=b3)
  all_goals (try generalize inR n 0 100=b4)
  all_goals (try generalize (n==0)=b5)
  all_goals (try clear a1)
  all_goals (try clear a2)
  all_goals (try clear a3)
  all_goals (try clear a4)
  all_goals (try clear b1)
  all_goals (try clear b2)
  all_goals (try clear b3)
  all_goals (try clear b4)
  all_goals (try clear b5)
  all_goals (try cases a1)
  all_goals (try cases a2)
  all_goals (try cases a3)
  all_goals (try cases a4)
  all_goals (try cases b1)
  all_goals (try cases b2)
  all_goals (try cases b3)
  all_goals (try cases b4)
  all_goals (try cases b5)
  all_goals first|exact⟨true,rfl,rfl⟩|exact⟨false,rfl,rfl⟩
def Om(x:M.Instr)(m:Int):Bool:=(rQ x m).getD false
theorem Oo{x:M.Instr}{m:Int}(j:x.ok):Ar x m=some (Om x m):=by obtain⟨k,r,n,t⟩:=x;obtain⟨b,e1,e2⟩:=Pf (k:=k) (r:=r) (n:=n) (m:=m) j.aKA;unfold Om;rw[e1,e2];rfl
theorem OC{x:M.Instr}{m:Int}(j:x.ok):rQ x m=some (Om x m):=by obtain⟨k,r,n,t⟩:=x;obtain⟨b,e1,e2⟩:=Pf (k:=k) (r:=r) (n:=n) (m:=m) j.aKA;unfold Om;rw[e2];rfl
def On(s:M.aD)(w:M.aY):M.aD×Bool:=if(Ia (eQ s w.Key) w.Field w.N).2=true then F8 s w.Key (Ia (eQ s w.Key) w.Field w.N).1 else(s,false)
theorem RE{s:M.aD}{w:M.aY}(h:(On s w).2=false):(On s w).1=s:=by unfold On at h⊢;by_cases h1:(Ia (eQ s w.Key) w.Field w.N).2=true;(rw[if_pos h1]at h⊢;exact Pv h);·rw[if_neg h1]
theorem TF{s:M.aD}{w:M.aY}(C:s.ok)(I:w.ok)(hz:M.aD.sz s<=536870912):(On s w).1.ok/\M.aD.sz (On s w).1<=536870912:=by
 have U:s.aJm.length<=1073741824:=by simp only[M.aD.sz]at hz;omega
 have J:=Ic s w.Key
 have j:(eQ s w.Key).aJq.length<=1073741824:=by simp only[M.aC.sz]at J;omega
 cases h2:(On s w).2 with
 |false=>rw[RE h2];exact⟨C,hz⟩
 |true=>
  unfold On at h2⊢
  by_cases h1:(Ia (eQ s w.Key) w.Field w.N).2=true
  ·rw[if_pos h1]at h2⊢;have:=J6 (OU (G8 h1) h2);exact⟨Ty C U I.Key (Nq (FR C) j I.Field I.N),jD⟩
  ·rw[if_neg h1]at h2;cases h2
theorem F4{s:M.aD}{w:M.aY}(C:s.ok)(j:w.ok)(hz:M.aD.sz s<=1073741824):nR s w=some (On s w):=by
 have J:=Ic s w.Key
 have I:(eQ s w.Key).aJq.length<=1073741824:=by simp only[M.aC.sz]at J;omega
 have nM:=DO (r:=eQ s w.Key) (a:=w.Field) (n:=w.N) (FR C) jD j.Field j.N
 have hput:(Ia (eQ s w.Key) w.Field w.N).2=true->iE s w.Key (Ia (eQ s w.Key) w.Field w.N).1=some (F8 s w.Key (Ia (eQ s w.Key) w.Field w.N).1):=λh1=>
  Cu C j.Key (Nq (FR C) I j.Field j.N) (G8 h1) hz (qg (NV (G8 h1)) jD)
 have hfin:((some (Ia (eQ s w.Key) w.Field w.N)).bind λx9=>if(!x9.2)=true then(dE s).bind λae=>some (ae,false)else(iE s w.Key x9.1).bind λU=>some (U.1,U.2))=some (On s w):=by
  rw[qA,rN s hz]
  unfold On
  cases h1:(Ia (eQ s w.Key) w.Field w.N).2 with
  |false=>simp
  |true=>
   rw[hput h1]
   simp
 unfold nR
 rw[yR C,qA]
 by_cases h:mF (sW w.Key) s.aJm<0
 ·have e:eQ s w.Key=(⟨([]:List M.Field)⟩:M.aC):=by unfold eQ;rw[if_pos h]
  rw[if_neg jE]
  rw[e]at nM hfin
  rw[nM]
  exact hfin
 ·obtain⟨i,ei,hi⟩:=eN h
  have e:eQ s w.Key=s.aJm[i].aC:=by unfold eQ;rw[if_neg h,ei,qH,qF hi]
  rw[if_pos (by simpa using h),ei,aH hi,qA]
  rw[e]at nM hfin
  rw[nM]
  exact hfin
theorem FX{s:M.aD}{w:M.aY}(C:s.ok)(j:w.ok)(hz:M.aD.sz s<=1073741824):oP s w=some (On s w):=by
 have J:=Ic s w.Key
 have I:(eQ s w.Key).aJq.length<=1073741824:=by simp only[M.aC.sz]at J;omega
 have nM:=D5 (r:=eQ s w.Key) (a:=w.Field) (n:=w.N) (FR C) jD j.Field j.N
 have hput:(Ia (eQ s w.Key) w.Field w.N).2=true->iJ s w.Key (Ia (eQ s w.Key) w.Field w.N).1=some (F8 s w.Key (Ia (eQ s w.Key) w.Field w.N).1):=λh1=>
  CC C j.Key (Nq (FR C) I j.Field j.N) (G8 h1) hz (qg (NV (G8 h1)) jD)
 have hfin:((some (Ia (eQ s w.Key) w.Field w.N)).bind λx9=>if(!x9.2)=true then(aZ s).bind λae=>some (ae,false)else(iJ s w.Key x9.1).bind λU=>some (U.1,U.2))=some (On s w):=by
  rw[qA,iF s hz]
  unfold On
  cases h1:(Ia (eQ s w.Key) w.Field w.N).2 with
  |false=>simp
  |true=>
   rw[hput h1]
   simp
 unfold oP
 rw[Br C,qA]
 by_cases h:mF (sW w.Key) s.aJm<0
 ·have e:eQ s w.Key=(⟨([]:List M.Field)⟩:M.aC):=by unfold eQ;rw[if_pos h]
  rw[if_neg jE]
  rw[e]at nM hfin
  rw[nM]
  exact hfin
 ·obtain⟨i,ei,hi⟩:=eN h
  have e:eQ s w.Key=s.aJm[i].aC:=by unfold eQ;rw[if_neg h,ei,qH,qF hi]
  rw[if_pos (by simpa using h),ei,aH hi,qA]
  rw[e]at nM hfin
  rw[nM]
  exact hfin
def Eb(s:M.aD)(l:List M.aY):M.aD:=l.foldl (λt w=>(On t w).1) s
theorem Jt{s:M.aD}{l:List M.aY}(U:s.ok)(C:l.length<=maxLen)(J:∀w∈l,M.aY.ok w)(hz:M.aD.sz s<=536870912):CM s l=some (Eb s l)/\(Eb s l).ok/\M.aD.sz (Eb s l)<=536870912:=by
 have hm:=le_max C
 unfold CM Eb
 rw[iF s jD,qA]
 have:=QE (xs:=l) (L:=λn k (t:M.aD)=>oH l n k t.Name t.aKG t.aJm) (step:=λt w=>(On t w).1) (I:=λ_ t=>t.ok/\M.aD.sz t<=536870912) (E:=some) C
  (λt k hk j=>TF j.1 (J _ (qG hk)) j.2) (λn t k hk j=>by
   simp only[oH]
   rw[if_pos (bE hk),aH hk,qA,show(⟨t.Name,t.aJm,t.aKG⟩:M.aD)=t from rfl,FX j.1 (J _ (qG hk)) jD,qA,bG jD]) (λn t j=>by
   simp only[oH]
   rw[if_neg jK]) s ⟨U,hz⟩
 exact⟨this.1,this.2⟩
theorem Nl{s:M.aD}{l:List M.aY}(U:s.ok)(C:l.length<=maxLen)(J:∀w∈l,M.aY.ok w)(hz:M.aD.sz s<=536870912):Bu s l=some (Eb s l):=by
 have hm:=le_max C
 unfold Bu Eb
 rw[rN s jD,qA]
 have:=QE (xs:=l) (L:=λn k (t:M.aD)=>kB l n k t.Name t.aKG t.aJm) (step:=λt w=>(On t w).1) (I:=λ_ t=>t.ok/\M.aD.sz t<=536870912) (E:=some) C
  (λt k hk j=>TF j.1 (J _ (qG hk)) j.2) (λn t k hk j=>by
   simp only[kB]
   rw[if_pos (bE hk),aH hk,qA,show(⟨t.Name,t.aJm,t.aKG⟩:M.aD)=t from rfl,F4 j.1 (J _ (qG hk)) jD,qA,bG jD]
   cases h2:(On t l[k]).2 with
   |true=>rfl
   |false=>rw[RE h2];rfl) (λn t j=>by
   simp only[kB]
   rw[if_neg jK]) s ⟨U,hz⟩
 exact this.1
def PD(o:M.aM)(k:M.Key)(f:ByteArray)(n:Int):M.aM:=(⟨o.aJy,IntKind.i64.wrap (o.aKU+1),o.aJ9++[(⟨o.aJy,o.aKU,k,f,n⟩:M.aY)]⟩:M.aM)
def UY(o:M.aM)(k:M.Key)(f:ByteArray)(n:Int):M.aM×Bool:=if FN o=true then if FN (PD o k f n)=true then(PD o k f n,true)else(o,false)else(o,false)
theorem P4{o:M.aM}{k:M.Key}{f:ByteArray}{n:Int}(C:o.ok)(hl:o.aJ9.length<=1073741824)(hk:k.ok)(J:f.size<=maxLen)(U:inI n):(PD o k f n).ok:=
 ⟨C.aJy,Gx _,⟨by show(o.aJ9++_).length<=maxLen;unfold maxLen;simp;omega,λy I=>by have j:y∈o.aJ9++[(⟨o.aJy,o.aKU,k,f,n⟩:M.aY)]:=I;simp only[qP,qp,qO,or_false]at j;rcases j with I|rfl;(exact C.aJ9.2 y I);·exact⟨C.aJy,C.aKU,hk,J,U⟩⟩⟩
theorem aAB{o:M.aM}{k:M.Key}{f:ByteArray}{n:Int}(j:o.ok)(I:o.aJ9.length<=1073741824)(hk:k.ok)(C:f.size<=maxLen)(J:inI n):(UY o k f n).1.ok:=by unfold UY;split;(split;(exact P4 j I hk C J);·exact j);·exact j
theorem Zi(o:M.aM)(k:M.Key)(f:ByteArray)(n:Int):M.aM.sz (UY o k f n).1<=M.aM.sz o+k.aKA.size+f.size+1:=by
 have h:M.aM.sz (PD o k f n)<=M.aM.sz o+k.aKA.size+f.size+1:=by simp only[PD,M.aM.sz,qE,qJ,qK,Nh,bA,M.aY.sz,M.Key.sz];omega
 unfold UY
 split
 ·split;(exact h);·show M.aM.sz o<=_;omega
 ·show M.aM.sz o<=_;omega
theorem JP{o:M.aM}{k:M.Key}{f:ByteArray}{n:Int}(j:o.ok)(hz:M.aM.sz o<=536870912)(hk:k.ok)(C:f.size<=maxLen)(I:inI n):sV o k f n=some (UY o k f n):=by
 have J:o.aJ9.length<=536870912:=by simp only[M.aM.sz]at hz;omega
 have e:=Ge (P4 (k:=k) (f:=f) (n:=n) j jD hk C I)
 unfold PD at e
 unfold sV UY
 rw[Jn o jD,qA,Ge j,qA,eH jP,qA,e,qA]
 unfold PD
 cases FN o
 ·simp
 ·cases FN (⟨o.aJy,IntKind.i64.wrap (o.aKU+1),o.aJ9++[(⟨o.aJy,o.aKU,k,f,n⟩:M.aY)]⟩:M.aM)<;>simp
theorem JC{o:M.aM}{k:M.Key}{f:ByteArray}{n:Int}(j:o.ok)(hz:M.aM.sz o<=536870912)(hk:k.ok)(C:f.size<=maxLen)(I:inI n):tA o k f n=some (UY o k f n):=by
 have J:o.aJ9.length<=536870912:=by simp only[M.aM.sz]at hz;omega
 have e:=F9 (P4 (k:=k) (f:=f) (n:=n) j jD hk C I)
 unfold PD at e
 unfold tA UY
 rw[Ha o jD,qA,eH jP,qA,F9 j,qA,e,qA]
 unfold PD
 cases FN o
 ·simp
 ·cases FN (⟨o.aJy,IntKind.i64.wrap (o.aKU+1),o.aJ9++[(⟨o.aJy,o.aKU,k,f,n⟩:M.aY)]⟩:M.aM)<;>simp
def Zg(r:M.aE)(k:M.Key)(f:ByteArray)(n:Int):Bool:=Gz r&&((UY r.aJ7.aM k f n).2&&(On (Eb r.aJ8 r.aJ7.aM.aJ9) (⟨0,0,k,f,n⟩:M.aY)).2)
def aA4(r:M.aE)(k:M.Key)(f:ByteArray)(n:Int):M.aE:=(⟨r.aJ8,r.aKe,(⟨(UY r.aJ7.aM k f n).1,r.aJ7.aKX,r.aJ7.aKL⟩:M.aJ7)⟩:M.aE)
def nWL(r:M.aE)(k:M.Key)(f:ByteArray)(n:Int):M.aE×Bool:=if Zg r k f n=true then(aA4 r k f n,true)else(r,false)
theorem aAT{r:M.aE}{k:M.Key}{f:ByteArray}{n:Int}(j:r.ok)(I:r.aJ7.aM.aJ9.length<=1073741824)(hk:k.ok)(C:f.size<=maxLen)(J:inI n):(nWL r k f n).1.ok:=by unfold nWL;split;(exact⟨j.aJ8,j.aKe,⟨aAB j.aJ7.aM I hk C J,j.aJ7.aKX,j.aJ7.aKL⟩⟩);·exact j
theorem aAg(r:M.aE)(k:M.Key)(f:ByteArray)(n:Int):M.aE.sz (nWL r k f n).1<=M.aE.sz r+k.aKA.size+f.size+1:=by have h:=Zi r.aJ7.aM k f n;unfold nWL;split;(simp only[aA4,M.aE.sz,M.aJ7.sz];omega);·show M.aE.sz r<=_;omega
theorem aAd{α:Type}(a b c:Bool)(x y:α):(if(!a)=true then y else if(!b)=true then y else if(!c)=true then y else x)=if(a&&(b&&c))=true then x else y:=by cases a<;>cases b<;>cases c<;>rfl
theorem LU{r:M.aE}{k:M.Key}{f:ByteArray}{n:Int}(j:r.ok)(hz:M.aE.sz r<=536870912)(hk:k.ok)(I:f.size<=maxLen)(J:inI n):xW r k f n=some (nWL r k f n):=by have C:=hz;simp only[M.aE.sz,M.aJ7.sz]at C;obtain⟨_,q2,q3⟩:=Jt j.aJ8 j.aJ7.aM.aJ9.1 j.aJ7.aM.aJ9.2 jD;have U:=Nl j.aJ8 j.aJ7.aM.aJ9.1 j.aJ7.aM.aJ9.2 jD;unfold xW Cg;rw[GQ r jD,JP j.aJ7.aM jD hk I J,U,HP j];simp only[qA];rw[F4 (w:=(⟨0,0,k,f,n⟩:M.aY)) q2 ⟨by unfold inI;simp,by unfold inI;simp,hk,I,J⟩ jD];simp only[qA,aAd];unfold nWL Zg aA4;cases (Gz r&&((UY r.aJ7.aM k f n).2&&(On (Eb r.aJ8 r.aJ7.aM.aJ9) (⟨0,0,k,f,n⟩:M.aY)).2))<;>simp
theorem La{r:M.aE}{k:M.Key}{f:ByteArray}{n:Int}(j:r.ok)(hz:M.aE.sz r<=536870912)(hk:k.ok)(I:f.size<=maxLen)(J:inI n):wT r k f n=some (nWL r k f n):=by have C:=hz;simp only[M.aE.sz,M.aJ7.sz]at C;obtain⟨U,q2,q3⟩:=Jt j.aJ8 j.aJ7.aM.aJ9.1 j.aJ7.aM.aJ9.2 jD;unfold wT B3;rw[Gk r jD,JC j.aJ7.aM jD hk I J,U,HS j];simp only[qA];rw[FX (w:=(⟨r.aJ7.aM.aJy,r.aJ7.aM.aKU,k,f,n⟩:M.aY)) q2 ⟨j.aJ7.aM.aJy,j.aJ7.aM.aKU,hk,I,J⟩ jD,show On (Eb r.aJ8 r.aJ7.aM.aJ9) (⟨r.aJ7.aM.aJy,r.aJ7.aM.aKU,k,f,n⟩:M.aY)=On (Eb r.aJ8 r.aJ7.aM.aJ9) (⟨0,0,k,f,n⟩:M.aY)from rfl];simp only[qA,aAd];unfold nWL Zg aA4;cases (Gz r&&((UY r.aJ7.aM k f n).2&&(On (Eb r.aJ8 r.aJ7.aM.aJ9) (⟨0,0,k,f,n⟩:M.aY)).2))<;>simp
theorem WR{b o:M.aJi}(j:M.aJi.sz b<=1500000)(C:M.aJj.sz o.bL.aJ8<=1500000):M.aJj.sz (NH b o).1.bL.aJ8<=1500000:=by unfold NH;split;(split;(exact C);·exact CI j);·exact CI j
def Ml(w:M.World)(b:M.aJi)(ok:Bool):M.World×Bool:=if ok=true then if(UK w.aA b).2=true then({ w with aA:=(UK w.aA b).1 },true)else(w,false)else(w,false)
theorem T5{w:M.World}{b:M.aJi}{ok:Bool}(j:w.ok)(hb:b.ok)(hz:M.World.sz w<=1500000):M.World.ok (Ml w b ok).1:=by have h:=Zf j.aA hb (Ir hz);unfold Ml;split;(split;(exact⟨j.Now,j.aJy,h,j.aJ2,j.aJ4,j.aJ3,j.aJu,j.aKE,j.aJ6⟩);·exact j);·exact j
theorem FA{w:M.World}{b:M.aJi}{ok:Bool}(j:w.ok)(hb:b.ok)(hz:M.World.sz w<=1500000)(I:M.aJi.sz b<=1073741824)(C:M.aJj.sz b.bL.aJ8<=1500000):oU w b ok=some (Ml w b ok):=by unfold oU Ml;rw[CL w jD,qA,Lk j.aA hb (Ir hz) I C,qA];cases ok;(simp);·cases (UK w.aA b).2<;>simp
theorem NA(w:M.World)(b:M.aJi)(ok:Bool):(Ml w b ok).1.aJ2=w.aJ2:=by unfold Ml;split;(split<;>rfl);·rfl
theorem Lp{α:Type}{f:α->Nat}{x:α}:∀{l:List α} {i:Nat} (h:i<l.length),bA f (l.set i x)+f l[i]=bA f l+f x
 |[],_,h=>absurd h jF
 |y::l,0,_=>by simp only[List.set_cons_zero,bA,List.getElem_cons_zero];omega
 |y::l,i+1,h=>by have:=Lp (f:=f) (x:=x) (l:=l) (i:=i) (by simpa using h);simp only[List.set_cons_succ,bA,List.getElem_cons_succ];omega
theorem O9{w:M.World}{b:M.aJi}{ok:Bool}{c j:Nat}{a t:ByteArray}(e:mF (nAt a t) w.aA.aJp=(j:Int))(J:j<w.aA.aJp.length)(h1:b.aJr=w.aA.aJp[j].aJr)(h2:b.Top=w.aA.aJp[j].Top)(hz:M.aJi.sz b<=M.aJi.sz w.aA.aJp[j]+c):M.World.sz (Ml w b ok).1<=M.World.sz w+c:=by
 obtain⟨_,C⟩:=Ez e
 have e2:nAt b.aJr b.Top=nAt a t:=by funext x;unfold nAt at C⊢;rw[qM]at C;rw[h1,h2,eq_of_beq C.1,eq_of_beq C.2]
 have I:H7 w.aA b=w.aA.aJp.set j b:=by unfold H7;rw[e2,e,if_pos jD,qH]
 have U:=Lp (f:=M.aJi.sz) (x:=b) J
 have key:M.aA.sz (UK w.aA b).1<=M.aA.sz w.aA+c:=by unfold UK R7;rw[I];split;(split;(simp only[M.aA.sz,qN];omega);·exact Nat.le_add_right _ _);·exact Nat.le_add_right _ _
 unfold Ml
 split
 ·split;(simp only[M.World.sz];omega);·exact Nat.le_add_right _ _
 ·exact Nat.le_add_right _ _
theorem Qx{b o:M.aJi}{c:Nat}(h1:o.aJr=b.aJr)(h2:o.Top=b.Top)(hz:M.aJi.sz o<=M.aJi.sz b+c):(NH b o).1.aJr=b.aJr/\(NH b o).1.Top=b.Top/\M.aJi.sz (NH b o).1<=M.aJi.sz b+c:=by unfold NH;split;(split;(exact⟨h1,h2,hz⟩);·exact⟨rfl,rfl,Nat.le_add_right _ _⟩);·exact⟨rfl,rfl,Nat.le_add_right _ _⟩
theorem Xy{α:Type}{f:α->Bool}{l:List α}{k:Nat}{x:α}(e:mF f l=(k:Int))(hx:f x=true):mF f (l.set k x)=(k:Int)/\(l.set k x)[k]? =some x:=by
 obtain⟨hk,U⟩:=Ez e
 have h1:=Jg hk U
 have C:k<(l.set k x).length:=by rw[qN];exact hk
 have hg:(l.set k x)[k]? =some x:=by rw[qF C,List.getElem_set_self]
 have h2:=Jg (f:=f) (xs:=l.set k x) C (by rw[List.getElem_set_self];exact hx)
 rw[e,beq_self_eq_true]at h1
 refine⟨eq_of_beq (h2.trans ?_),hg⟩
 rw[qR]
 intro j J
 have h3:=(qR.1 h1.symm) j J
 have I:k≠j:=by have:=qS.1 J;omega
 rw[List.getElem?_set_ne I]
 exact h3
theorem UN{w:M.World}{p:M.bD}{n v:Int}{f:ByteArray}(J:w.ok)(hn:inI n)(hv:inI v)(hf:f.size<=1500000)(hz:M.World.sz w<=1500000):∃R:M.World×Bool,wR w p n f v=some R/\Bd w p n f v=some R/\R.1.ok/\M.World.sz R.1<=M.World.sz w+(f.size+1)/\R.1.aJ2=w.aJ2:=by
 have hz':=hz
 simp only[M.World.sz,M.aA.sz]at hz'
 have U:f.size<=maxLen:=by unfold maxLen;omega
 unfold wR Bd kJ nI vF
 rw[rY J.aA,sK J.aA,uL w jD,CL w jD]
 simp only[qA]
 by_cases h:mF (nAt p.aJr p.Top) w.aA.aJp<0
 ·simp only[h,decide_true,if_true,qA];exact⟨(w,false),rfl,jF,J,Nat.le_add_right _ _,rfl⟩
 ·obtain⟨j,ej,hj⟩:=eN h
  simp only[h,decide_false,qD,if_false]
  rw[ej,aH hj]
  simp only[qA,qB,qD,if_false]
  have hb:=J.aA.aJp.2 _ (qG hj)
  have z1:=dW (f:=M.aJi.sz) (qG hj)
  have grow:=λ(b:M.aJi) (ok:Bool) (c:Nat)=>O9 (w:=w) (b:=b) (ok:=ok) (c:=c) ej hj
  generalize w.aA.aJp[j]=q at hb z1 grow
  have z2:M.aE.sz q.aE<=M.aJi.sz q:=by simp only[M.aJi.sz];omega
  have z3:q.aE.aJ7.aM.aJ9.length<=M.aE.sz q.aE:=by simp only[M.aE.sz,M.aJ7.sz,M.aM.sz];omega
  have hk:M.Key.ok (⟨1,n,(⟨#[]⟩:ByteArray)⟩:M.Key):=⟨by unfold inI;simp,hn,by simp[maxLen,ByteArray.size]⟩
  rw[LU hb.aE jD hk U hv,La hb.aE jD hk U hv]
  have C:=aAT (n:=v) hb.aE jD hk U hv
  have sz1:=aAg q.aE (⟨1,n,(⟨#[]⟩:ByteArray)⟩:M.Key) f v
  generalize nWL q.aE (⟨1,n,(⟨#[]⟩:ByteArray)⟩:M.Key) f v=T at C sz1
  obtain⟨r,c⟩:=T
  have hk0:(⟨#[]⟩:ByteArray).size=0:=rfl
  simp only[hk0]at C sz1
  simp only[qA]
  have zo:M.aJj.sz (eP q r).bL.aJ8<=1500000:=CI (b:=q) jD
  have zr:=Gc q r
  have zc:=W9 q (eP q r)
  have zd:=WR (b:=q) (o:=eP q r) jD zo
  have I:=Wr hb (FT hb C)
  rw[I4 hb C jD jD zo,IZ hb C jD jD zo]
  simp only[qA]
  have yg:=Qx (b:=q) (o:=eP q r) (c:=f.size+1) rfl rfl (by simp only[eP,M.aJi.sz];omega)
  generalize NH q (eP q r)=Y at zc I zd yg
  rw[FA J I hz jD zd,FA J I hz jD zd,He J.aA I (Ir hz) jD zd]
  simp only[qA]
  have ok4:=T5 (ok:=c&&Y.2) J I hz
  have sz4:=grow Y.1 (c&&Y.2) (f.size+1) yg.1 yg.2.1 yg.2.2
  refine⟨Ml w Y.1 (c&&Y.2),?_,?_,ok4,sz4,NA _ _ _⟩
  ·cases c<;>simp
  ·unfold Ml;cases c;(simp);·cases Y.2;(simp);·cases (UK w.aA Y.1).2<;>simp
def Ye(l:List Int)(i:Int)(b:List Int):List Int:=l++(Gj b++uv (Wu i b).toNat)
def XN(l:List Int)(i:Int)(b:List Int):List Int×Bool:=if i<0 then(l,false)else if(Ye l i b).length>4000 then(l,false)else(Ye l i b,true)
theorem V3{l b:List Int}{i:Int}:Ye l i b=(l++Gj b)++uv (Wu i b).toNat:=by unfold Ye;rw[qT]
theorem VH(i:Int)(b:List Int):0<=Wu i b/\Wu i b<2147483647:=Sk _
theorem MC{l b:List Int}{i:Int}(I:l.length<=1500000)(hb:b.length<=100000):zX l i b=some (XN l i b):=by have C:=VH i b;have J:=FQ (n:=b.length) jD;have j:=mY (r:=l++Gj b) (n:=(Wu i b).toNat) (by unfold Gj;simp only[qE];omega) jD;rw[Int.toNat_of_nonneg C.1,<-V3]at j;unfold zX XN;rw[JX jD jD,qA,pW jD jD,qA,IM jD,qA];show((bX (l++Gj b) (Wu i b)).bind _)=_;rw[j,qA];by_cases hi:i<0;(rw[if_pos (by simpa using hi),if_pos hi]);·rw[if_neg (by simpa using hi),if_neg hi];by_cases h4:(Ye l i b).length>4000;(rw[if_pos jE,if_pos h4]);·rw[if_neg jE,if_neg h4]
theorem MI{l b:List Int}{i:Int}(I:l.length<=1500000)(hb:b.length<=100000):Ac l i b=some (XN l i b):=by have C:=VH i b;have J:=FQ (n:=b.length) jD;have j:=nA (r:=l++Gj b) (n:=(Wu i b).toNat) (by unfold Gj;simp only[qE];omega) jD;rw[Int.toNat_of_nonneg C.1,<-V3]at j;unfold Ac XN;rw[DQ jD jD,qA,IK jD,qA];show((cF (l++Gj b) (Wu i b)).bind _)=_;rw[j,qA,E8 l jD,qA];by_cases hi:i<0;(rw[if_pos (by simpa using hi),if_pos hi]);·rw[if_neg (by simpa using hi),if_neg hi];by_cases h4:(Ye l i b).length>4000;(rw[if_pos jE,if_pos h4]);·rw[if_neg jE,if_neg h4]
def aA1(d:M.bL)(l:List M.Op):Bool:=(Fe (Fv d).1 l).2.2&&((List.length (Gg l):Int) !=0&&(((Fv d).2==d.aKR)&&(XN d.Log d.aKR (Gg l)).2))
def HG(d:M.bL)(l:List M.Op):M.bL×Bool:=if aA1 d l=true then((⟨d.aJ8,(XN d.Log d.aKR (Gg l)).1,IntKind.i64.wrap (d.aKR+1)⟩:M.bL),true)else(d,false)
theorem Rk(l:List M.Op):(Gg l).length<=2000:=by unfold Gg;split;(rename_i h;rw[qM,qL,qR]at h;have h1:=Qb (f:=enO) (λo j=>Qe (h.1 o j));have h9:=FQ (n:=l.length) jD;rw[qE];omega);·simp
theorem LJ{d:M.bL}{l:List M.Op}(C:d.ok)(hz:M.bL.sz d<=1500000)(I:l.length<=1000)(J:∀o∈l,K1 o):wS d l=some (HG d l):=by
 have j:d.Log.length<=1500000:=by simp only[M.bL.sz]at hz;omega
 have he:=Rk l
 obtain⟨U,v2⟩:=FO C hz
 unfold wS HG aA1
 rw[GM d jD,qA,I0 C hz,qA,Kw U I J v2,qA,H5 I J,qA,MC j jD,qA]
 unfold bne
 generalize (Fe (Fv d).1 l).2.2=a1
 generalize ((List.length (Gg l):Int)==0)=a2
 generalize ((Fv d).2==d.aKR)=a3
 cases a1<;>cases a2<;>cases a3<;>cases (XN d.Log d.aKR (Gg l)).2<;>rfl
theorem Lx{d:M.bL}{l:List M.Op}(C:d.ok)(hz:M.bL.sz d<=1500000)(I:l.length<=1000)(J:∀o∈l,K1 o):xX d l=some (HG d l):=by
 have j:d.Log.length<=1500000:=by simp only[M.bL.sz]at hz;omega
 have he:=Rk l
 obtain⟨U,v2⟩:=FO C hz
 unfold xX HG aA1
 rw[IG d jD,qA,Gd C hz,qA,KG U I J v2,qA,HW I J,qA,MI j jD,qA]
 unfold bne
 generalize (Fe (Fv d).1 l).2.2=a1
 generalize ((List.length (Gg l):Int)==0)=a2
 rw[Bool.beq_comm (a:=d.aKR)]
 generalize ((Fv d).2==d.aKR)=a3
 cases a1<;>cases a2<;>cases a3<;>cases (XN d.Log d.aKR (Gg l)).2<;>rfl
theorem Un{d:M.bL}{l:List M.Op}(C:d.ok):(HG d l).1.ok/\M.bL.sz (HG d l).1<=M.bL.sz d+4000/\(HG d l).1.aJ8=d.aJ8:=by unfold HG;split;(rename_i h;unfold aA1 at h;simp only[qM]at h;have h4:=h.2.2.2;unfold XN at h4⊢;split at h4;(cases h4);·rename_i I;rw[if_neg I];split at h4;(cases h4);·rename_i J;rw[if_neg J];refine⟨⟨C.aJ8,⟨qg (by omega:(Ye d.Log d.aKR (Gg l)).length<=4000) jJ,λy U=> ?_⟩,Gx _⟩,?_,rfl⟩;(have j:y∈Ye d.Log d.aKR (Gg l):=U;unfold Ye at j;simp only[qP]at j;rcases j with h|h|h;(exact C.Log.2 y h);(exact I8 (Qa l).2 y h);·exact K3 _ y h);·simp only[M.bL.sz];omega);·exact⟨C,by dsimp only;omega,rfl⟩
theorem SI{w:M.World}{p:M.bD}{n v:Int}{f:ByteArray}(J:w.ok)(hn:inI n)(hv:inI v)(hf:f.size<=1500000)(hz:M.World.sz w<=1500000):∃R:M.World×Bool,tL w p n f v=some R/\zO w p n f v=some R/\R.1.ok/\M.World.sz R.1<=M.World.sz w+(4000)/\R.1.aJ2=w.aJ2:=by
 have hz':=hz
 simp only[M.World.sz,M.aA.sz]at hz'
 have U:f.size<=maxLen:=by unfold maxLen;omega
 unfold tL zO kJ nI vF
 rw[rY J.aA,sK J.aA,uL w jD,CL w jD]
 simp only[qA]
 by_cases h:mF (nAt p.aJr p.Top) w.aA.aJp<0
 ·simp only[h,decide_true,if_true,qA];exact⟨(w,false),rfl,jF,J,Nat.le_add_right _ _,rfl⟩
 ·obtain⟨j,ej,hj⟩:=eN h
  simp only[h,decide_false,qD,if_false]
  rw[ej,aH hj]
  simp only[qA,qB,qD,if_false]
  have hb:=J.aA.aJp.2 _ (qG hj)
  have z1:=dW (f:=M.aJi.sz) (qG hj)
  have grow:=λ(b:M.aJi) (ok:Bool) (c:Nat)=>O9 (w:=w) (b:=b) (ok:=ok) (c:=c) ej hj
  generalize w.aA.aJp[j]=q at hb z1 grow
  have z2:M.bL.sz q.bL<=M.aJi.sz q:=by simp only[M.aJi.sz];omega
  obtain⟨v1,v2⟩:=FO hb.bL jD
  obtain⟨g,eg⟩:=Kt (n:=n) v1
  have nk:=Qc (n:=n) v1
  have nz:=Xi (n:=n) v2
  have nl:(Jm (Fv q.bL).1 n).aJq.length<=1500000:=by simp only[M.aC.sz]at nz;omega
  rw[H3 hb.bL jD,Gd hb.bL jD]
  simp only[qA]
  rw[eg]
  simp only[qA]
  rw[DO nk jD U hv,D5 nk jD U hv]
  simp only[qA]
  have ok0:=Nq nk jD U hv
  generalize Ia (Jm (Fv q.bL).1 n) f v=S at ok0
  obtain⟨r,c0⟩:=S
  have ho:∀o∈[(⟨1,(⟨#[110,111,116,101,115]⟩:ByteArray),(⟨1,n,(⟨#[]⟩:ByteArray)⟩:M.Key),r,(⟨#[]⟩:ByteArray)⟩:M.Op)],K1 o:=λo hx=>by rw[qQ.1 hx];exact⟨by show inI 1;unfold inI;omega,(by show(⟨#[110,111,116,101,115]⟩:ByteArray).size<=maxLen;exact aIN _ jG),⟨by show inI 1;unfold inI;omega,hn,sz0⟩,ok0,sz0⟩
  rw[LJ hb.bL jD jF ho,Lx hb.bL jD jF ho]
  obtain⟨C,sz1,eb⟩:=Un (l:=[(⟨1,(⟨#[110,111,116,101,115]⟩:ByteArray),(⟨1,n,(⟨#[]⟩:ByteArray)⟩:M.Key),r,(⟨#[]⟩:ByteArray)⟩:M.Op)]) hb.bL
  generalize HG q.bL [(⟨1,(⟨#[110,111,116,101,115]⟩:ByteArray),(⟨1,n,(⟨#[]⟩:ByteArray)⟩:M.Key),r,(⟨#[]⟩:ByteArray)⟩:M.Op)]=T at C sz1 eb
  obtain⟨k,c⟩:=T
  dsimp only at C sz1 eb
  simp only[qA]
  have zo:M.aJj.sz (nQ q k).bL.aJ8<=1500000:=by show M.aJj.sz k.aJ8<=_;rw[eb];exact CI (b:=q) jD
  have zr:=Iy q k
  have zc:=W9 q (nQ q k)
  have zd:=WR (b:=q) (o:=nQ q k) jD zo
  have I:=Wr hb (Iw hb C)
  rw[Ku hb C jD jD zo,Kk hb C jD jD zo]
  simp only[qA]
  have yg:=Qx (b:=q) (o:=nQ q k) (c:=4000) rfl rfl (by simp only[nQ,M.aJi.sz];omega)
  generalize NH q (nQ q k)=Y at zc I zd yg
  rw[FA J I hz jD zd,FA J I hz jD zd,He J.aA I (Ir hz) jD zd]
  simp only[qA]
  generalize Oa (Fv q.bL).1=c1
  have ok4:=T5 (ok:=c1&&(c0&&(c&&Y.2))) J I hz
  have sz4:=grow Y.1 (c1&&(c0&&(c&&Y.2))) (4000) yg.1 yg.2.1 yg.2.2
  refine⟨Ml w Y.1 (c1&&(c0&&(c&&Y.2))),?_,?_,ok4,sz4,NA _ _ _⟩
  ·cases c1<;>cases c0<;>cases c<;>simp
  ·unfold Ml;cases c1;(simp);cases c0;(simp);cases c;(simp);·cases Y.2;(simp);·cases (UK w.aA Y.1).2<;>simp
