/-
  Helper text. No conditions.
-/
import Derived.Test.YtjlnkcoeghonfaaGreatStepPagePq5
set_option linter.all false
namespace Go.Proofs.YtjlnkcoeghonfaaGreat.gen
open Go Go.Sh
theorem aAH{α β:Type}(c:Bool)(x y:Option α)(f:α->Option β):(if c=true then x else y).bind f=if c=true then x.bind f else y.bind f:=by split<;>rfl
theorem aF2(n:Int):inR n 0 0=(n==0):=by unfold inR;rw[Bool.eq_iff_iff];simp only[qM,qL,beq_iff_eq];omega
theorem Pb{k:Int}(h:inR k 1 9=true):k=1\/k=2\/k=3\/k=4\/k=5\/k=6\/k=7\/k=8\/k=9:=by unfold inR at h;simp only[qM,qL]at h;omega
theorem O9{k r n m:Int}{t:ByteArray}(j:t.size<=maxLen):∃b,Ap (⟨k,r,n,t⟩:M.Instr) m=some b/\rM (⟨k,r,n,t⟩:M.Instr) m=some b:=by
 unfold Ap rM
 simp only[cG,bR,dF j,cT j,qA,aF2]
 generalize inR r 0 3=a1
 generalize (r !=0)=a2
 generalize mL t=a3
 generalize (t.toList==(⟨#[]⟩:ByteArray).toList)=a4
 cases hk:inR k 1 9 with
 |false=>exact⟨false,by simp only[aAH,qA,qC,if_true,ite_self],by simp only[aAH,qA,qC,if_true,ite_self]⟩
 |true=>
  rcases Pb hk with rfl|rfl|rfl|rfl|rfl|rfl|rfl|rfl|rfl
  all_goals clear hk
  all_goals simp+decide only[qA,aAH,if_true,if_false,qB,qC,aF2,show inR 1 6 8=false from rfl,show inR 2 6 8=false from rfl,show inR 3 6 8=false from rfl,show inR 4 6 8=false from rfl,show inR 6 6 8=true from rfl,show inR 7 6 8=true from rfl,show inR 8 6 8=true from rfl,show inR 9 6 8=false from rfl]
  all_goals (try generalize inR n 0 1000=b1)
  all_goals (try generalize inR n 0 3=b2)
  all_goals (try generalize inR n 0 m=b3)
  all_goals (try generalize inR n 0 100=b4)
  all_goals (try generalize (n==0)=b5)
  all_goals (try clear a1)
  all_goals (try clear a2)
  all_goals (try clear a3)
  all_goals (try clear a4)
  all_goals (try clear b1)
  all_goals (try clear b2)
  all_goals (try clear b3)
  all_goals (try clear b4)
  all_goals (try clear b5)
  all_goals (try cases a1)
  all_goals (try cases a2)
  all_goals (try cases a3)
  all_goals (try cases a4)
  all_goals (try cases b1)
  all_goals (try cases b2)
  all_goals (try cases b3)
  all_goals (try cases b4)
  all_goals (try cases b5)
  all_goals first|exact⟨true,rfl,rfl⟩|exact⟨false,rfl,rfl⟩
def Oh(x:M.Instr)(m:Int):Bool:=(rM x m).getD false
theorem Oj{x:M.Instr}{m:Int}(j:x.ok):Ap x m=some (Oh x m):=by obtain⟨k,r,n,t⟩:=x;obtain⟨b,e1,e2⟩:=O9 (k:=k) (r:=r) (n:=n) (m:=m) j.aJ2;unfold Oh;rw[e1,e2];rfl
theorem Ox{x:M.Instr}{m:Int}(j:x.ok):rM x m=some (Oh x m):=by obtain⟨k,r,n,t⟩:=x;obtain⟨b,e1,e2⟩:=O9 (k:=k) (r:=r) (n:=n) (m:=m) j.aJ2;unfold Oh;rw[e2];rfl
def Oi(s:M.aD)(w:M.aW):M.aD×Bool:=if(H4 (eP s w.Key) w.Field w.N).2=true then FZ s w.Key (H4 (eP s w.Key) w.Field w.N).1 else(s,false)
theorem Rz{s:M.aD}{w:M.aW}(h:(Oi s w).2=false):(Oi s w).1=s:=by unfold Oi at h⊢;by_cases h1:(H4 (eP s w.Key) w.Field w.N).2=true;(rw[if_pos h1]at h⊢;exact Pr h);·rw[if_neg h1]
theorem Ty{s:M.aD}{w:M.aW}(C:s.ok)(I:w.ok)(hz:M.aD.sz s<=536870912):(Oi s w).1.ok/\M.aD.sz (Oi s w).1<=536870912:=by
 have U:s.aJe.length<=1073741824:=by simp only[M.aD.sz]at hz;omega
 have J:=H6 s w.Key
 have j:(eP s w.Key).aJi.length<=1073741824:=by simp only[M.aA.sz]at J;omega
 cases h2:(Oi s w).2 with
 |false=>rw[Rz h2];exact⟨C,hz⟩
 |true=>
  unfold Oi at h2⊢
  by_cases h1:(H4 (eP s w.Key) w.Field w.N).2=true
  ·rw[if_pos h1]at h2⊢;have:=J0 (OQ (GZ h1) h2);exact⟨Ts C U I.Key (Nk (FL C) j I.Field I.N),jD⟩
  ·rw[if_neg h1]at h2;cases h2
theorem FU{s:M.aD}{w:M.aW}(C:s.ok)(j:w.ok)(hz:M.aD.sz s<=1073741824):nO s w=some (Oi s w):=by
 have J:=H6 s w.Key
 have I:(eP s w.Key).aJi.length<=1073741824:=by simp only[M.aA.sz]at J;omega
 have nJ:=DI (r:=eP s w.Key) (a:=w.Field) (n:=w.N) (FL C) jD j.Field j.N
 have hput:(H4 (eP s w.Key) w.Field w.N).2=true->iC s w.Key (H4 (eP s w.Key) w.Field w.N).1=some (FZ s w.Key (H4 (eP s w.Key) w.Field w.N).1):=λh1=>
  Cq C j.Key (Nk (FL C) I j.Field j.N) (GZ h1) hz (qg (NQ (GZ h1)) jD)
 have hfin:((some (H4 (eP s w.Key) w.Field w.N)).bind λx9=>if(!x9.2)=true then(dD s).bind λae=>some (ae,false)else(iC s w.Key x9.1).bind λU=>some (U.1,U.2))=some (Oi s w):=by
  rw[qA,rJ s hz]
  unfold Oi
  cases h1:(H4 (eP s w.Key) w.Field w.N).2 with
  |false=>simp
  |true=>
   rw[hput h1]
   simp
 unfold nO
 rw[yP C,qA]
 by_cases h:mD (sU w.Key) s.aJe<0
 ·have e:eP s w.Key=(⟨([]:List M.Field)⟩:M.aA):=by unfold eP;rw[if_pos h]
  rw[if_neg jE]
  rw[e]at nJ hfin
  rw[nJ]
  exact hfin
 ·obtain⟨i,ei,hi⟩:=eN h
  have e:eP s w.Key=s.aJe[i].aA:=by unfold eP;rw[if_neg h,ei,qH,qF hi]
  rw[if_pos (by simpa using h),ei,aH hi,qA]
  rw[e]at nJ hfin
  rw[nJ]
  exact hfin
theorem FQ{s:M.aD}{w:M.aW}(C:s.ok)(j:w.ok)(hz:M.aD.sz s<=1073741824):oL s w=some (Oi s w):=by
 have J:=H6 s w.Key
 have I:(eP s w.Key).aJi.length<=1073741824:=by simp only[M.aA.sz]at J;omega
 have nJ:=DY (r:=eP s w.Key) (a:=w.Field) (n:=w.N) (FL C) jD j.Field j.N
 have hput:(H4 (eP s w.Key) w.Field w.N).2=true->iH s w.Key (H4 (eP s w.Key) w.Field w.N).1=some (FZ s w.Key (H4 (eP s w.Key) w.Field w.N).1):=λh1=>
  Cx C j.Key (Nk (FL C) I j.Field j.N) (GZ h1) hz (qg (NQ (GZ h1)) jD)
 have hfin:((some (H4 (eP s w.Key) w.Field w.N)).bind λx9=>if(!x9.2)=true then(aY s).bind λae=>some (ae,false)else(iH s w.Key x9.1).bind λU=>some (U.1,U.2))=some (Oi s w):=by
  rw[qA,iD s hz]
  unfold Oi
  cases h1:(H4 (eP s w.Key) w.Field w.N).2 with
  |false=>simp
  |true=>
   rw[hput h1]
   simp
 unfold oL
 rw[Bn C,qA]
 by_cases h:mD (sU w.Key) s.aJe<0
 ·have e:eP s w.Key=(⟨([]:List M.Field)⟩:M.aA):=by unfold eP;rw[if_pos h]
  rw[if_neg jE]
  rw[e]at nJ hfin
  rw[nJ]
  exact hfin
 ·obtain⟨i,ei,hi⟩:=eN h
  have e:eP s w.Key=s.aJe[i].aA:=by unfold eP;rw[if_neg h,ei,qH,qF hi]
  rw[if_pos (by simpa using h),ei,aH hi,qA]
  rw[e]at nJ hfin
  rw[nJ]
  exact hfin
def D4(s:M.aD)(l:List M.aW):M.aD:=l.foldl (λt w=>(Oi t w).1) s
theorem Jm{s:M.aD}{l:List M.aW}(U:s.ok)(C:l.length<=maxLen)(J:∀w∈l,M.aW.ok w)(hz:M.aD.sz s<=536870912):CG s l=some (D4 s l)/\(D4 s l).ok/\M.aD.sz (D4 s l)<=536870912:=by
 have hm:=le_max C
 unfold CG D4
 rw[iD s jD,qA]
 have:=QA (xs:=l) (L:=λn k (t:M.aD)=>oD l n k t.Name t.aJ7 t.aJe) (step:=λt w=>(Oi t w).1) (I:=λ_ t=>t.ok/\M.aD.sz t<=536870912) (E:=some) C
  (λt k hk j=>Ty j.1 (J _ (qG hk)) j.2) (λn t k hk j=>by
   simp only[oD]
   rw[if_pos (bE hk),aH hk,qA,show(⟨t.Name,t.aJe,t.aJ7⟩:M.aD)=t from rfl,FQ j.1 (J _ (qG hk)) jD,qA,bG jD]) (λn t j=>by
   simp only[oD]
   rw[if_neg jK]) s ⟨U,hz⟩
 exact⟨this.1,this.2⟩
theorem Nf{s:M.aD}{l:List M.aW}(U:s.ok)(C:l.length<=maxLen)(J:∀w∈l,M.aW.ok w)(hz:M.aD.sz s<=536870912):Bq s l=some (D4 s l):=by
 have hm:=le_max C
 unfold Bq D4
 rw[rJ s jD,qA]
 have:=QA (xs:=l) (L:=λn k (t:M.aD)=>jY l n k t.Name t.aJ7 t.aJe) (step:=λt w=>(Oi t w).1) (I:=λ_ t=>t.ok/\M.aD.sz t<=536870912) (E:=some) C
  (λt k hk j=>Ty j.1 (J _ (qG hk)) j.2) (λn t k hk j=>by
   simp only[jY]
   rw[if_pos (bE hk),aH hk,qA,show(⟨t.Name,t.aJe,t.aJ7⟩:M.aD)=t from rfl,FU j.1 (J _ (qG hk)) jD,qA,bG jD]
   cases h2:(Oi t l[k]).2 with
   |true=>rfl
   |false=>rw[Rz h2];rfl) (λn t j=>by
   simp only[jY]
   rw[if_neg jK]) s ⟨U,hz⟩
 exact this.1
def Pz(o:M.aM)(k:M.Key)(f:ByteArray)(n:Int):M.aM:=(⟨o.aJq,IntKind.i64.wrap (o.aKM+1),o.aJ1++[(⟨o.aJq,o.aKM,k,f,n⟩:M.aW)]⟩:M.aM)
def US(o:M.aM)(k:M.Key)(f:ByteArray)(n:Int):M.aM×Bool:=if FH o=true then if FH (Pz o k f n)=true then(Pz o k f n,true)else(o,false)else(o,false)
theorem P0{o:M.aM}{k:M.Key}{f:ByteArray}{n:Int}(C:o.ok)(hl:o.aJ1.length<=1073741824)(hk:k.ok)(J:f.size<=maxLen)(U:inI n):(Pz o k f n).ok:=
 ⟨C.aJq,Gr _,⟨by show(o.aJ1++_).length<=maxLen;unfold maxLen;simp;omega,λy I=>by have j:y∈o.aJ1++[(⟨o.aJq,o.aKM,k,f,n⟩:M.aW)]:=I;simp only[qP,qp,qO,or_false]at j;rcases j with I|rfl;(exact C.aJ1.2 y I);·exact⟨C.aJq,C.aKM,hk,J,U⟩⟩⟩
theorem Z3{o:M.aM}{k:M.Key}{f:ByteArray}{n:Int}(j:o.ok)(I:o.aJ1.length<=1073741824)(hk:k.ok)(C:f.size<=maxLen)(J:inI n):(US o k f n).1.ok:=by unfold US;split;(split;(exact P0 j I hk C J);·exact j);·exact j
theorem Za(o:M.aM)(k:M.Key)(f:ByteArray)(n:Int):M.aM.sz (US o k f n).1<=M.aM.sz o+k.aJ2.size+f.size+1:=by
 have h:M.aM.sz (Pz o k f n)<=M.aM.sz o+k.aJ2.size+f.size+1:=by simp only[Pz,M.aM.sz,qE,qJ,qK,Na,bA,M.aW.sz,M.Key.sz];omega
 unfold US
 split
 ·split;(exact h);·show M.aM.sz o<=_;omega
 ·show M.aM.sz o<=_;omega
theorem JJ{o:M.aM}{k:M.Key}{f:ByteArray}{n:Int}(j:o.ok)(hz:M.aM.sz o<=536870912)(hk:k.ok)(C:f.size<=maxLen)(I:inI n):sS o k f n=some (US o k f n):=by
 have J:o.aJ1.length<=536870912:=by simp only[M.aM.sz]at hz;omega
 have e:=F9 (P0 (k:=k) (f:=f) (n:=n) j jD hk C I)
 unfold Pz at e
 unfold sS US
 rw[Jg o jD,qA,F9 j,qA,eH jP,qA,e,qA]
 unfold Pz
 cases FH o
 ·simp
 ·cases FH (⟨o.aJq,IntKind.i64.wrap (o.aKM+1),o.aJ1++[(⟨o.aJq,o.aKM,k,f,n⟩:M.aW)]⟩:M.aM)<;>simp
theorem Jw{o:M.aM}{k:M.Key}{f:ByteArray}{n:Int}(j:o.ok)(hz:M.aM.sz o<=536870912)(hk:k.ok)(C:f.size<=maxLen)(I:inI n):sY o k f n=some (US o k f n):=by
 have J:o.aJ1.length<=536870912:=by simp only[M.aM.sz]at hz;omega
 have e:=F4 (P0 (k:=k) (f:=f) (n:=n) j jD hk C I)
 unfold Pz at e
 unfold sY US
 rw[G4 o jD,qA,eH jP,qA,F4 j,qA,e,qA]
 unfold Pz
 cases FH o
 ·simp
 ·cases FH (⟨o.aJq,IntKind.i64.wrap (o.aKM+1),o.aJ1++[(⟨o.aJq,o.aKM,k,f,n⟩:M.aW)]⟩:M.aM)<;>simp
def Y8(r:M.aE)(k:M.Key)(f:ByteArray)(n:Int):Bool:=Gu r&&((US r.aJx.aM k f n).2&&(Oi (D4 r.aJz r.aJx.aM.aJ1) (⟨0,0,k,f,n⟩:M.aW)).2)
def aAx(r:M.aE)(k:M.Key)(f:ByteArray)(n:Int):M.aE:=(⟨r.aJz,r.aKV,(⟨(US r.aJx.aM k f n).1,r.aJx.aKP,r.aJx.aKC⟩:M.aJx)⟩:M.aE)
def nWL(r:M.aE)(k:M.Key)(f:ByteArray)(n:Int):M.aE×Bool:=if Y8 r k f n=true then(aAx r k f n,true)else(r,false)
theorem aAM{r:M.aE}{k:M.Key}{f:ByteArray}{n:Int}(j:r.ok)(I:r.aJx.aM.aJ1.length<=1073741824)(hk:k.ok)(C:f.size<=maxLen)(J:inI n):(nWL r k f n).1.ok:=by unfold nWL;split;(exact⟨j.aJz,j.aKV,⟨Z3 j.aJx.aM I hk C J,j.aJx.aKP,j.aJx.aKC⟩⟩);·exact j
theorem aAZ(r:M.aE)(k:M.Key)(f:ByteArray)(n:Int):M.aE.sz (nWL r k f n).1<=M.aE.sz r+k.aJ2.size+f.size+1:=by have h:=Za r.aJx.aM k f n;unfold nWL;split;(simp only[aAx,M.aE.sz,M.aJx.sz];omega);·show M.aE.sz r<=_;omega
theorem aAW{α:Type}(a b c:Bool)(x y:α):(if(!a)=true then y else if(!b)=true then y else if(!c)=true then y else x)=if(a&&(b&&c))=true then x else y:=by cases a<;>cases b<;>cases c<;>rfl
theorem LL{r:M.aE}{k:M.Key}{f:ByteArray}{n:Int}(j:r.ok)(hz:M.aE.sz r<=536870912)(hk:k.ok)(I:f.size<=maxLen)(J:inI n):xU r k f n=some (nWL r k f n):=by have C:=hz;simp only[M.aE.sz,M.aJx.sz]at C;obtain⟨_,q2,q3⟩:=Jm j.aJz j.aJx.aM.aJ1.1 j.aJx.aM.aJ1.2 jD;have U:=Nf j.aJz j.aJx.aM.aJ1.1 j.aJx.aM.aJ1.2 jD;unfold xU Cc;rw[GK r jD,JJ j.aJx.aM jD hk I J,U,HI j];simp only[qA];rw[FU (w:=(⟨0,0,k,f,n⟩:M.aW)) q2 ⟨by unfold inI;simp,by unfold inI;simp,hk,I,J⟩ jD];simp only[qA,aAW];unfold nWL Y8 aAx;cases (Gu r&&((US r.aJx.aM k f n).2&&(Oi (D4 r.aJz r.aJx.aM.aJ1) (⟨0,0,k,f,n⟩:M.aW)).2))<;>simp
theorem K4{r:M.aE}{k:M.Key}{f:ByteArray}{n:Int}(j:r.ok)(hz:M.aE.sz r<=536870912)(hk:k.ok)(I:f.size<=maxLen)(J:inI n):wQ r k f n=some (nWL r k f n):=by have C:=hz;simp only[M.aE.sz,M.aJx.sz]at C;obtain⟨U,q2,q3⟩:=Jm j.aJz j.aJx.aM.aJ1.1 j.aJx.aM.aJ1.2 jD;unfold wQ BZ;rw[Gd r jD,Jw j.aJx.aM jD hk I J,U,HM j];simp only[qA];rw[FQ (w:=(⟨r.aJx.aM.aJq,r.aJx.aM.aKM,k,f,n⟩:M.aW)) q2 ⟨j.aJx.aM.aJq,j.aJx.aM.aKM,hk,I,J⟩ jD,show Oi (D4 r.aJz r.aJx.aM.aJ1) (⟨r.aJx.aM.aJq,r.aJx.aM.aKM,k,f,n⟩:M.aW)=Oi (D4 r.aJz r.aJx.aM.aJ1) (⟨0,0,k,f,n⟩:M.aW)from rfl];simp only[qA,aAW];unfold nWL Y8 aAx;cases (Gu r&&((US r.aJx.aM k f n).2&&(Oi (D4 r.aJz r.aJx.aM.aJ1) (⟨0,0,k,f,n⟩:M.aW)).2))<;>simp
theorem WL{b o:M.aJa}(j:M.aJa.sz b<=1048576)(C:M.aJb.sz o.bL.aJz<=1048576):M.aJb.sz (NB b o).1.bL.aJz<=1048576:=by unfold NB;split;(split;(exact C);·exact CD j);·exact CD j
def Mf(w:M.World)(b:M.aJa)(ok:Bool):M.World×Bool:=if ok=true then if(UE w.aC b).2=true then({ w with aC:=(UE w.aC b).1 },true)else(w,false)else(w,false)
theorem TW{w:M.World}{b:M.aJa}{ok:Bool}(j:w.ok)(hb:b.ok)(hz:M.World.sz w<=1048576):M.World.ok (Mf w b ok).1:=by have h:=Y7 j.aC hb (Ij hz);unfold Mf;split;(split;(exact⟨j.Now,j.aJq,h,j.aJu,j.aJy,j.aJv,j.aJp,j.aJ6,j.aJ0⟩);·exact j);·exact j
theorem Fu{w:M.World}{b:M.aJa}{ok:Bool}(j:w.ok)(hb:b.ok)(hz:M.World.sz w<=1048576)(I:M.aJa.sz b<=1073741824)(C:M.aJb.sz b.bL.aJz<=1048576):oQ w b ok=some (Mf w b ok):=by unfold oQ Mf;rw[EG w jD,qA,Le j.aC hb (Ij hz) I C,qA];cases ok;(simp);·cases (UE w.aC b).2<;>simp
theorem Nv(w:M.World)(b:M.aJa)(ok:Bool):(Mf w b ok).1.aJu=w.aJu:=by unfold Mf;split;(split<;>rfl);·rfl
theorem Lj{α:Type}{f:α->Nat}{x:α}:∀{l:List α} {i:Nat} (h:i<l.length),bA f (l.set i x)+f l[i]=bA f l+f x
 |[],_,h=>absurd h jF
 |y::l,0,_=>by simp only[List.set_cons_zero,bA,List.getElem_cons_zero];omega
 |y::l,i+1,h=>by have:=Lj (f:=f) (x:=x) (l:=l) (i:=i) (by simpa using h);simp only[List.set_cons_succ,bA,List.getElem_cons_succ];omega
theorem O5{w:M.World}{b:M.aJa}{ok:Bool}{c j:Nat}{a t:ByteArray}(e:mD (nAt a t) w.aC.aJh=(j:Int))(J:j<w.aC.aJh.length)(h1:b.aJj=w.aC.aJh[j].aJj)(h2:b.Top=w.aC.aJh[j].Top)(hz:M.aJa.sz b<=M.aJa.sz w.aC.aJh[j]+c):M.World.sz (Mf w b ok).1<=M.World.sz w+c:=by
 obtain⟨_,C⟩:=Es e
 have e2:nAt b.aJj b.Top=nAt a t:=by funext x;unfold nAt at C⊢;rw[qM]at C;rw[h1,h2,eq_of_beq C.1,eq_of_beq C.2]
 have I:HZ w.aC b=w.aC.aJh.set j b:=by unfold HZ;rw[e2,e,if_pos jD,qH]
 have U:=Lj (f:=M.aJa.sz) (x:=b) J
 have key:M.aC.sz (UE w.aC b).1<=M.aC.sz w.aC+c:=by unfold UE RY;rw[I];split;(split;(simp only[M.aC.sz,qN];omega);·exact Nat.le_add_right _ _);·exact Nat.le_add_right _ _
 unfold Mf
 split
 ·split;(simp only[M.World.sz];omega);·exact Nat.le_add_right _ _
 ·exact Nat.le_add_right _ _
theorem Qt{b o:M.aJa}{c:Nat}(h1:o.aJj=b.aJj)(h2:o.Top=b.Top)(hz:M.aJa.sz o<=M.aJa.sz b+c):(NB b o).1.aJj=b.aJj/\(NB b o).1.Top=b.Top/\M.aJa.sz (NB b o).1<=M.aJa.sz b+c:=by unfold NB;split;(split;(exact⟨h1,h2,hz⟩);·exact⟨rfl,rfl,Nat.le_add_right _ _⟩);·exact⟨rfl,rfl,Nat.le_add_right _ _⟩
theorem Xs{α:Type}{f:α->Bool}{l:List α}{k:Nat}{x:α}(e:mD f l=(k:Int))(hx:f x=true):mD f (l.set k x)=(k:Int)/\(l.set k x)[k]? =some x:=by
 obtain⟨hk,U⟩:=Es e
 have h1:=I9 hk U
 have C:k<(l.set k x).length:=by rw[qN];exact hk
 have hg:(l.set k x)[k]? =some x:=by rw[qF C,List.getElem_set_self]
 have h2:=I9 (f:=f) (xs:=l.set k x) C (by rw[List.getElem_set_self];exact hx)
 rw[e,beq_self_eq_true]at h1
 refine⟨eq_of_beq (h2.trans ?_),hg⟩
 rw[qR]
 intro j J
 have h3:=(qR.1 h1.symm) j J
 have I:k≠j:=by have:=qS.1 J;omega
 rw[List.getElem?_set_ne I]
 exact h3
theorem UH{w:M.World}{p:M.bD}{n v:Int}{f:ByteArray}(J:w.ok)(hn:inI n)(hv:inI v)(hf:f.size<=1048576)(hz:M.World.sz w<=1048576):∃R:M.World×Bool,wO w p n f v=some R/\Ba w p n f v=some R/\R.1.ok/\M.World.sz R.1<=M.World.sz w+(f.size+1)/\R.1.aJu=w.aJu:=by
 have hz':=hz
 simp only[M.World.sz,M.aC.sz]at hz'
 have U:f.size<=maxLen:=by unfold maxLen;omega
 unfold wO Ba kG nG vC
 rw[rU J.aC,sH J.aC,E5 w jD,EG w jD]
 simp only[qA]
 by_cases h:mD (nAt p.aJj p.Top) w.aC.aJh<0
 ·simp only[h,decide_true,if_true,qA];exact⟨(w,false),rfl,jF,J,Nat.le_add_right _ _,rfl⟩
 ·obtain⟨j,ej,hj⟩:=eN h
  simp only[h,decide_false,qD,if_false]
  rw[ej,aH hj]
  simp only[qA,qB,qD,if_false]
  have hb:=J.aC.aJh.2 _ (qG hj)
  have z1:=eD (f:=M.aJa.sz) (qG hj)
  have grow:=λ(b:M.aJa) (ok:Bool) (c:Nat)=>O5 (w:=w) (b:=b) (ok:=ok) (c:=c) ej hj
  generalize w.aC.aJh[j]=q at hb z1 grow
  have z2:M.aE.sz q.aE<=M.aJa.sz q:=by simp only[M.aJa.sz];omega
  have z3:q.aE.aJx.aM.aJ1.length<=M.aE.sz q.aE:=by simp only[M.aE.sz,M.aJx.sz,M.aM.sz];omega
  have hk:M.Key.ok (⟨1,n,(⟨#[]⟩:ByteArray)⟩:M.Key):=⟨by unfold inI;simp,hn,by simp[maxLen,ByteArray.size]⟩
  rw[LL hb.aE jD hk U hv,K4 hb.aE jD hk U hv]
  have C:=aAM (n:=v) hb.aE jD hk U hv
  have sz1:=aAZ q.aE (⟨1,n,(⟨#[]⟩:ByteArray)⟩:M.Key) f v
  generalize nWL q.aE (⟨1,n,(⟨#[]⟩:ByteArray)⟩:M.Key) f v=T at C sz1
  obtain⟨r,c⟩:=T
  have hk0:(⟨#[]⟩:ByteArray).size=0:=rfl
  simp only[hk0]at C sz1
  simp only[qA]
  have zo:M.aJb.sz (eO q r).bL.aJz<=1048576:=CD (b:=q) jD
  have zr:=F7 q r
  have zc:=W3 q (eO q r)
  have zd:=WL (b:=q) (o:=eO q r) jD zo
  have I:=Wm hb (FM hb C)
  rw[IU hb C jD jD zo,IP hb C jD jD zo]
  simp only[qA]
  have yg:=Qt (b:=q) (o:=eO q r) (c:=f.size+1) rfl rfl (by simp only[eO,M.aJa.sz];omega)
  generalize NB q (eO q r)=Y at zc I zd yg
  rw[Fu J I hz jD zd,Fu J I hz jD zd,G8 J.aC I (Ij hz) jD zd]
  simp only[qA]
  have ok4:=TW (ok:=c&&Y.2) J I hz
  have sz4:=grow Y.1 (c&&Y.2) (f.size+1) yg.1 yg.2.1 yg.2.2
  refine⟨Mf w Y.1 (c&&Y.2),?_,?_,ok4,sz4,Nv _ _ _⟩
  ·cases c<;>simp
  ·unfold Mf;cases c;(simp);·cases Y.2;(simp);·cases (UE w.aC Y.1).2<;>simp
def X8(l:List Int)(i:Int)(b:List Int):List Int:=l++(Gc b++uv (Wp i b).toNat)
def XH(l:List Int)(i:Int)(b:List Int):List Int×Bool:=if i<0 then(l,false)else if(X8 l i b).length>4000 then(l,false)else(X8 l i b,true)
theorem VY{l b:List Int}{i:Int}:X8 l i b=(l++Gc b)++uv (Wp i b).toNat:=by unfold X8;rw[qT]
theorem VB(i:Int)(b:List Int):0<=Wp i b/\Wp i b<2147483647:=Sf _
theorem Mw{l b:List Int}{i:Int}(I:l.length<=1048576)(hb:b.length<=100000):zV l i b=some (XH l i b):=by have C:=VB i b;have J:=FK (n:=b.length) jD;have j:=mW (r:=l++Gc b) (n:=(Wp i b).toNat) (by unfold Gc;simp only[qE];omega) jD;rw[Int.toNat_of_nonneg C.1,<-VY]at j;unfold zV XH;rw[JR jD jD,qA,pR jD jD,qA,IE jD,qA];show((bX (l++Gc b) (Wp i b)).bind _)=_;rw[j,qA];by_cases hi:i<0;(rw[if_pos (by simpa using hi),if_pos hi]);·rw[if_neg (by simpa using hi),if_neg hi];by_cases h4:(X8 l i b).length>4000;(rw[if_pos jE,if_pos h4]);·rw[if_neg jE,if_neg h4]
theorem Mz{l b:List Int}{i:Int}(I:l.length<=1048576)(hb:b.length<=100000):Aa l i b=some (XH l i b):=by have C:=VB i b;have J:=FK (n:=b.length) jD;have j:=mY (r:=l++Gc b) (n:=(Wp i b).toNat) (by unfold Gc;simp only[qE];omega) jD;rw[Int.toNat_of_nonneg C.1,<-VY]at j;unfold Aa XH;rw[DK jD jD,qA,IB jD,qA];show((cF (l++Gc b) (Wp i b)).bind _)=_;rw[j,qA,E1 l jD,qA];by_cases hi:i<0;(rw[if_pos (by simpa using hi),if_pos hi]);·rw[if_neg (by simpa using hi),if_neg hi];by_cases h4:(X8 l i b).length>4000;(rw[if_pos jE,if_pos h4]);·rw[if_neg jE,if_neg h4]
def aAu(d:M.bL)(l:List M.Op):Bool:=(E3 (Fl d).1 l).2.2&&((List.length (Gb l):Int) !=0&&(((Fl d).2==d.aKJ)&&(XH d.Log d.aKJ (Gb l)).2))
def HA(d:M.bL)(l:List M.Op):M.bL×Bool:=if aAu d l=true then((⟨d.aJz,(XH d.Log d.aKJ (Gb l)).1,IntKind.i64.wrap (d.aKJ+1)⟩:M.bL),true)else(d,false)
theorem Rg(l:List M.Op):(Gb l).length<=2000:=by unfold Gb;split;(rename_i h;rw[qM,qL,qR]at h;have h1:=P7 (f:=enO) (λo j=>Qa (h.1 o j));have h9:=FK (n:=l.length) jD;rw[qE];omega);·simp
theorem LA{d:M.bL}{l:List M.Op}(C:d.ok)(hz:M.bL.sz d<=1048576)(I:l.length<=1000)(J:∀o∈l,KV o):wP d l=some (HA d l):=by
 have j:d.Log.length<=1048576:=by simp only[M.bL.sz]at hz;omega
 have he:=Rg l
 obtain⟨U,v2⟩:=FI C hz
 unfold wP HA aAu
 rw[GH d jD,qA,IQ C hz,qA,Kq U I J v2,qA,HW I J,qA,Mw j jD,qA]
 unfold bne
 generalize (E3 (Fl d).1 l).2.2=a1
 generalize ((List.length (Gb l):Int)==0)=a2
 generalize ((Fl d).2==d.aKJ)=a3
 cases a1<;>cases a2<;>cases a3<;>cases (XH d.Log d.aKJ (Gb l)).2<;>rfl
theorem Lr{d:M.bL}{l:List M.Op}(C:d.ok)(hz:M.bL.sz d<=1048576)(I:l.length<=1000)(J:∀o∈l,KV o):xV d l=some (HA d l):=by
 have j:d.Log.length<=1048576:=by simp only[M.bL.sz]at hz;omega
 have he:=Rg l
 obtain⟨U,v2⟩:=FI C hz
 unfold xV HA aAu
 rw[Iy d jD,qA,F8 C hz,qA,Kz U I J v2,qA,HQ I J,qA,Mz j jD,qA]
 unfold bne
 generalize (E3 (Fl d).1 l).2.2=a1
 generalize ((List.length (Gb l):Int)==0)=a2
 rw[Bool.beq_comm (a:=d.aKJ)]
 generalize ((Fl d).2==d.aKJ)=a3
 cases a1<;>cases a2<;>cases a3<;>cases (XH d.Log d.aKJ (Gb l)).2<;>rfl
theorem Uh{d:M.bL}{l:List M.Op}(C:d.ok):(HA d l).1.ok/\M.bL.sz (HA d l).1<=M.bL.sz d+4000/\(HA d l).1.aJz=d.aJz:=by unfold HA;split;(rename_i h;unfold aAu at h;simp only[qM]at h;have h4:=h.2.2.2;unfold XH at h4⊢;split at h4;(cases h4);·rename_i I;rw[if_neg I];split at h4;(cases h4);·rename_i J;rw[if_neg J];refine⟨⟨C.aJz,⟨qg (by omega:(X8 d.Log d.aKJ (Gb l)).length<=4000) jJ,λy U=> ?_⟩,Gr _⟩,?_,rfl⟩;(have j:y∈X8 d.Log d.aKJ (Gb l):=U;unfold X8 at j;simp only[qP]at j;rcases j with h|h|h;(exact C.Log.2 y h);(exact IY (P6 l).2 y h);·exact KX _ y h);·simp only[M.bL.sz];omega);·exact⟨C,by dsimp only;omega,rfl⟩
theorem SD{w:M.World}{p:M.bD}{n v:Int}{f:ByteArray}(J:w.ok)(hn:inI n)(hv:inI v)(hf:f.size<=1048576)(hz:M.World.sz w<=1048576):∃R:M.World×Bool,tK w p n f v=some R/\zM w p n f v=some R/\R.1.ok/\M.World.sz R.1<=M.World.sz w+(4000)/\R.1.aJu=w.aJu:=by
 have hz':=hz
 simp only[M.World.sz,M.aC.sz]at hz'
 have U:f.size<=maxLen:=by unfold maxLen;omega
 unfold tK zM kG nG vC
 rw[rU J.aC,sH J.aC,E5 w jD,EG w jD]
 simp only[qA]
 by_cases h:mD (nAt p.aJj p.Top) w.aC.aJh<0
 ·simp only[h,decide_true,if_true,qA];exact⟨(w,false),rfl,jF,J,Nat.le_add_right _ _,rfl⟩
 ·obtain⟨j,ej,hj⟩:=eN h
  simp only[h,decide_false,qD,if_false]
  rw[ej,aH hj]
  simp only[qA,qB,qD,if_false]
  have hb:=J.aC.aJh.2 _ (qG hj)
  have z1:=eD (f:=M.aJa.sz) (qG hj)
  have grow:=λ(b:M.aJa) (ok:Bool) (c:Nat)=>O5 (w:=w) (b:=b) (ok:=ok) (c:=c) ej hj
  generalize w.aC.aJh[j]=q at hb z1 grow
  have z2:M.bL.sz q.bL<=M.aJa.sz q:=by simp only[M.aJa.sz];omega
  obtain⟨v1,v2⟩:=FI hb.bL jD
  obtain⟨g,eg⟩:=Kn (n:=n) v1
  have nk:=P8 (n:=n) v1
  have nz:=Xc (n:=n) v2
  have nl:(Jf (Fl q.bL).1 n).aJi.length<=1048576:=by simp only[M.aA.sz]at nz;omega
  rw[HU hb.bL jD,F8 hb.bL jD]
  simp only[qA]
  rw[eg]
  simp only[qA]
  rw[DI nk jD U hv,DY nk jD U hv]
  simp only[qA]
  have ok0:=Nk nk jD U hv
  generalize H4 (Jf (Fl q.bL).1 n) f v=S at ok0
  obtain⟨r,c0⟩:=S
  have ho:∀o∈[(⟨1,(⟨#[110,111,116,101,115]⟩:ByteArray),(⟨1,n,(⟨#[]⟩:ByteArray)⟩:M.Key),r,(⟨#[]⟩:ByteArray)⟩:M.Op)],KV o:=λo hx=>by rw[qQ.1 hx];exact⟨by show inI 1;unfold inI;omega,(by show(⟨#[110,111,116,101,115]⟩:ByteArray).size<=maxLen;exact aIF _ jG),⟨by show inI 1;unfold inI;omega,hn,sz0⟩,ok0,sz0⟩
  rw[LA hb.bL jD jF ho,Lr hb.bL jD jF ho]
  obtain⟨C,sz1,eb⟩:=Uh (l:=[(⟨1,(⟨#[110,111,116,101,115]⟩:ByteArray),(⟨1,n,(⟨#[]⟩:ByteArray)⟩:M.Key),r,(⟨#[]⟩:ByteArray)⟩:M.Op)]) hb.bL
  generalize HA q.bL [(⟨1,(⟨#[110,111,116,101,115]⟩:ByteArray),(⟨1,n,(⟨#[]⟩:ByteArray)⟩:M.Key),r,(⟨#[]⟩:ByteArray)⟩:M.Op)]=T at C sz1 eb
  obtain⟨k,c⟩:=T
  dsimp only at C sz1 eb
  simp only[qA]
  have zo:M.aJb.sz (nN q k).bL.aJz<=1048576:=by show M.aJb.sz k.aJz<=_;rw[eb];exact CD (b:=q) jD
  have zr:=Iq q k
  have zc:=W3 q (nN q k)
  have zd:=WL (b:=q) (o:=nN q k) jD zo
  have I:=Wm hb (Io hb C)
  rw[Ko hb C jD jD zo,Ke hb C jD jD zo]
  simp only[qA]
  have yg:=Qt (b:=q) (o:=nN q k) (c:=4000) rfl rfl (by simp only[nN,M.aJa.sz];omega)
  generalize NB q (nN q k)=Y at zc I zd yg
  rw[Fu J I hz jD zd,Fu J I hz jD zd,G8 J.aC I (Ij hz) jD zd]
  simp only[qA]
  generalize N5 (Fl q.bL).1=c1
  have ok4:=TW (ok:=c1&&(c0&&(c&&Y.2))) J I hz
  have sz4:=grow Y.1 (c1&&(c0&&(c&&Y.2))) (4000) yg.1 yg.2.1 yg.2.2
  refine⟨Mf w Y.1 (c1&&(c0&&(c&&Y.2))),?_,?_,ok4,sz4,Nv _ _ _⟩
  ·cases c1<;>cases c0<;>cases c<;>simp
  ·unfold Mf;cases c1;(simp);cases c0;(simp);cases c;(simp);·cases Y.2;(simp);·cases (UE w.aC Y.1).2<;>simp
