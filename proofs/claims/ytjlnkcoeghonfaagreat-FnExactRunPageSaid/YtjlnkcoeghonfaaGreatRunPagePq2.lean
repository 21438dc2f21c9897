/-
  Helper text. No conditions.
-/
import Derived.Test.YtjlnkcoeghonfaaGreatRunPagePq1
set_option linter.all false
namespace Go.Proofs.YtjlnkcoeghonfaaGreat.gen
open Go Go.Sh
open Go.IntKind (i64)
theorem FP:∀(j n:Nat),n<2^(7*(j+1))->(uv n).length<=j+1
 |0,n,h=>by rw[Lj (by simpa using h)];simp
 |j+1,n,h=>by
  by_cases h1:n<128
  ·rw[Lj h1];simp
  ·rw[Q6 h1,qJ]
   have e:2^(7*(j+1+1))=2^(7*(j+1))*128:=by rw[show 7*(j+1+1)=7*(j+1)+7 from by omega,Nat.pow_add]
   have:=FP j (n/128) (by rw[e]at h;omega)
   omega
theorem FQ{n:Nat}(h:n<=1000000000000):(uv n).length<=6:=FP 5 n (Nat.lt_of_le_of_lt h jG)
theorem Jy(n:Nat):1<=(uv n).length:=by by_cases h:n<128;(rw[Lj h];simp);·rw[Q6 h];simp
theorem K3:∀(n:Nat) (x:Int),x∈uv n->0<=x/\x<=255:=by
 intro n
 induction n using Nat.strongRecOn with
 |_ n C=>
  intro x j
  by_cases h:n<128
  ·rw[Lj h,qQ]at j;subst j;omega
  ·rw[Q6 h,qp]at j;rcases j with rfl|j;(omega);·exact C (n/128) jD x j
def Rq(b:List Int)(a:Nat):Nat->Nat->Nat->Int×Int×Bool
 |0,_,_=>(0,0,false)
 |j+1,k,n=>match b[a+k]? with
  |none=>(0,0,false)
  |some x=>if x.toNat<128 then if(decide (x.toNat=0)&&decide (0<k))||decide (1000000000000<n+x.toNat%128*2^(7*k))then(0,0,false)else(((n+x.toNat%128*2^(7*k):Nat):Int),((a+k+1:Nat):Int),true)else Rq b a j (k+1) (n+x.toNat%128*2^(7*k))
def nUv(b:List Int)(p:Int):Int×Int×Bool:=if p<0 then(0,0,false)else Rq b p.toNat 6 0 0
theorem N0{k:Nat}(h:k<6):2^(7*k)<=34359738368:=Nat.pow_le_pow_right (n:=2) jG (show 7*k<=35 by omega)
theorem WS{k n x:Nat}(j:n<2^(7*k)):n+x%128*2^(7*k)<2^(7*(k+1)):=by
 have e:2^(7*(k+1))=2^(7*k)*128:=by rw[show 7*(k+1)=7*k+7 from by omega,Nat.pow_add]
 have h1:x%128<=127:=by omega
 have h2:x%128*2^(7*k)<=127*2^(7*k):=qi _ h1
 rw[e]
 omega
theorem YW{n x k:Nat}(h:n<2^k):n|||x*2^k=n+x*2^k:=by have:=Nat.two_pow_add_eq_or_of_lt h x;rw[Nat.mul_comm x,Nat.or_comm,<-this,Nat.add_comm]
theorem S2{k x:Nat}(hk:k<6):i64.wrap (((x%128:Nat):Int)*2^(min (i64.wrap (7*(k:Int))).toNat IntKind.i64.bits))=((x%128*2^(7*k):Nat):Int):=by
 have j:=N0 hk
 have h1:x%128<=127:=by omega
 have h2:x%128*2^(7*k)<=127*2^(7*k):=qi _ h1
 have e:min (i64.wrap (7*(k:Int))).toNat IntKind.i64.bits=7*k:=by rw[bI jD jD,show IntKind.i64.bits=64 from rfl];omega
 rw[e,show(((x%128:Nat):Int)*2^(7*k))=((x%128*2^(7*k):Nat):Int)from by rw[Int.natCast_mul,Int.natCast_pow];rfl]
 exact bI jD jD
theorem uvS{n k x:Nat}(hk:k<6)(I:x<=255)(j:n<2^(7*k)):(i64.wrap (BitVec.ofInt (IntKind.i64.bits) (n:Int)|||BitVec.ofInt (IntKind.i64.bits) (i64.wrap ((i64.wrap (BitVec.ofInt (IntKind.i64.bits) (i64.wrap (x:Int))&&&BitVec.ofInt (IntKind.i64.bits) 127).toNat)*2^(min (i64.wrap (7*(k:Int))).toNat IntKind.i64.bits)))).toNat)=((n+x%128*2^(7*k):Nat):Int):=by
 have C:=N0 hk
 have h1:x%128<=127:=by omega
 have h2:x%128*2^(7*k)<=127*2^(7*k):=qi _ h1
 have e:=M0 (n:=x) (m:=127) jD jD
 rw[YV]at e
 rw[bI (n:=(x:Int)) jD jD,show((127:Int))=((127:Nat):Int)from rfl,e,S2 hk,R6 jD jD,YW j]
theorem uvI{n k x:Nat}(hk:k<6)(I:x<=255)(j:n<2^(7*k)):(i64.wrap ((n:Int)+(i64.wrap ((Int.tmod (i64.wrap (x:Int)) 128)*2^(min (i64.wrap (7*(k:Int))).toNat IntKind.i64.bits)))))=((n+x%128*2^(7*k):Nat):Int):=by
 have C:=N0 hk
 have h1:x%128<=127:=by omega
 have h2:x%128*2^(7*k)<=127*2^(7*k):=qi _ h1
 have e:Int.tmod (x:Int) 128=((x%128:Nat):Int):=by rw[Int.tmod_eq_emod_of_nonneg jD];omega
 rw[bI (n:=(x:Int)) jD jD,e,S2 hk,<-Int.natCast_add]
 exact bI jD jD
theorem Xo{b:List Int}(hb:okB b){k:Nat}(h:k<b.length):∃x:Nat,b[k]=(x:Int)/\x<=255:=by have:=hb.2 _ (qG h);exact⟨b[k].toNat,jD,jD⟩
theorem rdS{b:List Int}(hb:okB b)(J:b.length<=1500000)(a:Nat)(I:(a:Int)<=9223372036854775807):∀(j k n m:Nat),j+k=6->n<2^(7*k)->j<m->eG b (a:Int) m (n:Int) (k:Int)=some (Rq b a j k n)
 |_,_,_,0,_,_,h=>by omega
 |0,k,n,m+1,hk,_,_=>by simp only[eG];rw[if_neg jE];rfl
 |j+1,k,n,m+1,hk,C,hm=>by
  have h6:k<6:=by omega
  simp only[eG]
  rw[if_pos jE,if_neg jF,bI (n:=(b.length:Int)-(k:Int)) jD jD]
  by_cases hlt:a+k<b.length
  ·obtain⟨x,ex,U⟩:=Xo hb hlt;rw[if_neg jE,show((a:Int)+(k:Int))=((a+k:Nat):Int)from by omega,bI (n:=((a+k:Nat):Int)) jD jD,aH hlt,qA,ex,bG jD,bG jD,if_pos (by rw[bI jD jD];simp;omega)];rw[uvS h6 U C,bI (n:=(x:Int)) jD jD];unfold Rq;rw[qF hlt,ex];dsimp only;rw[qH];have ih:=rdS hb J a I j (k+1) (n+x%128*2^(7*k)) m jD (WS C) jD;by_cases h1:x<128;(rw[if_pos jE,if_pos h1];by_cases h2:x=0;(rw[if_pos (by simp[h2])];by_cases h3:0<k;(rw[if_pos jE,if_pos (by simp[h2,h3])]);·rw[if_neg jE];by_cases h4:1000000000000<n+x%128*2^(7*k);(rw[if_pos (by rw[qL];omega),if_pos (by rw[Bool.or_eq_true,qL];exact .inr h4)]);·rw[if_neg (by rw[qL];omega),if_neg (by rw[Bool.or_eq_true,qM,qL,qL,qL];omega)]);·rw[if_neg jE];by_cases h4:1000000000000<n+x%128*2^(7*k);(rw[if_pos (by rw[qL];omega),if_pos (by rw[Bool.or_eq_true,qL];exact .inr h4)]);·rw[if_neg (by rw[qL];omega),if_neg (by rw[Bool.or_eq_true,qM,qL,qL,qL];omega)]);·rw[if_neg jE,if_neg h1];exact ih
  ·rw[if_pos jE];unfold Rq;rw[qY jD]
theorem pX{b:List Int}{p:Int}(hb:okB b)(j:b.length<=1500000)(C:inI p):fI b p=some (nUv b p):=by
 unfold fI nUv
 by_cases h:p<0
 ·have e:∀m,eG b p (m+1) 0 0=some (0,0,false):=λm=>by
   simp only[eG]
   rw[if_pos jG,if_pos (by simpa using h)]
  rw[if_pos h]
  exact e 18446744073709551615
 ·rw[if_neg h];obtain⟨a,rfl⟩:=Int.eq_ofNat_of_zero_le (show 0<=p by omega);exact rdS hb j a C.2 6 0 0 fuel rfl jG jI
theorem rdI{b:List Int}(hb:okB b)(J:b.length<=1500000)(a:Nat)(I:a<b.length):∀(j k n m:Nat),j+k=6->n<2^(7*k)->j<m->iA b (a:Int) m (n:Int) (k:Int)=some (Rq b a j k n)
 |_,_,_,0,_,_,h=>by omega
 |0,k,n,m+1,hk,_,_=>by simp only[iA];rw[if_neg jE];rfl
 |j+1,k,n,m+1,hk,C,hm=>by
  have h6:k<6:=by omega
  simp only[iA]
  rw[if_pos jE,show((a:Int)+(k:Int))=((a+k:Nat):Int)from by omega,bI (n:=((a+k:Nat):Int)) jD jD]
  by_cases hlt:a+k<b.length
  ·obtain⟨x,ex,U⟩:=Xo hb hlt;rw[if_pos jE,aH hlt,qA,ex,bG jD,bG jD,if_pos (by rw[bI jD jD];simp;omega)];rw[uvI h6 U C,bI (n:=(x:Int)) jD jD];unfold Rq;rw[qF hlt,ex];dsimp only;rw[qH];have ih:=rdI hb J a I j (k+1) (n+x%128*2^(7*k)) m jD (WS C) jD;by_cases h1:x<128;(rw[if_pos jE,if_pos h1];by_cases h3:0<k;(rw[if_pos jE];by_cases h2:x=0;(rw[if_pos (by simp[h2]),if_pos (by simp[h2,h3])]);·rw[if_neg jE];by_cases h4:1000000000000<n+x%128*2^(7*k);(rw[if_pos (by rw[qL];omega),if_pos (by rw[Bool.or_eq_true,qL];exact .inr h4)]);·rw[if_neg (by rw[qL];omega),if_neg (by rw[Bool.or_eq_true,qM,qL,qL,qL];omega)]);·rw[if_neg jE];by_cases h4:1000000000000<n+x%128*2^(7*k);(rw[if_pos (by rw[qL];omega),if_pos (by rw[Bool.or_eq_true,qL];exact .inr h4)]);·rw[if_neg (by rw[qL];omega),if_neg (by rw[Bool.or_eq_true,qM,qL,qL,qL];omega)]);·rw[if_neg jE,if_neg h1];exact ih
  ·rw[if_neg jE];unfold Rq;rw[qY jD]
theorem pN{b:List Int}{p:Int}(hb:okB b)(j:b.length<=1500000):fJ b p=some (nUv b p):=by unfold fJ nUv;by_cases h:p<0;(rw[if_pos h,if_pos (by simpa using h)]);·rw[if_neg h,if_neg (by simpa using h)];obtain⟨a,rfl⟩:=Int.eq_ofNat_of_zero_le (show 0<=p by omega);rw[qH];by_cases h1:a<b.length;(rw[if_neg jE];exact rdI hb j a h1 6 0 0 fuel rfl jG jI);·rw[if_pos jE];unfold Rq;rw[qY jD]
theorem U1(b:List Int)(a:Nat):∀(j k n:Nat),(Rq b a j k n).2.2=false->Rq b a j k n=(0,0,false)
 |0,_,_,_=>rfl
 |j+1,k,n,h=>by
  unfold Rq at h⊢
  cases e:b[a+k]? with
  |none=>rfl
  |some x=>
   rw[e]at h
   dsimp only at h⊢
   split at h
   ·split at h;(rename_i h1 h2;rw[if_pos h1,if_pos h2]);·cases h
   ·rename_i h1;rw[if_neg h1];exact U1 b a j (k+1) _ h
theorem aAa{b:List Int}{p:Int}(h:(nUv b p).2.2=false):nUv b p=(0,0,false):=by unfold nUv at h⊢;split;(rfl);·rename_i h1;rw[if_neg h1]at h;exact U1 b _ 6 0 0 h
theorem drop_cons{b:List Int}{i:Nat}{x:Int}{r:List Int}(h:b.drop i=x::r):b[i]? =some x/\b.drop (i+1)=r:=by constructor;(have:=List.head?_drop (l:=b) (i:=i);rw[h]at this;simpa using this.symm);·rw[<-List.drop_drop,h];rfl
theorem Tn(b:List Int)(a:Nat):∀(j k n m:Nat) (r:List Int),b.drop (a+k)=uv m++r->(uv m).length<=j->n+m*2^(7*k)<=1000000000000->(k=0\/0<m)->Rq b a j k n=(((n+m*2^(7*k):Nat):Int),((a+k+(uv m).length:Nat):Int),true)
 |0,k,n,m,r,_,h,_,_=>by have:=Jy m;omega
 |j+1,k,n,m,r,C,I,J,hk=>by
  unfold Rq
  by_cases h:m<128
  ·rw[Lj h]at C⊢;rw[(drop_cons C).1];dsimp only;rw[qH,if_pos h,Nat.mod_eq_of_lt h,if_neg (by rw[Bool.or_eq_true,qM,qL,qL,qL];omega)];rfl
  ·rw[Q6 h]at C I⊢
   rw[List.cons_append]at C
   obtain⟨h1,h2⟩:=drop_cons C
   rw[h1]
   dsimp only
   rw[qH,if_neg jD,show(m%128+128)%128=m%128 from by omega]
   have e:2^(7*(k+1))=128*2^(7*k):=by rw[show 7*(k+1)=7+7*k from by omega,Nat.pow_add]
   have e2:n+m%128*2^(7*k)+m/128*2^(7*(k+1))=n+m*2^(7*k):=by rw[e,<-Nat.mul_assoc,qy,<-Nat.add_mul];congr 2;omega
   rw[qJ]at I⊢
   have U:=Tn b a j (k+1) (n+m%128*2^(7*k)) (m/128) r h2 jD (by rw[e2];exact J) (.inr jD)
   rw[U,e2]
   congr 2
   omega
theorem Sg{b:List Int}{a m:Nat}{r:List Int}(h:b.drop a=uv m++r)(j:m<=1000000000000):nUv b (a:Int)=((m:Int),((a+(uv m).length:Nat):Int),true):=by unfold nUv;rw[if_neg jD,qH,Tn b a 6 0 0 m r h (FQ j) (by simpa using j) (.inl rfl)];simp
theorem Tt{b:List Int}(hb:okB b)(a:Nat):∀(j k n:Nat) (v q:Int),Rq b a j k n=(v,q,true)->∃m e:Nat,v=((n+m*2^(7*k):Nat):Int)/\q=(e:Int)/\n+m*2^(7*k)<=1000000000000/\e<=b.length/\a+k+(uv m).length=e/\b.drop (a+k)=uv m++b.drop e/\(k=0\/0<m)
 |0,_,_,_,_,h=>by cases h
 |j+1,k,n,v,q,h=>by
  unfold Rq at h
  by_cases hlt:a+k<b.length
  ·obtain⟨x,ex,hx⟩:=Xo hb hlt
   have C:b.drop (a+k)=(x:Int)::b.drop (a+k+1):=by rw[qW hlt,ex]
   rw[qF hlt,ex]at h
   dsimp only at h
   rw[qH]at h
   by_cases h1:x<128
   ·rw[if_pos h1,Nat.mod_eq_of_lt h1]at h;split at h;(cases h);·rename_i h2;rw[Bool.or_eq_true,qM,qL,qL,qL]at h2;simp only[qa]at h;refine⟨x,a+k+1,h.1.symm,h.2.1.symm,jD,jD,by rw[Lj h1];rfl,by rw[Lj h1];exact C,jD⟩
   ·rw[if_neg h1]at h
    obtain⟨m,e,e1,e2,e3,e4,e5,e6,e7⟩:=Tt hb a j (k+1) _ v q h
    have U:0<m:=by omega
    have J:2^(7*(k+1))=128*2^(7*k):=by rw[show 7*(k+1)=7+7*k from by omega,Nat.pow_add]
    have e8:n+x%128*2^(7*k)+m*2^(7*(k+1))=n+(m*128+x%128)*2^(7*k):=by rw[J,<-Nat.mul_assoc,qy,<-Nat.add_mul,Nat.add_comm (x%128)]
    have I:uv (m*128+x%128)=(x:Int)::uv m:=by rw[Q6 jD,show(m*128+x%128)/128=m from by omega,show(m*128+x%128)%128+128=x from by omega]
    rw[e8]at e1 e3
    refine⟨m*128+x%128,e,e1,e2,e3,e4,by rw[I,qJ];omega,by rw[I,C,List.cons_append];exact congrArg _ e6,.inr jD⟩
  ·rw[qY jD]at h;cases h
theorem PO{b:List Int}{p v q:Int}(hb:okB b)(h:nUv b p=(v,q,true)):∃a m e:Nat,p=(a:Int)/\v=(m:Int)/\q=(e:Int)/\m<=1000000000000/\e<=b.length/\a+(uv m).length=e/\b.drop a=uv m++b.drop e:=by unfold nUv at h;split at h;(cases h);·obtain⟨m,e,e1,e2,e3,e4,e5,e6,_⟩:=Tt hb p.toNat 6 0 0 v q h;simp only[Nat.mul_zero,Nat.pow_zero,Nat.mul_one,qo,Nat.add_zero]at e1 e3 e5 e6;exact⟨p.toNat,m,e,jD,e1,e2,e3,e4,e5,e6⟩
def nRb(b:List Int)(p c:Int):List Int×Int×Bool:=if(nUv b p).2.2=true then if(nUv b p).1>c then(([]:List Int),0,false)else if(nUv b p).1>(b.length:Int)-(nUv b p).2.1 then(([]:List Int),0,false)else((b.drop (nUv b p).2.1.toNat).take (nUv b p).1.toNat,(nUv b p).2.1+(nUv b p).1,true)else(([]:List Int),0,false)
theorem X6{b:List Int}(h:okB b)(i j:Nat):okB ((b.drop i).take j):=⟨qg (by rw[qU,qV];omega) h.1,λx C=>h.2 x (qv (qj C))⟩
theorem tH{b:List Int}{p c:Int}(hb:okB b)(C:b.length<=1500000)(I:inI p):eD b p c=some (nRb b p c):=by
 unfold eD nRb
 rw[pX hb C I,qA]
 cases h:(nUv b p).2.2 with
 |false=>rfl
 |true=>
  obtain⟨a,m,e,e1,e2,e3,e4,e5,e6,e7⟩:=PO hb (show nUv b p=((nUv b p).1,(nUv b p).2.1,true)from by rw[<-h])
  rw[e2,e3]
  simp only[qB,qD,if_false,if_true]
  by_cases h1:(m:Int)>c
  ·rw[if_pos (by simpa using h1),if_pos h1]
  ·rw[if_neg (by simpa using h1),if_neg h1,bI (n:=(b.length:Int)-(e:Int)) jD jD]
   by_cases h2:(m:Int)>(b.length:Int)-(e:Int)
   ·rw[if_pos (by simpa using h2),if_pos h2]
   ·rw[if_neg (by simpa using h2),if_neg h2,bI (n:=(e:Int)+(m:Int)) jD jD]
    have J:∀(α:Type) (xs:List α),xs.length=b.length->Q1 xs (e:Int) ((e:Int)+(m:Int))=some ((xs.take ((e:Int)+(m:Int)).toNat).drop (e:Int).toNat):=λα xs U=>by unfold Q1;rw[if_pos ⟨jD,jD,jD⟩]
    have j:List.drop (e:Int).toNat (List.take ((e:Int)+(m:Int)).toNat b)=List.take m (List.drop e b):=by rw[qH,show((e:Int)+(m:Int)).toNat=e+m from by omega,List.drop_take];congr 1;omega
    rw[J _ b rfl,qA,j,qH,qH]
    have hk:(List.take m (List.drop e b)).length<=1500000:=by rw[qU,qV];omega
    rw[JX jD jD,qA]
theorem uI{b:List Int}{p c:Int}(hb:okB b)(C:b.length<=1500000):eB b p c=some (nRb b p c):=by
 unfold eB nRb
 rw[pN hb C,qA]
 cases h:(nUv b p).2.2 with
 |false=>rfl
 |true=>
  obtain⟨a,m,e,e1,e2,e3,e4,e5,e6,e7⟩:=PO hb (show nUv b p=((nUv b p).1,(nUv b p).2.1,true)from by rw[<-h])
  rw[e2,e3]
  simp only[qB,qD,if_false,if_true]
  by_cases h1:(m:Int)>c
  ·rw[if_pos (by simpa using h1),if_pos h1]
  ·rw[if_neg (by simpa using h1),if_neg h1,bI (n:=(b.length:Int)-(e:Int)) jD jD]
   by_cases h2:(m:Int)>(b.length:Int)-(e:Int)
   ·rw[if_pos (by simpa using h2),if_pos h2]
   ·rw[if_neg (by simpa using h2),if_neg h2,bI (n:=(e:Int)+(m:Int)) jD jD]
    have I:∀(α:Type) (xs:List α),xs.length=b.length->Q1 xs (e:Int) ((e:Int)+(m:Int))=some ((xs.take ((e:Int)+(m:Int)).toNat).drop (e:Int).toNat):=λα xs J=>by unfold Q1;rw[if_pos ⟨jD,jD,jD⟩]
    have j:List.drop (e:Int).toNat (List.take ((e:Int)+(m:Int)).toNat b)=List.take m (List.drop e b):=by rw[qH,show((e:Int)+(m:Int)).toNat=e+m from by omega,List.drop_take];congr 1;omega
    rw[I _ b rfl,qA,j,qH,qH]
    have hk:(List.take m (List.drop e b)).length<=1500000:=by rw[qU,qV];omega
    unfold dL
    rw[JX jD jD,qA,qA]
theorem aAi{b:List Int}{p c:Int}(h:(nRb b p c).2.2=false):nRb b p c=(([]:List Int),0,false):=by unfold nRb at h⊢;split;(rename_i h1;rw[if_pos h1]at h;split;(rfl);·rename_i h2;rw[if_neg h2]at h;split;(rfl);·rename_i h3;rw[if_neg h3]at h;cases h);·rfl
theorem V0{b s:List Int}{p c q:Int}(hb:okB b)(h:nRb b p c=(s,q,true)):∃a e:Nat,p=(a:Int)/\q=(e:Int)/\(s.length:Int)<=c/\e<=b.length/\s.length<=1000000000000/\a+(uv s.length).length+s.length=e/\b.drop a=uv s.length++(s++b.drop e)/\okB s:=by
 unfold nRb at h
 split at h
 ·rename_i C
  obtain⟨a,m,e,e1,e2,e3,e4,e5,e6,e7⟩:=PO hb (show nUv b p=((nUv b p).1,(nUv b p).2.1,true)from by rw[<-C])
  rw[e2,e3]at h
  split at h
  ·cases h
  ·split at h
   ·cases h
   ·rename_i h1 h2
    simp only[qa,qH]at h
    have j:s.length=m:=by rw[<-h.1,qU,qV];omega
    refine⟨a,e+m,e1,jD,jD,jD,jD,by rw[j];omega,?_,by rw[<-h.1];exact X6 hb _ _⟩
    rw[j,e7,<-h.1,<-List.drop_drop,qn]
 ·cases h
theorem VG{b s r:List Int}{a:Nat}{c:Int}(h:b.drop a=uv s.length++(s++r))(hc:(s.length:Int)<=c)(j:s.length<=1000000000000):nRb b (a:Int) c=(s,((a+(uv s.length).length+s.length:Nat):Int),true):=by
 have hlen:b.length-a=(uv s.length).length+(s.length+r.length):=by have:=congrArg List.length h;simpa using this
 have:=Jy s.length
 unfold nRb
 rw[Sg h j]
 simp only[if_true]
 rw[if_neg jD,if_neg jD,qH,qH,<-List.drop_drop,h,List.drop_left,List.take_left]
 rfl
theorem XH{b s:List Int}{p c d q:Int}(hb:okB b)(h:nRb b p c=(s,q,true))(j:(s.length:Int)<=d):nRb b p d=(s,q,true):=by obtain⟨a,e,rfl,rfl,h1,h2,h3,h4,h5,_⟩:=V0 hb h;rw[VG h5 j h3,h4]
theorem FC(s:ByteArray):∀x∈bC s,0<=x/\x<=255:=by intro x j;unfold bC at j;obtain⟨b,_,rfl⟩:=qx.1 j;have:=b.toNat_lt;omega
theorem Eu{l:List Int}(h:∀x∈l,0<=x/\x<=255):bC (bF l)=l:=by unfold bC bF;simp only[List.map_map];refine(List.map_congr_left λx j=> ?_).trans (List.map_id l);have:=h x j;simp only[Function.comp_apply,UInt8.toNat_ofNat',id_eq];omega
theorem FD(l:List Int):(bF l).size=l.length:=by unfold bF;show(l.map _).toArray.size=_;simp
theorem SG{L:Nat->Int->List Int->Option (List Int)}{b c:Int->Int}
  (h1:∀m (n:Nat) r,¬n<128->n<2^63->L (m+1) (n:Int) r=(app 1 r [b n]).bind λ_=>L m ((n/128:Nat):Int) (r++[b n]))
  (h2:∀m (n:Nat) r,n<128->L (m+1) (n:Int) r=(app 1 r [c n]).bind λ_=>some (r++[c n]))
  (hb:∀n:Nat,n<2^63->b n=((n%128+128:Nat):Int))(hc:∀n:Nat,n<128->c n=(n:Int)):
  ∀(j m n:Nat) (r:List Int),n<2^(7*(j+1))->n<2^63->j<m->r.length+(j+1)<=140737488355328->L m (n:Int) r=some (r++uv n)
 |j,0,n,r,_,_,I,_=>by omega
 |0,m+1,n,r,J,C,I,hr=>by
  have h:n<128:=by simpa using J
  rw[h2 m n r h,eH jE,qA,hc n h,Lj h]
 |j+1,m+1,n,r,J,C,I,hr=>by
  by_cases h:n<128
  ·rw[h2 m n r h,eH jE,qA,hc n h,Lj h]
  ·have U:n/128<2^(7*(j+1)):=by
    rw[Nat.div_lt_iff_lt_mul jD]
    have e:2^(7*(j+1+1))=2^(7*(j+1))*128:=by rw[show 7*(j+1+1)=7*(j+1)+7 by omega,Nat.pow_add]
    omega
   rw[h1 m n r h C,eH jE,qA,SG h1 h2 hb hc j m (n/128) (r++[b n]) U jD jD jE,hb n C,Q6 h,qT]
   rfl
theorem u8n{n:Nat}(h:n<128):IntKind.u8.wrap (n:Int)=(n:Int):=by rw[wrap_u8];omega
theorem u8S{n:Nat}(h:n<2^63):IntKind.u8.wrap (i64.wrap (BitVec.ofInt (IntKind.i64.bits) (i64.wrap (BitVec.ofInt (IntKind.i64.bits) (n:Int)&&&BitVec.ofInt (IntKind.i64.bits) 127).toNat)|||BitVec.ofInt (IntKind.i64.bits) 128).toNat)=((n%128+128:Nat):Int):=by
 have h1:n%128<=127:=by omega
 have e:=M0 (n:=n) (m:=127) jD jD
 rw[YV]at e
 have e2:=R6 (n:=n%128) (m:=128) jD jD
 rw[aCg jD]at e2
 rw[show((127:Int))=((127:Nat):Int)from rfl,e,show((128:Int))=((128:Nat):Int)from rfl,e2,wrap_u8]
 omega
theorem u8I{n:Nat}(h:n<2^63):IntKind.u8.wrap (i64.wrap ((Int.tmod (n:Int) 128)+128))=((n%128+128:Nat):Int):=by
 have e:Int.tmod (n:Int) 128=((n%128:Nat):Int):=by rw[Int.tmod_eq_emod_of_nonneg jD];omega
 rw[e,bI jD jD,wrap_u8]
 omega
theorem mY{r:List Int}{n:Nat}(I:r.length<=16777216)(C:n<=1000000000000):bX r (n:Int)=some (r++uv n):=by
 have j:inR (n:Int) 0 1000000000000=true:=by unfold inR;simp;omega
 unfold bX
 rw[eH jE,qA,cG,qA,j,if_neg jF]
 refine SG (L:=cV) (b:=λv=>IntKind.u8.wrap (i64.wrap (BitVec.ofInt (IntKind.i64.bits) (i64.wrap (BitVec.ofInt (IntKind.i64.bits) v&&&BitVec.ofInt (IntKind.i64.bits) 127).toNat)|||BitVec.ofInt (IntKind.i64.bits) 128).toNat)) (c:=λv=>IntKind.u8.wrap v) (λm n r h1 h2=> ?_) (λm n r h1=> ?_) (λn h=>u8S h) (λn h=>u8n h) 8 fuel n r jD jD jI jD
 ·simp only[cV];rw[if_pos jE,uvf]
 ·simp only[cV];rw[if_neg jE]
theorem nA{r:List Int}{n:Nat}(I:r.length<=16777216)(C:n<=1000000000000):cF r (n:Int)=some (r++uv n):=by
 have j:inR (n:Int) 0 1000000000000=true:=by unfold inR;simp;omega
 unfold cF dL
 rw[eH jE,qA,qA,bR,qA,j,if_neg jF]
 refine SG (L:=cU) (b:=λv=>IntKind.u8.wrap (i64.wrap ((Int.tmod v 128)+128))) (c:=λv=>IntKind.u8.wrap v) (λm n r h1 h2=> ?_) (λm n r h1=> ?_) (λn h=>u8I h) (λn h=>u8n h) 8 fuel n r jD jD jI jD
 ·simp only[cU];rw[if_pos jE,uvt h2]
 ·simp only[cU];rw[if_neg jE]
def Gj(b:List Int):List Int:=uv b.length++b
theorem pW{r b:List Int}(j:r.length<=8388608)(hb:b.length<=1000000):bW r b=some (r++Gj b):=by have h9:=FQ (n:=b.length) jD;unfold bW Gj;rw[mY jD jD,qA,eH (by rw[qE];omega),qA,qT]
theorem DQ{r b:List Int}(j:r.length<=8388608)(hb:b.length<=1000000):gQ r b=some (r++Gj b):=by have h9:=FQ (n:=b.length) jD;unfold gQ Gj;rw[nA jD jD,qA,eH (by rw[qE];omega),qA,qT]
def L2{α:Type}(f:α->List Int):List α->List Int
 |[]=>[]
 |x::l=>f x++L2 f l
theorem Qb{α:Type}{f:α->List Int}{c:Nat}:∀{l:List α},(∀x∈l,(f x).length<=c)->(L2 f l).length<=l.length*c
 |[],_=>by simp[L2]
 |x::l,h=>by have h1:=h x jF;have h2:=Qb (l:=l) (λy j=>h y (by simp[j]));simp only[L2,qE,qJ,Nat.succ_mul];omega
theorem Oe{α:Type}{R:Type}{xs:List α}{f:α->List Int}{c B:Nat}{L:Nat->Int->List Int->Option R}{E:List Int->Option R}(hc:∀x∈xs,(f x).length<=c)
  (h1:∀n (k:Nat) (hk:k<xs.length) q,q.length<=B->L (n+1) (k:Int) q=L n ((k+1:Nat):Int) (q++f xs[k]))
  (h2:∀n q,q.length<=B->L (n+1) (xs.length:Int) q=E q):
  ∀(n k:Nat) (q:List Int),xs.length-k<n->k<=xs.length->q.length+(xs.length-k)*c<=B->L n (k:Int) q=E (q++L2 f (xs.drop k))
 |0,_,_,h,_,_=>by omega
 |n+1,k,q,h,hk,j=>by
  rcases Nat.lt_or_ge k xs.length with hlt|hge
  ·have C:=hc _ (qG hlt)
   have e:(xs.length-k)*c=(xs.length-(k+1))*c+c:=by rw[<-Nat.succ_mul];congr 1;omega
   rw[h1 n k hlt q jD,Oe hc h1 h2 n (k+1) (q++f xs[k]) jD jD (by rw[qE];omega),qW hlt,L2,qT]
  ·have e:k=xs.length:=by omega
   subst e
   rw[h2 n q jD,qZ,L2,qX]
def enF(x:M.Field):List Int:=Gj (bC x.Name)++uv x.N.toNat
def enR(r:M.aC):List Int:=if bU r=true then uv r.aJq.length++L2 enF r.aJq else[]
theorem Sa{x:M.Field}(h:x.Name.size<=8/\0<=x.N/\x.N<=1000000000):(enF x).length<=14:=by have h1:=FP 0 x.Name.size jD;have h2:=FP 4 x.N.toNat jD;have h3:=aR x.Name;unfold enF Gj;simp only[qE,h3];omega
theorem JM(r:M.aC):(enR r).length<=85:=by unfold enR;split;(rename_i h;obtain⟨h6,j⟩:=vO h;have h1:=FP 0 r.aJq.length jD;have h2:=Qb (f:=enF) (λx C=>Sa (j x C));rw[qE];have:r.aJq.length*14<=6*14:=qi _ h6;omega);·simp
theorem JJ{r:M.aC}(I:r.ok):fZ r=some (enR r):=by
 unfold fZ enR
 rw[pI I,qA]
 by_cases h:bU r=true
 ·obtain⟨h6,C⟩:=vO h
  have h1:=FP 0 r.aJq.length jD
  rw[if_neg (by simp[h]),if_pos h,mY jF jD,qA,List.nil_append]
  have:=Oe (xs:=r.aJq) (f:=enF) (c:=14) (B:=1000) (L:=cZ r) (E:=some) (λx j=>Sa (C x j)) (λn k hk q U=> ?_) (λn q _=> ?_) fuel 0 (uv r.aJq.length) jI jD jD
  ·rw[List.drop_zero]at this;exact this
  ·have j:=C _ (qG hk)
   simp only[cZ]
   have h9:=FQ (n:=r.aJq[k].Name.size) jD
   have J:=aR r.aJq[k].Name
   have hb:(Gj (bC r.aJq[k].Name)).length<=14:=by unfold Gj;rw[qE,J];omega
   have e:=mY (r:=q++Gj (bC r.aJq[k].Name)) (n:=r.aJq[k].N.toNat) (by rw[qE];omega) jD
   rw[Int.toNat_of_nonneg j.2.1]at e
   rw[if_pos (bE hk),aH hk,qA,pW jD jD,qA,e,qA,bG jD,qT]
   rfl
  ·simp only[cZ];rw[if_neg jK]
 ·rw[if_pos (by simp[h]),if_neg h]
theorem FZ{r:M.aC}(I:r.ok):fT r=some (enR r):=by
 unfold fT enR
 rw[wZ I,qA]
 by_cases h:bU r=true
 ·obtain⟨h6,C⟩:=vO h
  have h1:=FP 0 r.aJq.length jD
  rw[if_neg (by simp[h]),if_pos h,nA jF jD,qA,List.nil_append]
  have:=Oe (xs:=r.aJq) (f:=enF) (c:=14) (B:=1000) (L:=dA r) (E:=some) (λx j=>Sa (C x j)) (λn k hk q U=> ?_) (λn q _=> ?_) fuel 0 (uv r.aJq.length) jI jD jD
  ·rw[List.drop_zero]at this;exact this
  ·have j:=C _ (qG hk)
   simp only[dA]
   have h9:=FQ (n:=r.aJq[k].Name.size) jD
   have J:=aR r.aJq[k].Name
   have hb:(Gj (bC r.aJq[k].Name)).length<=14:=by unfold Gj;rw[qE,J];omega
   have e:=nA (r:=q++Gj (bC r.aJq[k].Name)) (n:=r.aJq[k].N.toNat) (by rw[qE];omega) jD
   rw[Int.toNat_of_nonneg j.2.1]at e
   rw[if_pos (bE hk),aH hk,qA,DQ jD jD,qA,e,qA,bG jD,qT]
   rfl
  ·simp only[dA];rw[if_neg jK]
 ·rw[if_pos (by simp[h]),if_neg h]
def be6(v:Nat):List Int:=[((v/2^40%256:Nat):Int),((v/2^32%256:Nat):Int),((v/2^24%256:Nat):Int),((v/2^16%256:Nat):Int),((v/2^8%256:Nat):Int),((v%256:Nat):Int)]
def enK(k:M.Key):List Int:=if Dv k=true then k.aJz::((if k.aJz==2 then[]else be6 (k.N+1000000000000).toNat)++bC k.aKA)else[]
theorem N9{k:M.Key}(h:Dv k=true):1<=k.aJz/\k.aJz<=3/\ -1000000000000<=k.N/\k.N<=1000000000000:=by unfold Dv inR at h;simp only[qM,qL]at h;omega
theorem JQ(k:M.Key):(enK k).length<=19:=by unfold enK;split;(rename_i h;have:=G6 h;have:=aR k.aKA;split<;>simp[be6]<;>omega);·simp
theorem aFN{k:M.Key}(v:Nat)(C:v<=5)(h: -1000000000000<=k.N/\k.N<=1000000000000):Int.fdiv (i64.wrap (k.N+1000000000000)) (2^(min (i64.wrap (8*(v:Int))).toNat IntKind.i64.bits))=(((k.N+1000000000000).toNat/2^(8*v):Nat):Int):=by
 have e:min (i64.wrap (8*(v:Int))).toNat IntKind.i64.bits=8*v:=by rw[bI jD jD,show IntKind.i64.bits=64 from rfl];omega
 rw[e,bI jD jD]
 obtain⟨n,j⟩:=Int.eq_ofNat_of_zero_le (show 0<=k.N+1000000000000 by omega)
 rw[j,qH,Int.fdiv_eq_ediv_of_nonneg _ (by exact Int.le_of_lt (Int.pow_pos jG)),Int.natCast_ediv,Int.natCast_pow]
 rfl
theorem byS{k:M.Key}(v:Nat)(j:v<=5)(h: -1000000000000<=k.N/\k.N<=1000000000000):(IntKind.u8.wrap (i64.wrap (BitVec.ofInt (IntKind.i64.bits) (Int.fdiv (i64.wrap (k.N+1000000000000)) (2^(min (i64.wrap (8*(v:Int))).toNat IntKind.i64.bits)))&&&BitVec.ofInt (IntKind.i64.bits) 255).toNat))=(((k.N+1000000000000).toNat/2^(8*v)%256:Nat):Int):=by have h1:(k.N+1000000000000).toNat/2^(8*v)<=(k.N+1000000000000).toNat:=Nat.div_le_self _ _;have e:=M0 (n:=(k.N+1000000000000).toNat/2^(8*v)) (m:=255) jD jD;rw[YI]at e;rw[aFN v j h,show((255:Int))=((255:Nat):Int)from rfl,e,wrap_u8];omega
theorem byI{k:M.Key}(v:Nat)(j:v<=5)(h: -1000000000000<=k.N/\k.N<=1000000000000):(IntKind.u8.wrap (Int.fdiv (i64.wrap (k.N+1000000000000)) (2^(min (i64.wrap (8*(v:Int))).toNat IntKind.i64.bits))))=(((k.N+1000000000000).toNat/2^(8*v)%256:Nat):Int):=by rw[aFN v j h,wrap_u8];omega
theorem MQ{k:M.Key}(hk:k.ok):kO k=some (enK k):=by
 unfold kO enK
 rw[mD hk,qA]
 by_cases h:Dv k=true
 ·have ht:=G6 h
  have hb:=N9 h
  have U:=aR k.aKA
  have J:IntKind.u8.wrap k.aJz=k.aJz:=by rw[wrap_u8];omega
  rw[if_neg (by simp[h]),if_pos h,V8,J]
  by_cases h2:(k.aJz==2)=true
  ·have h3:¬(k.aJz !=2)=true:=by simp[bne,h2]
   rw[if_pos h2]
   have C:∀n r,r.length<=7->bN k (n+1) 5 r=some (r++bC k.aKA):=by intro n r j;simp only[bN];rw[if_pos jG,if_neg h3,eH jD,qA]
   exact C (18446744073709551609+6) _ jF
  ·have h3:(k.aJz !=2)=true:=by simp[bne,h2]
   rw[if_neg h2]
   have st:∀n (v:Nat) r,r.length<=7->v<=5->bN k (n+1) (v:Int) r=bN k n ((v:Int)-1) (r++[(((k.N+1000000000000).toNat/2^(8*v)%256:Nat):Int)]):=by intro n v r j I;simp only[bN];rw[if_pos jF,if_pos h3,if_pos (by rw[bI jD jD];simp;omega),eH jE,qA,bI (n:=(v:Int)-1) jD jD,byS v I hb.2.2]
   have e7:∀n r,r.length<=7->bN k (n+1) (-1) r=some (r++bC k.aKA):=by intro n r j;simp only[bN];rw[if_neg jG,eH jD,qA]
   refine(st (18446744073709551609+6) 5 _ jF jF).trans ((st (18446744073709551609+5) 4 _ jF jF).trans ((st (18446744073709551609+4) 3 _ jF jF).trans ((st (18446744073709551609+3) 2 _ jF jF).trans ((st (18446744073709551609+2) 1 _ jF jF).trans ((st (18446744073709551609+1) 0 _ jF jF).trans ((e7 _ _ jF).trans ?_))))))
   simp[be6]
 ·rw[if_pos (by simp[h]),if_neg h]
theorem E7{k:M.Key}(hk:k.ok):iH k=some (enK k):=by
 unfold iH enK
 rw[oZ hk,qA]
 by_cases h:Dv k=true
 ·have U:=G6 h
  have hb:=N9 h
  have J:=aR k.aKA
  have I:IntKind.u8.wrap k.aJz=k.aJz:=by rw[wrap_u8];omega
  rw[if_neg (by simp[h]),if_pos h,I]
  by_cases h2:(k.aJz==2)=true
  ·have h3:¬(k.aJz !=2)=true:=by simp[bne,h2]
   rw[if_pos h2,if_neg h3,eH jE,qA]
   rfl
  ·have h3:(k.aJz !=2)=true:=by simp[bne,h2]
   rw[if_neg h2,if_pos h3,V8]
   have st:∀n (v:Nat) r,r.length<=7->v<=5->cC k (n+1) (v:Int) r=cC k n ((v:Int)-1) (r++[(((k.N+1000000000000).toNat/2^(8*v)%256:Nat):Int)]):=by intro n v r j C;simp only[cC];rw[if_pos jF,if_pos (by rw[bI jD jD];simp;omega),eH jE,qA,bI (n:=(v:Int)-1) jD jD,byI v C hb.2.2]
   have e7:∀n r,r.length<=7->cC k (n+1) (-1) r=some (r++bC k.aKA):=by intro n r j;simp only[cC];rw[if_neg jG,eH jD,qA]
   refine(st (18446744073709551609+6) 5 _ jF jF).trans ((st (18446744073709551609+5) 4 _ jF jF).trans ((st (18446744073709551609+4) 3 _ jF jF).trans ((st (18446744073709551609+3) 2 _ jF jF).trans ((st (18446744073709551609+2) 1 _ jF jF).trans ((st (18446744073709551609+1) 0 _ jF jF).trans ((e7 _ _ jF).trans ?_))))))
   simp[be6]
 ·rw[if_pos (by simp[h]),if_neg h]
theorem HF:∀{a b:List Int},eqL Cn a b=true↔a=b
 |[],[]=>by simp[eqL]
 |[],_::_=>by simp[eqL]
 |_::_,[]=>by simp[eqL]
 |x::j,y::C=>by have:=HF (a:=j) (b:=C);simp only[eqL,qM,this,List.cons.injEq,Cn,beq_iff_eq]
theorem I8{b:List Int}(h:∀x∈b,0<=x/\x<=255):∀x∈Gj b,0<=x/\x<=255:=λx j=>by unfold Gj at j;rcases qP.1 j with j|j;(exact K3 _ x j);·exact h x j
theorem Qg{α:Type}{f:α->List Int}:∀{l:List α},(∀x∈l,∀y∈f x,0<=y/\y<=255)->∀y∈L2 f l,0<=y/\y<=255
 |[],_,_,j=>by simp[L2]at j
 |x::l,h,y,j=>by rcases qP.1 (show y∈f x++L2 f l from j)with j|j;(exact h x jF y j);·exact Qg (l:=l) (λz hz=>h z (by simp[hz])) y j
theorem XC(x:M.Field):∀y∈enF x,0<=y/\y<=255:=λy j=>by unfold enF at j;rcases qP.1 j with j|j;(exact I8 (FC _) y j);·exact K3 _ y j
theorem YY(r:M.aC):okB (enR r):=⟨qg (JM r) jJ,λy j=>by unfold enR at j;split at j;(rcases qP.1 j with j|j;(exact K3 _ y j);·exact Qg (λx _=>XC x) y j);·simp at j⟩
theorem Wj(k:M.Key):okB (enK k):=⟨qg (JQ k) jJ,λy j=>by unfold enK at j;split at j;(rename_i h;have hk:=N9 h;rcases qp.1 j with rfl|j;(omega);·rcases qP.1 j with j|j;(split at j;(simp at j);·simp only[be6,qp,qO,or_false]at j;omega);·exact FC _ y j);·simp at j⟩
def Sq:M.Key:=(⟨0,0,(⟨#[]⟩:ByteArray)⟩:M.Key)
def mkK(c n:Int)(t:List Int):M.Key×Bool:=if Dv (⟨c,n,bF t⟩:M.Key)=true then((⟨c,n,bF t⟩:M.Key),true)else(Sq,false)
def chK(k:M.Key)(b:List Int):M.Key×Bool:=if eqL Cn (enK k) b=true then(k,true)else(Sq,false)
def T6(v x:Int):Int:=v*256+x
def QN:List Int->M.Key×Bool
 |[]=>(Sq,false)
 |c::t=>if c=2 then mkK c 0 t else if t.length<6 then(Sq,false)else mkK c ((t.take 6).foldl T6 0-1000000000000) (t.drop 6)
theorem aBx{t:List Int}(j:∀x∈t,0<=x/\x<=255):∀(v:Nat) (n:Nat),(v:Int)<2^n->∃w:Nat,t.foldl T6 (v:Int)=(w:Int)/\(w:Int)<2^(n+8*t.length):=by
 induction t with
 |nil=>exact λv n h=>⟨v,rfl,by simpa using h⟩
 |cons x t J=>
  intro v n h
  have U:=j x jF
  obtain⟨w,e,C⟩:=J (λy I=>j y (by simp[I])) (v*256+x.toNat) (n+8) (by rw[Int.pow_add];omega)
  refine⟨w,?_,by rw[qJ,show n+8*(t.length+1)=n+8+8*t.length from by omega];exact C⟩
  rw[List.foldl_cons,<-e]
  congr 1
  unfold T6
  omega
theorem six{t:List Int}(h:6<=t.length):∃x1 x2 x3 x4 x5 x6 r,t=x1::x2::x3::x4::x5::x6::r:=by
 match t,h with
 |x1::x2::x3::x4::x5::x6::r,_=>exact⟨x1,x2,x3,x4,x5,x6,r,rfl⟩
theorem Zj{x1 x2 x3 x4 x5 x6:Int}(h1:0<=x1/\x1<=255)(h2:0<=x2/\x2<=255)(h3:0<=x3/\x3<=255)(h4:0<=x4/\x4<=255)(h5:0<=x5/\x5<=255)(h6:0<=x6/\x6<=255):be6 ([x1,x2,x3,x4,x5,x6].foldl T6 0).toNat=[x1,x2,x3,x4,x5,x6]:=by simp only[List.foldl_cons,List.foldl_nil,T6,be6];rw[show(2:Nat)^40=1099511627776 from rfl,show(2:Nat)^32=4294967296 from rfl,show(2:Nat)^24=16777216 from rfl,show(2:Nat)^16=65536 from rfl,show(2:Nat)^8=256 from rfl];simp only[List.cons.injEq,and_true];omega
theorem aB8{t:List Int}(j:∀x∈t,0<=x/\x<=255):chK (⟨2,0,bF t⟩:M.Key) (2::t)=mkK 2 0 t:=by unfold chK mkK enK;by_cases h:Dv (⟨2,0,bF t⟩:M.Key)=true;(rw[if_pos h,if_pos h,if_pos];rw[HF];show 2::([]++bC (bF t))=_;rw[Eu j];rfl);·rw[if_neg h,if_neg h,if_neg];rw[HF];simp
theorem aBk{c:Int}{t:List Int}(hc:c≠2)(h6:6<=t.length)(j:∀x∈t,0<=x/\x<=255):chK (⟨c,(t.take 6).foldl T6 0-1000000000000,bF (t.drop 6)⟩:M.Key) (c::t)=mkK c ((t.take 6).foldl T6 0-1000000000000) (t.drop 6):=by
 unfold chK mkK enK
 by_cases h:Dv (⟨c,(t.take 6).foldl T6 0-1000000000000,bF (t.drop 6)⟩:M.Key)=true
 ·rw[if_pos h,if_pos h,if_pos]
  rw[HF]
  obtain⟨x1,x2,x3,x4,x5,x6,r,rfl⟩:=six h6
  have C:∀x∈r,0<=x/\x<=255:=λx I=>j x (by simp[I])
  show c::((if(c==2)=true then[]else be6 (([x1,x2,x3,x4,x5,x6].foldl T6 0)-1000000000000+1000000000000).toNat)++bC (bF r))=_
  rw[if_neg (by simpa using hc),Int.sub_add_cancel,Zj (j x1 jF) (j x2 jF) (j x3 jF) (j x4 jF) (j x5 jF) (j x6 jF),Eu C]
  rfl
 ·rw[if_neg h,if_neg h,if_neg];rw[HF];simp
theorem OY{c n:Int}{t:List Int}(hc:0<=c/\c<=255)(C: -1000000000000<=n/\n<=1000000000000000)(j:t.length<=maxLen):M.Key.ok (⟨c,n,bF t⟩:M.Key):=⟨by show inI c;unfold inI;omega,by show inI n;unfold inI;omega,by show(bF t).size<=_;rw[FD];exact j⟩
theorem aDQ{v:Nat}(h:v<2^48):i64.wrap ((v:Int)*2^(min (8:Int).toNat IntKind.i64.bits))=((v*256:Nat):Int):=by rw[show min (8:Int).toNat IntKind.i64.bits=8 from rfl,show((v:Int)*2^8)=((v*256:Nat):Int)from by omega];exact bI jD jD
theorem stS{v x:Nat}(h:v<2^48)(j:x<=255):(i64.wrap (BitVec.ofInt (IntKind.i64.bits) (i64.wrap ((v:Int)*2^(min (8:Int).toNat IntKind.i64.bits)))|||BitVec.ofInt (IntKind.i64.bits) (i64.wrap (x:Int))).toNat)=((v*256+x:Nat):Int):=by have e:=YW (n:=x) (x:=v) (k:=8) jD;rw[aDQ h,bI (n:=(x:Int)) jD jD,R6 jD jD,Nat.or_comm,show(256:Nat)=2^8 from rfl,e];omega
theorem stI{v x:Nat}(h:v<2^48)(j:x<=255):(i64.wrap ((i64.wrap ((v:Int)*2^(min (8:Int).toNat IntKind.i64.bits)))+(i64.wrap (x:Int))))=((v*256+x:Nat):Int):=by rw[aDQ h,bI (n:=(x:Int)) jD jD,bI jD jD];omega
theorem dkS{b:List Int}{c:Int}(hb:okB b)(hl:b.length<=1500000)(hc:0<=c/\c<=255)(h7:7<=b.length):∀(j k v m:Nat),k+j=7->v<2^(8*(k-1))->1<=k->j<m->kT b c m (v:Int) (k:Int)=some (mkK c (((b.drop k).take j).foldl T6 (v:Int)-1000000000000) (b.drop 7))
 |_,_,_,0,_,_,_,h=>by omega
 |0,k,v,m+1,hk,I,h1,_=>by
  obtain rfl:k=7:=by omega
  simp only[kT]
  have hd:okB (b.drop 7):=⟨qg (by rw[qV];omega) hb.1,λx U=>hb.2 x (qv U)⟩
  have J:(v:Int)<281474976710656:=by have:v<2^48:=I;omega
  have ok:=OY (n:=(v:Int)-1000000000000) hc jD hd.1
  rw[if_neg jG,show Ea b 7=some (b.drop (7:Int).toNat)from by unfold Ea;rw[if_pos ⟨jG,by simpa using h7⟩],qA,show(7:Int).toNat=7 from rfl,Dc hd.2,qA,bI (n:=c) jD jD,bI (n:=(v:Int)-1000000000000) jD jD,mD ok,qA,List.take_zero,List.foldl_nil]
  unfold mkK
  cases Dv (⟨c,(v:Int)-1000000000000,bF (b.drop 7)⟩:M.Key)<;>rfl
 |j+1,k,v,m+1,hk,I,h1,hm=>by
  have C:k<b.length:=by omega
  obtain⟨x,ex,U⟩:=Xo hb C
  have J:v<2^40:=qw I (Nat.pow_le_pow_right jG jD)
  have e8:2^(8*(k+1-1))=2^(8*(k-1))*256:=by rw[show 8*(k+1-1)=8*(k-1)+8 from by omega,Nat.pow_add]
  simp only[kT]
  rw[if_pos jE,aH C,qA,ex,stS jD U,bG jD,dkS hb hl hc h7 j (k+1) (v*256+x) m jD (by rw[e8];omega) jD jD,qW C,ex,List.take_succ_cons,List.foldl_cons]
  congr 4
theorem MJ{b:List Int}(hb:okB b)(C:b.length<=1500000):tK b=some (QN b):=by
 unfold tK
 cases b with
 |nil=>rfl
 |cons c t=>
  have hc:=hb.2 c jF
  have J:∀x∈t,0<=x/\x<=255:=λx U=>hb.2 x (by simp[U])
  have j:t.length<=maxLen:=by have:=hb.1;rw[qJ]at this;omega
  have I:t.length+1<=1500000:=C
  rw[if_neg jE,show idx (c::t) 0=some c from rfl,qA,bI (n:=c) jD jD]
  unfold QN
  show _=some (if c=2 then mkK c 0 t else if t.length<6 then(Sq,false)else mkK c ((t.take 6).foldl T6 0-1000000000000) (t.drop 6))
  by_cases h2:c=2
  ·subst h2;rw[if_neg jG,if_pos rfl,show Ea (2::t) 1=some t from by unfold Ea;rw[if_pos ⟨jG,jF⟩];rfl,qA,show List.drop (1:Int).toNat ((2:Int)::t)=t from rfl,Dc J,qA,mD (OY jD jD j),qA];unfold mkK;cases Dv (⟨2,0,bF t⟩:M.Key)<;>rfl
  ·rw[if_pos (by simpa using h2),if_neg h2];by_cases h6:t.length<6;(rw[if_pos jE,if_pos h6];rfl);·rw[if_neg jE,if_neg h6];exact dkS hb C hc jE 6 1 0 fuel rfl jG jD jI
theorem dkI{c:Int}{t:List Int}(hb:okB (c::t))(hl:t.length+1<=1500000)(hc:0<=c/\c<=255)(h6:6<=t.length):∀(j k v m:Nat),k+j=6->v<2^(8*k)->j<m->kW (c::t) c m (v:Int) (k:Int)=some (chK (⟨c,((t.drop k).take j).foldl T6 (v:Int)-1000000000000,bF (t.drop 6)⟩:M.Key) (c::t))
 |_,_,_,0,_,_,h=>by omega
 |0,k,v,m+1,hk,J,_=>by
  obtain rfl:k=6:=by omega
  simp only[kW,show List.drop (1:Int).toNat (c::t)=t from rfl,show(6:Int).toNat=6 from rfl]
  have hd:okB (t.drop 6):=⟨qg (by rw[qV,qJ];omega) hb.1,λx hx=>hb.2 x (List.mem_cons_of_mem _ (qv hx))⟩
  have U:(v:Int)<281474976710656:=by have:v<2^48:=J;omega
  have ok:=OY (n:=(v:Int)-1000000000000) hc jD hd.1
  rw[if_neg (by rw[qU];simp;omega),show Ea t 6=some (t.drop 6)from by unfold Ea;rw[if_pos ⟨jG,by simpa using h6⟩];rfl,qA,Dc hd.2,qA,bI (n:=c) jD jD,bI (n:=(v:Int)-1000000000000) jD jD,E7 ok,qA,BS (Wj _),qA,List.take_zero,List.foldl_nil]
  unfold chK
  cases eqL Cn (enK (⟨c,(v:Int)-1000000000000,bF (t.drop 6)⟩:M.Key)) (c::t)<;>rfl
 |j+1,k,v,m+1,hk,J,hm=>by
  have C:k<t.length:=by omega
  have hlt6:k<(List.take 6 t).length:=by rw[qU];omega
  have I:=hb.2 t[k] (List.mem_cons_of_mem _ (qG C))
  obtain⟨x,ex⟩:=Int.eq_ofNat_of_zero_le I.1
  rw[ex]at I
  have U:v<2^40:=qw J (Nat.pow_le_pow_right jG jD)
  have e8:2^(8*(k+1))=2^(8*k)*256:=by rw[show 8*(k+1)=8*k+8 from by omega,Nat.pow_add]
  simp only[kW,show List.drop (1:Int).toNat (c::t)=t from rfl,show(6:Int).toNat=6 from rfl]
  rw[if_pos (by rw[qL];omega),aH hlt6,qA,List.getElem_take,ex,stI jD jD,bG jD,dkI hb hl hc h6 j (k+1) (v*256+x) m jD (by rw[e8];omega) jD,qW C,ex,List.take_succ_cons,List.foldl_cons]
  congr 5
theorem MB{b:List Int}(hb:okB b)(J:b.length<=1500000):uP b=some (QN b):=by
 unfold uP
 cases b with
 |nil=>rfl
 |cons c t=>
  have hc:=hb.2 c jF
  have I:∀x∈t,0<=x/\x<=255:=λx U=>hb.2 x (by simp[U])
  have C:t.length<=maxLen:=by have:=hb.1;rw[qJ]at this;omega
  have j:t.length+1<=1500000:=J
  rw[if_neg jE,show idx (c::t) 0=some c from rfl,qA,bI (n:=c) jD jD,show Ea (c::t) 1=some t from by unfold Ea;rw[if_pos ⟨jG,jF⟩];rfl,qA]
  simp only[show List.drop (1:Int).toNat (c::t)=t from rfl]
  unfold QN
  show _=some (if c=2 then mkK c 0 t else if t.length<6 then(Sq,false)else mkK c ((t.take 6).foldl T6 0-1000000000000) (t.drop 6))
  by_cases h2:c=2
  ·subst h2;rw[if_neg jG,if_pos rfl,Dc I,qA,E7 (OY jD jD C),qA,BS (Wj _),qA,<-aB8 I];unfold chK;cases eqL Cn (enK (⟨2,0,bF t⟩:M.Key)) (2::t)<;>rfl
  ·rw[if_pos (by simpa using h2),if_neg h2];by_cases h6:t.length<6;(rw[if_pos jE,if_pos h6];rfl);·rw[if_neg jE,if_neg h6,show GR t 6=some (t.take 6)from by unfold GR;rw[if_pos ⟨jG,jE⟩];rfl,qA,<-aBk h2 jD I];exact dkI hb j hc jD 6 0 0 fuel rfl jG jI
def UX(b:List Int):Nat->Int->List M.Field->Option (List M.Field×Int)
 |0,p,C=>some (C,p)
 |j+1,p,C=>if(nRb b p 8).2.2=true then if(nUv b (nRb b p 8).2.1).2.2=true then UX b j (nUv b (nRb b p 8).2.1).2.1 (C++[(⟨bF (nRb b p 8).1,(nUv b (nRb b p 8).2.1).1⟩:M.Field)])else none else none
def PZ(b:List Int):M.aC×Bool:=if(nUv b 0).2.2=true then(if(nUv b 0).1>6 then((⟨([]:List M.Field)⟩:M.aC),false)else match UX b (nUv b 0).1.toNat (nUv b 0).2.1 []with
 |none=>((⟨([]:List M.Field)⟩:M.aC),false)
 |some (j,q)=>if(bU (⟨j⟩:M.aC)&&(q==(b.length:Int)))=true then((⟨j⟩:M.aC),true)else((⟨([]:List M.Field)⟩:M.aC),false))else((⟨([]:List M.Field)⟩:M.aC),false)
theorem L5{e:Nat}{n:Nat}(h:e<=n)(j:n<=1500000):inI (e:Int):=by unfold inI;omega
theorem Iu{b:List Int}{p c:Int}(hb:okB b)(h:(nRb b p c).2.2=true):∃(s:List Int) (a e:Nat),nRb b p c=(s,(e:Int),true)/\p=(a:Int)/\(s.length:Int)<=c/\e<=b.length/\s.length<=1000000000000/\a+(uv s.length).length+s.length=e/\b.drop a=uv s.length++(s++b.drop e)/\okB s:=by obtain⟨a,e,h1,h2,h3⟩:=V0 hb (show nRb b p c=((nRb b p c).1,(nRb b p c).2.1,true)from by rw[<-h]);exact⟨_,a,e,by rw[<-h2,<-h],h1,h3⟩
theorem Di{b:List Int}{p:Int}(hb:okB b)(h:(nUv b p).2.2=true):∃a m e:Nat,nUv b p=((m:Int),(e:Int),true)/\p=(a:Int)/\m<=1000000000000/\e<=b.length/\a+(uv m).length=e/\b.drop a=uv m++b.drop e:=by obtain⟨a,m,e,h1,h2,h3,h4⟩:=PO hb (show nUv b p=((nUv b p).1,(nUv b p).2.1,true)from by rw[<-h]);exact⟨a,m,e,by rw[<-h2,<-h3,<-h],h1,h4⟩
theorem Qm{s:List Int}{m:Nat}(j:okB s)(C:m<=1000000000000):M.Field.ok (⟨bF s,(m:Int)⟩:M.Field):=⟨by show(bF s).size<=_;rw[FD];exact j.1,by show inI (m:Int);unfold inI;omega⟩
theorem Qi{b:List Int}(hb:okB b):∀(j a:Nat) (C I:List M.Field) (q:Int),UX b j (a:Int) C=some (I,q)->a<=b.length->∃(l:List M.Field) (e:Nat),I=C++l/\l.length=j/\q=(e:Int)/\e<=b.length/\b.drop a=L2 enF l++b.drop e/\∀x∈l,M.Field.ok x
 |0,a,C,I,q,h,U=>by simp only[UX,qb,qa]at h;exact⟨[],a,by rw[<-h.1,qX],rfl,h.2.symm,U,rfl,λ_ h=>absurd h jF⟩
 |j+1,a,C,I,q,h,U=>by
  simp only[UX]at h
  split at h
  ·rename_i h1
   obtain⟨s,a1,e1,r1,r2,r3,r4,r5,r6,r7,r8⟩:=Iu hb h1
   obtain rfl:a=a1:=by omega
   rw[r1]at h
   dsimp only at h
   split at h
   ·rename_i h2
    obtain⟨a2,m,e2,u1,u2,u3,u4,u5,u6⟩:=Di hb h2
    obtain rfl:e1=a2:=by omega
    rw[u1]at h
    dsimp only at h
    obtain⟨l,e,g1,g2,g3,g4,g5,g6⟩:=Qi hb j e2 _ I q h u4
    refine⟨(⟨bF s,(m:Int)⟩:M.Field)::l,e,by rw[g1,qT];rfl,by rw[qJ,g2],g3,g4,?_,λx J=> ?_⟩
    ·rw[r7,u6,g5,L2,enF,Gj,Eu r8.2,qH];simp only[qT]
    ·rcases qp.1 J with rfl|J;(exact Qm r8 u3);·exact g6 x J
   ·cases h
  ·cases h
def aJh(o:Option (List M.Field×Int)):M.aC×Int×Bool:=match o with
 |none=>((⟨([]:List M.Field)⟩:M.aC),0,false)
 |some (j,q)=>((⟨j⟩:M.aC),q,bU (⟨j⟩:M.aC))
def aBc(b:List Int)(o:Option (List M.Field×Int)):M.aC×Bool:=match o with
 |none=>((⟨([]:List M.Field)⟩:M.aC),false)
 |some (j,q)=>if eqL Cn (enR (⟨j⟩:M.aC)) b=true then((⟨j⟩:M.aC),true)else((⟨([]:List M.Field)⟩:M.aC),false)
theorem Tq{j:List M.Field}{n:Nat}(C:j.length<=n)(I:n<=6)(h:∀x∈j,M.Field.ok x):M.aC.ok (⟨j⟩:M.aC):=⟨⟨qg C jJ,h⟩⟩
theorem Tu{j:List M.Field}{x:M.Field}(h:∀x∈j,M.Field.ok x)(I:M.Field.ok x):∀y∈j++[x],M.Field.ok y:=λy C=>by rcases qP.1 C with C|C;(exact h y C);·rw[qQ.1 C];exact I
theorem aDV{b:List Int}{x1:Int×Int×Bool}{N:Nat}(hb:okB b)(I:b.length<=1500000)(hN:N<=6)(U:x1.1=(N:Int)):∀(j k m:Nat) (p:Int) (C:List M.Field),k+j=N->j<m->inI p->C.length=k->(∀x∈C,M.Field.ok x)->rD b x1 m p (k:Int) C=some (aJh (UX b j p C))
 |_,_,0,_,_,_,h,_,_,_=>by omega
 |0,k,m+1,p,C,hk,_,hp,ha,J=>by simp only[rD];rw[U,if_neg jE,pI (Tq (n:=6) jD jD J),qA];rfl
 |j+1,k,m+1,p,C,hk,hm,hp,ha,J=>by
  simp only[rD,UX]
  rw[U,if_pos jE,tH hb I hp,qA]
  cases h1:(nRb b p 8).2.2 with
  |false=>rfl
  |true=>
   obtain⟨s,a1,e1,r1,r2,r3,r4,r5,r6,r7,r8⟩:=Iu hb h1
   rw[r1]
   simp only[qB,qD,if_false,if_true]
   rw[pX hb I (L5 r4 I),qA]
   cases h2:(nUv b (e1:Int)).2.2 with
   |false=>rfl
   |true=>
    obtain⟨a2,v,e2,u1,u2,u3,u4,u5,u6⟩:=Di hb h2
    rw[u1]
    simp only[qB,qD,if_false,if_true]
    rw[Dc r8.2,qA,eH jE,qA,bG jD]
    exact aDV hb I hN U j (k+1) m (e2:Int) _ jD jD (L5 u4 I) (by simp[ha]) (Tu J (Qm r8 u3))
theorem JR{b:List Int}(hb:okB b)(C:b.length<=1500000):oN b=some (PZ b):=by
 unfold oN Fy PZ
 rw[pX hb C Qv,qA]
 cases h:(nUv b 0).2.2 with
 |false=>rfl
 |true=>
  obtain⟨a,m,e,J,u2,u3,U,u5,u6⟩:=Di hb h
  rw[J]
  simp only[qB,qD,if_false,if_true]
  by_cases h6:(m:Int)>6
  ·rw[if_pos (by simpa using h6),if_pos h6];rfl
  ·have I:=aDV (x1:=((m:Int),(e:Int),true)) hb C (N:=m) jD rfl m 0 fuel (e:Int) [] jD jI (L5 U C) rfl (λ_ h=>absurd h jF)
   rw[show((0:Nat):Int)=0 from rfl]at I
   rw[if_neg (by simpa using h6),if_neg h6,qH,I,qA]
   cases UX b m (e:Int) []with
   |none=>rfl
   |some o=>
    obtain⟨j,q⟩:=o
    show(if(!bU (⟨j⟩:M.aC))=true then some ((⟨([]:List M.Field)⟩:M.aC),false)else if(!(q==(b.length:Int)))=true then some ((⟨([]:List M.Field)⟩:M.aC),false)else some ((⟨j⟩:M.aC),true))=some (if(bU (⟨j⟩:M.aC)&&(q==(b.length:Int)))=true then((⟨j⟩:M.aC),true)else((⟨([]:List M.Field)⟩:M.aC),false))
    rcases Bool.eq_false_or_eq_true (bU (⟨j⟩:M.aC))with hn|hn
    ·rw[if_neg (show ¬(!bU (⟨j⟩:M.aC))=true from by simp[hn])];by_cases hq:q=(b.length:Int);(rw[if_neg (show ¬(!(q==(b.length:Int)))=true from by simp[hq]),if_pos (by simp[hn,hq])]);·rw[if_pos (show(!(q==(b.length:Int)))=true from by simp[hq]),if_neg (by simp[hq])]
    ·rw[if_pos (show(!bU (⟨j⟩:M.aC))=true from by simp[hn]),if_neg (by simp[hn])]
theorem aGl{b:List Int}{x1:Int×Int×Bool}{N:Nat}(hb:okB b)(I:b.length<=1500000)(hN:N<=6)(U:x1.1=(N:Int)):∀(j k m:Nat) (p:Int) (C:List M.Field),k+j=N->j<m->C.length=k->(∀x∈C,M.Field.ok x)->gK b x1 m p (k:Int) C=some (aBc b (UX b j p C))
 |_,_,0,_,_,_,h,_,_=>by omega
 |0,k,m+1,p,C,hk,_,ha,J=>by simp only[gK];rw[U,if_neg jE,FZ (Tq (n:=6) jD jD J),qA,BS (YY _),qA];simp only[UX,aBc];cases eqL Cn (enR (⟨C⟩:M.aC)) b<;>rfl
 |j+1,k,m+1,p,C,hk,hm,ha,J=>by
  simp only[gK,UX]
  rw[U,if_pos jE,uI hb I,qA,pN hb I,qA]
  cases h1:(nRb b p 8).2.2 with
  |false=>rfl
  |true=>
   obtain⟨s,a1,e1,r1,r2,r3,r4,r5,r6,r7,r8⟩:=Iu hb h1
   rw[r1]
   simp only[qB,qD,if_false,if_true]
   cases h2:(nUv b (e1:Int)).2.2 with
   |false=>rfl
   |true=>
    obtain⟨a2,v,e2,u1,u2,u3,u4,u5,u6⟩:=Di hb h2
    rw[u1]
    simp only[qB,qD,if_false,if_true]
    rw[Dc r8.2,qA,eH jE,qA,bG jD]
    exact aGl hb I hN U j (k+1) m (e2:Int) _ jD jD (by simp[ha]) (Tu J (Qm r8 u3))
theorem JF{b:List Int}(hb:okB b)(U:b.length<=1500000):oD b=some (PZ b):=by
 unfold oD PZ
 rw[pN hb U,qA]
 cases h:(nUv b 0).2.2 with
 |false=>rfl
 |true=>
  obtain⟨a,m,e,u1,u2,u3,u4,u5,I⟩:=Di hb h
  rw[u1]
  simp only[qB,qD,if_false,if_true]
  by_cases h6:(m:Int)>6
  ·rw[if_pos (by simpa using h6),if_pos h6]
  ·have j:=aGl (x1:=((m:Int),(e:Int),true)) hb U (N:=m) jD rfl m 0 fuel (e:Int) [] jD jI rfl (λ_ h=>absurd h jF)
   rw[show((0:Nat):Int)=0 from rfl]at j
   rw[if_neg (by simpa using h6),if_neg h6,qH,j]
   cases hr:UX b m (e:Int) []with
   |none=>rfl
   |some o=>
    obtain⟨C,q⟩:=o
    obtain⟨l,e3,J,g2,g3,g4,g5,g6⟩:=Qi hb m e [] C q hr u4
    rw[List.nil_append]at J
    subst J
    obtain rfl:a=0:=by omega
    rw[List.drop_zero]at I
    simp only[aBc]
    congr 1
    by_cases hn:bU (⟨C⟩:M.aC)=true
    ·have hiff:(eqL Cn (enR (⟨C⟩:M.aC)) b=true)↔(bU (⟨C⟩:M.aC)&&(q==(b.length:Int)))=true:=by
      rw[HF,hn,Bool.true_and,beq_iff_eq,g3]
      unfold enR
      rw[if_pos hn,g2]
      have hb2:b=uv m++(L2 enF C++b.drop e3):=by rw[<-g5];exact I
      constructor
      ·intro h;have:=congrArg List.length h;have h3:=congrArg List.length hb2;simp only[qE,qV]at this h3;omega
      ·intro h;rw[hb2,List.drop_eq_nil_of_le jD,qX]
     by_cases j:eqL Cn (enR (⟨C⟩:M.aC)) b=true
     ·rw[if_pos j,if_pos (hiff.1 j)]
     ·rw[if_neg j,if_neg (λh=>j (hiff.2 h))]
    ·rw[if_neg,if_neg (by simp[hn])];rw[HF];unfold enR;rw[if_neg hn];intro h0;have:=congrArg List.length I;have h2:=Jy m;rw[<-h0]at this;simp at this;omega
theorem XJ{b:List Int}(hb:okB b):(PZ b).1.ok/\M.aC.sz (PZ b).1<=60:=by have j:M.aC.ok (⟨([]:List M.Field)⟩:M.aC)/\M.aC.sz (⟨([]:List M.Field)⟩:M.aC)<=60:=⟨Tq (n:=0) jF jD (λ_ h=>absurd h jF),by simp[M.aC.sz,bA]⟩;unfold PZ;split;(rename_i h;obtain⟨a,m,e,u1,u2,u3,u4,u5,u6⟩:=Di hb h;rw[u1];dsimp only;split;(exact j);·split;(exact j);·rename_i C q hr;split;(rename_i J;rw[qM]at J;obtain⟨l,e3,I,g2,g3,g4,g5,U⟩:=Qi hb _ e [] C q hr u4;rw[List.nil_append]at I;subst I;obtain⟨n6,nf⟩:=vO J.1;refine⟨Tq n6 jD U,?_⟩;have:=Bc (w:=M.Field.sz) (b:=8) (xs:=C) (λx hx=>by have:=(nf x hx).1;simp only[M.Field.sz];omega);simp only[M.aC.sz];omega);·exact j);·exact j
