/-
  Helper text. No conditions.
-/
import Derived.Test.YtipmihbgjolaaaaGreatStoragePd2
set_option linter.unusedVariables false
set_option linter.unusedSimpArgs false
namespace Go.Proofs.YtipmihbgjolaaaaGreat.gen
open Go Go.Sh
open Go.IntKind (i64)
theorem Bp:∀(j n:Nat),n<2^(7*(j+1))->(uv n).length<=j+1
 |0,n,h=>by rw[FV (by simpa using h)];simp
 |j+1,n,h=>by
  by_cases h1:n<128
  ·rw[FV h1];simp
  ·rw[K2 h1,qJ]
   have e:2^(7*(j+1+1))=2^(7*(j+1))*128:=by rw[show 7*(j+1+1)=7*(j+1)+7 from by omega,Nat.pow_add]
   have:=Bp j (n/128) (by rw[e]at h;omega)
   omega
theorem Eu{n:Nat}(h:n<=1000000000000):(uv n).length<=6:=Bp 5 n (Nat.lt_of_le_of_lt h qf)
theorem MB(n:Nat):1<=(uv n).length:=by by_cases h:n<128;(rw[FV h];simp);·rw[K2 h];simp
theorem Db:∀(n:Nat) (x:Int),x∈uv n->0<=x/\x<=255:=by
 intro n
 induction n using Nat.strongRecOn with
 |_ n C=>
  intro x j
  by_cases h:n<128
  ·rw[FV h,List.mem_singleton]at j;subst j;omega
  ·rw[K2 h,List.mem_cons]at j;rcases j with rfl|j;(omega);·exact C (n/128) qc x j
def Ph(b:List Int)(a:Nat):Nat->Nat->Nat->Int×Int×Bool
 |0,_,_=>(0,0,false)
 |j+1,k,n=>match b[a+k]? with
  |none=>(0,0,false)
  |some x=>if x.toNat<128 then if(decide (x.toNat=0)&&decide (0<k))||decide (1000000000000<n+x.toNat%128*2^(7*k))then(0,0,false)else(((n+x.toNat%128*2^(7*k):Nat):Int),((a+k+1:Nat):Int),true)else Ph b a j (k+1) (n+x.toNat%128*2^(7*k))
def nUv(b:List Int)(p:Int):Int×Int×Bool:=if p<0 then(0,0,false)else Ph b p.toNat 6 0 0
theorem Kj{k:Nat}(h:k<6):2^(7*k)<=34359738368:=Nat.pow_le_pow_right (n:=2) qf (show 7*k<=35 by omega)
theorem SX{k n x:Nat}(I:n<2^(7*k)):n+x%128*2^(7*k)<2^(7*(k+1)):=by
 have e:2^(7*(k+1))=2^(7*k)*128:=by rw[show 7*(k+1)=7*k+7 from by omega,Nat.pow_add]
 have j:x%128<=127:=by omega
 have C:x%128*2^(7*k)<=127*2^(7*k):=Nat.mul_le_mul_right _ j
 rw[e]
 omega
theorem Rt{n x k:Nat}(h:n<2^k):n|||x*2^k=n+x*2^k:=by have:=Nat.two_pow_add_eq_or_of_lt h x;rw[Nat.mul_comm x,Nat.or_comm,<-this,Nat.add_comm]
theorem PV{k x:Nat}(C:k<6):i64.wrap (((x%128:Nat):Int)*2^(min (i64.wrap (7*(k:Int))).toNat IntKind.i64.bits))=((x%128*2^(7*k):Nat):Int):=by
 have J:=Kj C
 have j:x%128<=127:=by omega
 have I:x%128*2^(7*k)<=127*2^(7*k):=Nat.mul_le_mul_right _ j
 have e:min (i64.wrap (7*(k:Int))).toNat IntKind.i64.bits=7*k:=by rw[bT qc qc,show IntKind.i64.bits=64 from rfl];omega
 rw[e,show(((x%128:Nat):Int)*2^(7*k))=((x%128*2^(7*k):Nat):Int)from by rw[Int.natCast_mul,Int.natCast_pow];rfl]
 exact bT qc qc
theorem uvS{n k x:Nat}(j:k<6)(hx:x<=255)(I:n<2^(7*k)):(i64.wrap (BitVec.ofInt (IntKind.i64.bits) (n:Int)|||BitVec.ofInt (IntKind.i64.bits) (i64.wrap ((i64.wrap (BitVec.ofInt (IntKind.i64.bits) (i64.wrap (x:Int))&&&BitVec.ofInt (IntKind.i64.bits) 127).toNat)*2^(min (i64.wrap (7*(k:Int))).toNat IntKind.i64.bits)))).toNat)=((n+x%128*2^(7*k):Nat):Int):=by
 have U:=Kj j
 have C:x%128<=127:=by omega
 have J:x%128*2^(7*k)<=127*2^(7*k):=Nat.mul_le_mul_right _ C
 have e:=Iz (n:=x) (m:=127) qc qc
 rw[Ro]at e
 rw[bT (n:=(x:Int)) qc qc,show((127:Int))=((127:Nat):Int)from rfl,e,PV j,KR qc qc,Rt I]
theorem Sr{b:List Int}(j:okB b){k:Nat}(h:k<b.length):∃x:Nat,b[k]=(x:Int)/\x<=255:=by have:=j.2 _ (qG h);exact⟨b[k].toNat,qc,qc⟩
theorem rdS{b:List Int}(C:okB b)(hl:b.length<=1048576)(a:Nat)(U:(a:Int)<=9223372036854775807):∀(j k n m:Nat),j+k=6->n<2^(7*k)->j<m->dF b (a:Int) m (n:Int) (k:Int)=some (Ph b a j k n)
 |_,_,_,0,_,_,h=>by omega
 |0,k,n,m+1,hk,_,_=>by simp only[dF];rw[if_neg qd];rfl
 |j+1,k,n,m+1,hk,I,hm=>by
  have J:k<6:=by omega
  simp only[dF]
  rw[if_pos qd,if_neg qe,bT (n:=(b.length:Int)-(k:Int)) qc qc]
  by_cases hlt:a+k<b.length
  ·obtain⟨x,ex,hx⟩:=Sr C hlt;rw[if_neg qd,show((a:Int)+(k:Int))=((a+k:Nat):Int)from by omega,bT (n:=((a+k:Nat):Int)) qc qc,aN hlt,qA,ex,bN qc,bN qc,if_pos (by rw[bT qc qc];simp;omega)];rw[uvS J hx I,bT (n:=(x:Int)) qc qc];unfold Ph;rw[qF hlt,ex];dsimp only;rw[qH];have ih:=rdS C hl a U j (k+1) (n+x%128*2^(7*k)) m qc (SX I) qc;by_cases h1:x<128;(rw[if_pos qd,if_pos h1];by_cases h2:x=0;(rw[if_pos (by simp[h2])];by_cases h3:0<k;(rw[if_pos qd,if_pos (by simp[h2,h3])]);·rw[if_neg qd];by_cases h4:1000000000000<n+x%128*2^(7*k);(rw[if_pos (by rw[qL];omega),if_pos (by rw[Bool.or_eq_true,qL];exact .inr h4)]);·rw[if_neg (by rw[qL];omega),if_neg (by rw[Bool.or_eq_true,qM,qL,qL,qL];omega)]);·rw[if_neg qd];by_cases h4:1000000000000<n+x%128*2^(7*k);(rw[if_pos (by rw[qL];omega),if_pos (by rw[Bool.or_eq_true,qL];exact .inr h4)]);·rw[if_neg (by rw[qL];omega),if_neg (by rw[Bool.or_eq_true,qM,qL,qL,qL];omega)]);·rw[if_neg qd,if_neg h1];exact ih
  ·rw[if_pos qd];unfold Ph;rw[qY qc]
theorem mV{b:List Int}{p:Int}(j:okB b)(C:b.length<=1048576)(I:inI p):eG b p=some (nUv b p):=by
 unfold eG nUv
 by_cases h:p<0
 ·have e:∀m,dF b p (m+1) 0 0=some (0,0,false):=λm=>by
   simp only[dF]
   rw[if_pos qf,if_pos (by simpa using h)]
  rw[if_pos h]
  exact e 18446744073709551615
 ·rw[if_neg h];obtain⟨a,rfl⟩:=Int.eq_ofNat_of_zero_le (show 0<=p by omega);exact rdS j C a I.2 6 0 0 fuel rfl qf qj
theorem Nw(b:List Int)(a:Nat):∀(j k n:Nat),(Ph b a j k n).2.2=false->Ph b a j k n=(0,0,false)
 |0,_,_,_=>rfl
 |j+1,k,n,h=>by
  unfold Ph at h⊢
  cases e:b[a+k]? with
  |none=>rfl
  |some x=>
   rw[e]at h
   dsimp only at h⊢
   split at h
   ·split at h;(rename_i C I;rw[if_pos C,if_pos I]);·cases h
   ·rename_i C;rw[if_neg C];exact Nw b a j (k+1) _ h
theorem To{b:List Int}{p:Int}(h:(nUv b p).2.2=false):nUv b p=(0,0,false):=by unfold nUv at h⊢;split;(rfl);·rename_i j;rw[if_neg j]at h;exact Nw b _ 6 0 0 h
theorem L4{b:List Int}(C:okB b)(a:Nat):∀(j k n:Nat) (v q:Int),Ph b a j k n=(v,q,true)->∃m e:Nat,v=((n+m*2^(7*k):Nat):Int)/\q=(e:Int)/\n+m*2^(7*k)<=1000000000000/\e<=b.length/\a+k+(uv m).length=e/\b.drop (a+k)=uv m++b.drop e/\(k=0\/0<m)
 |0,_,_,_,_,h=>by cases h
 |j+1,k,n,v,q,h=>by
  unfold Ph at h
  by_cases hlt:a+k<b.length
  ·obtain⟨x,ex,hx⟩:=Sr C hlt
   have I:b.drop (a+k)=(x:Int)::b.drop (a+k+1):=by rw[qW hlt,ex]
   rw[qF hlt,ex]at h
   dsimp only at h
   rw[qH]at h
   by_cases h1:x<128
   ·rw[if_pos h1,Nat.mod_eq_of_lt h1]at h;split at h;(cases h);·rename_i h2;rw[Bool.or_eq_true,qM,qL,qL,qL]at h2;simp only[qa]at h;refine⟨x,a+k+1,h.1.symm,h.2.1.symm,qc,qc,by rw[FV h1];rfl,by rw[FV h1];exact I,qc⟩
   ·rw[if_neg h1]at h
    obtain⟨m,e,e1,e2,e3,e4,e5,e6,e7⟩:=L4 C a j (k+1) _ v q h
    have hm:0<m:=by omega
    have ee:2^(7*(k+1))=128*2^(7*k):=by rw[show 7*(k+1)=7+7*k from by omega,Nat.pow_add]
    have U:n+x%128*2^(7*k)+m*2^(7*(k+1))=n+(m*128+x%128)*2^(7*k):=by rw[ee,<-Nat.mul_assoc,Nat.add_assoc,<-Nat.add_mul,Nat.add_comm (x%128)]
    have J:uv (m*128+x%128)=(x:Int)::uv m:=by rw[K2 qc,show(m*128+x%128)/128=m from by omega,show(m*128+x%128)%128+128=x from by omega]
    rw[U]at e1 e3
    refine⟨m*128+x%128,e,e1,e2,e3,e4,by rw[J,qJ];omega,by rw[J,I,List.cons_append];exact congrArg _ e6,.inr qc⟩
  ·rw[qY qc]at h;cases h
theorem KY{b:List Int}{p v q:Int}(j:okB b)(h:nUv b p=(v,q,true)):∃a m e:Nat,p=(a:Int)/\v=(m:Int)/\q=(e:Int)/\m<=1000000000000/\e<=b.length/\a+(uv m).length=e/\b.drop a=uv m++b.drop e:=by unfold nUv at h;split at h;(cases h);·obtain⟨m,e,e1,e2,e3,e4,e5,e6,_⟩:=L4 j p.toNat 6 0 0 v q h;simp only[Nat.mul_zero,Nat.pow_zero,Nat.mul_one,Nat.zero_add,Nat.add_zero]at e1 e3 e5 e6;exact⟨p.toNat,m,e,qc,e1,e2,e3,e4,e5,e6⟩
def nRb(b:List Int)(p c:Int):List Int×Int×Bool:=if(nUv b p).2.2=true then if(nUv b p).1>c then(([]:List Int),0,false)else if(nUv b p).1>(b.length:Int)-(nUv b p).2.1 then(([]:List Int),0,false)else((b.drop (nUv b p).2.1.toNat).take (nUv b p).1.toNat,(nUv b p).2.1+(nUv b p).1,true)else(([]:List Int),0,false)
theorem QN{b:List Int}(h:okB b)(i j:Nat):okB ((b.drop i).take j):=⟨Nat.le_trans (by rw[qU,qV];omega) h.1,λx C=>h.2 x (List.mem_of_mem_drop (List.mem_of_mem_take C))⟩
theorem pD{b:List Int}{p c:Int}(C:okB b)(J:b.length<=1048576)(U:inI p):dE b p c=some (nRb b p c):=by
 unfold dE nRb
 rw[mV C J U,qA]
 cases h:(nUv b p).2.2 with
 |false=>rfl
 |true=>
  obtain⟨a,m,e,e1,e2,e3,e4,e5,e6,e7⟩:=KY C (show nUv b p=((nUv b p).1,(nUv b p).2.1,true)from by rw[<-h])
  rw[e2,e3]
  simp only[qB,qD,if_false,if_true]
  by_cases h1:(m:Int)>c
  ·rw[if_pos (by simpa using h1),if_pos h1]
  ·rw[if_neg (by simpa using h1),if_neg h1,bT (n:=(b.length:Int)-(e:Int)) qc qc]
   by_cases h2:(m:Int)>(b.length:Int)-(e:Int)
   ·rw[if_pos (by simpa using h2),if_pos h2]
   ·rw[if_neg (by simpa using h2),if_neg h2,bT (n:=(e:Int)+(m:Int)) qc qc]
    have hs:∀(α:Type) (j:List α),j.length=b.length->OE j (e:Int) ((e:Int)+(m:Int))=some ((j.take ((e:Int)+(m:Int)).toNat).drop (e:Int).toNat):=λα j hx=>by unfold OE;rw[if_pos ⟨qc,qc,qc⟩]
    have I:List.drop (e:Int).toNat (List.take ((e:Int)+(m:Int)).toNat b)=List.take m (List.drop e b):=by rw[qH,show((e:Int)+(m:Int)).toNat=e+m from by omega,List.drop_take];congr 1;omega
    rw[hs _ b rfl,qA,I,qH,qH]
    have hk:(List.take m (List.drop e b)).length<=1048576:=by rw[qU,qV];omega
    rw[Hh qc qc,qA]
theorem Tz{b:List Int}{p c:Int}(h:(nRb b p c).2.2=false):nRb b p c=(([]:List Int),0,false):=by unfold nRb at h⊢;split;(rename_i j;rw[if_pos j]at h;split;(rfl);·rename_i C;rw[if_neg C]at h;split;(rfl);·rename_i I;rw[if_neg I]at h;cases h);·rfl
theorem Sf{b s:List Int}{p c q:Int}(j:okB b)(h:nRb b p c=(s,q,true)):∃a e:Nat,p=(a:Int)/\q=(e:Int)/\(s.length:Int)<=c/\e<=b.length/\s.length<=1000000000000/\a+(uv s.length).length+s.length=e/\b.drop a=uv s.length++(s++b.drop e)/\okB s:=by
 unfold nRb at h
 split at h
 ·rename_i J
  obtain⟨a,m,e,e1,e2,e3,e4,e5,e6,I⟩:=KY j (show nUv b p=((nUv b p).1,(nUv b p).2.1,true)from by rw[<-J])
  rw[e2,e3]at h
  split at h
  ·cases h
  ·split at h
   ·cases h
   ·rename_i U h2
    simp only[qa,qH]at h
    have C:s.length=m:=by rw[<-h.1,qU,qV];omega
    refine⟨a,e+m,e1,qc,qc,qc,qc,by rw[C];omega,?_,by rw[<-h.1];exact QN j _ _⟩
    rw[C,I,<-h.1,<-List.drop_drop,List.take_append_drop]
 ·cases h
theorem zT(s:ByteArray):∀x∈cO s,0<=x/\x<=255:=by intro x j;unfold cO at j;obtain⟨b,_,rfl⟩:=List.mem_map.1 j;have:=b.toNat_lt;omega
theorem EG{l:List Int}(h:∀x∈l,0<=x/\x<=255):cO (cP l)=l:=by unfold cO cP;simp only[List.map_map];refine(List.map_congr_left λx j=> ?_).trans (List.map_id l);have:=h x j;simp only[Function.comp_apply,UInt8.toNat_ofNat',id_eq];omega
theorem zU(l:List Int):(cP l).size=l.length:=by unfold cP;show(l.map _).toArray.size=_;simp
theorem Pn{L:Nat->Int->List Int->Option (List Int)}{b c:Int->Int}
  (U:∀m (n:Nat) r,¬n<128->n<2^63->L (m+1) (n:Int) r=(app 1 r [b n]).bind λ_=>L m ((n/128:Nat):Int) (r++[b n]))
  (I:∀m (n:Nat) r,n<128->L (m+1) (n:Int) r=(app 1 r [c n]).bind λ_=>some (r++[c n]))
  (hb:∀n:Nat,n<2^63->b n=((n%128+128:Nat):Int))(J:∀n:Nat,n<128->c n=(n:Int)):
  ∀(j m n:Nat) (r:List Int),n<2^(7*(j+1))->n<2^63->j<m->r.length+(j+1)<=140737488355328->L m (n:Int) r=some (r++uv n)
 |j,0,n,r,_,_,hm,_=>by omega
 |0,m+1,n,r,hn,C,hm,hr=>by
  have h:n<128:=by simpa using hn
  rw[I m n r h,eJ qd,qA,J n h,FV h]
 |j+1,m+1,n,r,hn,C,hm,hr=>by
  by_cases h:n<128
  ·rw[I m n r h,eJ qd,qA,J n h,FV h]
  ·have hd:n/128<2^(7*(j+1)):=by
    rw[Nat.div_lt_iff_lt_mul qc]
    have e:2^(7*(j+1+1))=2^(7*(j+1))*128:=by rw[show 7*(j+1+1)=7*(j+1)+7 by omega,Nat.pow_add]
    omega
   rw[U m n r h C,eJ qd,qA,Pn U I hb J j m (n/128) (r++[b n]) hd qc qc qd,hb n C,K2 h,qS]
   rfl
theorem u8n{n:Nat}(h:n<128):IntKind.u8.wrap (n:Int)=(n:Int):=by rw[wrap_u8];omega
theorem u8S{n:Nat}(h:n<2^63):IntKind.u8.wrap (i64.wrap (BitVec.ofInt (IntKind.i64.bits) (i64.wrap (BitVec.ofInt (IntKind.i64.bits) (n:Int)&&&BitVec.ofInt (IntKind.i64.bits) 127).toNat)|||BitVec.ofInt (IntKind.i64.bits) 128).toNat)=((n%128+128:Nat):Int):=by
 have j:n%128<=127:=by omega
 have e:=Iz (n:=n) (m:=127) qc qc
 rw[Ro]at e
 have e2:=KR (n:=n%128) (m:=128) qc qc
 rw[UQ qc]at e2
 rw[show((127:Int))=((127:Nat):Int)from rfl,e,show((128:Int))=((128:Nat):Int)from rfl,e2,wrap_u8]
 omega
theorem kQ{r:List Int}{n:Nat}(U:r.length<=16777216)(J:n<=1000000000000):bI r (n:Int)=some (r++uv n):=by
 have C:inR (n:Int) 0 1000000000000=true:=by unfold inR;simp;omega
 unfold bI
 rw[eJ qd,qA,dB,qA,C,if_neg qe]
 refine Pn (L:=bV) (b:=λv=>IntKind.u8.wrap (i64.wrap (BitVec.ofInt (IntKind.i64.bits) (i64.wrap (BitVec.ofInt (IntKind.i64.bits) v&&&BitVec.ofInt (IntKind.i64.bits) 127).toNat)|||BitVec.ofInt (IntKind.i64.bits) 128).toNat)) (c:=λv=>IntKind.u8.wrap v) (λm n r j I=> ?_) (λm n r j=> ?_) (λn h=>u8S h) (λn h=>u8n h) 8 fuel n r qc qc qj qc
 ·simp only[bV];rw[if_pos qd,uvf]
 ·simp only[bV];rw[if_neg qd]
def HD(b:List Int):List Int:=uv b.length++b
theorem mU{r b:List Int}(I:r.length<=8388608)(C:b.length<=1000000):bH r b=some (r++HD b):=by have j:=Eu (n:=b.length) qc;unfold bH HD;rw[kQ qc qc,qA,eJ (by rw[qE];omega),qA,qS]
def Jt{α:Type}(f:α->List Int):List α->List Int
 |[]=>[]
 |x::l=>f x++Jt f l
theorem Jf{α:Type}{f:α->List Int}{c:Nat}:∀{l:List α},(∀x∈l,(f x).length<=c)->(Jt f l).length<=l.length*c
 |[],_=>by simp[Jt]
 |x::l,h=>by have C:=h x qe;have I:=Jf (l:=l) (λy j=>h y (by simp[j]));simp only[Jt,qE,qJ,Nat.succ_mul];omega
theorem PF{α:Type}{R:Type}{xs:List α}{f:α->List Int}{c B:Nat}{L:Nat->Int->List Int->Option R}{E:List Int->Option R}(I:∀x∈xs,(f x).length<=c)
  (j:∀n (k:Nat) (J:k<xs.length) q,q.length<=B->L (n+1) (k:Int) q=L n ((k+1:Nat):Int) (q++f xs[k]))
  (C:∀n q,q.length<=B->L (n+1) (xs.length:Int) q=E q):
  ∀(n k:Nat) (q:List Int),xs.length-k<n->k<=xs.length->q.length+(xs.length-k)*c<=B->L n (k:Int) q=E (q++Jt f (xs.drop k))
 |0,_,_,h,_,_=>by omega
 |n+1,k,q,h,J,U=>by
  rcases Nat.lt_or_ge k xs.length with hlt|hge
  ·have hx:=I _ (qG hlt)
   have e:(xs.length-k)*c=(xs.length-(k+1))*c+c:=by rw[<-Nat.succ_mul];congr 1;omega
   rw[j n k hlt q qc,PF I j C n (k+1) (q++f xs[k]) qc qc (by rw[qE];omega),qW hlt,Jt,qS]
  ·have e:k=xs.length:=by omega
   subst e
   rw[C n q qc,qZ,Jt,qX]
def enF(x:M.Field):List Int:=HD (cO x.Name)++uv x.N.toNat
def enR(r:M.aC):List Int:=if bO r=true then uv r.Y4.length++Jt enF r.Y4 else[]
theorem N0{x:M.Field}(h:x.Name.size<=8/\0<=x.N/\x.N<=1000000000):(enF x).length<=14:=by have C:=Bp 0 x.Name.size qc;have I:=Bp 4 x.N.toNat qc;have j:=aP x.Name;unfold enF HD;simp only[qE,j];omega
theorem IJ(r:M.aC):(enR r).length<=85:=by unfold enR;split;(rename_i h;obtain⟨j,C⟩:=rA h;have J:=Bp 0 r.Y4.length qc;have U:=Jf (f:=enF) (λx I=>N0 (C x I));rw[qE];have:r.Y4.length*14<=6*14:=Nat.mul_le_mul_right _ j;omega);·simp
theorem Dl{r:M.aC}(J:r.ok):eT r=some (enR r):=by
 unfold eT enR
 rw[mK J,qA]
 by_cases h:bO r=true
 ·obtain⟨h6,I⟩:=rA h
  have h1:=Bp 0 r.Y4.length qc
  rw[if_neg (by simp[h]),if_pos h,kQ qe qc,qA,List.nil_append]
  have:=PF (xs:=r.Y4) (f:=enF) (c:=14) (B:=1000) (L:=bZ r) (E:=some) (λx C=>N0 (I x C)) (λn k j q hq=> ?_) (λn q _=> ?_) fuel 0 (uv r.Y4.length) qj qc qc
  ·rw[List.drop_zero]at this;exact this
  ·have C:=I _ (qG j)
   simp only[bZ]
   have h9:=Eu (n:=r.Y4[k].Name.size) qc
   have U:=aP r.Y4[k].Name
   have hb:(HD (cO r.Y4[k].Name)).length<=14:=by unfold HD;rw[qE,U];omega
   have e:=kQ (r:=q++HD (cO r.Y4[k].Name)) (n:=r.Y4[k].N.toNat) (by rw[qE];omega) qc
   rw[Int.toNat_of_nonneg C.2.1]at e
   rw[if_pos (aY j),aN j,qA,mU qc qc,qA,e,qA,bN qc,qS]
   rfl
  ·simp only[bZ];rw[if_neg ql]
 ·rw[if_pos (by simp[h]),if_neg h]
def be6(v:Nat):List Int:=[((v/2^40%256:Nat):Int),((v/2^32%256:Nat):Int),((v/2^24%256:Nat):Int),((v/2^16%256:Nat):Int),((v/2^8%256:Nat):Int),((v%256:Nat):Int)]
def enK(k:M.Key):List Int:=if zQ k=true then k.Zi::((if k.Zi==2 then[]else be6 (k.N+1000000000000).toNat)++cO k.Zp)else[]
theorem Kr{k:M.Key}(h:zQ k=true):1<=k.Zi/\k.Zi<=3/\ -1000000000000<=k.N/\k.N<=1000000000000:=by unfold zQ inR at h;simp only[qM,qL]at h;omega
theorem IP(k:M.Key):(enK k).length<=19:=by unfold enK;split;(rename_i h;have:=Bc h;have:=aP k.Zp;split<;>simp[be6]<;>omega);·simp
theorem Yu{k:M.Key}(v:Nat)(C:v<=5)(h: -1000000000000<=k.N/\k.N<=1000000000000):Int.fdiv (i64.wrap (k.N+1000000000000)) (2^(min (i64.wrap (8*(v:Int))).toNat IntKind.i64.bits))=(((k.N+1000000000000).toNat/2^(8*v):Nat):Int):=by
 have e:min (i64.wrap (8*(v:Int))).toNat IntKind.i64.bits=8*v:=by rw[bT qc qc,show IntKind.i64.bits=64 from rfl];omega
 rw[e,bT qc qc]
 obtain⟨n,j⟩:=Int.eq_ofNat_of_zero_le (show 0<=k.N+1000000000000 by omega)
 rw[j,qH,Int.fdiv_eq_ediv_of_nonneg _ (by exact Int.le_of_lt (Int.pow_pos qf)),Int.natCast_ediv,Int.natCast_pow]
 rfl
theorem byS{k:M.Key}(v:Nat)(j:v<=5)(h: -1000000000000<=k.N/\k.N<=1000000000000):(IntKind.u8.wrap (i64.wrap (BitVec.ofInt (IntKind.i64.bits) (Int.fdiv (i64.wrap (k.N+1000000000000)) (2^(min (i64.wrap (8*(v:Int))).toNat IntKind.i64.bits)))&&&BitVec.ofInt (IntKind.i64.bits) 255).toNat))=(((k.N+1000000000000).toNat/2^(8*v)%256:Nat):Int):=by have C:(k.N+1000000000000).toNat/2^(8*v)<=(k.N+1000000000000).toNat:=Nat.div_le_self _ _;have e:=Iz (n:=(k.N+1000000000000).toNat/2^(8*v)) (m:=255) qc qc;rw[Tc]at e;rw[Yu v j h,show((255:Int))=((255:Nat):Int)from rfl,e,wrap_u8];omega
theorem Gb{k:M.Key}(hk:k.ok):iD k=some (enK k):=by
 unfold iD enK
 rw[jN hk,qA]
 by_cases h:zQ k=true
 ·have ht:=Bc h
  have U:=Kr h
  have hl:=aP k.Zp
  have hw:IntKind.u8.wrap k.Zi=k.Zi:=by rw[wrap_u8];omega
  rw[if_neg (by simp[h]),if_pos h,Sn,hw]
  by_cases h2:(k.Zi==2)=true
  ·have j:¬(k.Zi !=2)=true:=by simp[bne,h2]
   rw[if_pos h2]
   have I:∀n r,r.length<=7->bA k (n+1) 5 r=some (r++cO k.Zp):=by intro n r C;simp only[bA];rw[if_pos qf,if_neg j,eJ qc,qA]
   exact I (18446744073709551609+6) _ qe
  ·have j:(k.Zi !=2)=true:=by simp[bne,h2]
   rw[if_neg h2]
   have st:∀n (v:Nat) r,r.length<=7->v<=5->bA k (n+1) (v:Int) r=bA k n ((v:Int)-1) (r++[(((k.N+1000000000000).toNat/2^(8*v)%256:Nat):Int)]):=by intro n v r C hv;simp only[bA];rw[if_pos qe,if_pos j,if_pos (by rw[bT qc qc];simp;omega),eJ qd,qA,bT (n:=(v:Int)-1) qc qc,byS v hv U.2.2]
   have J:∀n r,r.length<=7->bA k (n+1) (-1) r=some (r++cO k.Zp):=by intro n r C;simp only[bA];rw[if_neg qf,eJ qc,qA]
   refine(st (18446744073709551609+6) 5 _ qe qe).trans ((st (18446744073709551609+5) 4 _ qe qe).trans ((st (18446744073709551609+4) 3 _ qe qe).trans ((st (18446744073709551609+3) 2 _ qe qe).trans ((st (18446744073709551609+2) 1 _ qe qe).trans ((st (18446744073709551609+1) 0 _ qe qe).trans ((J _ _ qe).trans ?_))))))
   simp[be6]
 ·rw[if_pos (by simp[h]),if_neg h]
theorem Pp:∀{a b:List Int},eqL xG a b=true↔a=b
 |[],[]=>by simp[eqL]
 |[],_::_=>by simp[eqL]
 |_::_,[]=>by simp[eqL]
 |x::j,y::C=>by have:=Pp (a:=j) (b:=C);simp only[eqL,qM,this,List.cons.injEq,xG,beq_iff_eq]
theorem Bt{b:List Int}(h:∀x∈b,0<=x/\x<=255):∀x∈HD b,0<=x/\x<=255:=λx j=>by unfold HD at j;rcases List.mem_append.1 j with j|j;(exact Db _ x j);·exact h x j
theorem Jj{α:Type}{f:α->List Int}:∀{l:List α},(∀x∈l,∀y∈f x,0<=y/\y<=255)->∀y∈Jt f l,0<=y/\y<=255
 |[],_,_,j=>by simp[Jt]at j
 |x::l,h,y,j=>by rcases List.mem_append.1 (show y∈f x++Jt f l from j)with j|j;(exact h x qe y j);·exact Jj (l:=l) (λz C=>h z (by simp[C])) y j
theorem Qk(x:M.Field):∀y∈enF x,0<=y/\y<=255:=λy j=>by unfold enF at j;rcases List.mem_append.1 j with j|j;(exact Bt (zT _) y j);·exact Db _ y j
theorem TA(r:M.aC):okB (enR r):=⟨Nat.le_trans (IJ r) qk,λy j=>by unfold enR at j;split at j;(rcases List.mem_append.1 j with j|j;(exact Db _ y j);·exact Jj (λx _=>Qk x) y j);·simp at j⟩
theorem Ts(k:M.Key):okB (enK k):=⟨Nat.le_trans (IP k) qk,λy j=>by unfold enK at j;split at j;(rename_i h;have C:=Kr h;rcases List.mem_cons.1 j with rfl|j;(omega);·rcases List.mem_append.1 j with j|j;(split at j;(simp at j);·simp only[be6,List.mem_cons,qO,or_false]at j;omega);·exact zT _ y j);·simp at j⟩
def ON:M.Key:=(⟨0,0,(⟨#[]⟩:ByteArray)⟩:M.Key)
def mkK(c n:Int)(t:List Int):M.Key×Bool:=if zQ (⟨c,n,cP t⟩:M.Key)=true then((⟨c,n,cP t⟩:M.Key),true)else(ON,false)
def S7(v x:Int):Int:=v*256+x
def NX:List Int->M.Key×Bool
 |[]=>(ON,false)
 |c::t=>if c=2 then mkK c 0 t else if t.length<6 then(ON,false)else mkK c ((t.take 6).foldl S7 0-1000000000000) (t.drop 6)
theorem Uw{t:List Int}(j:∀x∈t,0<=x/\x<=255):∀(v:Nat) (n:Nat),(v:Int)<2^n->∃w:Nat,t.foldl S7 (v:Int)=(w:Int)/\(w:Int)<2^(n+8*t.length):=by
 induction t with
 |nil=>exact λv n h=>⟨v,rfl,by simpa using h⟩
 |cons x t J=>
  intro v n h
  have U:=j x qe
  obtain⟨w,e,C⟩:=J (λy I=>j y (by simp[I])) (v*256+x.toNat) (n+8) (by rw[Int.pow_add];omega)
  refine⟨w,?_,by rw[qJ,show n+8*(t.length+1)=n+8+8*t.length from by omega];exact C⟩
  rw[List.foldl_cons,<-e]
  congr 1
  unfold S7
  omega
theorem LQ{c n:Int}{t:List Int}(C:0<=c/\c<=255)(I: -1000000000000<=n/\n<=1000000000000000)(j:t.length<=maxLen):M.Key.ok (⟨c,n,cP t⟩:M.Key):=⟨by show inI c;unfold inI;omega,by show inI n;unfold inI;omega,by show(cP t).size<=_;rw[zU];exact j⟩
theorem Yc{v:Nat}(h:v<2^48):i64.wrap ((v:Int)*2^(min (8:Int).toNat IntKind.i64.bits))=((v*256:Nat):Int):=by rw[show min (8:Int).toNat IntKind.i64.bits=8 from rfl,show((v:Int)*2^8)=((v*256:Nat):Int)from by omega];exact bT qc qc
theorem stS{v x:Nat}(h:v<2^48)(j:x<=255):(i64.wrap (BitVec.ofInt (IntKind.i64.bits) (i64.wrap ((v:Int)*2^(min (8:Int).toNat IntKind.i64.bits)))|||BitVec.ofInt (IntKind.i64.bits) (i64.wrap (x:Int))).toNat)=((v*256+x:Nat):Int):=by have e:=Rt (n:=x) (x:=v) (k:=8) qc;rw[Yc h,bT (n:=(x:Int)) qc qc,KR qc qc,Nat.or_comm,show(256:Nat)=2^8 from rfl,e];omega
theorem dkS{b:List Int}{c:Int}(I:okB b)(hl:b.length<=1048576)(hc:0<=c/\c<=255)(h7:7<=b.length):∀(j k v m:Nat),k+j=7->v<2^(8*(k-1))->1<=k->j<m->iO b c m (v:Int) (k:Int)=some (mkK c (((b.drop k).take j).foldl S7 (v:Int)-1000000000000) (b.drop 7))
 |_,_,_,0,_,_,_,h=>by omega
 |0,k,v,m+1,hk,J,h1,_=>by
  obtain rfl:k=7:=by omega
  simp only[iO]
  have hd:okB (b.drop 7):=⟨Nat.le_trans (by rw[qV];omega) I.1,λx hx=>I.2 x (List.mem_of_mem_drop hx)⟩
  have U:(v:Int)<281474976710656:=by have:v<2^48:=J;omega
  have ok:=LQ (n:=(v:Int)-1000000000000) hc qc hd.1
  rw[if_neg qf,show zN b 7=some (b.drop (7:Int).toNat)from by unfold zN;rw[if_pos ⟨qf,by simpa using h7⟩],qA,show(7:Int).toNat=7 from rfl,BD hd.2,qA,bT (n:=c) qc qc,bT (n:=(v:Int)-1000000000000) qc qc,jN ok,qA,List.take_zero,List.foldl_nil]
  unfold mkK
  cases zQ (⟨c,(v:Int)-1000000000000,cP (b.drop 7)⟩:M.Key)<;>rfl
 |j+1,k,v,m+1,hk,J,h1,hm=>by
  have C:k<b.length:=by omega
  obtain⟨x,ex,hx⟩:=Sr I C
  have U:v<2^40:=Nat.lt_of_lt_of_le J (Nat.pow_le_pow_right qf qc)
  have e8:2^(8*(k+1-1))=2^(8*(k-1))*256:=by rw[show 8*(k+1-1)=8*(k-1)+8 from by omega,Nat.pow_add]
  simp only[iO]
  rw[if_pos qd,aN C,qA,ex,stS qc hx,bN qc,dkS I hl hc h7 j (k+1) (v*256+x) m qc (by rw[e8];omega) qc qc,qW C,ex,List.take_succ_cons,List.foldl_cons]
  congr 4
theorem F7{b:List Int}(j:okB b)(I:b.length<=1048576):pG b=some (NX b):=by
 unfold pG
 cases b with
 |nil=>rfl
 |cons c t=>
  have J:=j.2 c qe
  have ht:∀x∈t,0<=x/\x<=255:=λx hx=>j.2 x (by simp[hx])
  have C:t.length<=maxLen:=by have:=j.1;rw[qJ]at this;omega
  have U:t.length+1<=1048576:=I
  rw[if_neg qd,show idx (c::t) 0=some c from rfl,qA,bT (n:=c) qc qc]
  unfold NX
  show _=some (if c=2 then mkK c 0 t else if t.length<6 then(ON,false)else mkK c ((t.take 6).foldl S7 0-1000000000000) (t.drop 6))
  by_cases h2:c=2
  ·subst h2;rw[if_neg qf,if_pos rfl,show zN (2::t) 1=some t from by unfold zN;rw[if_pos ⟨qf,qe⟩];rfl,qA,show List.drop (1:Int).toNat ((2:Int)::t)=t from rfl,BD ht,qA,jN (LQ qc qc C),qA];unfold mkK;cases zQ (⟨2,0,cP t⟩:M.Key)<;>rfl
  ·rw[if_pos (by simpa using h2),if_neg h2];by_cases h6:t.length<6;(rw[if_pos qd,if_pos h6];rfl);·rw[if_neg qd,if_neg h6];exact dkS j I J qd 6 1 0 fuel rfl qf qc qj
def Rw(b:List Int):Nat->Int->List M.Field->Option (List M.Field×Int)
 |0,p,C=>some (C,p)
 |j+1,p,C=>if(nRb b p 8).2.2=true then if(nUv b (nRb b p 8).2.1).2.2=true then Rw b j (nUv b (nRb b p 8).2.1).2.1 (C++[(⟨cP (nRb b p 8).1,(nUv b (nRb b p 8).2.1).1⟩:M.Field)])else none else none
def Ng(b:List Int):M.aC×Bool:=if(nUv b 0).2.2=true then(if(nUv b 0).1>6 then((⟨([]:List M.Field)⟩:M.aC),false)else match Rw b (nUv b 0).1.toNat (nUv b 0).2.1 []with
 |none=>((⟨([]:List M.Field)⟩:M.aC),false)
 |some (j,q)=>if(bO (⟨j⟩:M.aC)&&(q==(b.length:Int)))=true then((⟨j⟩:M.aC),true)else((⟨([]:List M.Field)⟩:M.aC),false))else((⟨([]:List M.Field)⟩:M.aC),false)
theorem Fq{e:Nat}{n:Nat}(h:e<=n)(j:n<=1048576):inI (e:Int):=by unfold inI;omega
theorem Ey{b:List Int}{p c:Int}(J:okB b)(h:(nRb b p c).2.2=true):∃(s:List Int) (a e:Nat),nRb b p c=(s,(e:Int),true)/\p=(a:Int)/\(s.length:Int)<=c/\e<=b.length/\s.length<=1000000000000/\a+(uv s.length).length+s.length=e/\b.drop a=uv s.length++(s++b.drop e)/\okB s:=by obtain⟨a,e,j,C,I⟩:=Sf J (show nRb b p c=((nRb b p c).1,(nRb b p c).2.1,true)from by rw[<-h]);exact⟨_,a,e,by rw[<-C,<-h],j,I⟩
theorem AP{b:List Int}{p:Int}(U:okB b)(h:(nUv b p).2.2=true):∃a m e:Nat,nUv b p=((m:Int),(e:Int),true)/\p=(a:Int)/\m<=1000000000000/\e<=b.length/\a+(uv m).length=e/\b.drop a=uv m++b.drop e:=by obtain⟨a,m,e,j,C,I,J⟩:=KY U (show nUv b p=((nUv b p).1,(nUv b p).2.1,true)from by rw[<-h]);exact⟨a,m,e,by rw[<-C,<-I,<-h],j,J⟩
theorem MC{s:List Int}{m:Nat}(j:okB s)(C:m<=1000000000000):M.Field.ok (⟨cP s,(m:Int)⟩:M.Field):=⟨by show(cP s).size<=_;rw[zU];exact j.1,by show inI (m:Int);unfold inI;omega⟩
theorem My{b:List Int}(J:okB b):∀(j a:Nat) (C I:List M.Field) (q:Int),Rw b j (a:Int) C=some (I,q)->a<=b.length->∃(l:List M.Field) (e:Nat),I=C++l/\l.length=j/\q=(e:Int)/\e<=b.length/\b.drop a=Jt enF l++b.drop e/\∀x∈l,M.Field.ok x
 |0,a,C,I,q,h,ha=>by simp only[Rw,qb,qa]at h;exact⟨[],a,by rw[<-h.1,qX],rfl,h.2.symm,ha,rfl,λ_ h=>absurd h qe⟩
 |j+1,a,C,I,q,h,ha=>by
  simp only[Rw]at h
  split at h
  ·rename_i h1
   obtain⟨s,a1,e1,r1,r2,r3,r4,r5,r6,r7,r8⟩:=Ey J h1
   obtain rfl:a=a1:=by omega
   rw[r1]at h
   dsimp only at h
   split at h
   ·rename_i h2
    obtain⟨a2,m,e2,u1,u2,u3,u4,u5,u6⟩:=AP J h2
    obtain rfl:e1=a2:=by omega
    rw[u1]at h
    dsimp only at h
    obtain⟨l,e,g1,g2,g3,g4,g5,g6⟩:=My J j e2 _ I q h u4
    refine⟨(⟨cP s,(m:Int)⟩:M.Field)::l,e,by rw[g1,qS];rfl,by rw[qJ,g2],g3,g4,?_,λx U=> ?_⟩
    ·rw[r7,u6,g5,Jt,enF,HD,EG r8.2,qH];simp only[qS]
    ·rcases List.mem_cons.1 U with rfl|U;(exact MC r8 u3);·exact g6 x U
   ·cases h
  ·cases h
def YW(o:Option (List M.Field×Int)):M.aC×Int×Bool:=match o with
 |none=>((⟨([]:List M.Field)⟩:M.aC),0,false)
 |some (j,q)=>((⟨j⟩:M.aC),q,bO (⟨j⟩:M.aC))
theorem N9{j:List M.Field}{n:Nat}(C:j.length<=n)(I:n<=6)(h:∀x∈j,M.Field.ok x):M.aC.ok (⟨j⟩:M.aC):=⟨⟨Nat.le_trans C qk,h⟩⟩
theorem Qu{j:List M.Field}{x:M.Field}(h:∀x∈j,M.Field.ok x)(I:M.Field.ok x):∀y∈j++[x],M.Field.ok y:=λy C=>by rcases List.mem_append.1 C with C|C;(exact h y C);·rw[List.mem_singleton.1 C];exact I
theorem Vd{b:List Int}{x1:Int×Int×Bool}{N:Nat}(I:okB b)(J:b.length<=1048576)(hN:N<=6)(hx:x1.1=(N:Int)):∀(j k m:Nat) (p:Int) (C:List M.Field),k+j=N->j<m->inI p->C.length=k->(∀x∈C,M.Field.ok x)->nC b x1 m p (k:Int) C=some (YW (Rw b j p C))
 |_,_,0,_,_,_,h,_,_,_=>by omega
 |0,k,m+1,p,C,hk,_,hp,ha,U=>by simp only[nC];rw[hx,if_neg qd,mK (N9 (n:=6) qc qc U),qA];rfl
 |j+1,k,m+1,p,C,hk,hm,hp,ha,U=>by
  simp only[nC,Rw]
  rw[hx,if_pos qd,pD I J hp,qA]
  cases h1:(nRb b p 8).2.2 with
  |false=>rfl
  |true=>
   obtain⟨s,a1,e1,r1,r2,r3,r4,r5,r6,r7,r8⟩:=Ey I h1
   rw[r1]
   simp only[qB,qD,if_false,if_true]
   rw[mV I J (Fq r4 J),qA]
   cases h2:(nUv b (e1:Int)).2.2 with
   |false=>rfl
   |true=>
    obtain⟨a2,v,e2,u1,u2,u3,u4,u5,u6⟩:=AP I h2
    rw[u1]
    simp only[qB,qD,if_false,if_true]
    rw[BD r8.2,qA,eJ qd,qA,bN qc]
    exact Vd I J hN hx j (k+1) m (e2:Int) _ qc qc (Fq u4 J) (by simp[ha]) (Qu U (MC r8 u3))
theorem Ds{b:List Int}(C:okB b)(I:b.length<=1048576):lR b=some (Ng b):=by
 unfold lR zR Ng
 rw[mV C I tD,qA]
 cases h:(nUv b 0).2.2 with
 |false=>rfl
 |true=>
  obtain⟨a,m,e,U,u2,u3,u4,u5,u6⟩:=AP C h
  rw[U]
  simp only[qB,qD,if_false,if_true]
  by_cases h6:(m:Int)>6
  ·rw[if_pos (by simpa using h6),if_pos h6];rfl
  ·have J:=Vd (x1:=((m:Int),(e:Int),true)) C I (N:=m) qc rfl m 0 fuel (e:Int) [] qc qj (Fq u4 I) rfl (λ_ h=>absurd h qe)
   rw[show((0:Nat):Int)=0 from rfl]at J
   rw[if_neg (by simpa using h6),if_neg h6,qH,J,qA]
   cases Rw b m (e:Int) []with
   |none=>rfl
   |some o=>
    obtain⟨j,q⟩:=o
    show(if(!bO (⟨j⟩:M.aC))=true then some ((⟨([]:List M.Field)⟩:M.aC),false)else if(!(q==(b.length:Int)))=true then some ((⟨([]:List M.Field)⟩:M.aC),false)else some ((⟨j⟩:M.aC),true))=some (if(bO (⟨j⟩:M.aC)&&(q==(b.length:Int)))=true then((⟨j⟩:M.aC),true)else((⟨([]:List M.Field)⟩:M.aC),false))
    rcases Bool.eq_false_or_eq_true (bO (⟨j⟩:M.aC))with hn|hn
    ·rw[if_neg (show ¬(!bO (⟨j⟩:M.aC))=true from by simp[hn])];by_cases hq:q=(b.length:Int);(rw[if_neg (show ¬(!(q==(b.length:Int)))=true from by simp[hq]),if_pos (by simp[hn,hq])]);·rw[if_pos (show(!(q==(b.length:Int)))=true from by simp[hq]),if_neg (by simp[hq])]
    ·rw[if_pos (show(!bO (⟨j⟩:M.aC))=true from by simp[hn]),if_neg (by simp[hn])]
theorem Qs{b:List Int}(J:okB b):(Ng b).1.ok/\M.aC.sz (Ng b).1<=60:=by have j:M.aC.ok (⟨([]:List M.Field)⟩:M.aC)/\M.aC.sz (⟨([]:List M.Field)⟩:M.aC)<=60:=⟨N9 (n:=0) qe qc (λ_ h=>absurd h qe),by simp[M.aC.sz,jO]⟩;unfold Ng;split;(rename_i h;obtain⟨a,m,e,u1,u2,u3,u4,u5,u6⟩:=AP J h;rw[u1];dsimp only;split;(exact j);·split;(exact j);·rename_i C q hr;split;(rename_i U;rw[qM]at U;obtain⟨l,e3,I,g2,g3,g4,g5,g6⟩:=My J _ e [] C q hr u4;rw[List.nil_append]at I;subst I;obtain⟨n6,nf⟩:=rA U.1;refine⟨N9 n6 qc g6,?_⟩;have:=jW (w:=M.Field.sz) (b:=8) (xs:=C) (λx hx=>by have:=(nf x hx).1;simp only[M.Field.sz];omega);simp only[M.aC.sz];omega);·exact j);·exact j
def Ht(o:M.Op):Prop:=inI o.Zi/\o.aA.size<=maxLen/\o.Key.ok/\o.aC.ok/\o.Field.size<=maxLen
def nOp(o:M.Op):Bool:=inR o.Zi 1 6&&(nS o.aA&&(((o.Zi==5)||zQ o.Key)&&(bO o.aC&&(if(o.Zi==6)=true then nS o.Field else o.Field.toList==(⟨#[]⟩:ByteArray).toList))))
theorem Gw{o:M.Op}(h:Ht o):yF o=some (nOp o):=by unfold yF nOp;simp only[dB,dG h.2.1,jN h.2.2.1,mK h.2.2.2.1,dG h.2.2.2.2,qA];have j:(o.Zi !=6)= !(o.Zi==6):=rfl;generalize (o.Zi !=6)=a9 at j⊢;generalize inR o.Zi 1 6=a1;generalize nS o.aA=a2;generalize (o.Zi==5)=a3;generalize zQ o.Key=a4;generalize bO o.aC=a5;generalize (o.Zi==6)=a6 at j⊢;generalize nS o.Field=a7;generalize (o.Field.toList==(⟨#[]⟩:ByteArray).toList)=a8;subst j;cases a1<;>cases a2<;>cases a3<;>cases a4<;>cases a5<;>cases a6<;>cases a7<;>cases a8<;>rfl
def enO(o:M.Op):List Int:=uv o.Zi.toNat++(HD (cO o.aA)++(HD (enK o.Key)++(HD (enR o.aC)++HD (cO o.Field))))
def Ca(l:List M.Op):List Int:=if(l.all nOp&&decide (l.length<=6))=true then uv l.length++Jt enO l else[]
theorem bsize{a b:ByteArray}(h:a.toList=b.toList):a.size=b.size:=by rw[ByteArray.toList_eq,ByteArray.toList_eq]at h;have:=congrArg List.length h;rw[Array.length_toList,Array.length_toList]at this;exact this
theorem MJ{s:ByteArray}(h:(s.toList==(⟨#[]⟩:ByteArray).toList)=true):s.size=0:=bsize (eq_of_beq h)
theorem Ba{o:M.Op}(h:nOp o=true):1<=o.Zi/\o.Zi<=6/\o.aA.size<=8/\o.Field.size<=8/\bO o.aC=true:=by
 unfold nOp inR at h
 simp only[qM,qL]at h
 obtain⟨C,U,_,h4,j⟩:=h
 have J:∀s:ByteArray,nS s=true->s.size<=8:=λs I=>by unfold nS inR at I;simp only[qM,qL]at I;omega
 refine⟨C.1,C.2,J _ U,?_,h4⟩
 split at j
 ·exact J _ j
 ·rw[MJ j];omega
theorem Dh{b:List Int}{n:Nat}(h:b.length<=n)(j:n<=127):(HD b).length<=n+1:=by have:=Bp 0 b.length qc;unfold HD;rw[qE];omega
theorem Li{o:M.Op}(h:nOp o=true):(enO o).length<=130:=by obtain⟨I,J,j,C,_⟩:=Ba h;have e1:=Bp 0 o.Zi.toNat qc;have e2:=Dh (b:=cO o.aA) (n:=8) (by rw[aP];exact j) qc;have e3:=Dh (IP o.Key) qc;have e4:=Dh (IJ o.aC) qc;have e5:=Dh (b:=cO o.Field) (n:=8) (by rw[aP];exact C) qc;unfold enO;simp only[qE];omega
theorem Rd{o:M.Op}(C:Ht o)(h:nOp o=true){q:List Int}(hq:q.length<=900000){α:Type}(K:List Int->Option α):((bI q o.Zi).bind λI=>(bH I (cO o.aA)).bind λJ=>(iD o.Key).bind λU=>(bH J U).bind λah=>(eT o.aC).bind λai=>(bH ah ai).bind λaj=>(bH aj (cO o.Field)).bind λak=>K ak)=K (q++enO o):=by obtain⟨h1,h2,h3,h4,_⟩:=Ba h;have j:=kQ (r:=q) (n:=o.Zi.toNat) qc qc;rw[Int.toNat_of_nonneg qc]at j;have l1:=Bp 0 o.Zi.toNat qc;have l2:=Dh (b:=cO o.aA) (n:=8) (by rw[aP];exact h3) qc;have l3:=Dh (IP o.Key) qc;have l4:=Dh (IJ o.aC) qc;have k2:=aP o.aA;have k5:=aP o.Field;have k3:=IP o.Key;have k4:=IJ o.aC;rw[j,qA,mU qq qc,qA,Gb C.2.2.1,qA,mU qq qc,qA,Dl C.2.2.2.1,qA,mU qq qc,qA,mU qq qc,qA];unfold enO;simp only[qS]
theorem eoS{l:List M.Op}(C:l.length<=1000)(j:∀o∈l,Ht o):∀(n k:Nat) (q:List Int),l.length-k<n->k<=l.length->q.length<=20+130*k->lJ l n (k:Int) q=some (if(l.drop k).all nOp=true then if l.length>6 then[]else q++Jt enO (l.drop k)else[])
 |0,_,_,h,_,_=>by omega
 |n+1,k,q,J,I,U=>by
  simp only[lJ]
  rcases Nat.lt_or_ge k l.length with hlt|hge
  ·rw[if_pos (aY hlt),aN hlt,qA,Gw (j _ (qG hlt)),qA,qW hlt,List.all_cons]
   cases h:nOp l[k]with
   |false=>
    simp only[qC,if_true,Bool.false_and,qD,if_false]
   |true=>
    simp only[qB,qD,if_false,Bool.true_and]
    have hx:=Li h
    rw[Rd (j _ (qG hlt)) h qc,bN qc,eoS C j n (k+1) _ qc qc (by rw[qE];omega),Jt,qS]
  ·have e:k=l.length:=by omega
   subst e
   rw[if_neg ql,qZ]
   simp only[List.all_nil,if_true,Jt,qX]
   by_cases h6:l.length>6
   ·rw[if_pos qd,if_pos h6]
   ·rw[if_neg qd,if_neg h6]
theorem BQ{l:List M.Op}(j:l.length<=1000)(C:∀o∈l,Ht o):pH l=some (Ca l):=by
 have I:=Eu (n:=l.length) qc
 unfold pH Ca
 rw[kQ qe qc,qA,List.nil_append]
 have e:=eoS j C fuel 0 (uv l.length) qj qc qc
 rw[List.drop_zero]at e
 refine Eq.trans e ?_
 congr 1
 cases l.all nOp with
 |false=>rfl
 |true=>
  by_cases h6:l.length>6
  ·rw[if_pos rfl,if_pos h6,if_neg qd]
  ·rw[if_pos rfl,if_neg h6,if_pos qd]
theorem Mq(l:List M.Op):okB (Ca l):=by unfold Ca;split;(rename_i h;rw[qM,qL,qQ]at h;have J:=Jf (f:=enO) (λo I=>Li (h.1 o I));have U:=Eu (n:=l.length) qc;refine⟨?_,λy C=> ?_⟩;(rw[qE];exact Nat.le_trans (m:=2000) qc qk);·rcases List.mem_append.1 C with C|C;(exact Db _ y C);·refine Jj (λo _ z j=> ?_) y C;unfold enO at j;simp only[qP]at j;rcases j with j|j|j|j|j;(exact Db _ z j);(exact Bt (zT _) z j);(exact Bt (Ts _).2 z j);(exact Bt (TA _).2 z j);·exact Bt (zT _) z j);·exact⟨qe,λ_ h=>absurd h qe⟩
def gS9(b:List Int)(p j:Int):=nRb b (nUv b p).2.1 j
def gK9(b:List Int)(p j C:Int):=nRb b (gS9 b p j).2.1 C
def gR9(b:List Int)(p j C I:Int):=nRb b (gK9 b p j C).2.1 I
def gF9(b:List Int)(p j C I J:Int):=nRb b (gR9 b p j C I).2.1 J
def op9(b:List Int)(p j C I J:Int):Option (M.Op×Int):=if(nUv b p).2.2=true then if(gS9 b p j).2.2=true then if(gK9 b p j C).2.2=true then if(gR9 b p j C I).2.2=true then if(gF9 b p j C I J).2.2=true then some ((⟨(nUv b p).1,cP (gS9 b p j).1,(NX (gK9 b p j C).1).1,(Ng (gR9 b p j C I).1).1,cP (gF9 b p j C I J).1⟩:M.Op),(gF9 b p j C I J).2.1)else none else none else none else none else none
def IS(b:List Int)(I J U c4:Int):Nat->Int->List M.Op->Option (List M.Op)
 |0,_,C=>some C
 |j+1,p,C=>match op9 b p I J U c4 with
  |none=>none
  |some (o,q)=>IS b I J U c4 j q (C++[o])
def TX(b:List Int)(o:Option (List M.Op)):List M.Op×Bool:=match o with
 |none=>(([]:List M.Op),false)
 |some l=>if eqL xG (Ca l) b=true then(l,true)else(([]:List M.Op),false)
def QX(b:List Int)(j C I J:Int):List M.Op×Bool:=if(nUv b 0).2.2=true then if(nUv b 0).1>6 then(([]:List M.Op),false)else TX b (IS b j C I J (nUv b 0).1.toNat (nUv b 0).2.1 [])else(([]:List M.Op),false)
theorem Sx{b:List Int}{p:Int}(j:okB b)(C:b.length<=1048576):inI (nUv b p).2.1:=by
 cases h:(nUv b p).2.2 with
 |false=>rw[To h];exact tD
 |true=>
  obtain⟨a,m,e,I,J,u3,u4,_⟩:=AP j h
  rw[I]
  exact Fq u4 C
theorem IW{b:List Int}{p c:Int}(j:okB b)(C:b.length<=1048576):inI (nRb b p c).2.1:=by
 cases h:(nRb b p c).2.2 with
 |false=>rw[Tz h];exact tD
 |true=>
  obtain⟨s,a,e,I,U,r3,J,_⟩:=Ey j h
  rw[I]
  exact Fq J C
theorem AA{b:List Int}{p c:Int}(j:okB b)(J:b.length<=1048576)(h:(nRb b p c).2.2=true):okB (nRb b p c).1/\(nRb b p c).1.length<=b.length:=by obtain⟨s,a,e,C,U,r3,r4,r5,r6,r7,I⟩:=Ey j h;rw[C];exact⟨I,qh⟩
theorem RB{c n:Int}{t:List Int}(h:M.Key.ok (⟨c,n,cP t⟩:M.Key)):(mkK c n t).1.ok:=by unfold mkK;split;(exact h);·exact⟨tD,tD,sz0⟩
theorem Q0{b:List Int}(C:okB b):(NX b).1.ok:=by
 have z:ON.ok:=⟨tD,tD,sz0⟩
 unfold NX
 split
 ·exact z
 ·rename_i c t
  have J:=C.2 c qe
  have ht:∀x∈t,0<=x/\x<=255:=λx I=>C.2 x (by simp[I])
  have j:t.length<=maxLen:=by have:=C.1;rw[qJ]at this;omega
  split
  ·rename_i h2;exact RB (LQ J qc j)
  ·split
   ·exact z
   ·obtain⟨w,e,hw⟩:=Uw (t:=t.take 6) (λx I=>ht x (List.mem_of_mem_take I)) 0 0 qf
    have h6:0+8*(List.take 6 t).length<=48:=by rw[qU];omega
    have h7:(2:Int)^(0+8*(List.take 6 t).length)<=2^48:=by have:=Nat.pow_le_pow_right (n:=2) qf h6;exact_mod_cast this
    have U:(List.take 6 t).foldl S7 0=(w:Int):=e
    rw[U]
    refine RB (LQ J qc (Nat.le_trans (by rw[qV];omega) j))
theorem Rq{b:List Int}{p I J U c4 q:Int}{o:M.Op}(j:okB b)(C:b.length<=1048576)(h:op9 b p I J U c4=some (o,q)):Ht o/\inI q:=by unfold op9 at h;split at h;(rename_i h1;split at h;(rename_i h2;split at h;(rename_i h3;split at h;(rename_i h4;split at h;(rename_i h5;simp only[qb,qa]at h;obtain⟨a,m,e,u1,u2,u3,_⟩:=AP j h1;have p2:=AA j C h2;have p3:=AA j C h3;have p4:=AA j C h4;have p5:=AA j C h5;rw[<-h.1,<-h.2];refine⟨⟨?_,?_,Q0 p3.1,(Qs p4.1).1,?_⟩,IW j C⟩;(show inI (nUv b p).1;rw[u1];unfold inI;dsimp only;omega);(show(cP _).size<=_;rw[zU];exact p2.1.1);·show(cP _).size<=_;rw[zU];exact p5.1.1);·cases h);·cases h);·cases h);·cases h);·cases h
theorem Jl{b:List Int}{p:Int}(j:okB b)(C:b.length<=1048576)(U:inI p):xD b p=some (match op9 b p 100 100 200 100 with
  |none=>((⟨0,(⟨#[]⟩:ByteArray),(⟨0,0,(⟨#[]⟩:ByteArray)⟩:M.Key),(⟨([]:List M.Field)⟩:M.aC),(⟨#[]⟩:ByteArray)⟩:M.Op),0,false)
  |some (o,q)=>(o,q,true)):=by
 unfold xD op9
 rw[mV j C U,qA,pD j C (Sx j C),qA]
 show(dE b (gS9 b p 100).2.1 100).bind _=_
 rw[pD j C (show inI (gS9 b p 100).2.1 from IW j C),qA]
 show(dE b (gK9 b p 100 100).2.1 200).bind _=_
 rw[pD j C (show inI (gK9 b p 100 100).2.1 from IW j C),qA]
 show(dE b (gR9 b p 100 100 200).2.1 100).bind _=_
 rw[pD j C (show inI (gR9 b p 100 100 200).2.1 from IW j C),qA]
 change (if(!(nUv b p).2.2)=true then _ else if(!(gS9 b p 100).2.2)=true then _ else if(!(gK9 b p 100 100).2.2)=true then _ else if(!(gR9 b p 100 100 200).2.2)=true then _ else if(!(gF9 b p 100 100 200 100).2.2)=true then _ else(toStr (gS9 b p 100).1).bind λaf=>(toStr (gF9 b p 100 100 200 100).1).bind λah=>(pG (gK9 b p 100 100).1).bind λI=>(lR (gR9 b p 100 100 200).1).bind λJ=>some ((⟨(nUv b p).1,cP (gS9 b p 100).1,I.1,J.1,cP (gF9 b p 100 100 200 100).1⟩:M.Op),(gF9 b p 100 100 200 100).2.1,true))=_
 cases h1:(nUv b p).2.2 with
 |false=>rfl
 |true=>
  cases h2:(gS9 b p 100).2.2 with
  |false=>rfl
  |true=>
   cases h3:(gK9 b p 100 100).2.2 with
   |false=>rfl
   |true=>
    cases h4:(gR9 b p 100 100 200).2.2 with
    |false=>rfl
    |true=>
     cases h5:(gF9 b p 100 100 200 100).2.2 with
     |false=>rfl
     |true=>
      have p2:okB (gS9 b p 100).1/\(gS9 b p 100).1.length<=b.length:=AA j C h2
      have p3:okB (gK9 b p 100 100).1/\(gK9 b p 100 100).1.length<=b.length:=AA j C h3
      have p4:okB (gR9 b p 100 100 200).1/\(gR9 b p 100 100 200).1.length<=b.length:=AA j C h4
      have p5:okB (gF9 b p 100 100 200 100).1/\(gF9 b p 100 100 200 100).1.length<=b.length:=AA j C h5
      simp only[qB,qD,if_false,if_true]
      rw[BD p2.1.2,qA,BD p5.1.2,qA,F7 p3.1 qc,qA,Ds p4.1 qc,qA]
end Go.Proofs.YtipmihbgjolaaaaGreat.gen
