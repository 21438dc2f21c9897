/-
  Helper text. No conditions.
-/
import Derived.Test.YtndidbigdalbnaaGreatNotesPd3
set_option linter.all false
namespace Go.Proofs.YtndidbigdalbnaaGreat.gen
open Go Go.Sh
open Go.IntKind (i64 u8)
theorem rdS{b:List Int}(hb:okB b)(J:b.length<=1500000)(a:Nat)(I:(a:Int)<=9223372036854775807):∀(j k n m:Nat),j+k=6->n<2^(7*k)->j<m->eX b a m n k=some (Tl b a j k n)
 |_,_,_,0,_,_,h=>by omega
 |0,k,n,m+1,hk,_,_=>by simp only[eX];rw[jG wV];rfl
 |j+1,k,n,m+1,hk,C,hm=>by
  have h6:k<6:=by omega
  simp only[eX]
  rw[jF wV,jG wb,bO (n:=b.length-k) wg wg]
  by_cases hlt:a+k<b.length
  ·obtain⟨x,ex,U⟩:=aAq hb hlt;rw[jG wV,show(a+k)=((a+k:Nat):Int)from by omega,bO (n:=(a+k:Nat)) wg wg,aK hlt,qA,ex,bM wg,bM wg,jF jo];rw[uvS h6 U C,bO (n:=x) wg wg];unfold Tl;rw[qF hlt,ex];dsimp only;rw[qH];have ih:=rdS hb J a I j (k+1) (n+x%128*2^(7*k)) m wg (ZB C) wg;by_cases h1:x<128;(rw[jF wV,jF h1];by_cases h2:x=0;(rw[jF (by simp[h2])];by_cases h3:0<k;(rw[jF wV,jF (by simp[h2,h3])]);·rw[jG wV];by_cases h4:1000000000000<n+x%128*2^(7*k);(rw[jF wP,jF (by rw[jY,qL];exact .inr h4)]);·rw[jG wP,jG jx]);·rw[jG wV];by_cases h4:1000000000000<n+x%128*2^(7*k);(rw[jF wP,jF (by rw[jY,qL];exact .inr h4)]);·rw[jG wP,jG jx]);·rw[jG wV,jG h1];exact ih
  ·rw[jF wV];unfold Tl;rw[qZ wg]
theorem uJ{b:List Int}{p:Int}(hb:okB b)(j:b.length<=1500000)(C:inI p):gN b p=some (nUv b p):=by
 unfold gN nUv
 by_cases h:p<0
 ·have e:∀m,eX b p (m+1) 0 0=some (0,0,false):=λm=>by
   simp only[eX]
   rw[jF we,jF wM]
  rw[jF h]
  exact e 18446744073709551615
 ·obtain⟨a,rfl⟩:=jV (show 0<=p by omega);exact rdS hb j a C.2 6 0 0 aJ rfl we wG
theorem rdI{b:List Int}(hb:okB b)(J:b.length<=1500000)(a:Nat)(I:a<b.length):∀(j k n m:Nat),j+k=6->n<2^(7*k)->j<m->kW b a m n k=some (Tl b a j k n)
 |_,_,_,0,_,_,h=>by omega
 |0,k,n,m+1,hk,_,_=>by simp only[kW];rw[jG wV];rfl
 |j+1,k,n,m+1,hk,C,hm=>by
  have h6:k<6:=by omega
  simp only[kW]
  rw[jF wV,show(a+k)=((a+k:Nat):Int)from by omega,bO (n:=(a+k:Nat)) wg wg]
  by_cases hlt:a+k<b.length
  ·obtain⟨x,ex,U⟩:=aAq hb hlt;rw[jF wV,aK hlt,qA,ex,bM wg,bM wg,jF jo];rw[uvI h6 U C,bO (n:=x) wg wg];unfold Tl;rw[qF hlt,ex];dsimp only;rw[qH];have ih:=rdI hb J a I j (k+1) (n+x%128*2^(7*k)) m wg (ZB C) wg;by_cases h1:x<128;(rw[jF wV,jF h1];by_cases h3:0<k;(rw[jF wV];by_cases h2:x=0;(rw[jF (by simp[h2]),jF (by simp[h2,h3])]);·rw[jG wV];by_cases h4:1000000000000<n+x%128*2^(7*k);(rw[jF wP,jF (by rw[jY,qL];exact .inr h4)]);·rw[jG wP,jG jx]);·rw[jG wV];by_cases h4:1000000000000<n+x%128*2^(7*k);(rw[jF wP,jF (by rw[jY,qL];exact .inr h4)]);·rw[jG wP,jG jx]);·rw[jG wV,jG h1];exact ih
  ·rw[jG wV];unfold Tl;rw[qZ wg]
theorem tU{b:List Int}{p:Int}(hb:okB b)(j:b.length<=1500000):gO b p=some (nUv b p):=by unfold gO nUv;by_cases h:p<0;(rw[jF h,jF wM]);·rw[jG h,jG wX];obtain⟨a,rfl⟩:=jV (show 0<=p by omega);by_cases h1:a<b.length;(rw[jG wV];exact rdI hb j a h1 6 0 0 aJ rfl we wG);·rw[jF wV];unfold Tl;rw[qZ wg]
theorem Xt(b:List Int)(a:Nat):∀(j k n:Nat),(Tl b a j k n).2.2=false->Tl b a j k n=(0,0,false)
 |0,_,_,_=>rfl
 |j+1,k,n,h=>by
  unfold Tl at h⊢
  cases e:b[a+k]? with
  |none=>rfl
  |some x=>
   rw[e]at h
   dsimp only at h⊢
   split at h
   ·grind
   ·rename_i h1;rw[jG h1];exact Xt b a j (k+1) _ h
theorem aD7{b:List Int}{p:Int}(h:(nUv b p).2.2=false):nUv b p=(0,0,false):=by unfold nUv at h⊢;split;(rfl);·rename_i h1;rw[jG h1]at h;exact Xt b _ 6 0 0 h
theorem drop_cons{b:List Int}{i:Nat}{x:Int}{r:List Int}(h:b.drop i=x::r):b[i]? =some x/\b.drop (i+1)=r:=by constructor;(have:=List.head?_drop (l:=b) (i:=i);rw[h]at this;simpa using this.symm);·rw[<-List.drop_drop,h];rfl
theorem Vo(b:List Int)(a:Nat):∀(j k n m:Nat) (r:List Int),b.drop (a+k)=uv m++r->(uv m).length<=j->n+m*2^(7*k)<=1000000000000->(k=0\/0<m)->Tl b a j k n=(((n+m*2^(7*k):Nat):Int),((a+k+(uv m).length:Nat):Int),true)
 |0,k,n,m,r,_,h,_,_=>by have:=HA m;omega
 |j+1,k,n,m,r,C,I,J,hk=>by
  unfold Tl
  by_cases h:m<128
  ·rw[DN h]at C⊢;rw[(drop_cons C).1];dsimp only;rw[qH,jF h,Nat.mod_eq_of_lt h,jG jx];rfl
  ·rw[KC h]at C I⊢
   rw[jQ]at C
   obtain⟨h1,h2⟩:=drop_cons C
   rw[h1]
   dsimp only
   rw[qH,jG wg,show(m%128+128)%128=m%128 from by omega]
   have e:2^(7*(k+1))=128*2^(7*k):=by rw[show 7*(k+1)=7+7*k from by omega,Nat.pow_add]
   have e2:n+m%128*2^(7*k)+m/128*2^(7*(k+1))=n+m*2^(7*k):=by rw[e,<-Nat.mul_assoc,jA,<-Nat.add_mul];congr 2;omega
   rw[qJ]at I⊢
   have U:=Vo b a j (k+1) (n+m%128*2^(7*k)) (m/128) r h2 wg (by rw[e2];exact J) (.inr wg)
   rw[U,e2]
   congr 2
   omega
theorem Ue{b:List Int}{a m:Nat}{r:List Int}(h:b.drop a=uv m++r)(j:m<=1000000000000):nUv b a=((m:Int),((a+(uv m).length:Nat):Int),true):=by unfold nUv;rw[jG wg,qH,Vo b a 6 0 0 m r h (FV j) (by simpa using j) (.inl rfl)];simp
theorem Vu{b:List Int}(hb:okB b)(a:Nat):∀(j k n:Nat) (v q:Int),Tl b a j k n=(v,q,true)->∃m e:Nat,v=((n+m*2^(7*k):Nat))/\q=e/\n+m*2^(7*k)<=1000000000000/\e<=b.length/\a+k+(uv m).length=e/\b.drop (a+k)=uv m++b.drop e/\(k=0\/0<m)
 |0,_,_,_,_,h=>by cases h
 |j+1,k,n,v,q,h=>by
  unfold Tl at h
  by_cases hlt:a+k<b.length
  ·obtain⟨x,ex,hx⟩:=aAq hb hlt
   have C:b.drop (a+k)=(x:Int)::b.drop (a+k+1):=by rw[qX hlt,ex]
   rw[qF hlt,ex]at h
   dsimp only at h
   rw[qH]at h
   by_cases h1:x<128
   ·rw[jF h1,Nat.mod_eq_of_lt h1]at h;split at h;(cases h);·rename_i h2;rw[jY,qM,qL,qL,qL]at h2;simp only[qb]at h;refine⟨x,a+k+1,h.1.symm,h.2.1.symm,wg,wg,by rw[DN h1];rfl,by rw[DN h1];exact C,wg⟩
   ·rw[jG h1]at h
    obtain⟨m,e,e1,e2,e3,e4,e5,e6,e7⟩:=Vu hb a j (k+1) _ v q h
    have U:0<m:=by omega
    have J:2^(7*(k+1))=128*2^(7*k):=by rw[show 7*(k+1)=7+7*k from by omega,Nat.pow_add]
    have e8:n+x%128*2^(7*k)+m*2^(7*(k+1))=n+(m*128+x%128)*2^(7*k):=by rw[J,<-Nat.mul_assoc,jA,<-Nat.add_mul,Nat.add_comm (x%128)]
    have I:uv (m*128+x%128)=(x:Int)::uv m:=by rw[KC wg,show(m*128+x%128)/128=m from by omega,show(m*128+x%128)%128+128=x from by omega]
    rw[e8]at e1 e3
    refine⟨m*128+x%128,e,e1,e2,e3,e4,by rw[I,qJ];omega,by rw[I,C,jQ];exact congrArg _ e6,.inr wg⟩
  ·rw[qZ wg]at h;cases h
theorem Re{b:List Int}{p v q:Int}(hb:okB b)(h:nUv b p=(v,q,true)):∃a m e:Nat,p=a/\v=m/\q=e/\m<=1000000000000/\e<=b.length/\a+(uv m).length=e/\b.drop a=uv m++b.drop e:=by unfold nUv at h;split at h;(cases h);·obtain⟨m,e,e1,e2,e3,e4,e5,e6,_⟩:=Vu hb p.toNat 6 0 0 v q h;grind
def nRb(b:List Int)(p c:Int):List Int×Int×Bool:=if(nUv b p).2.2=true then if(nUv b p).1>c then([],0,false)else if(nUv b p).1>b.length-(nUv b p).2.1 then([],0,false)else((b.drop (nUv b p).2.1.toNat).take (nUv b p).1.toNat,(nUv b p).2.1+(nUv b p).1,true)else([],0,false)
theorem aAv{b:List Int}(h:okB b)(i j:Nat):okB ((b.drop i).take j):=⟨qh (by rw[qV,qW];omega) h.1,λx C=>h.2 x (qv (qk C))⟩
theorem yP{b:List Int}{p c:Int}(hb:okB b)(C:b.length<=1500000)(I:inI p):eS b p c=some (nRb b p c):=by
 unfold eS nRb
 rw[uJ hb C I,qA]
 cases h:(nUv b p).2.2 with
 |false=>rfl
 |true=>
  obtain⟨a,m,e,e1,e2,e3,e4,e5,e6,e7⟩:=Re hb (show nUv b p=((nUv b p).1,(nUv b p).2.1,true)from by rw[<-h])
  rw[e2,e3]
  simp only[qB,qD,jH,jI]
  by_cases h1:m>c
  ·rw[jF (by simpa using h1),jF h1]
  ·rw[jG wX,jG h1,bO (n:=b.length-e) wg wg]
   by_cases h2:m>b.length-(e:Int)
   ·rw[jF (by simpa using h2),jF h2]
   ·rw[jG (by simpa using h2),jG h2,bO (n:=e+m) wg wg]
    have J:∀(α:Type) (xs:List α),xs.length=b.length->SY xs e (e+m)=some ((xs.take (e+(m:Int)).toNat).drop (e:Int).toNat):=λα xs U=>by unfold SY;rw[jF ⟨wg,wg,wg⟩]
    have j:List.drop (e:Int).toNat (b.take (e+(m:Int)).toNat)=List.take m (b.drop e):=by rw[qH,show(e+(m:Int)).toNat=e+m from by omega,List.drop_take];congr 1;omega
    rw[J _ b rfl,qA,j,qH,qH]
    have hk:(List.take m (b.drop e)).length<=1500000:=by rw[qV,qW];omega
    rw[Ip wg wg,qA]
theorem zK{b:List Int}{p c:Int}(hb:okB b)(C:b.length<=1500000):eQ b p c=some (nRb b p c):=by
 unfold eQ nRb
 rw[tU hb C,qA]
 cases h:(nUv b p).2.2 with
 |false=>rfl
 |true=>
  obtain⟨a,m,e,e1,e2,e3,e4,e5,e6,e7⟩:=Re hb (show nUv b p=((nUv b p).1,(nUv b p).2.1,true)from by rw[<-h])
  rw[e2,e3]
  simp only[qB,qD,jH,jI]
  by_cases h1:m>c
  ·rw[jF (by simpa using h1),jF h1]
  ·rw[jG wX,jG h1,bO (n:=b.length-e) wg wg]
   by_cases h2:m>b.length-(e:Int)
   ·rw[jF (by simpa using h2),jF h2]
   ·rw[jG (by simpa using h2),jG h2,bO (n:=e+m) wg wg]
    have I:∀(α:Type) (xs:List α),xs.length=b.length->SY xs e (e+m)=some ((xs.take (e+(m:Int)).toNat).drop (e:Int).toNat):=λα xs J=>by unfold SY;rw[jF ⟨wg,wg,wg⟩]
    have j:List.drop (e:Int).toNat (b.take (e+(m:Int)).toNat)=List.take m (b.drop e):=by rw[qH,show(e+(m:Int)).toNat=e+m from by omega,List.drop_take];congr 1;omega
    rw[I _ b rfl,qA,j,qH,qH]
    have hk:(List.take m (b.drop e)).length<=1500000:=by rw[qV,qW];omega
    unfold eA
    rw[Ip wg wg,qA,qA]
theorem aEH{b:List Int}{p c:Int}(h:(nRb b p c).2.2=false):nRb b p c=([],0,false):=by unfold nRb at h⊢;grind
theorem Yt{b s:List Int}{p c q:Int}(hb:okB b)(h:nRb b p c=(s,q,true)):∃a e:Nat,p=a/\q=e/\s.length<=c/\e<=b.length/\s.length<=1000000000000/\a+(uv s.length).length+s.length=e/\b.drop a=uv s.length++(s++b.drop e)/\okB s:=by
 unfold nRb at h
 split at h
 ·rename_i C
  obtain⟨a,m,e,e1,e2,e3,e4,e5,e6,e7⟩:=Re hb (show nUv b p=((nUv b p).1,(nUv b p).2.1,true)from by rw[<-C])
  rw[e2,e3]at h
  split at h
  ·cases h
  ·split at h
   ·cases h
   ·simp only[qb,qH]at h
    have j:s.length=m:=by rw[<-h.1,qV,qW];omega
    refine⟨a,e+m,e1,wg,wg,wg,wg,by rw[j];omega,?_,by rw[<-h.1];exact aAv hb _ _⟩
    rw[j,e7,<-h.1,<-List.drop_drop,qo]
 ·cases h
theorem Yg{b s r:List Int}{a:Nat}{c:Int}(h:b.drop a=uv s.length++(s++r))(hc:s.length<=c)(j:s.length<=1000000000000):nRb b a c=(s,((a+(uv s.length).length+s.length:Nat):Int),true):=by
 have hlen:b.length-a=(uv s.length).length+(s.length+r.length):=by have:=congrArg List.length h;simpa using this
 have:=HA s.length
 unfold nRb
 rw[Ue h j]
 simp only[jI]
 rw[jG wg,jG wg,qH,qH,<-List.drop_drop,h,List.drop_left,List.take_left]
 rfl
theorem aAW{b s:List Int}{p c d q:Int}(hb:okB b)(h:nRb b p c=(s,q,true))(j:s.length<=d):nRb b p d=(s,q,true):=by obtain⟨a,e,rfl,rfl,h1,h2,h3,h4,h5,_⟩:=Yt hb h;rw[Yg h5 j h3,h4]
theorem FC(s:ByteArray):∀x∈bF s,0<=x/\x<=255:=by intro x j;obtain⟨b,_,rfl⟩:=qx.1 j;have:=b.toNat_lt;omega
theorem Ey{l:List Int}(h:∀x∈l,0<=x/\x<=255):bF (bL l)=l:=by unfold bF bL;simp only[List.map_map];refine(List.map_congr_left λx j=> ?_).trans (List.map_id l);have:=h x j;simp only[Function.comp_apply,UInt8.toNat_ofNat',id_eq];omega
theorem Ev(s:ByteArray):bL (bF s)=s:=by obtain⟨⟨l⟩⟩:=s;unfold bF bL;simp only[List.map_map];congr 2;refine(List.map_congr_left λx j=> ?_).trans (List.map_id l);have:=x.toNat_lt;simp only[Function.comp_apply,id_eq,qH,UInt8.ofNat_toNat]
theorem FD(l:List Int):(bL l).size=l.length:=by show(l.map _).toArray.size=_;simp
theorem UE{L:Nat->Int->List Int->Option (List Int)}{b c:Int->Int}
  (h1:∀m (n:Nat) r,¬n<128->n<2^63->L (m+1) n r=(app 1 r [b n]).bind λ_=>L m ((n/128:Nat)) (r++[b n]))
  (h2:∀m (n:Nat) r,n<128->L (m+1) n r=(app 1 r [c n]).bind λ_=>some (r++[c n]))
  (hb:∀n:Nat,n<2^63->b n=((n%128+128:Nat)))(hc:∀n:Nat,n<128->c n=n):
  ∀(j m n:Nat) (r:List Int),n<2^(7*(j+1))->n<2^63->j<m->r.length+(j+1)<=140737488355328->L m n r=some (r++uv n)
 |j,0,n,r,_,_,I,_=>by omega
 |0,m+1,n,r,J,C,I,hr=>by
  have h:n<128:=by simpa using J
  rw[h2 m n r h,dK wV,qA,hc n h,DN h]
 |j+1,m+1,n,r,J,C,I,hr=>by
  by_cases h:n<128
  ·rw[h2 m n r h,dK wV,qA,hc n h,DN h]
  ·have U:n/128<2^(7*(j+1)):=by
    have e:2^(7*(j+1+1))=2^(7*(j+1))*128:=by rw[show 7*(j+1+1)=7*(j+1)+7 by omega,Nat.pow_add]
    omega
   rw[h1 m n r h C,dK wV,qA,UE h1 h2 hb hc j m (n/128) (r++[b n]) U wg wg wV,hb n C,KC h,qT]
   rfl
theorem u8n{n:Nat}(h:n<128):u8.wrap n=n:=by rw[wrap_u8];omega
theorem u8S{n:Nat}(h:n<2^63):u8.wrap (i64.wrap (BitVec.ofInt i64.bits (i64.wrap (BitVec.ofInt i64.bits n&&&BitVec.ofInt i64.bits 127).toNat)|||BitVec.ofInt i64.bits 128).toNat)=((n%128+128:Nat)):=by have e:=NZ (n:=n) (m:=127) wg wg;rw[aBm]at e;have e2:=T6 (n:=n%128) (m:=128) wg wg;rw[aF0 wg]at e2;rw[show(127)=((127:Nat):Int)from rfl,e,show(128)=((128:Nat):Int)from rfl,e2,wrap_u8];omega
theorem u8I{n:Nat}(h:n<2^63):u8.wrap (i64.wrap ((Int.tmod (n:Int) 128)+128))=((n%128+128:Nat)):=by
 have e:Int.tmod n 128=((n%128:Nat)):=by rw[Int.tmod_eq_emod_of_nonneg wg];omega
 rw[e,bO wg wg,wrap_u8]
 omega
theorem pS{r:List Int}{n:Nat}(I:r.length<=16777216)(C:n<=1000000000000):cK r n=some (r++uv n):=by
 have j:inR n 0 1000000000000=true:=by unfold inR;simp;omega
 unfold cK
 rw[dK wV,qA,cO,qA,j,jG wb]
 refine UE (L:=dI) (b:=λv=>u8.wrap (i64.wrap (BitVec.ofInt i64.bits (i64.wrap (BitVec.ofInt i64.bits v&&&BitVec.ofInt i64.bits 127).toNat)|||BitVec.ofInt i64.bits 128).toNat)) (c:=λv=>u8.wrap v) (λm n r h1 h2=> ?_) (λm n r h1=> ?_) (λn h=>u8S h) (λn h=>u8n h) 8 aJ n r wg wg wG wg
 ·simp only[dI];rw[jF wV,uvf]
 ·simp only[dI];rw[jG wV]
theorem pT{r:List Int}{n:Nat}(I:r.length<=16777216)(C:n<=1000000000000):cW r n=some (r++uv n):=by
 have j:inR n 0 1000000000000=true:=by unfold inR;simp;omega
 unfold cW eA
 rw[dK wV,qA,qA,bX,qA,j,jG wb]
 refine UE (L:=dH) (b:=λv=>u8.wrap (i64.wrap ((Int.tmod v 128)+128))) (c:=λv=>u8.wrap v) (λm n r h1 h2=> ?_) (λm n r h1=> ?_) (λn h=>u8I h) (λn h=>u8n h) 8 aJ n r wg wg wG wg
 ·simp only[dH];rw[jF wV,uvt h2]
 ·simp only[dH];rw[jG wV]
def CJ(b:List Int):List Int:=uv b.length++b
theorem uH{r b:List Int}(j:r.length<=8388608)(hb:b.length<=1000000):cJ r b=some (r++CJ b):=by have h9:=FV (n:=b.length) wg;unfold cJ CJ;rw[pS wg wg,qA,dK wS,qA,qT]
theorem DP{r b:List Int}(j:r.length<=8388608)(hb:b.length<=1000000):kA r b=some (r++CJ b):=by have h9:=FV (n:=b.length) wg;unfold kA CJ;rw[pT wg wg,qA,dK wS,qA,qT]
def Gr{α:Type}(f:α->List Int):List α->List Int
 |[]=>[]
 |x::l=>f x++Gr f l
theorem RM{α:Type}{f:α->List Int}{c:Nat}:∀{l:List α},(∀x∈l,(f x).length<=c)->(Gr f l).length<=l.length*c
 |[],_=>by simp[Gr]
 |x::l,h=>by have h1:=h x wb;have h2:=RM (l:=l) (λy j=>h y (by simp[j]));simp only[Gr,qE,qJ,Nat.succ_mul];omega
theorem Pq{α:Type}{R:Type}{xs:List α}{f:α->List Int}{c B:Nat}{L:Nat->Int->List Int->Option R}{E:List Int->Option R}(hc:∀x∈xs,(f x).length<=c)
  (h1:∀n (k:Nat) (hk:k<xs.length) q,q.length<=B->L (n+1) k q=L n ((k+1:Nat)) (q++f xs[k]))
  (h2:∀n q,q.length<=B->L (n+1) xs.length q=E q):
  ∀(n k:Nat) (q:List Int),xs.length-k<n->k<=xs.length->q.length+(xs.length-k)*c<=B->L n k q=E (q++Gr f (xs.drop k))
 |0,_,_,h,_,_=>by omega
 |n+1,k,q,h,hk,j=>by
  rcases jS k xs.length with hlt|hge
  ·have C:=hc _ (qG hlt)
   have e:(xs.length-k)*c=(xs.length-(k+1))*c+c:=by rw[<-Nat.succ_mul];congr 1;omega
   rw[h1 n k hlt q wg,Pq hc h1 h2 n (k+1) (q++f xs[k]) wg wg wS,qX hlt,Gr,qT]
  ·have e:k=xs.length:=by omega
   subst e
   rw[h2 n q wg,qa,Gr,qY]
def enF(x:M.aR):List Int:=CJ (bF x.Name)++uv x.N.toNat
def enR(r:M.aF):List Int:=if cV r=true then uv r.aKj.length++Gr enF r.aKj else[]
theorem Uc{x:M.aR}(h:x.Name.size<=8/\0<=x.N/\x.N<=1000000000):(enF x).length<=14:=by have h1:=E5 0 x.Name.size wg;have h2:=E5 4 x.N.toNat wg;have h3:=aP x.Name;unfold enF CJ;grind
theorem I0(r:M.aF):(enR r).length<=85:=by unfold enR;split;(rename_i h;obtain⟨h6,j⟩:=vT h;have h1:=E5 0 r.aKj.length wg;have h2:=RM (f:=enF) (λx C=>Uc (j x C));rw[qE];omega);·simp
theorem Kw{r:M.aF}(I:r.ok):hJ r=some (enR r):=by
 unfold hJ enR
 rw[tP I,qA]
 by_cases h:cV r=true
 ·obtain⟨h6,C⟩:=vT h
  have h1:=E5 0 r.aKj.length wg
  rw[jG wY,jF h,pS wb wg,qA,jP]
  have:=Pq (xs:=r.aKj) (f:=enF) (c:=14) (B:=1000) (L:=dL r) (E:=some) (λx j=>Uc (C x j)) (λn k hk q U=> ?_) (λn q _=> ?_) aJ 0 (uv r.aKj.length) wG wg wg
  ·exact this
  ·have j:=C _ (qG hk)
   simp only[dL]
   have h9:=FV (n:=r.aKj[k].Name.size) wg
   have J:=aP r.aKj[k].Name
   have hb:(CJ (bF r.aKj[k].Name)).length<=14:=by unfold CJ;rw[qE,J];omega
   have e:=pS (r:=q++CJ (bF r.aKj[k].Name)) (n:=r.aKj[k].N.toNat) wS wg
   rw[jT j.2.1]at e
   rw[jF (bE hk),aK hk,qA,uH wg wg,qA,e,qA,bM wg,qT]
   rfl
  ·simp only[dL];rw[jG wb]
 simp_all
theorem F7{r:M.aF}(I:r.ok):gY r=some (enR r):=by
 unfold gY enR
 rw[AJ I,qA]
 by_cases h:cV r=true
 ·obtain⟨h6,C⟩:=vT h
  have h1:=E5 0 r.aKj.length wg
  rw[jG wY,jF h,pT wb wg,qA,jP]
  have:=Pq (xs:=r.aKj) (f:=enF) (c:=14) (B:=1000) (L:=dN r) (E:=some) (λx j=>Uc (C x j)) (λn k hk q U=> ?_) (λn q _=> ?_) aJ 0 (uv r.aKj.length) wG wg wg
  ·exact this
  ·have j:=C _ (qG hk)
   simp only[dN]
   have h9:=FV (n:=r.aKj[k].Name.size) wg
   have J:=aP r.aKj[k].Name
   have hb:(CJ (bF r.aKj[k].Name)).length<=14:=by unfold CJ;rw[qE,J];omega
   have e:=pT (r:=q++CJ (bF r.aKj[k].Name)) (n:=r.aKj[k].N.toNat) wS wg
   rw[jT j.2.1]at e
   rw[jF (bE hk),aK hk,qA,DP wg wg,qA,e,qA,bM wg,qT]
   rfl
  ·simp only[dN];rw[jG wb]
 simp_all
def be6(v:Nat):List Int:=[(v/2^40%256:Nat),(v/2^32%256:Nat),(v/2^24%256:Nat),(v/2^16%256:Nat),(v/2^8%256:Nat),(v%256:Nat)]
def enK(k:M.bD):List Int:=if Ec k=true then k.aKx::((if k.aKx==2 then[]else be6 (k.N+1000000000000).toNat)++bF k.aK5)else[]
theorem LY{k:M.bD}(h:Ec k=true):1<=k.aKx/\k.aKx<=3/\ -1000000000000<=k.N/\k.N<=1000000000000:=by unfold Ec inR at h;simp_all
theorem I8(k:M.bD):(enK k).length<=19:=by unfold enK;split;(rename_i h;have:=Hj h;have:=aP k.aK5;split<;>simp[be6]<;>omega);·simp
theorem aHi{k:M.bD}(v:Nat)(C:v<=5)(h: -1000000000000<=k.N/\k.N<=1000000000000):Int.fdiv (i64.wrap (k.N+1000000000000)) (2^(min (i64.wrap (8*v)).toNat i64.bits))=(((k.N+1000000000000).toNat/2^(8*v):Nat)):=by
 have e:min (i64.wrap (8*v)).toNat i64.bits=8*v:=by rw[bO wg wg,show i64.bits=64 from rfl];omega
 rw[e,bO wg wg]
 obtain⟨n,j⟩:=jV (show 0<=k.N+1000000000000 by omega)
 rw[j,qH,Int.fdiv_eq_ediv_of_nonneg _ jq,Int.natCast_ediv,Int.natCast_pow]
 rfl
theorem byS{k:M.bD}(v:Nat)(j:v<=5)(h: -1000000000000<=k.N/\k.N<=1000000000000):(u8.wrap (i64.wrap (BitVec.ofInt i64.bits (Int.fdiv (i64.wrap (k.N+1000000000000)) (2^(min (i64.wrap (8*v)).toNat i64.bits)))&&&BitVec.ofInt i64.bits 255).toNat))=(((k.N+1000000000000).toNat/2^(8*v)%256:Nat)):=by have h1:(k.N+1000000000000).toNat/2^(8*v)<=(k.N+1000000000000).toNat:=Nat.div_le_self _ _;have e:=NZ (n:=(k.N+1000000000000).toNat/2^(8*v)) (m:=255) wg wg;rw[aBb]at e;rw[aHi v j h,show(255)=((255:Nat):Int)from rfl,e,wrap_u8];omega
theorem byI{k:M.bD}(v:Nat)(j:v<=5)(h: -1000000000000<=k.N/\k.N<=1000000000000):(u8.wrap (Int.fdiv (i64.wrap (k.N+1000000000000)) (2^(min (i64.wrap (8*v)).toNat i64.bits))))=(((k.N+1000000000000).toNat/2^(8*v)%256:Nat)):=by rw[aHi v j h,wrap_u8];omega
theorem NO{k:M.bD}(hk:k.ok):mT k=some (enK k):=by
 unfold mT enK
 rw[oM hk,qA]
 by_cases h:Ec k=true
 ·have ht:=Hj h
  have hb:=LY h
  have U:=aP k.aK5
  have J:u8.wrap k.aKx=k.aKx:=by rw[wrap_u8];omega
  rw[jG wY,jF h,YC,J]
  by_cases h2:(k.aKx==2)=true
  ·have h3:¬(k.aKx !=2)=true:=by simp[bne,h2]
   rw[jF h2]
   have C:∀n r,r.length<=7->bT k (n+1) 5 r=some (r++bF k.aK5):=by intro n r j;simp only[bT];rw[jF we,jG h3,dK wg,qA]
   exact C (18446744073709551609+6) _ wb
  ·have h3:(k.aKx !=2)=true:=by simp[bne,h2]
   rw[jG h2]
   have st:∀n (v:Nat) r,r.length<=7->v<=5->bT k (n+1) v r=bT k n (v-1) (r++[(((k.N+1000000000000).toNat/2^(8*v)%256:Nat):Int)]):=by intro n v r j I;simp only[bT];rw[jF wb,jF h3,jF jo,dK wV,qA,bO (n:=v-1) wg wg,byS v I hb.2.2]
   have e7:∀n r,r.length<=7->bT k (n+1) (-1) r=some (r++bF k.aK5):=by intro n r j;simp only[bT];rw[jG we,dK wg,qA]
   refine(st (18446744073709551609+6) 5 _ wb wb).trans ((st (18446744073709551609+5) 4 _ wb wb).trans ((st (18446744073709551609+4) 3 _ wb wb).trans ((st (18446744073709551609+3) 2 _ wb wb).trans ((st (18446744073709551609+2) 1 _ wb wb).trans ((st (18446744073709551609+1) 0 _ wb wb).trans ((e7 _ _ wb).trans ?_))))))
   simp[be6]
 simp_all
theorem E8{k:M.bD}(hk:k.ok):lB k=some (enK k):=by
 unfold lB enK
 rw[sZ hk,qA]
 by_cases h:Ec k=true
 ·have U:=Hj h
  have hb:=LY h
  have J:=aP k.aK5
  have I:u8.wrap k.aKx=k.aKx:=by rw[wrap_u8];omega
  rw[jG wY,jF h,I]
  by_cases h2:(k.aKx==2)=true
  ·have h3:¬(k.aKx !=2)=true:=by simp[bne,h2]
   rw[jF h2,jG h3,dK wV,qA]
   rfl
  ·have h3:(k.aKx !=2)=true:=by simp[bne,h2]
   rw[jG h2,jF h3,YC]
   have st:∀n (v:Nat) r,r.length<=7->v<=5->cQ k (n+1) v r=cQ k n (v-1) (r++[(((k.N+1000000000000).toNat/2^(8*v)%256:Nat):Int)]):=by intro n v r j C;simp only[cQ];rw[jF wb,jF jo,dK wV,qA,bO (n:=v-1) wg wg,byI v C hb.2.2]
   have e7:∀n r,r.length<=7->cQ k (n+1) (-1) r=some (r++bF k.aK5):=by intro n r j;simp only[cQ];rw[jG we,dK wg,qA]
   refine(st (18446744073709551609+6) 5 _ wb wb).trans ((st (18446744073709551609+5) 4 _ wb wb).trans ((st (18446744073709551609+4) 3 _ wb wb).trans ((st (18446744073709551609+3) 2 _ wb wb).trans ((st (18446744073709551609+2) 1 _ wb wb).trans ((st (18446744073709551609+1) 0 _ wb wb).trans ((e7 _ _ wb).trans ?_))))))
   simp[be6]
 simp_all
theorem Ge:∀{a b:List Int},eqL yK a b=true↔a=b
 |[],[]=>by simp[eqL]
 |[],_::_=>by simp[eqL]
 |_::_,[]=>by simp[eqL]
 |x::j,y::C=>by have:=Ge (a:=j) (b:=C);simp only[eqL,qM,this,List.cons.injEq,yK,beq_iff_eq]
theorem HK{b:List Int}(h:∀x∈b,0<=x/\x<=255):∀x∈CJ b,0<=x/\x<=255:=λx j=>by rcases qP.1 j with j|j;(exact Kk _ x j);simp_all
theorem RU{α:Type}{f:α->List Int}:∀{l:List α},(∀x∈l,∀y∈f x,0<=y/\y<=255)->∀y∈Gr f l,0<=y/\y<=255
 |[],_,_,j=>by simp[Gr]at j
 |x::l,h,y,j=>by rcases qP.1 (show y∈f x++Gr f l from j)with j|j;(simp_all);·exact RU (l:=l) (λz C=>h z (by simp[C])) y j
theorem aAN(x:M.aR):∀y∈enF x,0<=y/\y<=255:=λy j=>by rcases qP.1 j with j|j;(exact HK (FC _) y j);·exact Kk _ y j
theorem aBs(r:M.aF):okB (enR r):=⟨qh (I0 r) wD,λy j=>by unfold enR at j;split at j;(rcases qP.1 j with j|j;(exact Kk _ y j);·exact RU (λx _=>aAN x) y j);simp_all⟩
theorem YX(k:M.bD):okB (enK k):=⟨qh (I8 k) wD,λy j=>by unfold enK at j;split at j;(rename_i h;have hk:=LY h;rcases qq.1 j with rfl|j;(omega);·rcases qP.1 j with j|j;(split at j;(simp at j);·simp only[be6,qq,qO,or_false]at j;omega);·exact FC _ y j);simp_all⟩
def Ut:M.bD:=(⟨0,0,(⟨#[]⟩:ByteArray)⟩:M.bD)
def mkK(c n:Int)(t:List Int):M.bD×Bool:=if Ec ⟨c,n,bL t⟩=true then(⟨c,n,bL t⟩,true)else(Ut,false)
def chK(k:M.bD)(b:List Int):M.bD×Bool:=if eqL yK (enK k) b=true then(k,true)else(Ut,false)
def TV(v x:Int):Int:=v*256+x
def PH:List Int->M.bD×Bool
 |[]=>(Ut,false)
 |c::t=>if c=2 then mkK c 0 t else if t.length<6 then(Ut,false)else mkK c ((t.take 6).foldl TV 0-1000000000000) (t.drop 6)
theorem aFP{t:List Int}(j:∀x∈t,0<=x/\x<=255):∀(v:Nat) (n:Nat),(v:Int)<2^n->∃w:Nat,t.foldl TV v=w/\(w:Int)<2^(n+8*t.length):=by
 induction t with
 |nil=>grind
 |cons x t J=>
  intro v n h
  have U:=j x wb
  obtain⟨w,e,C⟩:=J (λy I=>j y (by simp[I])) (v*256+x.toNat) (n+8) (by rw[Int.pow_add];omega)
  refine⟨w,?_,by rw[qJ,show n+8*(t.length+1)=n+8+8*t.length from by omega];exact C⟩
  rw[List.foldl_cons,<-e]
  congr 1
  unfold TV
  omega
theorem six{t:List Int}(h:6<=t.length):∃x1 x2 x3 x4 x5 x6 r,t=x1::x2::x3::x4::x5::x6::r:=by
 match t,h with
 |x1::x2::x3::x4::x5::x6::r,_=>exact⟨x1,x2,x3,x4,x5,x6,r,rfl⟩
theorem aCC{x1 x2 x3 x4 x5 x6:Int}(h1:0<=x1/\x1<=255)(h2:0<=x2/\x2<=255)(h3:0<=x3/\x3<=255)(h4:0<=x4/\x4<=255)(h5:0<=x5/\x5<=255)(h6:0<=x6/\x6<=255):be6 ([x1,x2,x3,x4,x5,x6].foldl TV 0).toNat=[x1,x2,x3,x4,x5,x6]:=by simp only[List.foldl_cons,TV,be6];grind
theorem aFY{t:List Int}(j:∀x∈t,0<=x/\x<=255):chK ⟨2,0,bL t⟩ (2::t)=mkK 2 0 t:=by unfold chK mkK enK;by_cases h:Ec ⟨2,0,bL t⟩=true;(rw[jF h,jF h,jF];rw[Ge];rw[Ey j];rfl);·rw[jG h,jG h,jG];rw[Ge];simp
theorem aFH{c:Int}{t:List Int}(hc:c≠2)(h6:6<=t.length)(j:∀x∈t,0<=x/\x<=255):chK ⟨c,(t.take 6).foldl TV 0-1000000000000,bL (t.drop 6)⟩ (c::t)=mkK c ((t.take 6).foldl TV 0-1000000000000) (t.drop 6):=by
 unfold chK mkK enK
 by_cases h:Ec ⟨c,(t.take 6).foldl TV 0-1000000000000,bL (t.drop 6)⟩=true
 ·rw[jF h,jF h,jF]
  rw[Ge]
  obtain⟨x1,x2,x3,x4,x5,x6,r,rfl⟩:=six h6
  have C:∀x∈r,0<=x/\x<=255:=λx I=>j x (by simp[I])
  show c::((if(c==2)=true then[]else be6 (([x1,x2,x3,x4,x5,x6].foldl TV 0)-1000000000000+1000000000000).toNat)++bF (bL r))=_
  rw[jG (by simpa using hc),Int.sub_add_cancel,aCC (j x1 wb) (j x2 wb) (j x3 wb) (j x4 wb) (j x5 wb) (j x6 wb),Ey C]
  rfl
 ·rw[jG h,jG h,jG];rw[Ge];simp
theorem Qb{c n:Int}{t:List Int}(hc:0<=c/\c<=255)(C: -1000000000000<=n/\n<=1000000000000000)(j:t.length<=maxLen):M.bD.ok ⟨c,n,bL t⟩:=⟨by show inI c;unfold inI;omega,by show inI n;unfold inI;omega,by rw[FD];exact j⟩
theorem aGV{v:Nat}(h:v<2^48):i64.wrap (v*2^(min (8:Int).toNat i64.bits))=((v*256:Nat)):=by rw[show min (8:Int).toNat i64.bits=8 from rfl,show(v*2^8)=(v*256)from by omega];exact bO wg wg
theorem stS{v x:Nat}(h:v<2^48)(j:x<=255):(i64.wrap (BitVec.ofInt i64.bits (i64.wrap (v*2^(min (8:Int).toNat i64.bits)))|||BitVec.ofInt i64.bits (i64.wrap x)).toNat)=((v*256+x:Nat)):=by have e:=aBp (n:=x) (x:=v) (k:=8) wg;rw[aGV h,bO (n:=x) wg wg,T6 wg wg,Nat.or_comm,show 256=2^8 from rfl,e];omega
theorem stI{v x:Nat}(h:v<2^48)(j:x<=255):(i64.wrap ((i64.wrap (v*2^(min (8:Int).toNat i64.bits)))+(i64.wrap x)))=((v*256+x:Nat)):=by rw[aGV h,bO (n:=x) wg wg,bO wg wg];omega
theorem dkS{b:List Int}{c:Int}(hb:okB b)(hl:b.length<=1500000)(hc:0<=c/\c<=255)(h7:7<=b.length):∀(j k v m:Nat),k+j=7->v<2^(8*(k-1))->1<=k->j<m->nD b c m v k=some (mkK c (((b.drop k).take j).foldl TV v-1000000000000) (b.drop 7))
 |_,_,_,0,_,_,_,h=>by omega
 |0,k,v,m+1,hk,hv,h1,_=>by
  obtain rfl:k=7:=by omega
  simp only[nD]
  have U:okB (b.drop 7):=⟨qh wQ hb.1,λx J=>hb.2 x (qv J)⟩
  have I:v<281474976710656:=by omega
  have ok:=Qb (n:=v-1000000000000) hc wg U.1
  rw[jG we,show BM b 7=some (b.drop (7:Int).toNat)from by unfold BM;rw[jF ⟨we,by simpa using h7⟩],qA,show(7:Int).toNat=7 from rfl,Dk U.2,qA,bO (n:=c) wg wg,bO (n:=v-1000000000000) wg wg,oM ok,qA,List.take_zero,List.foldl_nil]
  unfold mkK
  cases Ec ⟨c,v-1000000000000,bL (b.drop 7)⟩<;>rfl
 |j+1,k,v,m+1,hk,hv,h1,hm=>by
  have C:k<b.length:=by omega
  obtain⟨x,ex,J⟩:=aAq hb C
  have I:v<2^40:=qw hv (Nat.pow_le_pow_right we wg)
  have e8:2^(8*(k+1-1))=2^(8*(k-1))*256:=by rw[show 8*(k+1-1)=8*(k-1)+8 from by omega,Nat.pow_add]
  simp only[nD]
  rw[jF wV,aK C,qA,ex,stS wg J,bM wg,dkS hb hl hc h7 j (k+1) (v*256+x) m wg wg wg wg,qX C,ex,List.take_succ_cons,List.foldl_cons]
  congr 4
theorem NG{b:List Int}(hb:okB b)(C:b.length<=1500000):yS b=some (PH b):=by
 unfold yS
 cases b with
 |nil=>rfl
 |cons c t=>
  have hc:=hb.2 c wb
  have I:∀x∈t,0<=x/\x<=255:=λx J=>hb.2 x (by simp[J])
  have j:t.length<=maxLen:=by have:=hb.1;rw[qJ]at this;omega
  rw[jG wV,show idx (c::t) 0=some c from rfl,qA,bO (n:=c) wg wg]
  show _=some (if c=2 then mkK c 0 t else if t.length<6 then(Ut,false)else mkK c ((t.take 6).foldl TV 0-1000000000000) (t.drop 6))
  by_cases h2:c=2
  ·subst h2;rw[jG we,jF rfl,show BM (2::t) 1=some t from by rfl,qA,show List.drop (1:Int).toNat (2::t)=t from rfl,Dk I,qA,oM (Qb wg wg j),qA];unfold mkK;cases Ec ⟨2,0,bL t⟩<;>rfl
  ·rw[jF wX,jG h2];by_cases h6:t.length<6;(rw[jF wV,jF h6];rfl);·rw[jG wV,jG h6];exact dkS hb C hc wV 6 1 0 aJ rfl we wg wG
theorem dkI{c:Int}{t:List Int}(hb:okB (c::t))(hl:t.length+1<=1500000)(hc:0<=c/\c<=255)(h6:6<=t.length):∀(j k v m:Nat),k+j=6->v<2^(8*k)->j<m->nG (c::t) c m v k=some (chK ⟨c,((t.drop k).take j).foldl TV v-1000000000000,bL (t.drop 6)⟩ (c::t))
 |_,_,_,0,_,_,h=>by omega
 |0,k,v,m+1,hk,hv,_=>by
  obtain rfl:k=6:=by omega
  simp only[nG,show List.drop (1:Int).toNat (c::t)=t from rfl,show(6:Int).toNat=6 from rfl]
  have U:okB (t.drop 6):=⟨qh (by rw[qW,qJ];omega) hb.1,λx hx=>hb.2 x (List.mem_cons_of_mem _ (qv hx))⟩
  have I:v<281474976710656:=by omega
  have ok:=Qb (n:=v-1000000000000) hc wg U.1
  rw[jG wV,show BM t 6=some (t.drop 6)from by unfold BM;rw[jF ⟨we,by simpa using h6⟩];rfl,qA,Dk U.2,qA,bO (n:=c) wg wg,bO (n:=v-1000000000000) wg wg,E8 ok,qA,xE (YX _),qA,List.take_zero,List.foldl_nil]
  unfold chK
  cases eqL yK (enK ⟨c,v-1000000000000,bL (t.drop 6)⟩) (c::t)<;>rfl
 |j+1,k,v,m+1,hk,hv,hm=>by
  have C:k<t.length:=by omega
  have hlt6:k<(t.take 6).length:=by rw[qV];omega
  have J:=hb.2 t[k] (List.mem_cons_of_mem _ (qG C))
  obtain⟨x,ex⟩:=jV J.1
  have I:v<2^40:=qw hv (Nat.pow_le_pow_right we wg)
  have e8:2^(8*(k+1))=2^(8*k)*256:=by rw[show 8*(k+1)=8*k+8 from by omega,Nat.pow_add]
  simp only[nG,show List.drop (1:Int).toNat (c::t)=t from rfl,show(6:Int).toNat=6 from rfl]
  rw[jF wP,aK hlt6,qA,List.getElem_take,ex,stI wg wg,bM wg,dkI hb hl hc h6 j (k+1) (v*256+x) m wg wg wg,qX C,ex,List.take_succ_cons,List.foldl_cons]
  congr 5
theorem Nz{b:List Int}(hb:okB b)(J:b.length<=1500000):zQ b=some (PH b):=by
 unfold zQ
 cases b with
 |nil=>rfl
 |cons c t=>
  have hc:=hb.2 c wb
  have I:∀x∈t,0<=x/\x<=255:=λx U=>hb.2 x (by simp[U])
  have C:t.length<=maxLen:=by have:=hb.1;rw[qJ]at this;omega
  have j:t.length+1<=1500000:=J
  rw[jG wV,show idx (c::t) 0=some c from rfl,qA,bO (n:=c) wg wg,show BM (c::t) 1=some t from by rfl,qA]
  simp only[show List.drop (1:Int).toNat (c::t)=t from rfl]
  show _=some (if c=2 then mkK c 0 t else if t.length<6 then(Ut,false)else mkK c ((t.take 6).foldl TV 0-1000000000000) (t.drop 6))
  by_cases h2:c=2
  ·subst h2;rw[jG we,jF rfl,Dk I,qA,E8 (Qb wg wg C),qA,xE (YX _),qA,<-aFY I];unfold chK;cases eqL yK (enK ⟨2,0,bL t⟩) (2::t)<;>rfl
  ·rw[jF wX,jG h2];by_cases h6:t.length<6;(rw[jF wV,jF h6];rfl);·rw[jG wV,jG h6,show B6 t 6=some (t.take 6)from by unfold B6;rw[jF ⟨we,wg⟩];rfl,qA,<-aFH h2 wg I];exact dkI hb j hc wg 6 0 0 aJ rfl we wG
def UD(b:List Int):Nat->Int->List M.aR->Option (List M.aR×Int)
 |0,p,C=>some (C,p)
 |j+1,p,C=>if(nRb b p 8).2.2=true then if(nUv b (nRb b p 8).2.1).2.2=true then UD b j (nUv b (nRb b p 8).2.1).2.1 (C++[(⟨bL (nRb b p 8).1,(nUv b (nRb b p 8).2.1).1⟩:M.aR)])else none else none
def NM(b:List Int):M.aF×Bool:=if(nUv b 0).2.2=true then(if(nUv b 0).1>6 then(⟨[]⟩,false)else match UD b (nUv b 0).1.toNat (nUv b 0).2.1 []with
 |none=>(⟨[]⟩,false)
 |some (j,q)=>if(cV ⟨j⟩&&(q==b.length))=true then(⟨j⟩,true)else(⟨[]⟩,false))else(⟨[]⟩,false)
theorem M1{e:Nat}{n:Nat}(h:e<=n)(j:n<=1500000):inI e:=by unfold inI;omega
theorem HJ{b:List Int}{p c:Int}(hb:okB b)(h:(nRb b p c).2.2=true):∃(s:List Int) (a e:Nat),nRb b p c=(s,(e:Int),true)/\p=a/\s.length<=c/\e<=b.length/\s.length<=1000000000000/\a+(uv s.length).length+s.length=e/\b.drop a=uv s.length++(s++b.drop e)/\okB s:=by obtain⟨a,e,h1,h2,h3⟩:=Yt hb (show nRb b p c=((nRb b p c).1,(nRb b p c).2.1,true)from by rw[<-h]);grind
theorem CR{b:List Int}{p:Int}(hb:okB b)(h:(nUv b p).2.2=true):∃a m e:Nat,nUv b p=((m:Int),(e:Int),true)/\p=a/\m<=1000000000000/\e<=b.length/\a+(uv m).length=e/\b.drop a=uv m++b.drop e:=by obtain⟨a,m,e,h1,h2,h3,h4⟩:=Re hb (show nUv b p=((nUv b p).1,(nUv b p).2.1,true)from by rw[<-h]);grind
theorem R0{s:List Int}{m:Nat}(j:okB s)(C:m<=1000000000000):M.aR.ok ⟨bL s,m⟩:=⟨by rw[FD];exact j.1,by show inI m;unfold inI;omega⟩
theorem RW{b:List Int}(hb:okB b):∀(j a:Nat) (C I:List M.aR) (q:Int),UD b j a C=some (I,q)->a<=b.length->∃(l:List M.aR) (e:Nat),I=C++l/\l.length=j/\q=e/\e<=b.length/\b.drop a=Gr enF l++b.drop e/\∀x∈l,M.aR.ok x
 |0,a,C,I,q,h,J=>by simp only[UD,qc,qb]at h;exact⟨[],a,by rw[<-h.1,qY],rfl,h.2.symm,J,rfl,λ_ h=>absurd h wb⟩
 |j+1,a,C,I,q,h,J=>by
  simp only[UD]at h
  split at h
  ·rename_i h1
   obtain⟨s,a1,e1,r1,r2,r3,r4,r5,r6,r7,r8⟩:=HJ hb h1
   obtain rfl:a=a1:=by omega
   rw[r1]at h
   dsimp only at h
   split at h
   ·rename_i h2
    obtain⟨a2,m,e2,u1,u2,u3,u4,u5,u6⟩:=CR hb h2
    obtain rfl:e1=a2:=by omega
    rw[u1]at h
    obtain⟨l,e,g1,g2,g3,g4,g5,g6⟩:=RW hb j e2 _ I q h u4
    refine⟨⟨bL s,m⟩::l,e,by rw[g1,qT];rfl,by rw[qJ,g2],g3,g4,?_,λx U=> ?_⟩
    ·rw[r7,u6,g5,Gr,enF,CJ,Ey r8.2,qH];simp only[qT]
    ·rcases qq.1 U with rfl|U;(exact R0 r8 u3);simp_all
   ·cases h
  ·cases h
def aKY(o:Option (List M.aR×Int)):M.aF×Int×Bool:=match o with
 |none=>(⟨[]⟩,0,false)
 |some (j,q)=>(⟨j⟩,q,cV ⟨j⟩)
def aFF(b:List Int)(o:Option (List M.aR×Int)):M.aF×Bool:=match o with
 |none=>(⟨[]⟩,false)
 |some (j,q)=>if eqL yK (enR ⟨j⟩) b=true then(⟨j⟩,true)else(⟨[]⟩,false)
theorem Vq{j:List M.aR}{n:Nat}(C:j.length<=n)(I:n<=6)(h:∀x∈j,M.aR.ok x):M.aF.ok ⟨j⟩:=⟨⟨qh C wD,h⟩⟩
theorem Vv{j:List M.aR}{x:M.aR}(h:∀x∈j,M.aR.ok x)(C:M.aR.ok x):∀y∈j++[x],M.aR.ok y:=λy I=>by grind
theorem aGX{b:List Int}{x1:Int×Int×Bool}{N:Nat}(hb:okB b)(I:b.length<=1500000)(hN:N<=6)(U:x1.1=N):∀(j k m:Nat) (p:Int) (C:List M.aR),k+j=N->j<m->inI p->C.length=k->(∀x∈C,M.aR.ok x)->uU b x1 m p k C=some (aKY (UD b j p C))
 |_,_,0,_,_,_,h,_,_,_=>by omega
 |0,k,m+1,p,C,hk,_,hp,ha,J=>by simp only[uU];rw[U,jG wV,tP (Vq (n:=6) wg wg J),qA];rfl
 |j+1,k,m+1,p,C,hk,hm,hp,ha,J=>by
  simp only[uU,UD]
  rw[U,jF wV,yP hb I hp,qA]
  cases h1:(nRb b p 8).2.2 with
  |false=>rfl
  |true=>
   obtain⟨s,a1,e1,r1,r2,r3,r4,r5,r6,r7,r8⟩:=HJ hb h1
   rw[r1]
   simp only[jH]
   rw[uJ hb I (M1 r4 I),qA]
   cases h2:(nUv b e1).2.2 with
   |false=>rfl
   |true=>
    obtain⟨a2,v,e2,u1,u2,u3,u4,u5,u6⟩:=CR hb h2
    rw[u1]
    simp only[jH]
    rw[Dk r8.2,qA,dK wV,qA,bM wg]
    exact aGX hb I hN U j (k+1) m e2 _ wg wg (M1 u4 I) (by simp[ha]) (Vv J (R0 r8 u3))
theorem KA{b:List Int}(hb:okB b)(C:b.length<=1500000):sN b=some (NM b):=by
 unfold sN Fy NM
 rw[uJ hb C yH,qA]
 cases h:(nUv b 0).2.2 with
 |false=>rfl
 |true=>
  obtain⟨a,m,e,J,U,u3,u4,u5,u6⟩:=CR hb h
  rw[J]
  simp only[qB,qD,jH]
  by_cases h6:(m:Int)>6
  ·rw[jF (by simpa using h6),jF h6];rfl
  ·have I:=aGX (x1:=(m,e,true)) hb C (N:=m) wg rfl m 0 aJ e [] wg wG (M1 u4 C) rfl (λ_ h=>absurd h wb)
   rw[show((0:Nat):Int)=0 from rfl]at I
   rw[jG wX,jG h6,qH,I,qA]
   cases UD b m e []with
   |none=>rfl
   |some o=>
    obtain⟨j,q⟩:=o
    show(if(!cV ⟨j⟩)=true then some (⟨[]⟩,false)else if(!(q==b.length))=true then some (⟨[]⟩,false)else some (⟨j⟩,true))=some (if(cV ⟨j⟩&&(q==b.length))=true then(⟨j⟩,true)else((⟨[]⟩:M.aF),false))
    grind
