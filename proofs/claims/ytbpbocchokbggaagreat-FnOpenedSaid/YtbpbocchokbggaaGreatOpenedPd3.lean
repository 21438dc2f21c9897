/-
  Helper text. No conditions.
-/
import Derived.Test.YtbpbocchokbggaaGreatOpenedPd2
set_option linter.all false
namespace Go.Proofs.YtbpbocchokbggaaGreat.gen
open Go Go.Sh
open Go.IntKind (i64)
theorem Am{s:M.aC}{k:M.Key}{r:M.aD}(I:s.ok)(hk:k.ok)(hr:r.ok)(hR:cC r=true)(hz:M.aC.sz s<=1073741824)(C:M.aD.sz r<=1073741824):eF s k r=some (Dj s k r):=by
 have hl:s.aHF.length<=1073741824:=by simp only[M.aC.sz]at hz;omega
 have hp:=N8 s.aHF k
 unfold eF Dj
 rw[Au I,nH hk,sG hr,hR,oN s hz,A0 I,Ci r C]
 simp only[qA]
 cases hS:iJ s with
 |false=>simp
 |true=>
  cases hK:Dq k with
  |false=>simp
  |true=>
   simp only[qB,qD,if_false,if_true]
   by_cases h:mM (AA k) s.aHF<0
   ·rw[if_neg jG,if_pos h]
    by_cases aa:s.aHF.length<16
    ·rw[if_neg jG,if_pos aa,Ma (l:=s.aHF) (f:=J8 k) (L:=rE s k r s) (S:=tPS s k r) I.aHF.1 (λm j J=> ?_) (λm=> ?_)]
     ·show tPS s k r (D0 s.aHF k)=_
      obtain⟨_,_,_,ha4,ha5⟩:=zH hS
      have ew:i64.wrap (s.aHg+1)=s.aHg+1:=bO jF jF
      have ei:inR k.N (s.aHg+1) 1000000=(decide (k.N>s.aHg)&&decide (k.N<=1000000)):=by unfold inR;congr 1
      unfold tPS
      rw[CF hp,qA,qH,FG (by rw[qV];omega) jF,qA,Ci r C,qA,dY jX,qA,dY jS,qA,qT,cK,qA,ew,ei]
      unfold O7 IK
      cases (k.aHb==1)<;>cases (decide (k.N>s.aHg)&&decide (k.N<=1000000))<;>rfl
     ·have U:=I.aHF.2 _ (qG J);simp only[rE];rw[if_pos (aY J),aK J,qA,xH U.Key hk,qA,bD jF];rfl
     ·simp only[rE];rw[if_neg jO];rfl
    ·rw[if_pos jG,if_neg aa]
   ·obtain⟨i,e,hi⟩:=iF h;rw[if_pos (by simpa using h),if_neg h,e,aK hi,qA,qH];unfold QL;rw[qF hi]
def lS(s:M.aC)(k:M.Key):M.aD:=if mM (AA k) s.aHF<0 then(⟨([]:List M.Field)⟩:M.aD)else match s.aHF[(mM (AA k) s.aHF).toNat]? with|some x=>x.aD|none=>(⟨([]:List M.Field)⟩:M.aD)
def Ni(s:M.aC)(w:M.bB):M.aC×Bool:=if(JX (lS s w.Key) w.Field w.N).2=true then Dj s w.Key (JX (lS s w.Key) w.Field w.N).1 else(s,false)
theorem Ic:M.aD.ok (⟨([]:List M.Field)⟩:M.aD):=⟨⟨by simp[maxLen],jH⟩⟩
theorem H5{s:M.aC}{k:M.Key}(j:s.ok):(lS s k).ok:=by unfold lS;split;(exact Ic);·split;(rename_i x C;exact(j.aHF.2 x (jC C)).aD);·exact Ic
theorem OO(s:M.aC)(k:M.Key):M.aD.sz (lS s k)<=M.aC.sz s:=by
 unfold lS
 split
 ·simp[M.aD.sz,dG]
 ·split
  ·rename_i x j
   have h1:=eU (f:=M.aHV.sz) (jC j)
   have h2:M.aD.sz x.aD<=M.aHV.sz x:=by simp only[M.aHV.sz];omega
   simp only[M.aC.sz]
   omega
  ·simp[M.aD.sz,dG]
theorem V0{r:M.aD}{a:ByteArray}{n:Int}(C:r.ok)(J:r.aHG.length<=1073741824)(I:a.size<=maxLen)(j:inI n):M.aD.ok (⟨QT r a n⟩:M.aD):=by unfold QT;by_cases h:mM (sP a) r.aHG<0;(rw[if_pos h];exact XL _ C J I j);·rw[if_neg h];obtain⟨k,e,hk⟩:=iF h;rw[e,qH,qF hk];exact UP hk C j
theorem NK{r:M.aD}{a:ByteArray}{n:Int}(j:r.ok)(I:r.aHG.length<=1073741824)(C:a.size<=maxLen)(J:inI n):(JX r a n).1.ok:=by unfold JX NH;split;(split;(exact V0 j I C J);·exact j);·exact j
theorem Gi{r:M.aD}{a:ByteArray}{n:Int}(h:(JX r a n).2=true):cC (JX r a n).1=true:=by unfold JX NH at h⊢;by_cases h1:cC r=true;(rw[if_pos h1]at h⊢;by_cases h2:cC (⟨QT r a n⟩:M.aD)=true;(rw[if_pos h2];exact h2);·rw[if_neg h2]at h;cases h);·rw[if_neg h1]at h;cases h
theorem Hb{r:M.aD}(h:cC r=true):M.aD.sz r<=100:=by obtain⟨h1,h2⟩:=zM h;have:=dR (w:=M.Field.sz) (b:=8) (xs:=r.aHG) (λx j=>by have:=(h2 x j).1;simp only[M.Field.sz];omega);simp only[M.aD.sz];omega
theorem sH{s:M.aC}(h:iJ s=true):M.aC.sz s<=10000:=by
 obtain⟨h1,h2,h3,_,_⟩:=zH h
 obtain⟨j,_⟩:=IB h1
 have hn:s.Name.size<=8:=by unfold nY inR at h2;simp only[qM,qL]at h2;omega
 have:=dR (w:=M.aHV.sz) (b:=112) (xs:=s.aHF) (λx J=>by obtain⟨k,hk,rfl⟩:=List.mem_iff_getElem.1 J;obtain⟨C,I⟩:=j k _ (qF hk);have U:=Gd C;have c2:=Hb I;simp only[M.aHV.sz,M.Key.sz];omega)
 simp only[M.aC.sz]
 omega
theorem Ep{s:M.aC}{k:M.Key}{r:M.aD}(j:cC r=true)(h:(Dj s k r).2=true):iJ (Dj s k r).1=true:=by unfold Dj at h⊢;by_cases hS:iJ s=true;(rw[if_pos hS]at h⊢;by_cases hK:Dq k=true;(rw[if_pos hK]at h⊢;by_cases hf:mM (AA k) s.aHF<0;(rw[if_pos hf]at h⊢;by_cases aa:s.aHF.length<16;(rw[if_pos aa];have:=Ue hS hK j hf _ (Wa (k:=k) hS);simp only[aa,decide_true]at this;exact this);·rw[if_neg aa]at h;cases h);·rw[if_neg hf];obtain⟨i,e,C⟩:=iF hf;simp only[e,qH];rw[VD hS C];exact j);·rw[if_neg hK]at h;cases h);·rw[if_neg hS]at h;cases h
theorem NV{s:M.aC}{k:M.Key}{r:M.aD}(j:s.ok)(J:s.aHF.length<=1073741824)(hk:k.ok)(I:r.ok):(Dj s k r).1.ok:=by unfold Dj;by_cases hS:iJ s=true;(rw[if_pos hS];by_cases hK:Dq k=true;(rw[if_pos hK];by_cases hf:mM (AA k) s.aHF<0;(rw[if_pos hf];split;(exact Vd _ j J hk I (T0 j hk));·exact j);·rw[if_neg hf];obtain⟨i,e,C⟩:=iF hf;simp only[e,qH];unfold QL;rw[qF C];exact Y1 C j I);·rw[if_neg hK];exact j);·rw[if_neg hS];exact j
theorem JZ{s:M.aC}{k:M.Key}{r:M.aD}(h:(Dj s k r).2=false):(Dj s k r).1=s:=by unfold Dj at h⊢;by_cases hS:iJ s=true;(rw[if_pos hS]at h⊢;by_cases hK:Dq k=true;(rw[if_pos hK]at h⊢;by_cases hf:mM (AA k) s.aHF<0;(rw[if_pos hf]at h⊢;by_cases aa:s.aHF.length<16;(rw[if_pos aa]at h;cases h);·rw[if_neg aa]);·rw[if_neg hf]at h;cases h);·rw[if_neg hK]);·rw[if_neg hS]
theorem Mg{s:M.aC}{w:M.bB}(h:(Ni s w).2=false):(Ni s w).1=s:=by unfold Ni at h⊢;by_cases h1:(JX (lS s w.Key) w.Field w.N).2=true;(rw[if_pos h1]at h⊢;exact JZ h);·rw[if_neg h1]
theorem K5{s:M.aC}{w:M.bB}(C:s.ok)(I:w.ok)(U:M.aC.sz s<=536870912):(Ni s w).1.ok/\M.aC.sz (Ni s w).1<=536870912:=by
 have hl:s.aHF.length<=1073741824:=by simp only[M.aC.sz]at U;omega
 have J:=OO s w.Key
 have j:(lS s w.Key).aHG.length<=1073741824:=by simp only[M.aD.sz]at J;omega
 cases h2:(Ni s w).2 with
 |false=>rw[Mg h2];exact⟨C,U⟩
 |true=>
  unfold Ni at h2⊢
  by_cases h1:(JX (lS s w.Key) w.Field w.N).2=true
  ·rw[if_pos h1]at h2⊢;have:=sH (Ep (Gi h1) h2);exact⟨NV C hl I.Key (NK (H5 C) j I.Field I.N),jF⟩
  ·rw[if_neg h1]at h2;cases h2
theorem BS{s:M.aC}{w:M.bB}(C:s.ok)(j:w.ok)(hz:M.aC.sz s<=1073741824):lT s w=some (Ni s w):=by
 have J:=OO s w.Key
 have I:(lS s w.Key).aHG.length<=1073741824:=by simp only[M.aD.sz]at J;omega
 have tR:=Cb (r:=lS s w.Key) (a:=w.Field) (n:=w.N) (H5 C) jF j.Field j.N
 have hput:(JX (lS s w.Key) w.Field w.N).2=true->eF s w.Key (JX (lS s w.Key) w.Field w.N).1=some (Dj s w.Key (JX (lS s w.Key) w.Field w.N).1):=λh1=>
  Am C j.Key (NK (H5 C) I j.Field j.N) (Gi h1) hz (qh (Hb (Gi h1)) jF)
 have hfin:((some (JX (lS s w.Key) w.Field w.N)).bind λx9=>if(!x9.2)=true then(bW s).bind λae=>some (ae,false)else(eF s w.Key x9.1).bind λU=>some (U.1,U.2))=some (Ni s w):=by
  rw[qA,oN s hz]
  unfold Ni
  cases h1:(JX (lS s w.Key) w.Field w.N).2 with
  |false=>simp
  |true=>
   rw[hput h1]
   simp
 unfold lT
 rw[A0 C,qA]
 by_cases h:mM (AA w.Key) s.aHF<0
 ·have e:lS s w.Key=(⟨([]:List M.Field)⟩:M.aD):=by unfold lS;rw[if_pos h]
  rw[if_neg jG]
  rw[e]at tR hfin
  rw[tR]
  exact hfin
 ·obtain⟨i,ei,hi⟩:=iF h
  have e:lS s w.Key=s.aHF[i].aD:=by unfold lS;rw[if_neg h,ei,qH,qF hi]
  rw[if_pos (by simpa using h),ei,aK hi,qA]
  rw[e]at tR hfin
  rw[tR]
  exact hfin
def Ec(s:M.aC)(l:List M.bB):M.aC:=l.foldl (λt w=>(Ni t w).1) s
theorem FW{s:M.aC}{l:List M.bB}(U:s.ok)(C:l.length<=maxLen)(J:∀w∈l,M.bB.ok w)(hz:M.aC.sz s<=536870912):yT s l=some (Ec s l):=by
 have hm:=le_max C
 unfold yT Ec
 rw[oN s jF,qA]
 have:=OT (xs:=l) (L:=λn k (t:M.aC)=>kU l n k t.Name t.aHg t.aHF) (step:=λt w=>(Ni t w).1) (I:=λ_ t=>t.ok/\M.aC.sz t<=536870912) (E:=some) C
  (λt k hk j=>K5 j.1 (J _ (qG hk)) j.2) (λn t k hk j=>by
   simp only[kU]
   rw[if_pos (aY hk),aK hk,qA,show(⟨t.Name,t.aHF,t.aHg⟩:M.aC)=t from rfl,BS j.1 (J _ (qG hk)) jF,qA,bD jF]
   cases h2:(Ni t l[k]).2 with
   |true=>rfl
   |false=>rw[Mg h2];rfl) (λn t j=>by
   simp only[kU]
   rw[if_neg jO]) s ⟨U,hz⟩
 exact this.1
theorem EV:∀(j n:Nat),n<2^(7*(j+1))->(uv n).length<=j+1
 |0,n,h=>by rw[Ky (by simpa using h)];simp
 |j+1,n,h=>by
  by_cases h1:n<128
  ·rw[Ky h1];simp
  ·rw[QH h1,qJ]
   have e:2^(7*(j+1+1))=2^(7*(j+1))*128:=by rw[show 7*(j+1+1)=7*(j+1)+7 from by omega,Nat.pow_add]
   have:=EV j (n/128) (by rw[e]at h;omega)
   omega
theorem Jd{n:Nat}(h:n<=1000000000000):(uv n).length<=6:=EV 5 n (Nat.lt_of_le_of_lt h jI)
theorem Sl(n:Nat):1<=(uv n).length:=by by_cases h:n<128;(rw[Ky h];simp);·rw[QH h];simp
theorem Hn:∀(n:Nat) (x:Int),x∈uv n->0<=x/\x<=255:=by
 intro n
 induction n using Nat.strongRecOn with
 |_ n C=>
  intro x j
  by_cases h:n<128
  ·rw[Ky h,qQ]at j;subst j;omega
  ·rw[QH h,qq]at j;rcases j with rfl|j;(omega);·exact C (n/128) jF x j
def Vk(b:List Int)(a:Nat):Nat->Nat->Nat->Int×Int×Bool
 |0,_,_=>(0,0,false)
 |j+1,k,n=>match b[a+k]? with
  |none=>(0,0,false)
  |some x=>if x.toNat<128 then if(decide (x.toNat=0)&&decide (0<k))||decide (1000000000000<n+x.toNat%128*2^(7*k))then(0,0,false)else(((n+x.toNat%128*2^(7*k):Nat):Int),((a+k+1:Nat):Int),true)else Vk b a j (k+1) (n+x.toNat%128*2^(7*k))
def nUv(b:List Int)(p:Int):Int×Int×Bool:=if p<0 then(0,0,false)else Vk b p.toNat 6 0 0
theorem PS{k:Nat}(h:k<6):2^(7*k)<=34359738368:=Nat.pow_le_pow_right (n:=2) jI (show 7*k<=35 by omega)
theorem Zp{k n x:Nat}(j:n<2^(7*k)):n+x%128*2^(7*k)<2^(7*(k+1)):=by
 have e:2^(7*(k+1))=2^(7*k)*128:=by rw[show 7*(k+1)=7*k+7 from by omega,Nat.pow_add]
 have h1:x%128<=127:=by omega
 have h2:x%128*2^(7*k)<=127*2^(7*k):=qj _ h1
 rw[e]
 omega
theorem XQ{n x k:Nat}(h:n<2^k):n|||x*2^k=n+x*2^k:=by have:=Nat.two_pow_add_eq_or_of_lt h x;rw[Nat.mul_comm x,Nat.or_comm,<-this,Nat.add_comm]
theorem VY{k x:Nat}(hk:k<6):i64.wrap (((x%128:Nat):Int)*2^(min (i64.wrap (7*(k:Int))).toNat IntKind.i64.bits))=((x%128*2^(7*k):Nat):Int):=by
 have j:=PS hk
 have h1:x%128<=127:=by omega
 have h2:x%128*2^(7*k)<=127*2^(7*k):=qj _ h1
 have e:min (i64.wrap (7*(k:Int))).toNat IntKind.i64.bits=7*k:=by rw[bO jF jF,show IntKind.i64.bits=64 from rfl];omega
 rw[e,show(((x%128:Nat):Int)*2^(7*k))=((x%128*2^(7*k):Nat):Int)from by rw[Int.natCast_mul,Int.natCast_pow];rfl]
 exact bO jF jF
theorem uvS{n k x:Nat}(hk:k<6)(I:x<=255)(j:n<2^(7*k)):(i64.wrap (BitVec.ofInt (IntKind.i64.bits) (n:Int)|||BitVec.ofInt (IntKind.i64.bits) (i64.wrap ((i64.wrap (BitVec.ofInt (IntKind.i64.bits) (i64.wrap (x:Int))&&&BitVec.ofInt (IntKind.i64.bits) 127).toNat)*2^(min (i64.wrap (7*(k:Int))).toNat IntKind.i64.bits)))).toNat)=((n+x%128*2^(7*k):Nat):Int):=by
 have C:=PS hk
 have h1:x%128<=127:=by omega
 have h2:x%128*2^(7*k)<=127*2^(7*k):=qj _ h1
 have e:=K0 (n:=x) (m:=127) jF jF
 rw[XN]at e
 rw[bO (n:=(x:Int)) jF jF,show((127:Int))=((127:Nat):Int)from rfl,e,VY hk,Qp jF jF,XQ j]
theorem YT{b:List Int}(hb:okB b){k:Nat}(h:k<b.length):∃x:Nat,b[k]=(x:Int)/\x<=255:=by have:=hb.2 _ (qG h);exact⟨b[k].toNat,jF,jF⟩
theorem rdS{b:List Int}(hb:okB b)(J:b.length<=1048576)(a:Nat)(I:(a:Int)<=9223372036854775807):∀(j k n m:Nat),j+k=6->n<2^(7*k)->j<m->eB b (a:Int) m (n:Int) (k:Int)=some (Vk b a j k n)
 |_,_,_,0,_,_,h=>by omega
 |0,k,n,m+1,hk,_,_=>by simp only[eB];rw[if_neg jG];rfl
 |j+1,k,n,m+1,hk,C,hm=>by
  have h6:k<6:=by omega
  simp only[eB]
  rw[if_pos jG,if_neg jH,bO (n:=(b.length:Int)-(k:Int)) jF jF]
  by_cases hlt:a+k<b.length
  ·obtain⟨x,ex,U⟩:=YT hb hlt;rw[if_neg jG,show((a:Int)+(k:Int))=((a+k:Nat):Int)from by omega,bO (n:=((a+k:Nat):Int)) jF jF,aK hlt,qA,ex,bD jF,bD jF,if_pos (by rw[bO jF jF];simp;omega)];rw[uvS h6 U C,bO (n:=(x:Int)) jF jF];unfold Vk;rw[qF hlt,ex];dsimp only;rw[qH];have ih:=rdS hb J a I j (k+1) (n+x%128*2^(7*k)) m jF (Zp C) jF;by_cases h1:x<128;(rw[if_pos jG,if_pos h1];by_cases h2:x=0;(rw[if_pos (by simp[h2])];by_cases h3:0<k;(rw[if_pos jG,if_pos (by simp[h2,h3])]);·rw[if_neg jG];by_cases h4:1000000000000<n+x%128*2^(7*k);(rw[if_pos (by rw[qL];omega),if_pos (by rw[Bool.or_eq_true,qL];exact .inr h4)]);·rw[if_neg (by rw[qL];omega),if_neg (by rw[Bool.or_eq_true,qM,qL,qL,qL];omega)]);·rw[if_neg jG];by_cases h4:1000000000000<n+x%128*2^(7*k);(rw[if_pos (by rw[qL];omega),if_pos (by rw[Bool.or_eq_true,qL];exact .inr h4)]);·rw[if_neg (by rw[qL];omega),if_neg (by rw[Bool.or_eq_true,qM,qL,qL,qL];omega)]);·rw[if_neg jG,if_neg h1];exact ih
  ·rw[if_pos jG];unfold Vk;rw[qZ jF]
theorem sX{b:List Int}{p:Int}(hb:okB b)(j:b.length<=1048576)(C:inI p):fQ b p=some (nUv b p):=by
 unfold fQ nUv
 by_cases h:p<0
 ·have e:∀m,eB b p (m+1) 0 0=some (0,0,false):=λm=>by
   simp only[eB]
   rw[if_pos jI,if_pos (by simpa using h)]
  rw[if_pos h]
  exact e 18446744073709551615
 ·rw[if_neg h];obtain⟨a,rfl⟩:=Int.eq_ofNat_of_zero_le (show 0<=p by omega);exact rdS hb j a C.2 6 0 0 fuel rfl jI jM
theorem TC(b:List Int)(a:Nat):∀(j k n:Nat),(Vk b a j k n).2.2=false->Vk b a j k n=(0,0,false)
 |0,_,_,_=>rfl
 |j+1,k,n,h=>by
  unfold Vk at h⊢
  cases e:b[a+k]? with
  |none=>rfl
  |some x=>
   rw[e]at h
   dsimp only at h⊢
   split at h
   ·split at h;(rename_i h1 h2;rw[if_pos h1,if_pos h2]);·cases h
   ·rename_i h1;rw[if_neg h1];exact TC b a j (k+1) _ h
theorem ZZ{b:List Int}{p:Int}(h:(nUv b p).2.2=false):nUv b p=(0,0,false):=by unfold nUv at h⊢;split;(rfl);·rename_i h1;rw[if_neg h1]at h;exact TC b _ 6 0 0 h
theorem RD{b:List Int}(hb:okB b)(a:Nat):∀(j k n:Nat) (v q:Int),Vk b a j k n=(v,q,true)->∃m e:Nat,v=((n+m*2^(7*k):Nat):Int)/\q=(e:Int)/\n+m*2^(7*k)<=1000000000000/\e<=b.length/\a+k+(uv m).length=e/\b.drop (a+k)=uv m++b.drop e/\(k=0\/0<m)
 |0,_,_,_,_,h=>by cases h
 |j+1,k,n,v,q,h=>by
  unfold Vk at h
  by_cases hlt:a+k<b.length
  ·obtain⟨x,ex,hx⟩:=YT hb hlt
   have C:b.drop (a+k)=(x:Int)::b.drop (a+k+1):=by rw[qX hlt,ex]
   rw[qF hlt,ex]at h
   dsimp only at h
   rw[qH]at h
   by_cases h1:x<128
   ·rw[if_pos h1,Nat.mod_eq_of_lt h1]at h;split at h;(cases h);·rename_i h2;rw[Bool.or_eq_true,qM,qL,qL,qL]at h2;simp only[qb]at h;refine⟨x,a+k+1,h.1.symm,h.2.1.symm,jF,jF,by rw[Ky h1];rfl,by rw[Ky h1];exact C,jF⟩
   ·rw[if_neg h1]at h
    obtain⟨m,e,e1,e2,e3,e4,e5,e6,e7⟩:=RD hb a j (k+1) _ v q h
    have U:0<m:=by omega
    have J:2^(7*(k+1))=128*2^(7*k):=by rw[show 7*(k+1)=7+7*k from by omega,Nat.pow_add]
    have e8:n+x%128*2^(7*k)+m*2^(7*(k+1))=n+(m*128+x%128)*2^(7*k):=by rw[J,<-Nat.mul_assoc,Nat.add_assoc,<-Nat.add_mul,Nat.add_comm (x%128)]
    have I:uv (m*128+x%128)=(x:Int)::uv m:=by rw[QH jF,show(m*128+x%128)/128=m from by omega,show(m*128+x%128)%128+128=x from by omega]
    rw[e8]at e1 e3
    refine⟨m*128+x%128,e,e1,e2,e3,e4,by rw[I,qJ];omega,by rw[I,C,List.cons_append];exact congrArg _ e6,.inr jF⟩
  ·rw[qZ jF]at h;cases h
theorem QC{b:List Int}{p v q:Int}(hb:okB b)(h:nUv b p=(v,q,true)):∃a m e:Nat,p=(a:Int)/\v=(m:Int)/\q=(e:Int)/\m<=1000000000000/\e<=b.length/\a+(uv m).length=e/\b.drop a=uv m++b.drop e:=by unfold nUv at h;split at h;(cases h);·obtain⟨m,e,e1,e2,e3,e4,e5,e6,_⟩:=RD hb p.toNat 6 0 0 v q h;simp only[Nat.mul_zero,Nat.pow_zero,Nat.mul_one,qp,Nat.add_zero]at e1 e3 e5 e6;exact⟨p.toNat,m,e,jF,e1,e2,e3,e4,e5,e6⟩
def nRb(b:List Int)(p c:Int):List Int×Int×Bool:=if(nUv b p).2.2=true then if(nUv b p).1>c then(([]:List Int),0,false)else if(nUv b p).1>(b.length:Int)-(nUv b p).2.1 then(([]:List Int),0,false)else((b.drop (nUv b p).2.1.toNat).take (nUv b p).1.toNat,(nUv b p).2.1+(nUv b p).1,true)else(([]:List Int),0,false)
theorem WY{b:List Int}(h:okB b)(i j:Nat):okB ((b.drop i).take j):=⟨qh (by rw[qV,qW];omega) h.1,λx C=>h.2 x (qv (qk C))⟩
theorem vX{b:List Int}{p c:Int}(hb:okB b)(C:b.length<=1048576)(I:inI p):eA b p c=some (nRb b p c):=by
 unfold eA nRb
 rw[sX hb C I,qA]
 cases h:(nUv b p).2.2 with
 |false=>rfl
 |true=>
  obtain⟨a,m,e,e1,e2,e3,e4,e5,e6,e7⟩:=QC hb (show nUv b p=((nUv b p).1,(nUv b p).2.1,true)from by rw[<-h])
  rw[e2,e3]
  simp only[qB,qD,if_false,if_true]
  by_cases h1:(m:Int)>c
  ·rw[if_pos (by simpa using h1),if_pos h1]
  ·rw[if_neg (by simpa using h1),if_neg h1,bO (n:=(b.length:Int)-(e:Int)) jF jF]
   by_cases h2:(m:Int)>(b.length:Int)-(e:Int)
   ·rw[if_pos (by simpa using h2),if_pos h2]
   ·rw[if_neg (by simpa using h2),if_neg h2,bO (n:=(e:Int)+(m:Int)) jF jF]
    have J:∀(α:Type) (xs:List α),xs.length=b.length->UK xs (e:Int) ((e:Int)+(m:Int))=some ((xs.take ((e:Int)+(m:Int)).toNat).drop (e:Int).toNat):=λα xs U=>by unfold UK;rw[if_pos ⟨jF,jF,jF⟩]
    have j:List.drop (e:Int).toNat (List.take ((e:Int)+(m:Int)).toNat b)=List.take m (List.drop e b):=by rw[qH,show((e:Int)+(m:Int)).toNat=e+m from by omega,List.drop_take];congr 1;omega
    rw[J _ b rfl,qA,j,qH,qH]
    have hk:(List.take m (List.drop e b)).length<=1048576:=by rw[qV,qW];omega
    rw[FG jF jF,qA]
theorem Z9{b:List Int}{p c:Int}(h:(nRb b p c).2.2=false):nRb b p c=(([]:List Int),0,false):=by unfold nRb at h⊢;split;(rename_i h1;rw[if_pos h1]at h;split;(rfl);·rename_i h2;rw[if_neg h2]at h;split;(rfl);·rename_i h3;rw[if_neg h3]at h;cases h);·rfl
theorem YJ{b s:List Int}{p c q:Int}(hb:okB b)(h:nRb b p c=(s,q,true)):∃a e:Nat,p=(a:Int)/\q=(e:Int)/\(s.length:Int)<=c/\e<=b.length/\s.length<=1000000000000/\a+(uv s.length).length+s.length=e/\b.drop a=uv s.length++(s++b.drop e)/\okB s:=by
 unfold nRb at h
 split at h
 ·rename_i C
  obtain⟨a,m,e,e1,e2,e3,e4,e5,e6,e7⟩:=QC hb (show nUv b p=((nUv b p).1,(nUv b p).2.1,true)from by rw[<-C])
  rw[e2,e3]at h
  split at h
  ·cases h
  ·split at h
   ·cases h
   ·rename_i h1 h2
    simp only[qb,qH]at h
    have j:s.length=m:=by rw[<-h.1,qV,qW];omega
    refine⟨a,e+m,e1,jF,jF,jF,jF,by rw[j];omega,?_,by rw[<-h.1];exact WY hb _ _⟩
    rw[j,e7,<-h.1,<-List.drop_drop,qo]
 ·cases h
theorem Dw(s:ByteArray):∀x∈bR s,0<=x/\x<=255:=by intro x j;unfold bR at j;obtain⟨b,_,rfl⟩:=qx.1 j;have:=b.toNat_lt;omega
theorem Jp{l:List Int}(h:∀x∈l,0<=x/\x<=255):bR (dE l)=l:=by unfold bR dE;simp only[List.map_map];refine(List.map_congr_left λx j=> ?_).trans (List.map_id l);have:=h x j;simp only[Function.comp_apply,UInt8.toNat_ofNat',id_eq];omega
theorem Dy(l:List Int):(dE l).size=l.length:=by unfold dE;show(l.map _).toArray.size=_;simp
theorem Vq{L:Nat->Int->List Int->Option (List Int)}{b c:Int->Int}
  (h1:∀m (n:Nat) r,¬n<128->n<2^63->L (m+1) (n:Int) r=(app 1 r [b n]).bind λ_=>L m ((n/128:Nat):Int) (r++[b n]))
  (h2:∀m (n:Nat) r,n<128->L (m+1) (n:Int) r=(app 1 r [c n]).bind λ_=>some (r++[c n]))
  (hb:∀n:Nat,n<2^63->b n=((n%128+128:Nat):Int))(hc:∀n:Nat,n<128->c n=(n:Int)):
  ∀(j m n:Nat) (r:List Int),n<2^(7*(j+1))->n<2^63->j<m->r.length+(j+1)<=140737488355328->L m (n:Int) r=some (r++uv n)
 |j,0,n,r,_,_,I,_=>by omega
 |0,m+1,n,r,J,C,I,hr=>by
  have h:n<128:=by simpa using J
  rw[h2 m n r h,dY jG,qA,hc n h,Ky h]
 |j+1,m+1,n,r,J,C,I,hr=>by
  by_cases h:n<128
  ·rw[h2 m n r h,dY jG,qA,hc n h,Ky h]
  ·have U:n/128<2^(7*(j+1)):=by
    rw[Nat.div_lt_iff_lt_mul jF]
    have e:2^(7*(j+1+1))=2^(7*(j+1))*128:=by rw[show 7*(j+1+1)=7*(j+1)+7 by omega,Nat.pow_add]
    omega
   rw[h1 m n r h C,dY jG,qA,Vq h1 h2 hb hc j m (n/128) (r++[b n]) U jF jF jG,hb n C,QH h,qT]
   rfl
theorem u8n{n:Nat}(h:n<128):IntKind.u8.wrap (n:Int)=(n:Int):=by rw[wrap_u8];omega
theorem u8S{n:Nat}(h:n<2^63):IntKind.u8.wrap (i64.wrap (BitVec.ofInt (IntKind.i64.bits) (i64.wrap (BitVec.ofInt (IntKind.i64.bits) (n:Int)&&&BitVec.ofInt (IntKind.i64.bits) 127).toNat)|||BitVec.ofInt (IntKind.i64.bits) 128).toNat)=((n%128+128:Nat):Int):=by
 have h1:n%128<=127:=by omega
 have e:=K0 (n:=n) (m:=127) jF jF
 rw[XN]at e
 have e2:=Qp (n:=n%128) (m:=128) jF jF
 rw[aBi jF]at e2
 rw[show((127:Int))=((127:Nat):Int)from rfl,e,show((128:Int))=((128:Nat):Int)from rfl,e2,wrap_u8]
 omega
theorem oR{r:List Int}{n:Nat}(I:r.length<=16777216)(C:n<=1000000000000):bS r (n:Int)=some (r++uv n):=by
 have j:inR (n:Int) 0 1000000000000=true:=by unfold inR;simp;omega
 unfold bS
 rw[dY jG,qA,cK,qA,j,if_neg jH]
 refine Vq (L:=cP) (b:=λv=>IntKind.u8.wrap (i64.wrap (BitVec.ofInt (IntKind.i64.bits) (i64.wrap (BitVec.ofInt (IntKind.i64.bits) v&&&BitVec.ofInt (IntKind.i64.bits) 127).toNat)|||BitVec.ofInt (IntKind.i64.bits) 128).toNat)) (c:=λv=>IntKind.u8.wrap v) (λm n r h1 h2=> ?_) (λm n r h1=> ?_) (λn h=>u8S h) (λn h=>u8n h) 8 fuel n r jF jF jM jF
 ·simp only[cP];rw[if_pos jG,uvf]
 ·simp only[cP];rw[if_neg jG]
def MI(b:List Int):List Int:=uv b.length++b
theorem sW{r b:List Int}(j:r.length<=8388608)(hb:b.length<=1000000):bQ r b=some (r++MI b):=by have h9:=Jd (n:=b.length) jF;unfold bQ MI;rw[oR jF jF,qA,dY (by rw[qE];omega),qA,qT]
def OH{α:Type}(f:α->List Int):List α->List Int
 |[]=>[]
 |x::l=>f x++OH f l
theorem Ol{α:Type}{f:α->List Int}{c:Nat}:∀{l:List α},(∀x∈l,(f x).length<=c)->(OH f l).length<=l.length*c
 |[],_=>by simp[OH]
 |x::l,h=>by have h1:=h x jH;have h2:=Ol (l:=l) (λy j=>h y (by simp[j]));simp only[OH,qE,qJ,Nat.succ_mul];omega
theorem VJ{α:Type}{R:Type}{xs:List α}{f:α->List Int}{c B:Nat}{L:Nat->Int->List Int->Option R}{E:List Int->Option R}(hc:∀x∈xs,(f x).length<=c)
  (h1:∀n (k:Nat) (hk:k<xs.length) q,q.length<=B->L (n+1) (k:Int) q=L n ((k+1:Nat):Int) (q++f xs[k]))
  (h2:∀n q,q.length<=B->L (n+1) (xs.length:Int) q=E q):
  ∀(n k:Nat) (q:List Int),xs.length-k<n->k<=xs.length->q.length+(xs.length-k)*c<=B->L n (k:Int) q=E (q++OH f (xs.drop k))
 |0,_,_,h,_,_=>by omega
 |n+1,k,q,h,hk,j=>by
  rcases Nat.lt_or_ge k xs.length with hlt|hge
  ·have C:=hc _ (qG hlt)
   have e:(xs.length-k)*c=(xs.length-(k+1))*c+c:=by rw[<-Nat.succ_mul];congr 1;omega
   rw[h1 n k hlt q jF,VJ hc h1 h2 n (k+1) (q++f xs[k]) jF jF (by rw[qE];omega),qX hlt,OH,qT]
  ·have e:k=xs.length:=by omega
   subst e
   rw[h2 n q jF,qa,OH,qY]
def enF(x:M.Field):List Int:=MI (bR x.Name)++uv x.N.toNat
def enR(r:M.aD):List Int:=if cC r=true then uv r.aHG.length++OH enF r.aHG else[]
theorem Ug{x:M.Field}(h:x.Name.size<=8/\0<=x.N/\x.N<=1000000000):(enF x).length<=14:=by have h1:=EV 0 x.Name.size jF;have h2:=EV 4 x.N.toNat jF;have h3:=aP x.Name;unfold enF MI;simp only[qE,h3];omega
theorem NQ(r:M.aD):(enR r).length<=85:=by unfold enR;split;(rename_i h;obtain⟨h6,j⟩:=zM h;have h1:=EV 0 r.aHG.length jF;have h2:=Ol (f:=enF) (λx C=>Ug (j x C));rw[qE];have:r.aHG.length*14<=6*14:=qj _ h6;omega);·simp
theorem Hz{r:M.aD}(I:r.ok):gJ r=some (enR r):=by
 unfold gJ enR
 rw[sG I,qA]
 by_cases h:cC r=true
 ·obtain⟨h6,C⟩:=zM h
  have h1:=EV 0 r.aHG.length jF
  rw[if_neg (by simp[h]),if_pos h,oR jH jF,qA,List.nil_append]
  have:=VJ (xs:=r.aHG) (f:=enF) (c:=14) (B:=1000) (L:=cU r) (E:=some) (λx j=>Ug (C x j)) (λn k hk q U=> ?_) (λn q _=> ?_) fuel 0 (uv r.aHG.length) jM jF jF
  ·rw[List.drop_zero]at this;exact this
  ·have j:=C _ (qG hk)
   simp only[cU]
   have h9:=Jd (n:=r.aHG[k].Name.size) jF
   have J:=aP r.aHG[k].Name
   have hb:(MI (bR r.aHG[k].Name)).length<=14:=by unfold MI;rw[qE,J];omega
   have e:=oR (r:=q++MI (bR r.aHG[k].Name)) (n:=r.aHG[k].N.toNat) (by rw[qE];omega) jF
   rw[Int.toNat_of_nonneg j.2.1]at e
   rw[if_pos (aY hk),aK hk,qA,sW jF jF,qA,e,qA,bD jF,qT]
   rfl
  ·simp only[cU];rw[if_neg jO]
 ·rw[if_pos (by simp[h]),if_neg h]
def be6(v:Nat):List Int:=[((v/2^40%256:Nat):Int),((v/2^32%256:Nat):Int),((v/2^24%256:Nat):Int),((v/2^16%256:Nat):Int),((v/2^8%256:Nat):Int),((v%256:Nat):Int)]
def enK(k:M.Key):List Int:=if Dq k=true then k.aHb::((if k.aHb==2 then[]else be6 (k.N+1000000000000).toNat)++bR k.aHi)else[]
theorem P0{k:M.Key}(h:Dq k=true):1<=k.aHb/\k.aHb<=3/\ -1000000000000<=k.N/\k.N<=1000000000000:=by unfold Dq inR at h;simp only[qM,qL]at h;omega
theorem NY(k:M.Key):(enK k).length<=19:=by unfold enK;split;(rename_i h;have:=Gd h;have:=aP k.aHi;split<;>simp[be6]<;>omega);·simp
theorem aGg{k:M.Key}(v:Nat)(C:v<=5)(h: -1000000000000<=k.N/\k.N<=1000000000000):Int.fdiv (i64.wrap (k.N+1000000000000)) (2^(min (i64.wrap (8*(v:Int))).toNat IntKind.i64.bits))=(((k.N+1000000000000).toNat/2^(8*v):Nat):Int):=by
 have e:min (i64.wrap (8*(v:Int))).toNat IntKind.i64.bits=8*v:=by rw[bO jF jF,show IntKind.i64.bits=64 from rfl];omega
 rw[e,bO jF jF]
 obtain⟨n,j⟩:=Int.eq_ofNat_of_zero_le (show 0<=k.N+1000000000000 by omega)
 rw[j,qH,Int.fdiv_eq_ediv_of_nonneg _ (by exact Int.le_of_lt (Int.pow_pos jI)),Int.natCast_ediv,Int.natCast_pow]
 rfl
theorem byS{k:M.Key}(v:Nat)(j:v<=5)(h: -1000000000000<=k.N/\k.N<=1000000000000):(IntKind.u8.wrap (i64.wrap (BitVec.ofInt (IntKind.i64.bits) (Int.fdiv (i64.wrap (k.N+1000000000000)) (2^(min (i64.wrap (8*(v:Int))).toNat IntKind.i64.bits)))&&&BitVec.ofInt (IntKind.i64.bits) 255).toNat))=(((k.N+1000000000000).toNat/2^(8*v)%256:Nat):Int):=by have h1:(k.N+1000000000000).toNat/2^(8*v)<=(k.N+1000000000000).toNat:=Nat.div_le_self _ _;have e:=K0 (n:=(k.N+1000000000000).toNat/2^(8*v)) (m:=255) jF jF;rw[XF]at e;rw[aGg v j h,show((255:Int))=((255:Nat):Int)from rfl,e,wrap_u8];omega
theorem KQ{k:M.Key}(hk:k.ok):lM k=some (enK k):=by
 unfold lM enK
 rw[nH hk,qA]
 by_cases h:Dq k=true
 ·have ht:=Gd h
  have hb:=P0 h
  have U:=aP k.aHi
  have J:IntKind.u8.wrap k.aHb=k.aHb:=by rw[wrap_u8];omega
  rw[if_neg (by simp[h]),if_pos h,WR,J]
  by_cases h2:(k.aHb==2)=true
  ·have h3:¬(k.aHb !=2)=true:=by simp[bne,h2]
   rw[if_pos h2]
   have C:∀n r,r.length<=7->bH k (n+1) 5 r=some (r++bR k.aHi):=by intro n r j;simp only[bH];rw[if_pos jI,if_neg h3,dY jF,qA]
   exact C (18446744073709551609+6) _ jH
  ·have h3:(k.aHb !=2)=true:=by simp[bne,h2]
   rw[if_neg h2]
   have st:∀n (v:Nat) r,r.length<=7->v<=5->bH k (n+1) (v:Int) r=bH k n ((v:Int)-1) (r++[(((k.N+1000000000000).toNat/2^(8*v)%256:Nat):Int)]):=by intro n v r j I;simp only[bH];rw[if_pos jH,if_pos h3,if_pos (by rw[bO jF jF];simp;omega),dY jG,qA,bO (n:=(v:Int)-1) jF jF,byS v I hb.2.2]
   have e7:∀n r,r.length<=7->bH k (n+1) (-1) r=some (r++bR k.aHi):=by intro n r j;simp only[bH];rw[if_neg jI,dY jF,qA]
   refine(st (18446744073709551609+6) 5 _ jH jH).trans ((st (18446744073709551609+5) 4 _ jH jH).trans ((st (18446744073709551609+4) 3 _ jH jH).trans ((st (18446744073709551609+3) 2 _ jH jH).trans ((st (18446744073709551609+2) 1 _ jH jH).trans ((st (18446744073709551609+1) 0 _ jH jH).trans ((e7 _ _ jH).trans ?_))))))
   simp[be6]
 ·rw[if_pos (by simp[h]),if_neg h]
theorem Vs:∀{a b:List Int},eqL B7 a b=true↔a=b
 |[],[]=>by simp[eqL]
 |[],_::_=>by simp[eqL]
 |_::_,[]=>by simp[eqL]
 |x::j,y::C=>by have:=Vs (a:=j) (b:=C);simp only[eqL,qM,this,List.cons.injEq,B7,beq_iff_eq]
theorem EZ{b:List Int}(h:∀x∈b,0<=x/\x<=255):∀x∈MI b,0<=x/\x<=255:=λx j=>by unfold MI at j;rcases qP.1 j with j|j;(exact Hn _ x j);·exact h x j
theorem Ov{α:Type}{f:α->List Int}:∀{l:List α},(∀x∈l,∀y∈f x,0<=y/\y<=255)->∀y∈OH f l,0<=y/\y<=255
 |[],_,_,j=>by simp[OH]at j
 |x::l,h,y,j=>by rcases qP.1 (show y∈f x++OH f l from j)with j|j;(exact h x jH y j);·exact Ov (l:=l) (λz C=>h z (by simp[C])) y j
theorem Wr(x:M.Field):∀y∈enF x,0<=y/\y<=255:=λy j=>by unfold enF at j;rcases qP.1 j with j|j;(exact EZ (Dw _) y j);·exact Hn _ y j
theorem aAA(r:M.aD):okB (enR r):=⟨qh (NQ r) jN,λy j=>by unfold enR at j;split at j;(rcases qP.1 j with j|j;(exact Hn _ y j);·exact Ov (λx _=>Wr x) y j);·simp at j⟩
theorem Z5(k:M.Key):okB (enK k):=⟨qh (NY k) jN,λy j=>by unfold enK at j;split at j;(rename_i h;have hk:=P0 h;rcases qq.1 j with rfl|j;(omega);·rcases qP.1 j with j|j;(split at j;(simp at j);·simp only[be6,qq,qO,or_false]at j;omega);·exact Dw _ y j);·simp at j⟩
def UT:M.Key:=(⟨0,0,(⟨#[]⟩:ByteArray)⟩:M.Key)
def mkK(c n:Int)(t:List Int):M.Key×Bool:=if Dq (⟨c,n,dE t⟩:M.Key)=true then((⟨c,n,dE t⟩:M.Key),true)else(UT,false)
def ZD(v x:Int):Int:=v*256+x
def Ud:List Int->M.Key×Bool
 |[]=>(UT,false)
 |c::t=>if c=2 then mkK c 0 t else if t.length<6 then(UT,false)else mkK c ((t.take 6).foldl ZD 0-1000000000000) (t.drop 6)
theorem aBA{t:List Int}(j:∀x∈t,0<=x/\x<=255):∀(v:Nat) (n:Nat),(v:Int)<2^n->∃w:Nat,t.foldl ZD (v:Int)=(w:Int)/\(w:Int)<2^(n+8*t.length):=by
 induction t with
 |nil=>exact λv n h=>⟨v,rfl,by simpa using h⟩
 |cons x t J=>
  intro v n h
  have U:=j x jH
  obtain⟨w,e,C⟩:=J (λy I=>j y (by simp[I])) (v*256+x.toNat) (n+8) (by rw[Int.pow_add];omega)
  refine⟨w,?_,by rw[qJ,show n+8*(t.length+1)=n+8+8*t.length from by omega];exact C⟩
  rw[List.foldl_cons,<-e]
  congr 1
  unfold ZD
  omega
theorem Rq{c n:Int}{t:List Int}(hc:0<=c/\c<=255)(C: -1000000000000<=n/\n<=1000000000000000)(j:t.length<=maxLen):M.Key.ok (⟨c,n,dE t⟩:M.Key):=⟨by show inI c;unfold inI;omega,by show inI n;unfold inI;omega,by show(dE t).size<=_;rw[Dy];exact j⟩
theorem aGD{v:Nat}(h:v<2^48):i64.wrap ((v:Int)*2^(min (8:Int).toNat IntKind.i64.bits))=((v*256:Nat):Int):=by rw[show min (8:Int).toNat IntKind.i64.bits=8 from rfl,show((v:Int)*2^8)=((v*256:Nat):Int)from by omega];exact bO jF jF
theorem stS{v x:Nat}(h:v<2^48)(j:x<=255):(i64.wrap (BitVec.ofInt (IntKind.i64.bits) (i64.wrap ((v:Int)*2^(min (8:Int).toNat IntKind.i64.bits)))|||BitVec.ofInt (IntKind.i64.bits) (i64.wrap (x:Int))).toNat)=((v*256+x:Nat):Int):=by have e:=XQ (n:=x) (x:=v) (k:=8) jF;rw[aGD h,bO (n:=(x:Int)) jF jF,Qp jF jF,Nat.or_comm,show(256:Nat)=2^8 from rfl,e];omega
theorem dkS{b:List Int}{c:Int}(hb:okB b)(hl:b.length<=1048576)(hc:0<=c/\c<=255)(h7:7<=b.length):∀(j k v m:Nat),k+j=7->v<2^(8*(k-1))->1<=k->j<m->lX b c m (v:Int) (k:Int)=some (mkK c (((b.drop k).take j).foldl ZD (v:Int)-1000000000000) (b.drop 7))
 |_,_,_,0,_,_,_,h=>by omega
 |0,k,v,m+1,hk,I,h1,_=>by
  obtain rfl:k=7:=by omega
  simp only[lX]
  have hd:okB (b.drop 7):=⟨qh (by rw[qW];omega) hb.1,λx U=>hb.2 x (qv U)⟩
  have J:(v:Int)<281474976710656:=by have:v<2^48:=I;omega
  have ok:=Rq (n:=(v:Int)-1000000000000) hc jF hd.1
  rw[if_neg jI,show Bd b 7=some (b.drop (7:Int).toNat)from by unfold Bd;rw[if_pos ⟨jI,by simpa using h7⟩],qA,show(7:Int).toNat=7 from rfl,Fe hd.2,qA,bO (n:=c) jF jF,bO (n:=(v:Int)-1000000000000) jF jF,nH ok,qA,List.take_zero,List.foldl_nil]
  unfold mkK
  cases Dq (⟨c,(v:Int)-1000000000000,dE (b.drop 7)⟩:M.Key)<;>rfl
 |j+1,k,v,m+1,hk,I,h1,hm=>by
  have C:k<b.length:=by omega
  obtain⟨x,ex,U⟩:=YT hb C
  have J:v<2^40:=qw I (Nat.pow_le_pow_right jI jF)
  have e8:2^(8*(k+1-1))=2^(8*(k-1))*256:=by rw[show 8*(k+1-1)=8*(k-1)+8 from by omega,Nat.pow_add]
  simp only[lX]
  rw[if_pos jG,aK C,qA,ex,stS jF U,bD jF,dkS hb hl hc h7 j (k+1) (v*256+x) m jF (by rw[e8];omega) jF jF,qX C,ex,List.take_succ_cons,List.foldl_cons]
  congr 4
theorem KH{b:List Int}(hb:okB b)(C:b.length<=1048576):vZ b=some (Ud b):=by
 unfold vZ
 cases b with
 |nil=>rfl
 |cons c t=>
  have hc:=hb.2 c jH
  have J:∀x∈t,0<=x/\x<=255:=λx U=>hb.2 x (by simp[U])
  have j:t.length<=maxLen:=by have:=hb.1;rw[qJ]at this;omega
  have I:t.length+1<=1048576:=C
  rw[if_neg jG,show idx (c::t) 0=some c from rfl,qA,bO (n:=c) jF jF]
  unfold Ud
  show _=some (if c=2 then mkK c 0 t else if t.length<6 then(UT,false)else mkK c ((t.take 6).foldl ZD 0-1000000000000) (t.drop 6))
  by_cases h2:c=2
  ·subst h2;rw[if_neg jI,if_pos rfl,show Bd (2::t) 1=some t from by unfold Bd;rw[if_pos ⟨jI,jH⟩];rfl,qA,show List.drop (1:Int).toNat ((2:Int)::t)=t from rfl,Fe J,qA,nH (Rq jF jF j),qA];unfold mkK;cases Dq (⟨2,0,dE t⟩:M.Key)<;>rfl
  ·rw[if_pos (by simpa using h2),if_neg h2];by_cases h6:t.length<6;(rw[if_pos jG,if_pos h6];rfl);·rw[if_neg jG,if_neg h6];exact dkS hb C hc jG 6 1 0 fuel rfl jI jF jM
def XW(b:List Int):Nat->Int->List M.Field->Option (List M.Field×Int)
 |0,p,C=>some (C,p)
 |j+1,p,C=>if(nRb b p 8).2.2=true then if(nUv b (nRb b p 8).2.1).2.2=true then XW b j (nUv b (nRb b p 8).2.1).2.1 (C++[(⟨dE (nRb b p 8).1,(nUv b (nRb b p 8).2.1).1⟩:M.Field)])else none else none
def S9(b:List Int):M.aD×Bool:=if(nUv b 0).2.2=true then(if(nUv b 0).1>6 then((⟨([]:List M.Field)⟩:M.aD),false)else match XW b (nUv b 0).1.toNat (nUv b 0).2.1 []with
 |none=>((⟨([]:List M.Field)⟩:M.aD),false)
 |some (j,q)=>if(cC (⟨j⟩:M.aD)&&(q==(b.length:Int)))=true then((⟨j⟩:M.aD),true)else((⟨([]:List M.Field)⟩:M.aD),false))else((⟨([]:List M.Field)⟩:M.aD),false)
theorem J5{e:Nat}{n:Nat}(h:e<=n)(j:n<=1048576):inI (e:Int):=by unfold inI;omega
theorem Jj{b:List Int}{p c:Int}(hb:okB b)(h:(nRb b p c).2.2=true):∃(s:List Int) (a e:Nat),nRb b p c=(s,(e:Int),true)/\p=(a:Int)/\(s.length:Int)<=c/\e<=b.length/\s.length<=1000000000000/\a+(uv s.length).length+s.length=e/\b.drop a=uv s.length++(s++b.drop e)/\okB s:=by obtain⟨a,e,h1,h2,h3⟩:=YJ hb (show nRb b p c=((nRb b p c).1,(nRb b p c).2.1,true)from by rw[<-h]);exact⟨_,a,e,by rw[<-h2,<-h],h1,h3⟩
theorem Ei{b:List Int}{p:Int}(hb:okB b)(h:(nUv b p).2.2=true):∃a m e:Nat,nUv b p=((m:Int),(e:Int),true)/\p=(a:Int)/\m<=1000000000000/\e<=b.length/\a+(uv m).length=e/\b.drop a=uv m++b.drop e:=by obtain⟨a,m,e,h1,h2,h3,h4⟩:=QC hb (show nUv b p=((nUv b p).1,(nUv b p).2.1,true)from by rw[<-h]);exact⟨a,m,e,by rw[<-h2,<-h3,<-h],h1,h4⟩
theorem Sm{s:List Int}{m:Nat}(j:okB s)(C:m<=1000000000000):M.Field.ok (⟨dE s,(m:Int)⟩:M.Field):=⟨by show(dE s).size<=_;rw[Dy];exact j.1,by show inI (m:Int);unfold inI;omega⟩
theorem Si{b:List Int}(hb:okB b):∀(j a:Nat) (C I:List M.Field) (q:Int),XW b j (a:Int) C=some (I,q)->a<=b.length->∃(l:List M.Field) (e:Nat),I=C++l/\l.length=j/\q=(e:Int)/\e<=b.length/\b.drop a=OH enF l++b.drop e/\∀x∈l,M.Field.ok x
 |0,a,C,I,q,h,U=>by simp only[XW,qc,qb]at h;exact⟨[],a,by rw[<-h.1,qY],rfl,h.2.symm,U,rfl,λ_ h=>absurd h jH⟩
 |j+1,a,C,I,q,h,U=>by
  simp only[XW]at h
  split at h
  ·rename_i h1
   obtain⟨s,a1,e1,r1,r2,r3,r4,r5,r6,r7,r8⟩:=Jj hb h1
   obtain rfl:a=a1:=by omega
   rw[r1]at h
   dsimp only at h
   split at h
   ·rename_i h2
    obtain⟨a2,m,e2,u1,u2,u3,u4,u5,u6⟩:=Ei hb h2
    obtain rfl:e1=a2:=by omega
    rw[u1]at h
    dsimp only at h
    obtain⟨l,e,g1,g2,g3,g4,g5,g6⟩:=Si hb j e2 _ I q h u4
    refine⟨(⟨dE s,(m:Int)⟩:M.Field)::l,e,by rw[g1,qT];rfl,by rw[qJ,g2],g3,g4,?_,λx J=> ?_⟩
    ·rw[r7,u6,g5,OH,enF,MI,Jp r8.2,qH];simp only[qT]
    ·rcases qq.1 J with rfl|J;(exact Sm r8 u3);·exact g6 x J
   ·cases h
  ·cases h
def aG7(o:Option (List M.Field×Int)):M.aD×Int×Bool:=match o with
 |none=>((⟨([]:List M.Field)⟩:M.aD),0,false)
 |some (j,q)=>((⟨j⟩:M.aD),q,cC (⟨j⟩:M.aD))
theorem Uq{j:List M.Field}{n:Nat}(C:j.length<=n)(I:n<=6)(h:∀x∈j,M.Field.ok x):M.aD.ok (⟨j⟩:M.aD):=⟨⟨qh C jN,h⟩⟩
theorem WD{j:List M.Field}{x:M.Field}(h:∀x∈j,M.Field.ok x)(I:M.Field.ok x):∀y∈j++[x],M.Field.ok y:=λy C=>by rcases qP.1 C with C|C;(exact h y C);·rw[qQ.1 C];exact I
theorem aCK{b:List Int}{x1:Int×Int×Bool}{N:Nat}(hb:okB b)(I:b.length<=1048576)(hN:N<=6)(U:x1.1=(N:Int)):∀(j k m:Nat) (p:Int) (C:List M.Field),k+j=N->j<m->inI p->C.length=k->(∀x∈C,M.Field.ok x)->tM b x1 m p (k:Int) C=some (aG7 (XW b j p C))
 |_,_,0,_,_,_,h,_,_,_=>by omega
 |0,k,m+1,p,C,hk,_,hp,ha,J=>by simp only[tM];rw[U,if_neg jG,sG (Uq (n:=6) jF jF J),qA];rfl
 |j+1,k,m+1,p,C,hk,hm,hp,ha,J=>by
  simp only[tM,XW]
  rw[U,if_pos jG,vX hb I hp,qA]
  cases h1:(nRb b p 8).2.2 with
  |false=>rfl
  |true=>
   obtain⟨s,a1,e1,r1,r2,r3,r4,r5,r6,r7,r8⟩:=Jj hb h1
   rw[r1]
   simp only[qB,qD,if_false,if_true]
   rw[sX hb I (J5 r4 I),qA]
   cases h2:(nUv b (e1:Int)).2.2 with
   |false=>rfl
   |true=>
    obtain⟨a2,v,e2,u1,u2,u3,u4,u5,u6⟩:=Ei hb h2
    rw[u1]
    simp only[qB,qD,if_false,if_true]
    rw[Fe r8.2,qA,dY jG,qA,bD jF]
    exact aCK hb I hN U j (k+1) m (e2:Int) _ jF jF (J5 u4 I) (by simp[ha]) (WD J (Sm r8 u3))
theorem HD{b:List Int}(hb:okB b)(C:b.length<=1048576):rF b=some (S9 b):=by
 unfold rF Du S9
 rw[sX hb C xV,qA]
 cases h:(nUv b 0).2.2 with
 |false=>rfl
 |true=>
  obtain⟨a,m,e,J,u2,u3,U,u5,u6⟩:=Ei hb h
  rw[J]
  simp only[qB,qD,if_false,if_true]
  by_cases h6:(m:Int)>6
  ·rw[if_pos (by simpa using h6),if_pos h6];rfl
  ·have I:=aCK (x1:=((m:Int),(e:Int),true)) hb C (N:=m) jF rfl m 0 fuel (e:Int) [] jF jM (J5 U C) rfl (λ_ h=>absurd h jH)
   rw[show((0:Nat):Int)=0 from rfl]at I
   rw[if_neg (by simpa using h6),if_neg h6,qH,I,qA]
   cases XW b m (e:Int) []with
   |none=>rfl
   |some o=>
    obtain⟨j,q⟩:=o
    show(if(!cC (⟨j⟩:M.aD))=true then some ((⟨([]:List M.Field)⟩:M.aD),false)else if(!(q==(b.length:Int)))=true then some ((⟨([]:List M.Field)⟩:M.aD),false)else some ((⟨j⟩:M.aD),true))=some (if(cC (⟨j⟩:M.aD)&&(q==(b.length:Int)))=true then((⟨j⟩:M.aD),true)else((⟨([]:List M.Field)⟩:M.aD),false))
    rcases Bool.eq_false_or_eq_true (cC (⟨j⟩:M.aD))with hn|hn
    ·rw[if_neg (show ¬(!cC (⟨j⟩:M.aD))=true from by simp[hn])];by_cases hq:q=(b.length:Int);(rw[if_neg (show ¬(!(q==(b.length:Int)))=true from by simp[hq]),if_pos (by simp[hn,hq])]);·rw[if_pos (show(!(q==(b.length:Int)))=true from by simp[hq]),if_neg (by simp[hq])]
    ·rw[if_pos (show(!cC (⟨j⟩:M.aD))=true from by simp[hn]),if_neg (by simp[hn])]
theorem WC{b:List Int}(hb:okB b):(S9 b).1.ok/\M.aD.sz (S9 b).1<=60:=by have j:M.aD.ok (⟨([]:List M.Field)⟩:M.aD)/\M.aD.sz (⟨([]:List M.Field)⟩:M.aD)<=60:=⟨Uq (n:=0) jH jF (λ_ h=>absurd h jH),by simp[M.aD.sz,dG]⟩;unfold S9;split;(rename_i h;obtain⟨a,m,e,u1,u2,u3,u4,u5,u6⟩:=Ei hb h;rw[u1];dsimp only;split;(exact j);·split;(exact j);·rename_i C q hr;split;(rename_i J;rw[qM]at J;obtain⟨l,e3,I,g2,g3,g4,g5,U⟩:=Si hb _ e [] C q hr u4;rw[List.nil_append]at I;subst I;obtain⟨n6,nf⟩:=zM J.1;refine⟨Uq n6 jF U,?_⟩;have:=dR (w:=M.Field.sz) (b:=8) (xs:=C) (λx hx=>by have:=(nf x hx).1;simp only[M.Field.sz];omega);simp only[M.aD.sz];omega);·exact j);·exact j
def Mr(o:M.Op):Prop:=inI o.aHb/\o.aC.size<=maxLen/\o.Key.ok/\o.aD.ok/\o.Field.size<=maxLen
def nOp(o:M.Op):Bool:=inR o.aHb 1 6&&(nY o.aC&&(((o.aHb==5)||Dq o.Key)&&(cC o.aD&&(if(o.aHb==6)=true then nY o.Field else o.Field.toList==(⟨#[]⟩:ByteArray).toList))))
theorem Lc{o:M.Op}(h:Mr o):CI o=some (nOp o):=by unfold CI nOp;simp only[cK,dB h.2.1,nH h.2.2.1,sG h.2.2.2.1,dB h.2.2.2.2,qA];have hb:(o.aHb !=6)= !(o.aHb==6):=rfl;generalize (o.aHb !=6)=a9 at hb⊢;generalize inR o.aHb 1 6=a1;generalize nY o.aC=a2;generalize (o.aHb==5)=a3;generalize Dq o.Key=a4;generalize cC o.aD=a5;generalize (o.aHb==6)=a6 at hb⊢;generalize nY o.Field=a7;generalize (o.Field.toList==(⟨#[]⟩:ByteArray).toList)=a8;subst hb;cases a1<;>cases a2<;>cases a3<;>cases a4<;>cases a5<;>cases a6<;>cases a7<;>cases a8<;>rfl
def enO(o:M.Op):List Int:=uv o.aHb.toNat++(MI (bR o.aC)++(MI (enK o.Key)++(MI (enR o.aD)++MI (bR o.Field))))
def F4(l:List M.Op):List Int:=if(l.all nOp&&decide (l.length<=6))=true then uv l.length++OH enO l else[]
theorem bsize{a b:ByteArray}(h:a.toList=b.toList):a.size=b.size:=by rw[ByteArray.toList_eq,ByteArray.toList_eq]at h;have:=congrArg List.length h;rw[qn,qn]at this;exact this
theorem Sy{s:ByteArray}(h:(s.toList==(⟨#[]⟩:ByteArray).toList)=true):s.size=0:=bsize (eq_of_beq h)
theorem EE{o:M.Op}(h:nOp o=true):1<=o.aHb/\o.aHb<=6/\o.aC.size<=8/\o.Field.size<=8/\cC o.aD=true:=by
 unfold nOp inR at h
 simp only[qM,qL]at h
 obtain⟨h1,h2,_,h4,h5⟩:=h
 have C:∀s:ByteArray,nY s=true->s.size<=8:=λs j=>by unfold nY inR at j;simp only[qM,qL]at j;omega
 refine⟨h1.1,h1.2,C _ h2,?_,h4⟩
 split at h5
 ·exact C _ h5
 ·rw[Sy h5];omega
theorem Hs{b:List Int}{n:Nat}(h:b.length<=n)(j:n<=127):(MI b).length<=n+1:=by have:=EV 0 b.length jF;unfold MI;rw[qE];omega
theorem QX{o:M.Op}(h:nOp o=true):(enO o).length<=130:=by obtain⟨h1,h2,h3,h4,_⟩:=EE h;have e1:=EV 0 o.aHb.toNat jF;have e2:=Hs (b:=bR o.aC) (n:=8) (by rw[aP];exact h3) jF;have e3:=Hs (NY o.Key) jF;have e4:=Hs (NQ o.aD) jF;have e5:=Hs (b:=bR o.Field) (n:=8) (by rw[aP];exact h4) jF;unfold enO;simp only[qE];omega
