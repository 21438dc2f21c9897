/-
  Helper text. No conditions.
-/
import Derived.Test.YtbpbocchokbggaaGreatUpdatesPd2
set_option linter.all false
namespace Go.Proofs.YtbpbocchokbggaaGreat.gen
open Go Go.Sh
open Go.IntKind (i64)
def tPS(s:M.aD)(k:M.Key)(r:M.aE)(j:Nat):Option (M.aD×Bool):=(Bz s.aI6 (j:Int)).bind λ_=>(app 56 ([]:List M.aJN) (List.take (j:Int).toNat s.aI6)).bind λ_=>(cO r).bind λC=>(app 56 (List.take (j:Int).toNat s.aI6) ([(⟨k,C⟩:M.aJN)])).bind λ_=>(app 56 ((List.take (j:Int).toNat s.aI6)++[(⟨k,C⟩:M.aJN)]) (List.drop (j:Int).toNat s.aI6)).bind λ_=>if(k.aJS==1)=true then(aY k.N (i64.wrap (s.aJa+1)) 1000000).bind λI=>if I=true then some ((⟨s.Name,((List.take (j:Int).toNat s.aI6)++[(⟨k,C⟩:M.aJN)])++(List.drop (j:Int).toNat s.aI6),k.N⟩:M.aD),true)else some ((⟨s.Name,((List.take (j:Int).toNat s.aI6)++[(⟨k,C⟩:M.aJN)])++(List.drop (j:Int).toNat s.aI6),s.aJa⟩:M.aD),true)else some ((⟨s.Name,((List.take (j:Int).toNat s.aI6)++[(⟨k,C⟩:M.aJN)])++(List.drop (j:Int).toNat s.aI6),s.aJa⟩:M.aD),true)
theorem AG{s:M.aD}{k:M.Key}{r:M.aE}(I:s.ok)(hk:k.ok)(hr:r.ok)(hR:cJ r=true)(hz:M.aD.sz s<=1073741824)(C:M.aE.sz r<=1073741824):eK s k r=some (DN s k r):=by
 have hl:s.aI6.length<=1073741824:=by simp only[M.aD.sz]at hz;omega
 have hp:=O1 s.aI6 k
 unfold eK DN
 rw[AS I,nT hk,sM hr,hR,oV s hz,Bo I,CL r C]
 simp only[qA]
 cases hS:iR s with
 |false=>simp
 |true=>
  cases hK:DX k with
  |false=>simp
  |true=>
   simp only[qB,qD,if_false,if_true]
   by_cases h:iJ (AW k) s.aI6<0
   ·rw[if_neg jC,if_pos h]
    by_cases aa:s.aI6.length<16
    ·rw[if_neg jC,if_pos aa,Kx (l:=s.aI6) (f:=KP k) (L:=rM s k r s) (S:=tPS s k r) I.aI6.1 (λm j J=> ?_) (λm=> ?_)]
     ·show tPS s k r (Ez s.aI6 k)=_
      obtain⟨_,_,_,ha4,ha5⟩:=Ac hS
      have ew:i64.wrap (s.aJa+1)=s.aJa+1:=bN jB jB
      have ei:inR k.N (s.aJa+1) 1000000=(decide (k.N>s.aJa)&&decide (k.N<=1000000)):=by unfold inR;congr 1
      unfold tPS
      rw[Da hp,qA,qH,Gv (by rw[qU];omega) jB,qA,CL r C,qA,dS jU,qA,dS jO,qA,qT,cH,qA,ew,ei]
      unfold P2 JB
      cases (k.aJS==1)<;>cases (decide (k.N>s.aJa)&&decide (k.N<=1000000))<;>rfl
     ·have U:=I.aI6.2 _ (qG J);simp only[rM];rw[if_pos (aW J),aJ J,qA,yE U.Key hk,qA,bF jB];rfl
     ·simp only[rM];rw[if_neg jK];rfl
    ·rw[if_pos jC,if_neg aa]
   ·obtain⟨i,e,hi⟩:=dK h;rw[if_pos (by simpa using h),if_neg h,e,aJ hi,qA,qH];unfold RI;rw[qF hi]
def mE(s:M.aD)(k:M.Key):M.aE:=if iJ (AW k) s.aI6<0 then(⟨([]:List M.Field)⟩:M.aE)else match s.aI6[(iJ (AW k) s.aI6).toNat]? with|some x=>x.aE|none=>(⟨([]:List M.Field)⟩:M.aE)
def N3(s:M.aD)(w:M.bC):M.aD×Bool:=if(KD (mE s w.Key) w.Field w.N).2=true then DN s w.Key (KD (mE s w.Key) w.Field w.N).1 else(s,false)
theorem I7:M.aE.ok (⟨([]:List M.Field)⟩:M.aE):=⟨⟨by simp[maxLen],jD⟩⟩
theorem IY{s:M.aD}{k:M.Key}(j:s.ok):(mE s k).ok:=by unfold mE;split;(exact I7);·split;(rename_i x C;exact(j.aI6.2 x (qz C)).aE);·exact I7
theorem PK(s:M.aD)(k:M.Key):M.aE.sz (mE s k)<=M.aD.sz s:=by
 unfold mE
 split
 ·simp[M.aE.sz,dH]
 ·split
  ·rename_i x j
   have h1:=cN (f:=M.aJN.sz) (qz j)
   have h2:M.aE.sz x.aE<=M.aJN.sz x:=by simp only[M.aJN.sz];omega
   simp only[M.aD.sz]
   omega
  ·simp[M.aE.sz,dH]
theorem Xk{r:M.aE}{a:ByteArray}{n:Int}(C:r.ok)(J:r.aI9.length<=1073741824)(I:a.size<=maxLen)(j:inI n):M.aE.ok (⟨RR r a n⟩:M.aE):=by unfold RR;by_cases h:iJ (sW a) r.aI9<0;(rw[if_pos h];exact Zd _ C J I j);·rw[if_neg h];obtain⟨k,e,hk⟩:=dK h;rw[e,qH,qF hk];exact VX hk C j
theorem OD{r:M.aE}{a:ByteArray}{n:Int}(j:r.ok)(I:r.aI9.length<=1073741824)(C:a.size<=maxLen)(J:inI n):(KD r a n).1.ok:=by unfold KD OA;split;(split;(exact Xk j I C J);·exact j);·exact j
theorem G4{r:M.aE}{a:ByteArray}{n:Int}(h:(KD r a n).2=true):cJ (KD r a n).1=true:=by unfold KD OA at h⊢;by_cases h1:cJ r=true;(rw[if_pos h1]at h⊢;by_cases h2:cJ (⟨RR r a n⟩:M.aE)=true;(rw[if_pos h2];exact h2);·rw[if_neg h2]at h;cases h);·rw[if_neg h1]at h;cases h
theorem HV{r:M.aE}(h:cJ r=true):M.aE.sz r<=100:=by obtain⟨h1,h2⟩:=Ai h;have:=eB (w:=M.Field.sz) (b:=8) (xs:=r.aI9) (λx j=>by have:=(h2 x j).1;simp only[M.Field.sz];omega);simp only[M.aE.sz];omega
theorem sN{s:M.aD}(h:iR s=true):M.aD.sz s<=10000:=by
 obtain⟨h1,h2,h3,_,_⟩:=Ac h
 obtain⟨j,_⟩:=Jt h1
 have hn:s.Name.size<=8:=by unfold oJ inR at h2;simp only[qM,qL]at h2;omega
 have:=eB (w:=M.aJN.sz) (b:=112) (xs:=s.aI6) (λx J=>by obtain⟨k,hk,rfl⟩:=List.mem_iff_getElem.1 J;obtain⟨C,I⟩:=j k _ (qF hk);have U:=GW C;have c2:=HV I;simp only[M.aJN.sz,M.Key.sz];omega)
 simp only[M.aD.sz]
 omega
theorem E7{s:M.aD}{k:M.Key}{r:M.aE}(j:cJ r=true)(h:(DN s k r).2=true):iR (DN s k r).1=true:=by unfold DN at h⊢;by_cases hS:iR s=true;(rw[if_pos hS]at h⊢;by_cases hK:DX k=true;(rw[if_pos hK]at h⊢;by_cases hf:iJ (AW k) s.aI6<0;(rw[if_pos hf]at h⊢;by_cases aa:s.aI6.length<16;(rw[if_pos aa];have:=Vi hS hK j hf _ (Xt (k:=k) hS);simp only[aa,decide_true]at this;exact this);·rw[if_neg aa]at h;cases h);·rw[if_neg hf];obtain⟨i,e,C⟩:=dK hf;simp only[e,qH];rw[WT hS C];exact j);·rw[if_neg hK]at h;cases h);·rw[if_neg hS]at h;cases h
theorem OO{s:M.aD}{k:M.Key}{r:M.aE}(j:s.ok)(J:s.aI6.length<=1073741824)(hk:k.ok)(I:r.ok):(DN s k r).1.ok:=by unfold DN;by_cases hS:iR s=true;(rw[if_pos hS];by_cases hK:DX k=true;(rw[if_pos hK];by_cases hf:iJ (AW k) s.aI6<0;(rw[if_pos hf];split;(exact Wl _ j J hk I (U7 j hk));·exact j);·rw[if_neg hf];obtain⟨i,e,C⟩:=dK hf;simp only[e,qH];unfold RI;rw[qF C];exact aAS C j I);·rw[if_neg hK];exact j);·rw[if_neg hS];exact j
theorem KF{s:M.aD}{k:M.Key}{r:M.aE}(h:(DN s k r).2=false):(DN s k r).1=s:=by unfold DN at h⊢;by_cases hS:iR s=true;(rw[if_pos hS]at h⊢;by_cases hK:DX k=true;(rw[if_pos hK]at h⊢;by_cases hf:iJ (AW k) s.aI6<0;(rw[if_pos hf]at h⊢;by_cases aa:s.aI6.length<16;(rw[if_pos aa]at h;cases h);·rw[if_neg aa]);·rw[if_neg hf]at h;cases h);·rw[if_neg hK]);·rw[if_neg hS]
theorem M1{s:M.aD}{w:M.bC}(h:(N3 s w).2=false):(N3 s w).1=s:=by unfold N3 at h⊢;by_cases h1:(KD (mE s w.Key) w.Field w.N).2=true;(rw[if_pos h1]at h⊢;exact KF h);·rw[if_neg h1]
theorem LR{s:M.aD}{w:M.bC}(C:s.ok)(I:w.ok)(U:M.aD.sz s<=536870912):(N3 s w).1.ok/\M.aD.sz (N3 s w).1<=536870912:=by
 have hl:s.aI6.length<=1073741824:=by simp only[M.aD.sz]at U;omega
 have J:=PK s w.Key
 have j:(mE s w.Key).aI9.length<=1073741824:=by simp only[M.aE.sz]at J;omega
 cases h2:(N3 s w).2 with
 |false=>rw[M1 h2];exact⟨C,U⟩
 |true=>
  unfold N3 at h2⊢
  by_cases h1:(KD (mE s w.Key) w.Field w.N).2=true
  ·rw[if_pos h1]at h2⊢;have:=sN (E7 (G4 h1) h2);exact⟨OO C hl I.Key (OD (IY C) j I.Field I.N),jB⟩
  ·rw[if_neg h1]at h2;cases h2
theorem Cj{s:M.aD}{w:M.bC}(C:s.ok)(j:w.ok)(hz:M.aD.sz s<=1073741824):mF s w=some (N3 s w):=by
 have J:=PK s w.Key
 have I:(mE s w.Key).aI9.length<=1073741824:=by simp only[M.aE.sz]at J;omega
 have tV:=CB (r:=mE s w.Key) (a:=w.Field) (n:=w.N) (IY C) jB j.Field j.N
 have hput:(KD (mE s w.Key) w.Field w.N).2=true->eK s w.Key (KD (mE s w.Key) w.Field w.N).1=some (DN s w.Key (KD (mE s w.Key) w.Field w.N).1):=λh1=>
  AG C j.Key (OD (IY C) I j.Field j.N) (G4 h1) hz (qf (HV (G4 h1)) jB)
 have hfin:((some (KD (mE s w.Key) w.Field w.N)).bind λx9=>if(!x9.2)=true then(cD s).bind λae=>some (ae,false)else(eK s w.Key x9.1).bind λU=>some (U.1,U.2))=some (N3 s w):=by
  rw[qA,oV s hz]
  unfold N3
  cases h1:(KD (mE s w.Key) w.Field w.N).2 with
  |false=>simp
  |true=>
   rw[hput h1]
   simp
 unfold mF
 rw[Bo C,qA]
 by_cases h:iJ (AW w.Key) s.aI6<0
 ·have e:mE s w.Key=(⟨([]:List M.Field)⟩:M.aE):=by unfold mE;rw[if_pos h]
  rw[if_neg jC]
  rw[e]at tV hfin
  rw[tV]
  exact hfin
 ·obtain⟨i,ei,hi⟩:=dK h
  have e:mE s w.Key=s.aI6[i].aE:=by unfold mE;rw[if_neg h,ei,qH,qF hi]
  rw[if_pos (by simpa using h),ei,aJ hi,qA]
  rw[e]at tV hfin
  rw[tV]
  exact hfin
def EL(s:M.aD)(l:List M.bC):M.aD:=l.foldl (λt w=>(N3 t w).1) s
theorem GK{s:M.aD}{l:List M.bC}(U:s.ok)(C:l.length<=maxLen)(J:∀w∈l,M.bC.ok w)(hz:M.aD.sz s<=536870912):zN s l=some (EL s l):=by
 have hm:=le_max C
 unfold zN EL
 rw[oV s jB,qA]
 have:=NQ (xs:=l) (L:=λn k (t:M.aD)=>lC l n k t.Name t.aJa t.aI6) (step:=λt w=>(N3 t w).1) (I:=λ_ t=>t.ok/\M.aD.sz t<=536870912) (E:=some) C
  (λt k hk j=>LR j.1 (J _ (qG hk)) j.2) (λn t k hk j=>by
   simp only[lC]
   rw[if_pos (aW hk),aJ hk,qA,show(⟨t.Name,t.aI6,t.aJa⟩:M.aD)=t from rfl,Cj j.1 (J _ (qG hk)) jB,qA,bF jB]
   cases h2:(N3 t l[k]).2 with
   |true=>rfl
   |false=>rw[M1 h2];rfl) (λn t j=>by
   simp only[lC]
   rw[if_neg jK]) s ⟨U,hz⟩
 exact this.1
theorem FJ:∀(j n:Nat),n<2^(7*(j+1))->(uv n).length<=j+1
 |0,n,h=>by rw[Lg (by simpa using h)];simp
 |j+1,n,h=>by
  by_cases h1:n<128
  ·rw[Lg h1];simp
  ·rw[RF h1,qJ]
   have e:2^(7*(j+1+1))=2^(7*(j+1))*128:=by rw[show 7*(j+1+1)=7*(j+1)+7 from by omega,Nat.pow_add]
   have:=FJ j (n/128) (by rw[e]at h;omega)
   omega
theorem JY{n:Nat}(h:n<=1000000000000):(uv n).length<=6:=FJ 5 n (Nat.lt_of_le_of_lt h jE)
theorem Tr(n:Nat):1<=(uv n).length:=by by_cases h:n<128;(rw[Lg h];simp);·rw[RF h];simp
theorem H6:∀(n:Nat) (x:Int),x∈uv n->0<=x/\x<=255:=by
 intro n
 induction n using Nat.strongRecOn with
 |_ n C=>
  intro x j
  by_cases h:n<128
  ·rw[Lg h,qQ]at j;subst j;omega
  ·rw[RF h,qo]at j;rcases j with rfl|j;(omega);·exact C (n/128) jB x j
def Wt(b:List Int)(a:Nat):Nat->Nat->Nat->Int×Int×Bool
 |0,_,_=>(0,0,false)
 |j+1,k,n=>match b[a+k]? with
  |none=>(0,0,false)
  |some x=>if x.toNat<128 then if(decide (x.toNat=0)&&decide (0<k))||decide (1000000000000<n+x.toNat%128*2^(7*k))then(0,0,false)else(((n+x.toNat%128*2^(7*k):Nat):Int),((a+k+1:Nat):Int),true)else Wt b a j (k+1) (n+x.toNat%128*2^(7*k))
def nUv(b:List Int)(p:Int):Int×Int×Bool:=if p<0 then(0,0,false)else Wt b p.toNat 6 0 0
theorem QJ{k:Nat}(h:k<6):2^(7*k)<=34359738368:=Nat.pow_le_pow_right (n:=2) jE (show 7*k<=35 by omega)
theorem aAt{k n x:Nat}(j:n<2^(7*k)):n+x%128*2^(7*k)<2^(7*(k+1)):=by
 have e:2^(7*(k+1))=2^(7*k)*128:=by rw[show 7*(k+1)=7*k+7 from by omega,Nat.pow_add]
 have h1:x%128<=127:=by omega
 have h2:x%128*2^(7*k)<=127*2^(7*k):=qh _ h1
 rw[e]
 omega
theorem Zj{n x k:Nat}(h:n<2^k):n|||x*2^k=n+x*2^k:=by have:=Nat.two_pow_add_eq_or_of_lt h x;rw[Nat.mul_comm x,Nat.or_comm,<-this,Nat.add_comm]
theorem Xi{k x:Nat}(hk:k<6):i64.wrap (((x%128:Nat):Int)*2^(min (i64.wrap (7*(k:Int))).toNat IntKind.i64.bits))=((x%128*2^(7*k):Nat):Int):=by
 have j:=QJ hk
 have h1:x%128<=127:=by omega
 have h2:x%128*2^(7*k)<=127*2^(7*k):=qh _ h1
 have e:min (i64.wrap (7*(k:Int))).toNat IntKind.i64.bits=7*k:=by rw[bN jB jB,show IntKind.i64.bits=64 from rfl];omega
 rw[e,show(((x%128:Nat):Int)*2^(7*k))=((x%128*2^(7*k):Nat):Int)from by rw[Int.natCast_mul,Int.natCast_pow];rfl]
 exact bN jB jB
theorem uvS{n k x:Nat}(hk:k<6)(I:x<=255)(j:n<2^(7*k)):(i64.wrap (BitVec.ofInt (IntKind.i64.bits) (n:Int)|||BitVec.ofInt (IntKind.i64.bits) (i64.wrap ((i64.wrap (BitVec.ofInt (IntKind.i64.bits) (i64.wrap (x:Int))&&&BitVec.ofInt (IntKind.i64.bits) 127).toNat)*2^(min (i64.wrap (7*(k:Int))).toNat IntKind.i64.bits)))).toNat)=((n+x%128*2^(7*k):Nat):Int):=by
 have C:=QJ hk
 have h1:x%128<=127:=by omega
 have h2:x%128*2^(7*k)<=127*2^(7*k):=qh _ h1
 have e:=LH (n:=x) (m:=127) jB jB
 rw[Zf]at e
 rw[bN (n:=(x:Int)) jB jB,show((127:Int))=((127:Nat):Int)from rfl,e,Xi hk,Rh jB jB,Zj j]
theorem aAL{b:List Int}(hb:okB b){k:Nat}(h:k<b.length):∃x:Nat,b[k]=(x:Int)/\x<=255:=by have:=hb.2 _ (qG h);exact⟨b[k].toNat,jB,jB⟩
theorem rdS{b:List Int}(hb:okB b)(J:b.length<=1048576)(a:Nat)(I:(a:Int)<=9223372036854775807):∀(j k n m:Nat),j+k=6->n<2^(7*k)->j<m->eG b (a:Int) m (n:Int) (k:Int)=some (Wt b a j k n)
 |_,_,_,0,_,_,h=>by omega
 |0,k,n,m+1,hk,_,_=>by simp only[eG];rw[if_neg jC];rfl
 |j+1,k,n,m+1,hk,C,hm=>by
  have h6:k<6:=by omega
  simp only[eG]
  rw[if_pos jC,if_neg jD,bN (n:=(b.length:Int)-(k:Int)) jB jB]
  by_cases hlt:a+k<b.length
  ·obtain⟨x,ex,U⟩:=aAL hb hlt;rw[if_neg jC,show((a:Int)+(k:Int))=((a+k:Nat):Int)from by omega,bN (n:=((a+k:Nat):Int)) jB jB,aJ hlt,qA,ex,bF jB,bF jB,if_pos (by rw[bN jB jB];simp;omega)];rw[uvS h6 U C,bN (n:=(x:Int)) jB jB];unfold Wt;rw[qF hlt,ex];dsimp only;rw[qH];have ih:=rdS hb J a I j (k+1) (n+x%128*2^(7*k)) m jB (aAt C) jB;by_cases h1:x<128;(rw[if_pos jC,if_pos h1];by_cases h2:x=0;(rw[if_pos (by simp[h2])];by_cases h3:0<k;(rw[if_pos jC,if_pos (by simp[h2,h3])]);·rw[if_neg jC];by_cases h4:1000000000000<n+x%128*2^(7*k);(rw[if_pos (by rw[qL];omega),if_pos (by rw[Bool.or_eq_true,qL];exact .inr h4)]);·rw[if_neg (by rw[qL];omega),if_neg (by rw[Bool.or_eq_true,qM,qL,qL,qL];omega)]);·rw[if_neg jC];by_cases h4:1000000000000<n+x%128*2^(7*k);(rw[if_pos (by rw[qL];omega),if_pos (by rw[Bool.or_eq_true,qL];exact .inr h4)]);·rw[if_neg (by rw[qL];omega),if_neg (by rw[Bool.or_eq_true,qM,qL,qL,qL];omega)]);·rw[if_neg jC,if_neg h1];exact ih
  ·rw[if_pos jC];unfold Wt;rw[qY jB]
theorem tB{b:List Int}{p:Int}(hb:okB b)(j:b.length<=1048576)(C:inI p):fQ b p=some (nUv b p):=by
 unfold fQ nUv
 by_cases h:p<0
 ·have e:∀m,eG b p (m+1) 0 0=some (0,0,false):=λm=>by
   simp only[eG]
   rw[if_pos jE,if_pos (by simpa using h)]
  rw[if_pos h]
  exact e 18446744073709551615
 ·rw[if_neg h];obtain⟨a,rfl⟩:=Int.eq_ofNat_of_zero_le (show 0<=p by omega);exact rdS hb j a C.2 6 0 0 fuel rfl jE jI
theorem UO(b:List Int)(a:Nat):∀(j k n:Nat),(Wt b a j k n).2.2=false->Wt b a j k n=(0,0,false)
 |0,_,_,_=>rfl
 |j+1,k,n,h=>by
  unfold Wt at h⊢
  cases e:b[a+k]? with
  |none=>rfl
  |some x=>
   rw[e]at h
   dsimp only at h⊢
   split at h
   ·split at h;(rename_i h1 h2;rw[if_pos h1,if_pos h2]);·cases h
   ·rename_i h1;rw[if_neg h1];exact UO b a j (k+1) _ h
theorem aBX{b:List Int}{p:Int}(h:(nUv b p).2.2=false):nUv b p=(0,0,false):=by unfold nUv at h⊢;split;(rfl);·rename_i h1;rw[if_neg h1]at h;exact UO b _ 6 0 0 h
theorem SO{b:List Int}(hb:okB b)(a:Nat):∀(j k n:Nat) (v q:Int),Wt b a j k n=(v,q,true)->∃m e:Nat,v=((n+m*2^(7*k):Nat):Int)/\q=(e:Int)/\n+m*2^(7*k)<=1000000000000/\e<=b.length/\a+k+(uv m).length=e/\b.drop (a+k)=uv m++b.drop e/\(k=0\/0<m)
 |0,_,_,_,_,h=>by cases h
 |j+1,k,n,v,q,h=>by
  unfold Wt at h
  by_cases hlt:a+k<b.length
  ·obtain⟨x,ex,hx⟩:=aAL hb hlt
   have C:b.drop (a+k)=(x:Int)::b.drop (a+k+1):=by rw[qW hlt,ex]
   rw[qF hlt,ex]at h
   dsimp only at h
   rw[qH]at h
   by_cases h1:x<128
   ·rw[if_pos h1,Nat.mod_eq_of_lt h1]at h;split at h;(cases h);·rename_i h2;rw[Bool.or_eq_true,qM,qL,qL,qL]at h2;simp only[qa]at h;refine⟨x,a+k+1,h.1.symm,h.2.1.symm,jB,jB,by rw[Lg h1];rfl,by rw[Lg h1];exact C,jB⟩
   ·rw[if_neg h1]at h
    obtain⟨m,e,e1,e2,e3,e4,e5,e6,e7⟩:=SO hb a j (k+1) _ v q h
    have U:0<m:=by omega
    have J:2^(7*(k+1))=128*2^(7*k):=by rw[show 7*(k+1)=7+7*k from by omega,Nat.pow_add]
    have e8:n+x%128*2^(7*k)+m*2^(7*(k+1))=n+(m*128+x%128)*2^(7*k):=by rw[J,<-Nat.mul_assoc,Nat.add_assoc,<-Nat.add_mul,Nat.add_comm (x%128)]
    have I:uv (m*128+x%128)=(x:Int)::uv m:=by rw[RF jB,show(m*128+x%128)/128=m from by omega,show(m*128+x%128)%128+128=x from by omega]
    rw[e8]at e1 e3
    refine⟨m*128+x%128,e,e1,e2,e3,e4,by rw[I,qJ];omega,by rw[I,C,List.cons_append];exact congrArg _ e6,.inr jB⟩
  ·rw[qY jB]at h;cases h
theorem RA{b:List Int}{p v q:Int}(hb:okB b)(h:nUv b p=(v,q,true)):∃a m e:Nat,p=(a:Int)/\v=(m:Int)/\q=(e:Int)/\m<=1000000000000/\e<=b.length/\a+(uv m).length=e/\b.drop a=uv m++b.drop e:=by unfold nUv at h;split at h;(cases h);·obtain⟨m,e,e1,e2,e3,e4,e5,e6,_⟩:=SO hb p.toNat 6 0 0 v q h;simp only[Nat.mul_zero,Nat.pow_zero,Nat.mul_one,qn,Nat.add_zero]at e1 e3 e5 e6;exact⟨p.toNat,m,e,jB,e1,e2,e3,e4,e5,e6⟩
def nRb(b:List Int)(p c:Int):List Int×Int×Bool:=if(nUv b p).2.2=true then if(nUv b p).1>c then(([]:List Int),0,false)else if(nUv b p).1>(b.length:Int)-(nUv b p).2.1 then(([]:List Int),0,false)else((b.drop (nUv b p).2.1.toNat).take (nUv b p).1.toNat,(nUv b p).2.1+(nUv b p).1,true)else(([]:List Int),0,false)
theorem Yj{b:List Int}(h:okB b)(i j:Nat):okB ((b.drop i).take j):=⟨qf (by rw[qU,qV];omega) h.1,λx C=>h.2 x (qt (qi C))⟩
theorem wP{b:List Int}{p c:Int}(hb:okB b)(C:b.length<=1048576)(I:inI p):eF b p c=some (nRb b p c):=by
 unfold eF nRb
 rw[tB hb C I,qA]
 cases h:(nUv b p).2.2 with
 |false=>rfl
 |true=>
  obtain⟨a,m,e,e1,e2,e3,e4,e5,e6,e7⟩:=RA hb (show nUv b p=((nUv b p).1,(nUv b p).2.1,true)from by rw[<-h])
  rw[e2,e3]
  simp only[qB,qD,if_false,if_true]
  by_cases h1:(m:Int)>c
  ·rw[if_pos (by simpa using h1),if_pos h1]
  ·rw[if_neg (by simpa using h1),if_neg h1,bN (n:=(b.length:Int)-(e:Int)) jB jB]
   by_cases h2:(m:Int)>(b.length:Int)-(e:Int)
   ·rw[if_pos (by simpa using h2),if_pos h2]
   ·rw[if_neg (by simpa using h2),if_neg h2,bN (n:=(e:Int)+(m:Int)) jB jB]
    have J:∀(α:Type) (xs:List α),xs.length=b.length->VS xs (e:Int) ((e:Int)+(m:Int))=some ((xs.take ((e:Int)+(m:Int)).toNat).drop (e:Int).toNat):=λα xs U=>by unfold VS;rw[if_pos ⟨jB,jB,jB⟩]
    have j:List.drop (e:Int).toNat (List.take ((e:Int)+(m:Int)).toNat b)=List.take m (List.drop e b):=by rw[qH,show((e:Int)+(m:Int)).toNat=e+m from by omega,List.drop_take];congr 1;omega
    rw[J _ b rfl,qA,j,qH,qH]
    have hk:(List.take m (List.drop e b)).length<=1048576:=by rw[qU,qV];omega
    rw[Gv jB jB,qA]
theorem aBj{b:List Int}{p c:Int}(h:(nRb b p c).2.2=false):nRb b p c=(([]:List Int),0,false):=by unfold nRb at h⊢;split;(rename_i h1;rw[if_pos h1]at h;split;(rfl);·rename_i h2;rw[if_neg h2]at h;split;(rfl);·rename_i h3;rw[if_neg h3]at h;cases h);·rfl
theorem aAA{b s:List Int}{p c q:Int}(hb:okB b)(h:nRb b p c=(s,q,true)):∃a e:Nat,p=(a:Int)/\q=(e:Int)/\(s.length:Int)<=c/\e<=b.length/\s.length<=1000000000000/\a+(uv s.length).length+s.length=e/\b.drop a=uv s.length++(s++b.drop e)/\okB s:=by
 unfold nRb at h
 split at h
 ·rename_i C
  obtain⟨a,m,e,e1,e2,e3,e4,e5,e6,e7⟩:=RA hb (show nUv b p=((nUv b p).1,(nUv b p).2.1,true)from by rw[<-C])
  rw[e2,e3]at h
  split at h
  ·cases h
  ·split at h
   ·cases h
   ·rename_i h1 h2
    simp only[qa,qH]at h
    have j:s.length=m:=by rw[<-h.1,qU,qV];omega
    refine⟨a,e+m,e1,jB,jB,jB,jB,by rw[j];omega,?_,by rw[<-h.1];exact Yj hb _ _⟩
    rw[j,e7,<-h.1,<-List.drop_drop,qm]
 ·cases h
theorem D4(s:ByteArray):∀x∈bT s,0<=x/\x<=255:=by intro x j;unfold bT at j;obtain⟨b,_,rfl⟩:=qv.1 j;have:=b.toNat_lt;omega
theorem J9{l:List Int}(h:∀x∈l,0<=x/\x<=255):bT (dO l)=l:=by unfold bT dO;simp only[List.map_map];refine(List.map_congr_left λx j=> ?_).trans (List.map_id l);have:=h x j;simp only[Function.comp_apply,UInt8.toNat_ofNat',id_eq];omega
theorem D5(l:List Int):(dO l).size=l.length:=by unfold dO;show(l.map _).toArray.size=_;simp
theorem WB{L:Nat->Int->List Int->Option (List Int)}{b c:Int->Int}
  (h1:∀m (n:Nat) r,¬n<128->n<2^63->L (m+1) (n:Int) r=(app 1 r [b n]).bind λ_=>L m ((n/128:Nat):Int) (r++[b n]))
  (h2:∀m (n:Nat) r,n<128->L (m+1) (n:Int) r=(app 1 r [c n]).bind λ_=>some (r++[c n]))
  (hb:∀n:Nat,n<2^63->b n=((n%128+128:Nat):Int))(hc:∀n:Nat,n<128->c n=(n:Int)):
  ∀(j m n:Nat) (r:List Int),n<2^(7*(j+1))->n<2^63->j<m->r.length+(j+1)<=140737488355328->L m (n:Int) r=some (r++uv n)
 |j,0,n,r,_,_,I,_=>by omega
 |0,m+1,n,r,J,C,I,hr=>by
  have h:n<128:=by simpa using J
  rw[h2 m n r h,dS jC,qA,hc n h,Lg h]
 |j+1,m+1,n,r,J,C,I,hr=>by
  by_cases h:n<128
  ·rw[h2 m n r h,dS jC,qA,hc n h,Lg h]
  ·have U:n/128<2^(7*(j+1)):=by
    rw[Nat.div_lt_iff_lt_mul jB]
    have e:2^(7*(j+1+1))=2^(7*(j+1))*128:=by rw[show 7*(j+1+1)=7*(j+1)+7 by omega,Nat.pow_add]
    omega
   rw[h1 m n r h C,dS jC,qA,WB h1 h2 hb hc j m (n/128) (r++[b n]) U jB jB jC,hb n C,RF h,qT]
   rfl
theorem u8n{n:Nat}(h:n<128):IntKind.u8.wrap (n:Int)=(n:Int):=by rw[wrap_u8];omega
theorem u8S{n:Nat}(h:n<2^63):IntKind.u8.wrap (i64.wrap (BitVec.ofInt (IntKind.i64.bits) (i64.wrap (BitVec.ofInt (IntKind.i64.bits) (n:Int)&&&BitVec.ofInt (IntKind.i64.bits) 127).toNat)|||BitVec.ofInt (IntKind.i64.bits) 128).toNat)=((n%128+128:Nat):Int):=by
 have h1:n%128<=127:=by omega
 have e:=LH (n:=n) (m:=127) jB jB
 rw[Zf]at e
 have e2:=Rh (n:=n%128) (m:=128) jB jB
 rw[aDM jB]at e2
 rw[show((127:Int))=((127:Nat):Int)from rfl,e,show((128:Int))=((128:Nat):Int)from rfl,e2,wrap_u8]
 omega
theorem pA{r:List Int}{n:Nat}(I:r.length<=16777216)(C:n<=1000000000000):bU r (n:Int)=some (r++uv n):=by
 have j:inR (n:Int) 0 1000000000000=true:=by unfold inR;simp;omega
 unfold bU
 rw[dS jC,qA,cH,qA,j,if_neg jD]
 refine WB (L:=cY) (b:=λv=>IntKind.u8.wrap (i64.wrap (BitVec.ofInt (IntKind.i64.bits) (i64.wrap (BitVec.ofInt (IntKind.i64.bits) v&&&BitVec.ofInt (IntKind.i64.bits) 127).toNat)|||BitVec.ofInt (IntKind.i64.bits) 128).toNat)) (c:=λv=>IntKind.u8.wrap v) (λm n r h1 h2=> ?_) (λm n r h1=> ?_) (λn h=>u8S h) (λn h=>u8n h) 8 fuel n r jB jB jI jB
 ·simp only[cY];rw[if_pos jC,uvf]
 ·simp only[cY];rw[if_neg jC]
def Nr(b:List Int):List Int:=uv b.length++b
theorem tA{r b:List Int}(j:r.length<=8388608)(hb:b.length<=1000000):bS r b=some (r++Nr b):=by have h9:=JY (n:=b.length) jB;unfold bS Nr;rw[pA jB jB,qA,dS (by rw[qE];omega),qA,qT]
def PC{α:Type}(f:α->List Int):List α->List Int
 |[]=>[]
 |x::l=>f x++PC f l
theorem Ph{α:Type}{f:α->List Int}{c:Nat}:∀{l:List α},(∀x∈l,(f x).length<=c)->(PC f l).length<=l.length*c
 |[],_=>by simp[PC]
 |x::l,h=>by have h1:=h x jD;have h2:=Ph (l:=l) (λy j=>h y (by simp[j]));simp only[PC,qE,qJ,Nat.succ_mul];omega
theorem WZ{α:Type}{R:Type}{xs:List α}{f:α->List Int}{c B:Nat}{L:Nat->Int->List Int->Option R}{E:List Int->Option R}(hc:∀x∈xs,(f x).length<=c)
  (h1:∀n (k:Nat) (hk:k<xs.length) q,q.length<=B->L (n+1) (k:Int) q=L n ((k+1:Nat):Int) (q++f xs[k]))
  (h2:∀n q,q.length<=B->L (n+1) (xs.length:Int) q=E q):
  ∀(n k:Nat) (q:List Int),xs.length-k<n->k<=xs.length->q.length+(xs.length-k)*c<=B->L n (k:Int) q=E (q++PC f (xs.drop k))
 |0,_,_,h,_,_=>by omega
 |n+1,k,q,h,hk,j=>by
  rcases Nat.lt_or_ge k xs.length with hlt|hge
  ·have C:=hc _ (qG hlt)
   have e:(xs.length-k)*c=(xs.length-(k+1))*c+c:=by rw[<-Nat.succ_mul];congr 1;omega
   rw[h1 n k hlt q jB,WZ hc h1 h2 n (k+1) (q++f xs[k]) jB jB (by rw[qE];omega),qW hlt,PC,qT]
  ·have e:k=xs.length:=by omega
   subst e
   rw[h2 n q jB,qZ,PC,qX]
def enF(x:M.Field):List Int:=Nr (bT x.Name)++uv x.N.toNat
def enR(r:M.aE):List Int:=if cJ r=true then uv r.aI9.length++PC enF r.aI9 else[]
theorem Vk{x:M.Field}(h:x.Name.size<=8/\0<=x.N/\x.N<=1000000000):(enF x).length<=14:=by have h1:=FJ 0 x.Name.size jB;have h2:=FJ 4 x.N.toNat jB;have h3:=aO x.Name;unfold enF Nr;simp only[qE,h3];omega
theorem OK(r:M.aE):(enR r).length<=85:=by unfold enR;split;(rename_i h;obtain⟨h6,j⟩:=Ai h;have h1:=FJ 0 r.aI9.length jB;have h2:=Ph (f:=enF) (λx C=>Vk (j x C));rw[qE];have:r.aI9.length*14<=6*14:=qh _ h6;omega);·simp
theorem Ih{r:M.aE}(I:r.ok):gN r=some (enR r):=by
 unfold gN enR
 rw[sM I,qA]
 by_cases h:cJ r=true
 ·obtain⟨h6,C⟩:=Ai h
  have h1:=FJ 0 r.aI9.length jB
  rw[if_neg (by simp[h]),if_pos h,pA jD jB,qA,List.nil_append]
  have:=WZ (xs:=r.aI9) (f:=enF) (c:=14) (B:=1000) (L:=dB r) (E:=some) (λx j=>Vk (C x j)) (λn k hk q U=> ?_) (λn q _=> ?_) fuel 0 (uv r.aI9.length) jI jB jB
  ·rw[List.drop_zero]at this;exact this
  ·have j:=C _ (qG hk)
   simp only[dB]
   have h9:=JY (n:=r.aI9[k].Name.size) jB
   have J:=aO r.aI9[k].Name
   have hb:(Nr (bT r.aI9[k].Name)).length<=14:=by unfold Nr;rw[qE,J];omega
   have e:=pA (r:=q++Nr (bT r.aI9[k].Name)) (n:=r.aI9[k].N.toNat) (by rw[qE];omega) jB
   rw[Int.toNat_of_nonneg j.2.1]at e
   rw[if_pos (aW hk),aJ hk,qA,tA jB jB,qA,e,qA,bF jB,qT]
   rfl
  ·simp only[dB];rw[if_neg jK]
 ·rw[if_pos (by simp[h]),if_neg h]
def be6(v:Nat):List Int:=[((v/2^40%256:Nat):Int),((v/2^32%256:Nat):Int),((v/2^24%256:Nat):Int),((v/2^16%256:Nat):Int),((v/2^8%256:Nat):Int),((v%256:Nat):Int)]
def enK(k:M.Key):List Int:=if DX k=true then k.aJS::((if k.aJS==2 then[]else be6 (k.N+1000000000000).toNat)++bT k.aJb)else[]
theorem QQ{k:M.Key}(h:DX k=true):1<=k.aJS/\k.aJS<=3/\ -1000000000000<=k.N/\k.N<=1000000000000:=by unfold DX inR at h;simp only[qM,qL]at h;omega
theorem OQ(k:M.Key):(enK k).length<=19:=by unfold enK;split;(rename_i h;have:=GW h;have:=aO k.aJb;split<;>simp[be6]<;>omega);·simp
theorem aIZ{k:M.Key}(v:Nat)(C:v<=5)(h: -1000000000000<=k.N/\k.N<=1000000000000):Int.fdiv (i64.wrap (k.N+1000000000000)) (2^(min (i64.wrap (8*(v:Int))).toNat IntKind.i64.bits))=(((k.N+1000000000000).toNat/2^(8*v):Nat):Int):=by
 have e:min (i64.wrap (8*(v:Int))).toNat IntKind.i64.bits=8*v:=by rw[bN jB jB,show IntKind.i64.bits=64 from rfl];omega
 rw[e,bN jB jB]
 obtain⟨n,j⟩:=Int.eq_ofNat_of_zero_le (show 0<=k.N+1000000000000 by omega)
 rw[j,qH,Int.fdiv_eq_ediv_of_nonneg _ (by exact Int.le_of_lt (Int.pow_pos jE)),Int.natCast_ediv,Int.natCast_pow]
 rfl
theorem byS{k:M.Key}(v:Nat)(j:v<=5)(h: -1000000000000<=k.N/\k.N<=1000000000000):(IntKind.u8.wrap (i64.wrap (BitVec.ofInt (IntKind.i64.bits) (Int.fdiv (i64.wrap (k.N+1000000000000)) (2^(min (i64.wrap (8*(v:Int))).toNat IntKind.i64.bits)))&&&BitVec.ofInt (IntKind.i64.bits) 255).toNat))=(((k.N+1000000000000).toNat/2^(8*v)%256:Nat):Int):=by have h1:(k.N+1000000000000).toNat/2^(8*v)<=(k.N+1000000000000).toNat:=Nat.div_le_self _ _;have e:=LH (n:=(k.N+1000000000000).toNat/2^(8*v)) (m:=255) jB jB;rw[Y4]at e;rw[aIZ v j h,show((255:Int))=((255:Nat):Int)from rfl,e,wrap_u8];omega
theorem Lu{k:M.Key}(hk:k.ok):lY k=some (enK k):=by
 unfold lY enK
 rw[nT hk,qA]
 by_cases h:DX k=true
 ·have ht:=GW h
  have hb:=QQ h
  have U:=aO k.aJb
  have J:IntKind.u8.wrap k.aJS=k.aJS:=by rw[wrap_u8];omega
  rw[if_neg (by simp[h]),if_pos h,VU,J]
  by_cases h2:(k.aJS==2)=true
  ·have h3:¬(k.aJS !=2)=true:=by simp[bne,h2]
   rw[if_pos h2]
   have C:∀n r,r.length<=7->bH k (n+1) 5 r=some (r++bT k.aJb):=by intro n r j;simp only[bH];rw[if_pos jE,if_neg h3,dS jB,qA]
   exact C (18446744073709551609+6) _ jD
  ·have h3:(k.aJS !=2)=true:=by simp[bne,h2]
   rw[if_neg h2]
   have st:∀n (v:Nat) r,r.length<=7->v<=5->bH k (n+1) (v:Int) r=bH k n ((v:Int)-1) (r++[(((k.N+1000000000000).toNat/2^(8*v)%256:Nat):Int)]):=by intro n v r j I;simp only[bH];rw[if_pos jD,if_pos h3,if_pos (by rw[bN jB jB];simp;omega),dS jC,qA,bN (n:=(v:Int)-1) jB jB,byS v I hb.2.2]
   have e7:∀n r,r.length<=7->bH k (n+1) (-1) r=some (r++bT k.aJb):=by intro n r j;simp only[bH];rw[if_neg jE,dS jB,qA]
   refine(st (18446744073709551609+6) 5 _ jD jD).trans ((st (18446744073709551609+5) 4 _ jD jD).trans ((st (18446744073709551609+4) 3 _ jD jD).trans ((st (18446744073709551609+3) 2 _ jD jD).trans ((st (18446744073709551609+2) 1 _ jD jD).trans ((st (18446744073709551609+1) 0 _ jD jD).trans ((e7 _ _ jD).trans ?_))))))
   simp[be6]
 ·rw[if_pos (by simp[h]),if_neg h]
theorem WC:∀{a b:List Int},eqL Cx a b=true↔a=b
 |[],[]=>by simp[eqL]
 |[],_::_=>by simp[eqL]
 |_::_,[]=>by simp[eqL]
 |x::j,y::C=>by have:=WC (a:=j) (b:=C);simp only[eqL,qM,this,List.cons.injEq,Cx,beq_iff_eq]
theorem FN{b:List Int}(h:∀x∈b,0<=x/\x<=255):∀x∈Nr b,0<=x/\x<=255:=λx j=>by unfold Nr at j;rcases qP.1 j with j|j;(exact H6 _ x j);·exact h x j
theorem Po{α:Type}{f:α->List Int}:∀{l:List α},(∀x∈l,∀y∈f x,0<=y/\y<=255)->∀y∈PC f l,0<=y/\y<=255
 |[],_,_,j=>by simp[PC]at j
 |x::l,h,y,j=>by rcases qP.1 (show y∈f x++PC f l from j)with j|j;(exact h x jD y j);·exact Po (l:=l) (λz C=>h z (by simp[C])) y j
theorem XI(x:M.Field):∀y∈enF x,0<=y/\y<=255:=λy j=>by unfold enF at j;rcases qP.1 j with j|j;(exact FN (D4 _) y j);·exact H6 _ y j
theorem aBl(r:M.aE):okB (enR r):=⟨qf (OK r) jJ,λy j=>by unfold enR at j;split at j;(rcases qP.1 j with j|j;(exact H6 _ y j);·exact Po (λx _=>XI x) y j);·simp at j⟩
theorem aBe(k:M.Key):okB (enK k):=⟨qf (OQ k) jJ,λy j=>by unfold enK at j;split at j;(rename_i h;have hk:=QQ h;rcases qo.1 j with rfl|j;(omega);·rcases qP.1 j with j|j;(split at j;(simp at j);·simp only[be6,qo,qO,or_false]at j;omega);·exact D4 _ y j);·simp at j⟩
def V2:M.Key:=(⟨0,0,(⟨#[]⟩:ByteArray)⟩:M.Key)
def mkK(c n:Int)(t:List Int):M.Key×Bool:=if DX (⟨c,n,dO t⟩:M.Key)=true then((⟨c,n,dO t⟩:M.Key),true)else(V2,false)
def aA8(v x:Int):Int:=v*256+x
def Vh:List Int->M.Key×Bool
 |[]=>(V2,false)
 |c::t=>if c=2 then mkK c 0 t else if t.length<6 then(V2,false)else mkK c ((t.take 6).foldl aA8 0-1000000000000) (t.drop 6)
theorem aCp{t:List Int}(j:∀x∈t,0<=x/\x<=255):∀(v:Nat) (n:Nat),(v:Int)<2^n->∃w:Nat,t.foldl aA8 (v:Int)=(w:Int)/\(w:Int)<2^(n+8*t.length):=by
 induction t with
 |nil=>exact λv n h=>⟨v,rfl,by simpa using h⟩
 |cons x t J=>
  intro v n h
  have U:=j x jD
  obtain⟨w,e,C⟩:=J (λy I=>j y (by simp[I])) (v*256+x.toNat) (n+8) (by rw[Int.pow_add];omega)
  refine⟨w,?_,by rw[qJ,show n+8*(t.length+1)=n+8+8*t.length from by omega];exact C⟩
  rw[List.foldl_cons,<-e]
  congr 1
  unfold aA8
  omega
theorem SA{c n:Int}{t:List Int}(hc:0<=c/\c<=255)(C: -1000000000000<=n/\n<=1000000000000000)(j:t.length<=maxLen):M.Key.ok (⟨c,n,dO t⟩:M.Key):=⟨by show inI c;unfold inI;omega,by show inI n;unfold inI;omega,by show(dO t).size<=_;rw[D5];exact j⟩
theorem aH9{v:Nat}(h:v<2^48):i64.wrap ((v:Int)*2^(min (8:Int).toNat IntKind.i64.bits))=((v*256:Nat):Int):=by rw[show min (8:Int).toNat IntKind.i64.bits=8 from rfl,show((v:Int)*2^8)=((v*256:Nat):Int)from by omega];exact bN jB jB
theorem stS{v x:Nat}(h:v<2^48)(j:x<=255):(i64.wrap (BitVec.ofInt (IntKind.i64.bits) (i64.wrap ((v:Int)*2^(min (8:Int).toNat IntKind.i64.bits)))|||BitVec.ofInt (IntKind.i64.bits) (i64.wrap (x:Int))).toNat)=((v*256+x:Nat):Int):=by have e:=Zj (n:=x) (x:=v) (k:=8) jB;rw[aH9 h,bN (n:=(x:Int)) jB jB,Rh jB jB,Nat.or_comm,show(256:Nat)=2^8 from rfl,e];omega
theorem dkS{b:List Int}{c:Int}(hb:okB b)(hl:b.length<=1048576)(hc:0<=c/\c<=255)(h7:7<=b.length):∀(j k v m:Nat),k+j=7->v<2^(8*(k-1))->1<=k->j<m->mL b c m (v:Int) (k:Int)=some (mkK c (((b.drop k).take j).foldl aA8 (v:Int)-1000000000000) (b.drop 7))
 |_,_,_,0,_,_,_,h=>by omega
 |0,k,v,m+1,hk,I,h1,_=>by
  obtain rfl:k=7:=by omega
  simp only[mL]
  have hd:okB (b.drop 7):=⟨qf (by rw[qV];omega) hb.1,λx U=>hb.2 x (qt U)⟩
  have J:(v:Int)<281474976710656:=by have:v<2^48:=I;omega
  have ok:=SA (n:=(v:Int)-1000000000000) hc jB hd.1
  rw[if_neg jE,show Dg b 7=some (b.drop (7:Int).toNat)from by unfold Dg;rw[if_pos ⟨jE,by simpa using h7⟩],qA,show(7:Int).toNat=7 from rfl,F6 hd.2,qA,bN (n:=c) jB jB,bN (n:=(v:Int)-1000000000000) jB jB,nT ok,qA,List.take_zero,List.foldl_nil]
  unfold mkK
  cases DX (⟨c,(v:Int)-1000000000000,dO (b.drop 7)⟩:M.Key)<;>rfl
 |j+1,k,v,m+1,hk,I,h1,hm=>by
  have C:k<b.length:=by omega
  obtain⟨x,ex,U⟩:=aAL hb C
  have J:v<2^40:=qu I (Nat.pow_le_pow_right jE jB)
  have e8:2^(8*(k+1-1))=2^(8*(k-1))*256:=by rw[show 8*(k+1-1)=8*(k-1)+8 from by omega,Nat.pow_add]
  simp only[mL]
  rw[if_pos jC,aJ C,qA,ex,stS jB U,bF jB,dkS hb hl hc h7 j (k+1) (v*256+x) m jB (by rw[e8];omega) jB jB,qW C,ex,List.take_succ_cons,List.foldl_cons]
  congr 4
theorem Lp{b:List Int}(hb:okB b)(C:b.length<=1048576):wR b=some (Vh b):=by
 unfold wR
 cases b with
 |nil=>rfl
 |cons c t=>
  have hc:=hb.2 c jD
  have J:∀x∈t,0<=x/\x<=255:=λx U=>hb.2 x (by simp[U])
  have j:t.length<=maxLen:=by have:=hb.1;rw[qJ]at this;omega
  have I:t.length+1<=1048576:=C
  rw[if_neg jC,show idx (c::t) 0=some c from rfl,qA,bN (n:=c) jB jB]
  unfold Vh
  show _=some (if c=2 then mkK c 0 t else if t.length<6 then(V2,false)else mkK c ((t.take 6).foldl aA8 0-1000000000000) (t.drop 6))
  by_cases h2:c=2
  ·subst h2;rw[if_neg jE,if_pos rfl,show Dg (2::t) 1=some t from by unfold Dg;rw[if_pos ⟨jE,jD⟩];rfl,qA,show List.drop (1:Int).toNat ((2:Int)::t)=t from rfl,F6 J,qA,nT (SA jB jB j),qA];unfold mkK;cases DX (⟨2,0,dO t⟩:M.Key)<;>rfl
  ·rw[if_pos (by simpa using h2),if_neg h2];by_cases h6:t.length<6;(rw[if_pos jC,if_pos h6];rfl);·rw[if_neg jC,if_neg h6];exact dkS hb C hc jC 6 1 0 fuel rfl jE jB jI
def Zo(b:List Int):Nat->Int->List M.Field->Option (List M.Field×Int)
 |0,p,C=>some (C,p)
 |j+1,p,C=>if(nRb b p 8).2.2=true then if(nUv b (nRb b p 8).2.1).2.2=true then Zo b j (nUv b (nRb b p 8).2.1).2.1 (C++[(⟨dO (nRb b p 8).1,(nUv b (nRb b p 8).2.1).1⟩:M.Field)])else none else none
def Uk(b:List Int):M.aE×Bool:=if(nUv b 0).2.2=true then(if(nUv b 0).1>6 then((⟨([]:List M.Field)⟩:M.aE),false)else match Zo b (nUv b 0).1.toNat (nUv b 0).2.1 []with
 |none=>((⟨([]:List M.Field)⟩:M.aE),false)
 |some (j,q)=>if(cJ (⟨j⟩:M.aE)&&(q==(b.length:Int)))=true then((⟨j⟩:M.aE),true)else((⟨([]:List M.Field)⟩:M.aE),false))else((⟨([]:List M.Field)⟩:M.aE),false)
theorem KL{e:Nat}{n:Nat}(h:e<=n)(j:n<=1048576):inI (e:Int):=by unfold inI;omega
theorem J3{b:List Int}{p c:Int}(hb:okB b)(h:(nRb b p c).2.2=true):∃(s:List Int) (a e:Nat),nRb b p c=(s,(e:Int),true)/\p=(a:Int)/\(s.length:Int)<=c/\e<=b.length/\s.length<=1000000000000/\a+(uv s.length).length+s.length=e/\b.drop a=uv s.length++(s++b.drop e)/\okB s:=by obtain⟨a,e,h1,h2,h3⟩:=aAA hb (show nRb b p c=((nRb b p c).1,(nRb b p c).2.1,true)from by rw[<-h]);exact⟨_,a,e,by rw[<-h2,<-h],h1,h3⟩
theorem EU{b:List Int}{p:Int}(hb:okB b)(h:(nUv b p).2.2=true):∃a m e:Nat,nUv b p=((m:Int),(e:Int),true)/\p=(a:Int)/\m<=1000000000000/\e<=b.length/\a+(uv m).length=e/\b.drop a=uv m++b.drop e:=by obtain⟨a,m,e,h1,h2,h3,h4⟩:=RA hb (show nUv b p=((nUv b p).1,(nUv b p).2.1,true)from by rw[<-h]);exact⟨a,m,e,by rw[<-h2,<-h3,<-h],h1,h4⟩
theorem Ts{s:List Int}{m:Nat}(j:okB s)(C:m<=1000000000000):M.Field.ok (⟨dO s,(m:Int)⟩:M.Field):=⟨by show(dO s).size<=_;rw[D5];exact j.1,by show inI (m:Int);unfold inI;omega⟩
theorem Tn{b:List Int}(hb:okB b):∀(j a:Nat) (C I:List M.Field) (q:Int),Zo b j (a:Int) C=some (I,q)->a<=b.length->∃(l:List M.Field) (e:Nat),I=C++l/\l.length=j/\q=(e:Int)/\e<=b.length/\b.drop a=PC enF l++b.drop e/\∀x∈l,M.Field.ok x
 |0,a,C,I,q,h,U=>by simp only[Zo,qb,qa]at h;exact⟨[],a,by rw[<-h.1,qX],rfl,h.2.symm,U,rfl,λ_ h=>absurd h jD⟩
 |j+1,a,C,I,q,h,U=>by
  simp only[Zo]at h
  split at h
  ·rename_i h1
   obtain⟨s,a1,e1,r1,r2,r3,r4,r5,r6,r7,r8⟩:=J3 hb h1
   obtain rfl:a=a1:=by omega
   rw[r1]at h
   dsimp only at h
   split at h
   ·rename_i h2
    obtain⟨a2,m,e2,u1,u2,u3,u4,u5,u6⟩:=EU hb h2
    obtain rfl:e1=a2:=by omega
    rw[u1]at h
    dsimp only at h
    obtain⟨l,e,g1,g2,g3,g4,g5,g6⟩:=Tn hb j e2 _ I q h u4
    refine⟨(⟨dO s,(m:Int)⟩:M.Field)::l,e,by rw[g1,qT];rfl,by rw[qJ,g2],g3,g4,?_,λx J=> ?_⟩
    ·rw[r7,u6,g5,PC,enF,Nr,J9 r8.2,qH];simp only[qT]
    ·rcases qo.1 J with rfl|J;(exact Ts r8 u3);·exact g6 x J
   ·cases h
  ·cases h
def aIx(o:Option (List M.Field×Int)):M.aE×Int×Bool:=match o with
 |none=>((⟨([]:List M.Field)⟩:M.aE),0,false)
 |some (j,q)=>((⟨j⟩:M.aE),q,cJ (⟨j⟩:M.aE))
theorem Vt{j:List M.Field}{n:Nat}(C:j.length<=n)(I:n<=6)(h:∀x∈j,M.Field.ok x):M.aE.ok (⟨j⟩:M.aE):=⟨⟨qf C jJ,h⟩⟩
theorem XU{j:List M.Field}{x:M.Field}(h:∀x∈j,M.Field.ok x)(I:M.Field.ok x):∀y∈j++[x],M.Field.ok y:=λy C=>by rcases qP.1 C with C|C;(exact h y C);·rw[qQ.1 C];exact I
theorem aD2{b:List Int}{x1:Int×Int×Bool}{N:Nat}(hb:okB b)(I:b.length<=1048576)(hN:N<=6)(U:x1.1=(N:Int)):∀(j k m:Nat) (p:Int) (C:List M.Field),k+j=N->j<m->inI p->C.length=k->(∀x∈C,M.Field.ok x)->tM b x1 m p (k:Int) C=some (aIx (Zo b j p C))
 |_,_,0,_,_,_,h,_,_,_=>by omega
 |0,k,m+1,p,C,hk,_,hp,ha,J=>by simp only[tM];rw[U,if_neg jC,sM (Vt (n:=6) jB jB J),qA];rfl
 |j+1,k,m+1,p,C,hk,hm,hp,ha,J=>by
  simp only[tM,Zo]
  rw[U,if_pos jC,wP hb I hp,qA]
  cases h1:(nRb b p 8).2.2 with
  |false=>rfl
  |true=>
   obtain⟨s,a1,e1,r1,r2,r3,r4,r5,r6,r7,r8⟩:=J3 hb h1
   rw[r1]
   simp only[qB,qD,if_false,if_true]
   rw[tB hb I (KL r4 I),qA]
   cases h2:(nUv b (e1:Int)).2.2 with
   |false=>rfl
   |true=>
    obtain⟨a2,v,e2,u1,u2,u3,u4,u5,u6⟩:=EU hb h2
    rw[u1]
    simp only[qB,qD,if_false,if_true]
    rw[F6 r8.2,qA,dS jC,qA,bF jB]
    exact aD2 hb I hN U j (k+1) m (e2:Int) _ jB jB (KL u4 I) (by simp[ha]) (XU J (Ts r8 u3))
theorem Ip{b:List Int}(hb:okB b)(C:b.length<=1048576):rN b=some (Uk b):=by
 unfold rN D2 Uk
 rw[tB hb C yR,qA]
 cases h:(nUv b 0).2.2 with
 |false=>rfl
 |true=>
  obtain⟨a,m,e,J,u2,u3,U,u5,u6⟩:=EU hb h
  rw[J]
  simp only[qB,qD,if_false,if_true]
  by_cases h6:(m:Int)>6
  ·rw[if_pos (by simpa using h6),if_pos h6];rfl
  ·have I:=aD2 (x1:=((m:Int),(e:Int),true)) hb C (N:=m) jB rfl m 0 fuel (e:Int) [] jB jI (KL U C) rfl (λ_ h=>absurd h jD)
   rw[show((0:Nat):Int)=0 from rfl]at I
   rw[if_neg (by simpa using h6),if_neg h6,qH,I,qA]
   cases Zo b m (e:Int) []with
   |none=>rfl
   |some o=>
    obtain⟨j,q⟩:=o
    show(if(!cJ (⟨j⟩:M.aE))=true then some ((⟨([]:List M.Field)⟩:M.aE),false)else if(!(q==(b.length:Int)))=true then some ((⟨([]:List M.Field)⟩:M.aE),false)else some ((⟨j⟩:M.aE),true))=some (if(cJ (⟨j⟩:M.aE)&&(q==(b.length:Int)))=true then((⟨j⟩:M.aE),true)else((⟨([]:List M.Field)⟩:M.aE),false))
    rcases Bool.eq_false_or_eq_true (cJ (⟨j⟩:M.aE))with hn|hn
    ·rw[if_neg (show ¬(!cJ (⟨j⟩:M.aE))=true from by simp[hn])];by_cases hq:q=(b.length:Int);(rw[if_neg (show ¬(!(q==(b.length:Int)))=true from by simp[hq]),if_pos (by simp[hn,hq])]);·rw[if_pos (show(!(q==(b.length:Int)))=true from by simp[hq]),if_neg (by simp[hq])]
    ·rw[if_pos (show(!cJ (⟨j⟩:M.aE))=true from by simp[hn]),if_neg (by simp[hn])]
theorem XT{b:List Int}(hb:okB b):(Uk b).1.ok/\M.aE.sz (Uk b).1<=60:=by have j:M.aE.ok (⟨([]:List M.Field)⟩:M.aE)/\M.aE.sz (⟨([]:List M.Field)⟩:M.aE)<=60:=⟨Vt (n:=0) jD jB (λ_ h=>absurd h jD),by simp[M.aE.sz,dH]⟩;unfold Uk;split;(rename_i h;obtain⟨a,m,e,u1,u2,u3,u4,u5,u6⟩:=EU hb h;rw[u1];dsimp only;split;(exact j);·split;(exact j);·rename_i C q hr;split;(rename_i J;rw[qM]at J;obtain⟨l,e3,I,g2,g3,g4,g5,U⟩:=Tn hb _ e [] C q hr u4;rw[List.nil_append]at I;subst I;obtain⟨n6,nf⟩:=Ai J.1;refine⟨Vt n6 jB U,?_⟩;have:=eB (w:=M.Field.sz) (b:=8) (xs:=C) (λx hx=>by have:=(nf x hx).1;simp only[M.Field.sz];omega);simp only[M.aE.sz];omega);·exact j);·exact j
def Ng(o:M.Op):Prop:=inI o.aJS/\o.aD.size<=maxLen/\o.Key.ok/\o.aE.ok/\o.Field.size<=maxLen
def nOp(o:M.Op):Bool:=inR o.aJS 1 6&&(oJ o.aD&&(((o.aJS==5)||DX o.Key)&&(cJ o.aE&&(if(o.aJS==6)=true then oJ o.Field else o.Field.toList==(⟨#[]⟩:ByteArray).toList))))
theorem L0{o:M.Op}(h:Ng o):De o=some (nOp o):=by unfold De nOp;simp only[cH,dM h.2.1,nT h.2.2.1,sM h.2.2.2.1,dM h.2.2.2.2,qA];have hb:(o.aJS !=6)= !(o.aJS==6):=rfl;generalize (o.aJS !=6)=a9 at hb⊢;generalize inR o.aJS 1 6=a1;generalize oJ o.aD=a2;generalize (o.aJS==5)=a3;generalize DX o.Key=a4;generalize cJ o.aE=a5;generalize (o.aJS==6)=a6 at hb⊢;generalize oJ o.Field=a7;generalize (o.Field.toList==(⟨#[]⟩:ByteArray).toList)=a8;subst hb;cases a1<;>cases a2<;>cases a3<;>cases a4<;>cases a5<;>cases a6<;>cases a7<;>cases a8<;>rfl
def enO(o:M.Op):List Int:=uv o.aJS.toNat++(Nr (bT o.aD)++(Nr (enK o.Key)++(Nr (enR o.aE)++Nr (bT o.Field))))
def GO(l:List M.Op):List Int:=if(l.all nOp&&decide (l.length<=6))=true then uv l.length++PC enO l else[]
theorem bsize{a b:ByteArray}(h:a.toList=b.toList):a.size=b.size:=by rw[ByteArray.toList_eq,ByteArray.toList_eq]at h;have:=congrArg List.length h;rw[ql,ql]at this;exact this
theorem TE{s:ByteArray}(h:(s.toList==(⟨#[]⟩:ByteArray).toList)=true):s.size=0:=bsize (eq_of_beq h)
theorem Fq{o:M.Op}(h:nOp o=true):1<=o.aJS/\o.aJS<=6/\o.aD.size<=8/\o.Field.size<=8/\cJ o.aE=true:=by
 unfold nOp inR at h
 simp only[qM,qL]at h
 obtain⟨h1,h2,_,h4,h5⟩:=h
 have C:∀s:ByteArray,oJ s=true->s.size<=8:=λs j=>by unfold oJ inR at j;simp only[qM,qL]at j;omega
 refine⟨h1.1,h1.2,C _ h2,?_,h4⟩
 split at h5
 ·exact C _ h5
 ·rw[TE h5];omega
theorem H9{b:List Int}{n:Nat}(h:b.length<=n)(j:n<=127):(Nr b).length<=n+1:=by have:=FJ 0 b.length jB;unfold Nr;rw[qE];omega
