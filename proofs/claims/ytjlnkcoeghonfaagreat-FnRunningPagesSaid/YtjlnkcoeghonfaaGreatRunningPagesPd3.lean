/-
  Helper text. No conditions.
-/
import Derived.Test.YtjlnkcoeghonfaaGreatRunningPagesPd2
set_option linter.all false
namespace Go.Proofs.YtjlnkcoeghonfaaGreat.gen
open Go Go.Sh
open Go.IntKind (i64)
theorem Sr{l:List M.aLo}(h1:∀(k:Nat) (x:M.aLo),l[k]? =some x->EZ x.Key=true/\cT x.aF=true)(h2:∀(k:Nat) (x y:M.aLo),l[k]? =some x->l[k+1]? =some y->bZ x.Key y.Key<0):(List.range l.length).all (Fk l)=true:=by unfold Fk;grind
theorem LU{l:List M.aLo}(h:(List.range l.length).all (Fk l)=true):(∀(k:Nat) (x:M.aLo),l[k]? =some x->EZ x.Key=true/\cT x.aF=true)/\(∀(k:Nat) (x y:M.aLo),l[k]? =some x->l[k+1]? =some y->bZ x.Key y.Key<0):=by rw[qR]at h;refine⟨λk x j=> ?_,λk x y j C=> ?_⟩;(have hk:k<l.length:=(qe.1 j).1;have:=h k (qS.2 hk);unfold Fk at this;simp_all);·have hk:k+1<l.length:=(qe.1 C).1;have:=h (k+1) (qS.2 hk);unfold Fk at this;simp_all
theorem Yz{α:Type}{l:List α}{p:Nat}{x:α}(C:p<=l.length)(k:Nat):(l.take p++([x]++l.drop p))[k]? =if k<p then l[k]? else if k=p then some x else l[k-1]? :=by
 have j:(l.take p).length=p:=by rw[qV];omega
 rw[List.getElem?_append,j]
 by_cases h1:k<p
 ·rw[jE h1,jE h1,List.getElem?_take_of_lt h1]
 ·rw[jF h1,jF h1];by_cases h2:k=p;(subst h2;simp);·rw[jF h2];obtain⟨d,rfl⟩:∃d,k=p+1+d:=⟨k-p-1,wi⟩;rw[show p+1+d-p=d+1 by omega,List.singleton_append,List.getElem?_cons_succ,List.getElem?_drop,show p+1+d-1=p+d by omega]
def Ll(k:M.bD)(x:M.aLo):Bool:=decide (bZ x.Key k<0)
def Fl(l:List M.aLo)(k:M.bD):Nat:=(l.takeWhile (Ll k)).length
theorem Rm(l:List M.aLo)(k:M.bD):Fl l k<=l.length:=(List.takeWhile_prefix _).length_le
def L4(s:M.aE)(k:M.bD):Int:=if((k.aLn==1)&&(decide (k.N>s.aLx)&&decide (k.N<=1000000)))=true then k.N else s.aLx
def Q3(s:M.aE)(k:M.bD)(r:M.aF):M.aE:=⟨s.Name,s.aLV.take (Fl s.aLV k)++([⟨k,r⟩]++s.aLV.drop (Fl s.aLV k)),L4 s k⟩
def Ro(s:M.aE)(i:Nat)(r:M.aF):M.aE:=⟨s.Name,match s.aLV[i]? with|some x=>s.aLV.set i ⟨x.Key,r⟩|none=>s.aLV,s.aLx⟩
def EX(s:M.aE)(k:M.bD)(r:M.aF):M.aE×Bool:=if kB s=true then if EZ k=true then if kP (zK k) s.aLV<0 then if s.aLV.length<16 then(Q3 s k r,true)else(s,false)else(Ro s (kP (zK k) s.aLV).toNat r,true)else(s,false)else(s,false)
theorem B2{s:M.aE}(h:kB s=true):(List.range s.aLV.length).all (Fk s.aLV)=true/\pS s.Name=true/\s.aLV.length<=16/\0<=s.aLx/\s.aLx<=1000000:=by unfold kB inR at h;simp_all
theorem aAc{s:M.aE}(h1:(List.range s.aLV.length).all (Fk s.aLV)=true)(h2:pS s.Name=true)(h3:s.aLV.length<=16)(h4:0<=s.aLx)(h5:s.aLx<=1000000):kB s=true:=by unfold kB inR;simp_all
theorem U7{s:M.aE}{k:M.bD}(h:kB s=true):0<=L4 s k/\L4 s k<=1000000:=by obtain⟨_,_,_,h4,h5⟩:=B2 h;unfold L4;grind
theorem Tz{s:M.aE}{i:Nat}{r:M.aF}(h:kB s=true)(C:i<s.aLV.length):kB (Ro s i r)=cT r:=by
 obtain⟨h1,h2,h3,h4,h5⟩:=B2 h
 obtain⟨a1,a2⟩:=LU h1
 have e:Ro s i r=⟨s.Name,s.aLV.set i ⟨s.aLV[i].Key,r⟩,s.aLx⟩:=by unfold Ro;rw[qF C]
 rw[e]
 have key:∀(k:Nat) (x:M.aLo),(s.aLV.set i ⟨s.aLV[i].Key,r⟩)[k]? =some x->∃y,s.aLV[k]? =some y/\x.Key=y.Key/\(k≠i->x=y)/\(k=i->x.aF=r):=by intro k x j;rw[List.getElem?_set]at j;by_cases hk:i=k;(subst hk;rw[jE rfl,jE C]at j;cases j;exact⟨_,qF C,rfl,λI=>absurd rfl I,λ_=>rfl⟩);·rw[jF hk]at j;exact⟨x,j,rfl,λ_=>rfl,λI=>absurd I.symm hk⟩
 cases hr:cT r with
 |true=>
  refine aAc (Sr (λk x j=> ?_) (λk x y j U=> ?_)) h2 (by rw[qN];exact h3) h4 h5
  ·obtain⟨y,U,e1,e2,e3⟩:=key k x j;obtain⟨b1,b2⟩:=a1 k y U;refine⟨by rw[e1];exact b1,?_⟩;by_cases hk:k=i;(rw[e3 hk];exact hr);·rw[e2 hk];exact b2
  ·obtain⟨x',J,e1,_⟩:=key k x j;obtain⟨y',hy',e2,_⟩:=key (k+1) y U;rw[e1,e2];exact a2 k x' y' J hy'
 |false=>
  cases hq:kB ⟨s.Name,s.aLV.set i ⟨s.aLV[i].Key,r⟩,s.aLx⟩with
  |false=>rfl
  |true=>
   have:=(LU (B2 hq).1).1 i _ (by rw[List.getElem?_set,jE rfl,jE C])
   simp only at this
   rw[hr]at this
   cases this.2
theorem SD{s:M.aE}{k:M.bD}{r:M.aF}(h:kB s=true)(hk:EZ k=true)(hr:cT r=true)(hf:kP (zK k) s.aLV<0)(au:Int)(U:0<=au/\au<=1000000):
  kB ⟨s.Name,s.aLV.take (Fl s.aLV k)++([⟨k,r⟩]++s.aLV.drop (Fl s.aLV k)),au⟩=decide (s.aLV.length<16):=by
 obtain⟨h1,h2,h3,h4,h5⟩:=B2 h
 obtain⟨a1,a2⟩:=LU h1
 have hp:=Rm s.aLV k
 have hlen:(s.aLV.take (Fl s.aLV k)++([(⟨k,r⟩:M.aLo)]++s.aLV.drop (Fl s.aLV k))).length=s.aLV.length+1:=by simp only[qE,qV,qW,qJ,qK];omega
 have hall:(List.range (s.aLV.take (Fl s.aLV k)++([(⟨k,r⟩:M.aLo)]++s.aLV.drop (Fl s.aLV k))).length).all (Fk (s.aLV.take (Fl s.aLV k)++([⟨k,r⟩]++s.aLV.drop (Fl s.aLV k))))=true:=by
  refine Sr (λj x C=> ?_) (λj x y C I=> ?_)
  ·rw[Yz hp]at C;split at C;(exact a1 j x C);·split at C;(cases C;exact⟨hk,hr⟩);·exact a1 _ x C
  ·rw[Yz hp]at C I
   by_cases c1:j+1<Fl s.aLV k
   ·rw[jE wi]at C;rw[jE c1]at I;exact a2 j x y C I
   ·rw[jF c1]at I
    by_cases c2:j+1=Fl s.aLV k
    ·rw[jE c2]at I
     rw[jE wi]at C
     cases I
     have hj:j<s.aLV.length:=by omega
     have:=Nd (f:=Ll k) (l:=s.aLV) j hj (by show j<Fl s.aLV k;omega)
     rw[qF hj]at C
     cases C
     unfold Ll at this
     simpa using this
    ·rw[jF c2]at I
     by_cases c3:j=Fl s.aLV k
     ·rw[jF wi,jE c3]at C
      cases C
      have hj:j<s.aLV.length:=(qe.1 I).1
      have hj':(s.aLV.takeWhile (Ll k)).length<s.aLV.length:=by show Fl s.aLV k<_;omega
      have J:=Nr (f:=Ll k) hj'
      have e1:s.aLV[(s.aLV.takeWhile (Ll k)).length]=y:=by
       have:s.aLV[Fl s.aLV k]? =some y:=by rw[<-c3];exact I
       exact(qe.1 this).2
      rw[e1]at J
      unfold Ll at J
      have hne:=MD hf y (by rw[<-e1];exact qG _)
      exact Z2 (a1 j y I).1 hk (by simpa using J) hne
     ·rw[jF wi,jF c3]at C;rw[show j+1-1=(j-1)+1 by omega]at I;exact a2 (j-1) x y C I
 have e1:decide ((s.aLV.take (Fl s.aLV k)++([(⟨k,r⟩:M.aLo)]++s.aLV.drop (Fl s.aLV k))).length<=16)=decide (s.aLV.length<16):=decide_eq_decide.2 wi
 unfold kB inR
 rw[hall,h2,e1,decide_eq_true U.1,decide_eq_true U.2]
 simp
theorem Qr{s o:M.aE}(C:M.aE.sz s<=1073741824)(j:o.ok):((cC o).bind λz=>if(!z)=true then(bH s).bind λy=>some (y,false)else some (o,true))=some (if kB o=true then(o,true)else(s,false)):=by rw[Cv j,qA,lK s C];cases kB o<;>simp
theorem aEu{X:Type}(c1 c2 c3:Bool)(A:Int->X)(x y:Int):(if c1=true then if c2=true then if c3=true then A x else A y else A y else A y)=A (if(c1&&(c2&&c3))=true then x else y):=by cases c1<;>cases c2<;>cases c3<;>rfl
theorem Us{s:M.aE}{k:M.bD}{r:M.aF}{J:Int}(p:Nat)(I:s.ok)(hl:s.aLV.length<=1073741824)(hk:k.ok)(U:r.ok)(C:inI J):M.aE.ok ⟨s.Name,s.aLV.take p++([⟨k,r⟩]++s.aLV.drop p),J⟩:=
 ⟨I.Name,⟨by unfold maxLen;grind,λy hy=>by have j:y∈s.aLV.take p++([⟨k,r⟩]++s.aLV.drop p):=hy;simp only[qP,qq,qO,or_false]at j;rcases j with h|rfl|h;(exact I.aLV.2 y (qk h));(exact⟨hk,U⟩);·exact I.aLV.2 y (qv h)⟩,C⟩
theorem YI{s:M.aE}{r:M.aF}{i:Nat}(I:i<s.aLV.length)(j:s.ok)(J:r.ok):M.aE.ok ⟨s.Name,s.aLV.set i ⟨s.aLV[i].Key,r⟩,s.aLx⟩:=
 ⟨j.Name,⟨by rw[qN];exact j.aLV.1,λy U=>by have C:y∈s.aLV.set i ⟨s.aLV[i].Key,r⟩:=U;rcases jD C with h|rfl;(exact j.aLV.2 y h);·exact⟨(j.aLV.2 _ (qG I)).Key,J⟩⟩,j.aLx⟩
theorem So{s:M.aE}{k:M.bD}(j:s.ok)(hk:k.ok):inI (L4 s k):=by unfold L4;split;(exact hk.N);·exact j.aLx
def tPI(s:M.aE)(k:M.bD)(r:M.aF)(j:Nat):Option (M.aE×Bool):=(bX r).bind λC=>(L5 56 s.aLV j ([⟨k,C⟩])).bind λ_=>if(k.aLn==1)=true then if(decide (k.N>s.aLx))=true then if(decide (k.N<=1000000))=true then(cC ⟨s.Name,s.aLV.take (j:Int).toNat++([⟨k,C⟩]++s.aLV.drop (j:Int).toNat),k.N⟩).bind λz=>if(!z)=true then(bH s).bind λy=>some (y,false)else some (⟨s.Name,s.aLV.take (j:Int).toNat++([⟨k,C⟩]++s.aLV.drop (j:Int).toNat),k.N⟩,true)else(cC ⟨s.Name,s.aLV.take (j:Int).toNat++([⟨k,C⟩]++s.aLV.drop (j:Int).toNat),s.aLx⟩).bind λz=>if(!z)=true then(bH s).bind λy=>some (y,false)else some (⟨s.Name,s.aLV.take (j:Int).toNat++([⟨k,C⟩]++s.aLV.drop (j:Int).toNat),s.aLx⟩,true)else(cC ⟨s.Name,s.aLV.take (j:Int).toNat++([⟨k,C⟩]++s.aLV.drop (j:Int).toNat),s.aLx⟩).bind λz=>if(!z)=true then(bH s).bind λy=>some (y,false)else some (⟨s.Name,s.aLV.take (j:Int).toNat++([⟨k,C⟩]++s.aLV.drop (j:Int).toNat),s.aLx⟩,true)else(cC ⟨s.Name,s.aLV.take (j:Int).toNat++([⟨k,C⟩]++s.aLV.drop (j:Int).toNat),s.aLx⟩).bind λz=>if(!z)=true then(bH s).bind λy=>some (y,false)else some (⟨s.Name,s.aLV.take (j:Int).toNat++([⟨k,C⟩]++s.aLV.drop (j:Int).toNat),s.aLx⟩,true)
def tPS(s:M.aE)(k:M.bD)(r:M.aF)(j:Nat):Option (M.aE×Bool):=(CK s.aLV j).bind λ_=>(app 56 [] (s.aLV.take (j:Int).toNat)).bind λ_=>(cO r).bind λC=>(app 56 (s.aLV.take (j:Int).toNat) ([⟨k,C⟩])).bind λ_=>(app 56 ((s.aLV.take (j:Int).toNat)++[⟨k,C⟩]) (s.aLV.drop (j:Int).toNat)).bind λ_=>if(k.aLn==1)=true then(bG k.N (i64.wrap (s.aLx+1)) 1000000).bind λI=>if I=true then some (⟨s.Name,((s.aLV.take (j:Int).toNat)++[⟨k,C⟩])++(s.aLV.drop (j:Int).toNat),k.N⟩,true)else some (⟨s.Name,((s.aLV.take (j:Int).toNat)++[⟨k,C⟩])++(s.aLV.drop (j:Int).toNat),s.aLx⟩,true)else some (⟨s.Name,((s.aLV.take (j:Int).toNat)++[⟨k,C⟩])++(s.aLV.drop (j:Int).toNat),s.aLx⟩,true)
theorem DK{s:M.aE}{k:M.bD}{r:M.aF}(C:s.ok)(hk:k.ok)(hr:r.ok)(hR:cT r=true)(I:M.aE.sz s<=1073741824)(J:M.aF.sz r<=1073741824):lQ s k r=some (EX s k r):=by
 have hl:s.aLV.length<=1073741824:=by simp only[M.aE.sz]at I;omega
 have hp:=Rm s.aLV k
 unfold lQ EX
 rw[Cv C,uE hk,lK s I,CZ C,yS r J]
 simp only[qA]
 cases hS:kB s with
 |false=>simp
 |true=>
  cases hK:EZ k with
  |false=>simp
  |true=>
   simp only[qB,qD,jG]
   by_cases h:kP (zK k) s.aLV<0
   ·rw[jF wX,jE h,KV (l:=s.aLV) (f:=Ll k) (L:=sX s k r s) (S:=tPI s k r) C.aLV.1 (λm j hj=> ?_) (λm=> ?_)];(show tPI s k r (Fl s.aLV k)=_;unfold tPI;rw[yS r J,qA,N6 wA,qA,qH];refine Eq.trans (aEu (k.aLn==1) (decide (k.N>s.aLx)) (decide (k.N<=1000000)) (λau=>(cC ⟨s.Name,s.aLV.take (Fl s.aLV k)++([(⟨k,r⟩:M.aLo)]++s.aLV.drop (Fl s.aLV k)),au⟩).bind λz=>if(!z)=true then(bH s).bind λy=>some (y,false)else some (⟨s.Name,s.aLV.take (Fl s.aLV k)++([⟨k,r⟩]++s.aLV.drop (Fl s.aLV k)),au⟩,true)) k.N s.aLx) ?_;refine(Qr (o:=Q3 s k r) I (Us _ C hl hk hr (So C hk))).trans ?_;unfold Q3;rw[SD hS hK hR h _ (U7 hS)];by_cases aa:s.aLV.length<16;(simp[aa]);·simp[aa]);(have hj':=C.aLV.2 _ (qG hj);simp only[sX];rw[jE (bE hj),aM hj,qA,AV hj'.Key hk,qA,bL wi];rfl);·simp only[sX];rw[jF we];rfl
   ·obtain⟨i,e,U⟩:=dM h
    rw[jE wN,jF h,e,aM U,qA,qH]
    have sG:=Tz (r:=r) hS U
    have e2:Ro s i r=⟨s.Name,s.aLV.set i ⟨s.aLV[i].Key,r⟩,s.aLx⟩:=by unfold Ro;rw[qF U]
    rw[e2]at sG⊢
    have ht:=Qr I (YI U C hr)
    rw[sG,hR,jE rfl,lK s I]at ht
    exact ht
theorem Cw{s:M.aE}{k:M.bD}{r:M.aF}(I:s.ok)(hk:k.ok)(hr:r.ok)(hR:cT r=true)(hz:M.aE.sz s<=1073741824)(C:M.aF.sz r<=1073741824):fG s k r=some (EX s k r):=by
 have hp:=Rm s.aLV k
 unfold fG EX
 rw[CE I,pF hk,uW hr,hR,rF s hz,BW I,Dm r C]
 simp only[qA]
 cases hS:kB s with
 |false=>simp
 |true=>
  cases hK:EZ k with
  |false=>simp
  |true=>
   simp only[qB,qD,jG,jH]
   by_cases h:kP (zK k) s.aLV<0
   ·rw[jF wX,jE h]
    by_cases aa:s.aLV.length<16
    ·rw[jF wX,jE aa,KV (l:=s.aLV) (f:=Ll k) (L:=tO s k r s) (S:=tPS s k r) I.aLV.1 (λm j J=> ?_) (λm=> ?_)]
     ·show tPS s k r (Fl s.aLV k)=_
      obtain⟨_,_,_,ha4,ha5⟩:=B2 hS
      have ew:i64.wrap (s.aLx+1)=s.aLx+1:=bQ wi wi
      have ei:inR k.N (s.aLx+1) 1000000=(decide (k.N>s.aLx)&&decide (k.N<=1000000)):=by congr 1
      unfold tPS
      rw[FT hp,qA,qH,IP wR wi,qA,Dm r C,qA,dN jw,qA,dN js,qA,qT,cK,qA,ew,ei]
      unfold Q3 L4
      cases (k.aLn==1)<;>cases (decide (k.N>s.aLx)&&decide (k.N<=1000000))<;>rfl
     ·have U:=I.aLV.2 _ (qG J);simp only[tO];rw[jE (bE J),aM J,qA,A5 U.Key hk,qA,bL wi];rfl
     ·simp only[tO];rw[jF we];rfl
    grind
   ·obtain⟨i,e,hi⟩:=dM h;rw[jE wN,jF h,e,aM hi,qA,qH];unfold Ro;rw[qF hi]
def gP(s:M.aE)(k:M.bD):M.aF:=if kP (zK k) s.aLV<0 then⟨[]⟩else match s.aLV[(kP (zK k) s.aLV).toNat]? with|some x=>x.aF|none=>⟨[]⟩
def MH(s:M.aE)(w:M.bR):M.aE×Bool:=if(JO (gP s w.Key) w.Field w.N).2=true then EX s w.Key (JO (gP s w.Key) w.Field w.N).1 else(s,false)
theorem Ji:M.aF.ok ⟨[]⟩:=⟨⟨we,we⟩⟩
theorem Gx{s:M.aE}{k:M.bD}(j:s.ok):(gP s k).ok:=by unfold gP;split;(exact Ji);·split;(rename_i x C;exact(j.aLV.2 x (jC C)).aF);·exact Ji
theorem IZ(s:M.aE)(k:M.bD):M.aF.sz (gP s k)<=M.aE.sz s:=by
 unfold gP
 split
 ·simp[M.aF.sz,dV]
 ·split
  ·rename_i x j
   have h1:=eA (f:=M.aLo.sz) (jC j)
   have h2:M.aF.sz x.aF<=M.aLo.sz x:=by simp only[M.aLo.sz];omega
   simp only[M.aE.sz]
   omega
  ·simp[M.aF.sz,dV]
theorem ZK{r:M.aF}{a:ByteArray}{n:Int}(C:r.ok)(J:r.aLY.length<=1073741824)(I:a.size<=maxLen)(j:inI n):M.aF.ok ⟨Uw r a n⟩:=by unfold Uw;by_cases h:kP (sI a) r.aLY<0;(rw[jE h];exact Yr _ C J I j);·obtain⟨k,e,hk⟩:=dM h;rw[e,qH,qF hk];exact Uj hk C j
theorem Mq{r:M.aF}{a:ByteArray}{n:Int}(j:r.ok)(I:r.aLY.length<=1073741824)(C:a.size<=maxLen)(J:inI n):(JO r a n).1.ok:=by unfold JO OA;split;(split;(exact ZK j I C J);·exact j);·exact j
theorem GN{r:M.aF}{a:ByteArray}{n:Int}(h:(JO r a n).2=true):cT (JO r a n).1=true:=by unfold JO OA at h⊢;grind
theorem IE{r:M.aF}(h:cT r=true):M.aF.sz r<=100:=by obtain⟨h1,h2⟩:=AY h;have:=eU (w:=M.aR.sz) (b:=8) (xs:=r.aLY) (λx j=>by have:=(h2 x j).1;simp only[M.aR.sz];omega);simp only[M.aF.sz];omega
theorem uZ{s:M.aE}(h:kB s=true):M.aE.sz s<=10000:=by
 obtain⟨h1,h2,h3,_,_⟩:=B2 h
 obtain⟨j,_⟩:=LU h1
 have hn:s.Name.size<=8:=by unfold pS inR at h2;grind
 have:=eU (w:=M.aLo.sz) (b:=112) (xs:=s.aLV) (λx J=>by obtain⟨k,hk,rfl⟩:=List.mem_iff_getElem.1 J;obtain⟨C,I⟩:=j k _ (qF hk);have U:=HJ C;have c2:=IE I;simp only[M.aLo.sz,M.bD.sz];omega)
 simp only[M.aE.sz]
 omega
theorem Hv{s:M.aE}{k:M.bD}{r:M.aF}(j:cT r=true)(h:(EX s k r).2=true):kB (EX s k r).1=true:=by unfold EX at h⊢;by_cases hS:kB s=true;(rw[jE hS]at h⊢;by_cases hK:EZ k=true;(rw[jE hK]at h⊢;by_cases hf:kP (zK k) s.aLV<0;(rw[jE hf]at h⊢;by_cases aa:s.aLV.length<16;(rw[jE aa];have:=SD hS hK j hf _ (U7 (k:=k) hS);simp only[aa]at this;exact this);·rw[jF aa]at h;cases h);·rw[jF hf];obtain⟨i,e,C⟩:=dM hf;simp only[e,qH];rw[Tz hS C];exact j);·rw[jF hK]at h;cases h);simp_all
theorem Ra{s:M.aE}{k:M.bD}{r:M.aF}(j:s.ok)(J:s.aLV.length<=1073741824)(hk:k.ok)(I:r.ok):(EX s k r).1.ok:=by unfold EX;by_cases hS:kB s=true;(rw[jE hS];by_cases hK:EZ k=true;(rw[jE hK];by_cases hf:kP (zK k) s.aLV<0;(rw[jE hf];split;(exact Us _ j J hk I (So j hk));·exact j);·obtain⟨i,e,C⟩:=dM hf;simp only[e,qH];unfold Ro;rw[qF C];exact YI C j I);·rw[jF hK];exact j);simp_all
theorem M5{s:M.aE}{k:M.bD}{r:M.aF}(h:(EX s k r).2=false):(EX s k r).1=s:=by unfold EX at h⊢;grind
theorem Pt{s:M.aE}{w:M.bR}(h:(MH s w).2=false):(MH s w).1=s:=by unfold MH at h⊢;by_cases h1:(JO (gP s w.Key) w.Field w.N).2=true;(rw[jE h1]at h⊢;exact M5 h);simp_all
theorem LD{s:M.aE}{w:M.bR}(C:s.ok)(I:w.ok)(U:M.aE.sz s<=536870912):(MH s w).1.ok/\M.aE.sz (MH s w).1<=536870912:=by
 have hl:s.aLV.length<=1073741824:=by simp only[M.aE.sz]at U;omega
 have J:=IZ s w.Key
 have j:(gP s w.Key).aLY.length<=1073741824:=by simp only[M.aF.sz]at J;omega
 cases h2:(MH s w).2 with
 |false=>rw[Pt h2];exact⟨C,U⟩
 |true=>
  unfold MH at h2⊢
  by_cases h1:(JO (gP s w.Key) w.Field w.N).2=true
  ·rw[jE h1]at h2⊢;have:=uZ (Hv (GN h1) h2);exact⟨Ra C hl I.Key (Mq (Gx C) j I.Field I.N),wi⟩
  simp_all
theorem Ec{s:M.aE}{w:M.bR}(C:s.ok)(j:w.ok)(hz:M.aE.sz s<=1073741824):nL s w=some (MH s w):=by
 have J:=IZ s w.Key
 have I:(gP s w.Key).aLY.length<=1073741824:=by simp only[M.aF.sz]at J;omega
 have sG:=CR (r:=gP s w.Key) (a:=w.Field) (n:=w.N) (Gx C) wi j.Field j.N
 have hput:(JO (gP s w.Key) w.Field w.N).2=true->fG s w.Key (JO (gP s w.Key) w.Field w.N).1=some (EX s w.Key (JO (gP s w.Key) w.Field w.N).1):=λh1=>
  Cw C j.Key (Mq (Gx C) I j.Field j.N) (GN h1) hz (qh (IE (GN h1)) wi)
 have hfin:((some (JO (gP s w.Key) w.Field w.N)).bind λx9=>if(!x9.2)=true then(cM s).bind λae=>some (ae,false)else(fG s w.Key x9.1).bind λU=>some (U.1,U.2))=some (MH s w):=by rw[qA,rF s hz];unfold MH;grind
 unfold nL
 rw[BW C,qA]
 by_cases h:kP (zK w.Key) s.aLV<0
 ·have e:gP s w.Key=⟨[]⟩:=by unfold gP;rw[jE h]
  rw[jF wX]
  rw[e]at sG hfin
  rw[sG]
  exact hfin
 ·obtain⟨i,ei,hi⟩:=dM h
  have e:gP s w.Key=s.aLV[i].aF:=by unfold gP;rw[jF h,ei,qH,qF hi]
  rw[jE wN,ei,aM hi,qA]
  rw[e]at sG hfin
  rw[sG]
  exact hfin
theorem GF{s:M.aE}{w:M.bR}(C:s.ok)(j:w.ok)(hz:M.aE.sz s<=1073741824):tX s w=some (MH s w):=by
 have J:=IZ s w.Key
 have I:(gP s w.Key).aLY.length<=1073741824:=by simp only[M.aF.sz]at J;omega
 have sG:=EG (r:=gP s w.Key) (a:=w.Field) (n:=w.N) (Gx C) wi j.Field j.N
 have hput:(JO (gP s w.Key) w.Field w.N).2=true->lQ s w.Key (JO (gP s w.Key) w.Field w.N).1=some (EX s w.Key (JO (gP s w.Key) w.Field w.N).1):=λh1=>
  DK C j.Key (Mq (Gx C) I j.Field j.N) (GN h1) hz (qh (IE (GN h1)) wi)
 have hfin:((some (JO (gP s w.Key) w.Field w.N)).bind λx9=>if(!x9.2)=true then(bH s).bind λae=>some (ae,false)else(lQ s w.Key x9.1).bind λU=>some (U.1,U.2))=some (MH s w):=by rw[qA,lK s hz];unfold MH;grind
 unfold tX
 rw[CZ C,qA]
 by_cases h:kP (zK w.Key) s.aLV<0
 ·have e:gP s w.Key=⟨[]⟩:=by unfold gP;rw[jE h]
  rw[jF wX]
  rw[e]at sG hfin
  rw[sG]
  exact hfin
 ·obtain⟨i,ei,hi⟩:=dM h
  have e:gP s w.Key=s.aLV[i].aF:=by unfold gP;rw[jF h,ei,qH,qF hi]
  rw[jE wN,ei,aM hi,qA]
  rw[e]at sG hfin
  rw[sG]
  exact hfin
def B8(s:M.aE)(l:List M.bR):M.aE:=l.foldl (λt w=>(MH t w).1) s
theorem PW{s:M.aE}{l:List M.bR}(U:s.ok)(C:l.length<=maxLen)(J:∀w∈l,M.bR.ok w)(hz:M.aE.sz s<=536870912):DR s l=some (B8 s l)/\(B8 s l).ok/\M.aE.sz (B8 s l)<=536870912:=by
 have hm:=aY C
 unfold DR B8
 rw[lK s wi,qA]
 have:=Qg (xs:=l) (L:=λn k t=>tE l n k t.Name t.aLx t.aLV) (step:=λt w=>(MH t w).1) (I:=λ_ t=>t.ok/\M.aE.sz t<=536870912) (E:=some) C
  (λt k hk j=>LD j.1 (J _ (qG hk)) j.2) (λn t k hk j=>by
   simp only[tE]
   rw[jE (bE hk),aM hk,qA,show⟨t.Name,t.aLV,t.aLx⟩=t from rfl,GF j.1 (J _ (qG hk)) wi,qA,bL wi]) (λn t j=>by
   simp only[tE]
   rw[jF we]) s ⟨U,hz⟩
 exact⟨this.1,this.2⟩
theorem Jg{s:M.aE}{l:List M.bR}(U:s.ok)(C:l.length<=maxLen)(J:∀w∈l,M.bR.ok w)(hz:M.aE.sz s<=536870912):BJ s l=some (B8 s l):=by
 have hm:=aY C
 unfold BJ B8
 rw[rF s wi,qA]
 have:=Qg (xs:=l) (L:=λn k t=>mM l n k t.Name t.aLx t.aLV) (step:=λt w=>(MH t w).1) (I:=λ_ t=>t.ok/\M.aE.sz t<=536870912) (E:=some) C
  (λt k hk j=>LD j.1 (J _ (qG hk)) j.2) (λn t k hk j=>by
   simp only[mM]
   rw[jE (bE hk),aM hk,qA,show⟨t.Name,t.aLV,t.aLx⟩=t from rfl,Ec j.1 (J _ (qG hk)) wi,qA,bL wi]
   cases h2:(MH t l[k]).2 with
   |true=>rfl
   |false=>rw[Pt h2];rfl) (λn t j=>by
   simp only[mM]
   rw[jF we]) s ⟨U,hz⟩
 exact this.1
theorem Gv:∀(j n:Nat),n<2^(7*(j+1))->(uv n).length<=j+1
 |0,n,h=>by rw[Mx wN];simp
 |j+1,n,h=>by
  by_cases h1:n<128
  ·rw[Mx h1];simp
  ·rw[S1 h1,qJ]
   have e:2^(7*(j+1+1))=2^(7*(j+1))*128:=by rw[show 7*(j+1+1)=7*(j+1)+7 from by omega,Nat.pow_add]
   have:=Gv j (n/128) wi
   omega
theorem Gw{n:Nat}(h:n<=1000000000000):(uv n).length<=6:=Gv 5 n (Nat.lt_of_le_of_lt h wh)
theorem Nv(n:Nat):1<=(uv n).length:=by by_cases h:n<128;(rw[Mx h];simp);·rw[S1 h];simp
theorem Kw:∀(n:Nat) (x:Int),x∈uv n->0<=x/\x<=255:=by
 intro n
 induction n using Nat.strongRecOn with
 |_ n C=>
  intro x j
  by_cases h:n<128
  ·rw[Mx h,qQ]at j;omega
  ·rw[S1 h,qq]at j;rcases j with rfl|j;(omega);·exact C (n/128) wi x j
def Tl(b:List Int)(a:Nat):Nat->Nat->Nat->Int×Int×Bool
 |0,_,_=>(0,0,false)
 |j+1,k,n=>match b[a+k]? with
  |none=>(0,0,false)
  |some x=>if x.toNat<128 then if(decide (x.toNat=0)&&decide (0<k))||decide (1000000000000<n+x.toNat%128*2^(7*k))then(0,0,false)else(((n+x.toNat%128*2^(7*k):Nat):Int),((a+k+1:Nat):Int),true)else Tl b a j (k+1) (n+x.toNat%128*2^(7*k))
def nUv(b:List Int)(p:Int):Int×Int×Bool:=if p<0 then(0,0,false)else Tl b p.toNat 6 0 0
theorem Pe{k:Nat}(h:k<6):2^(7*k)<=34359738368:=Nat.pow_le_pow_right (n:=2) wh (show 7*k<=35 by omega)
theorem Zo{k n x:Nat}(j:n<2^(7*k)):n+x%128*2^(7*k)<2^(7*(k+1)):=by
 have e:2^(7*(k+1))=2^(7*k)*128:=by rw[show 7*(k+1)=7*k+7 from by omega,Nat.pow_add]
 have h1:x%128<=127:=by omega
 have h2:x%128*2^(7*k)<=127*2^(7*k):=qj _ h1
 omega
theorem aBa{n x k:Nat}(h:n<2^k):n|||x*2^k=n+x*2^k:=by have:=Nat.two_pow_add_eq_or_of_lt h x;rw[Nat.mul_comm x,Nat.or_comm,<-this,Nat.add_comm]
theorem UX{k x:Nat}(hk:k<6):i64.wrap (((x%128:Nat))*2^(min (i64.wrap (7*k)).toNat IntKind.i64.bits))=((x%128*2^(7*k):Nat)):=by
 have j:=Pe hk
 have h1:x%128<=127:=by omega
 have h2:x%128*2^(7*k)<=127*2^(7*k):=qj _ h1
 have e:min (i64.wrap (7*k)).toNat IntKind.i64.bits=7*k:=by rw[bQ wi wi,show IntKind.i64.bits=64 from rfl];omega
 rw[e,show(((x%128:Nat))*2^(7*k))=((x%128*2^(7*k):Nat):Int)from by rfl]
 exact bQ wi wi
theorem uvS{n k x:Nat}(hk:k<6)(I:x<=255)(j:n<2^(7*k)):(i64.wrap (BitVec.ofInt (IntKind.i64.bits) n|||BitVec.ofInt (IntKind.i64.bits) (i64.wrap ((i64.wrap (BitVec.ofInt (IntKind.i64.bits) (i64.wrap x)&&&BitVec.ofInt (IntKind.i64.bits) 127).toNat)*2^(min (i64.wrap (7*k)).toNat IntKind.i64.bits)))).toNat)=((n+x%128*2^(7*k):Nat)):=by
 have C:=Pe hk
 have h1:x%128<=127:=by omega
 have h2:x%128*2^(7*k)<=127*2^(7*k):=qj _ h1
 have e:=N8 (n:=x) (m:=127) wi wi
 rw[aBX]at e
 rw[bQ (n:=x) wi wi,show(127)=((127:Nat):Int)from rfl,e,UX hk,TZ wi wi,aBa j]
theorem uvI{n k x:Nat}(hk:k<6)(I:x<=255)(j:n<2^(7*k)):(i64.wrap (n+(i64.wrap ((Int.tmod (i64.wrap x) 128)*2^(min (i64.wrap (7*k)).toNat IntKind.i64.bits)))))=((n+x%128*2^(7*k):Nat)):=by
 have C:=Pe hk
 have h1:x%128<=127:=by omega
 have h2:x%128*2^(7*k)<=127*2^(7*k):=qj _ h1
 have e:Int.tmod x 128=((x%128:Nat)):=by rw[Int.tmod_eq_emod_of_nonneg wi];omega
 rw[bQ (n:=x) wi wi,e,UX hk,<-Int.natCast_add]
 exact bQ wi wi
theorem aAb{b:List Int}(hb:okB b){k:Nat}(h:k<b.length):∃x:Nat,b[k]=x/\x<=255:=by have:=hb.2 _ (qG h);exact⟨b[k].toNat,wi,wi⟩
theorem rdS{b:List Int}(hb:okB b)(J:b.length<=1500000)(a:Nat)(I:(a:Int)<=9223372036854775807):∀(j k n m:Nat),j+k=6->n<2^(7*k)->j<m->fD b a m n k=some (Tl b a j k n)
 |_,_,_,0,_,_,h=>by omega
 |0,k,n,m+1,hk,_,_=>by simp only[fD];rw[jF wX];rfl
 |j+1,k,n,m+1,hk,C,hm=>by
  have h6:k<6:=by omega
  simp only[fD]
  rw[jE wX,jF we,bQ (n:=b.length-k) wi wi]
  by_cases hlt:a+k<b.length
  ·obtain⟨x,ex,U⟩:=aAb hb hlt;rw[jF wX,show(a+k)=((a+k:Nat):Int)from by omega,bQ (n:=(a+k:Nat)) wi wi,aM hlt,qA,ex,bL wi,bL wi,jE jm];rw[uvS h6 U C,bQ (n:=x) wi wi];unfold Tl;rw[qF hlt,ex];dsimp only;rw[qH];have ih:=rdS hb J a I j (k+1) (n+x%128*2^(7*k)) m wi (Zo C) wi;by_cases h1:x<128;(rw[jE wX,jE h1];by_cases h2:x=0;(rw[jE (by simp[h2])];by_cases h3:0<k;(rw[jE wX,jE (by simp[h2,h3])]);·rw[jF wX];by_cases h4:1000000000000<n+x%128*2^(7*k);(rw[jE wP,jE (by rw[jX,qL];exact .inr h4)]);·rw[jF wP,jF jy]);·rw[jF wX];by_cases h4:1000000000000<n+x%128*2^(7*k);(rw[jE wP,jE (by rw[jX,qL];exact .inr h4)]);·rw[jF wP,jF jy]);·rw[jF wX,jF h1];exact ih
  ·rw[jE wX];unfold Tl;rw[qZ wi]
theorem vV{b:List Int}{p:Int}(hb:okB b)(j:b.length<=1500000)(C:inI p):gW b p=some (nUv b p):=by
 unfold gW nUv
 by_cases h:p<0
 ·have e:∀m,fD b p (m+1) 0 0=some (0,0,false):=λm=>by
   simp only[fD]
   rw[jE wh,jE wN]
  rw[jE h]
  exact e 18446744073709551615
 ·obtain⟨a,rfl⟩:=jU (show 0<=p by omega);exact rdS hb j a C.2 6 0 0 aH rfl wh wH
theorem rdI{b:List Int}(hb:okB b)(J:b.length<=1500000)(a:Nat)(I:a<b.length):∀(j k n m:Nat),j+k=6->n<2^(7*k)->j<m->lI b a m n k=some (Tl b a j k n)
 |_,_,_,0,_,_,h=>by omega
 |0,k,n,m+1,hk,_,_=>by simp only[lI];rw[jF wX];rfl
 |j+1,k,n,m+1,hk,C,hm=>by
  have h6:k<6:=by omega
  simp only[lI]
  rw[jE wX,show(a+k)=((a+k:Nat):Int)from by omega,bQ (n:=(a+k:Nat)) wi wi]
  by_cases hlt:a+k<b.length
  ·obtain⟨x,ex,U⟩:=aAb hb hlt;rw[jE wX,aM hlt,qA,ex,bL wi,bL wi,jE jm];rw[uvI h6 U C,bQ (n:=x) wi wi];unfold Tl;rw[qF hlt,ex];dsimp only;rw[qH];have ih:=rdI hb J a I j (k+1) (n+x%128*2^(7*k)) m wi (Zo C) wi;by_cases h1:x<128;(rw[jE wX,jE h1];by_cases h3:0<k;(rw[jE wX];by_cases h2:x=0;(rw[jE (by simp[h2]),jE (by simp[h2,h3])]);·rw[jF wX];by_cases h4:1000000000000<n+x%128*2^(7*k);(rw[jE wP,jE (by rw[jX,qL];exact .inr h4)]);·rw[jF wP,jF jy]);·rw[jF wX];by_cases h4:1000000000000<n+x%128*2^(7*k);(rw[jE wP,jE (by rw[jX,qL];exact .inr h4)]);·rw[jF wP,jF jy]);·rw[jF wX,jF h1];exact ih
  ·rw[jF wX];unfold Tl;rw[qZ wi]
theorem vC{b:List Int}{p:Int}(hb:okB b)(j:b.length<=1500000):gX b p=some (nUv b p):=by unfold gX nUv;by_cases h:p<0;(rw[jE h,jE wN]);·rw[jF h,jF wZ];obtain⟨a,rfl⟩:=jU (show 0<=p by omega);by_cases h1:a<b.length;(rw[jF wX];exact rdI hb j a h1 6 0 0 aH rfl wh wH);·rw[jE wX];unfold Tl;rw[qZ wi]
theorem Xm(b:List Int)(a:Nat):∀(j k n:Nat),(Tl b a j k n).2.2=false->Tl b a j k n=(0,0,false)
 |0,_,_,_=>rfl
 |j+1,k,n,h=>by
  unfold Tl at h⊢
  cases e:b[a+k]? with
  |none=>rfl
  |some x=>
   rw[e]at h
   dsimp only at h⊢
   split at h
   ·grind
   ·rename_i h1;rw[jF h1];exact Xm b a j (k+1) _ h
theorem aDr{b:List Int}{p:Int}(h:(nUv b p).2.2=false):nUv b p=(0,0,false):=by unfold nUv at h⊢;split;(rfl);·rename_i h1;rw[jF h1]at h;exact Xm b _ 6 0 0 h
theorem drop_cons{b:List Int}{i:Nat}{x:Int}{r:List Int}(h:b.drop i=x::r):b[i]? =some x/\b.drop (i+1)=r:=by constructor;(have:=List.head?_drop (l:=b) (i:=i);rw[h]at this;simpa using this.symm);·rw[<-List.drop_drop,h];rfl
theorem Vi(b:List Int)(a:Nat):∀(j k n m:Nat) (r:List Int),b.drop (a+k)=uv m++r->(uv m).length<=j->n+m*2^(7*k)<=1000000000000->(k=0\/0<m)->Tl b a j k n=(((n+m*2^(7*k):Nat):Int),((a+k+(uv m).length:Nat):Int),true)
 |0,k,n,m,r,_,h,_,_=>by have:=Nv m;omega
 |j+1,k,n,m,r,C,I,J,hk=>by
  unfold Tl
  by_cases h:m<128
  ·rw[Mx h]at C⊢;rw[(drop_cons C).1];dsimp only;rw[qH,jE h,Nat.mod_eq_of_lt h,jF jy];rfl
  ·rw[S1 h]at C I⊢
   rw[jP]at C
   obtain⟨h1,h2⟩:=drop_cons C
   rw[h1]
   dsimp only
   rw[qH,jF wi,show(m%128+128)%128=m%128 from by omega]
   have e:2^(7*(k+1))=128*2^(7*k):=by rw[show 7*(k+1)=7+7*k from by omega,Nat.pow_add]
   have e2:n+m%128*2^(7*k)+m/128*2^(7*(k+1))=n+m*2^(7*k):=by rw[e,<-Nat.mul_assoc,Nat.add_assoc,<-Nat.add_mul];congr 2;omega
   rw[qJ]at I⊢
   have U:=Vi b a j (k+1) (n+m%128*2^(7*k)) (m/128) r h2 wi (by rw[e2];exact J) (.inr wi)
   rw[U,e2]
   congr 2
   omega
theorem T8{b:List Int}{a m:Nat}{r:List Int}(h:b.drop a=uv m++r)(j:m<=1000000000000):nUv b a=((m:Int),((a+(uv m).length:Nat):Int),true):=by unfold nUv;rw[jF wi,qH,Vi b a 6 0 0 m r h (Gw j) (by simpa using j) (.inl rfl)];simp
theorem Vn{b:List Int}(hb:okB b)(a:Nat):∀(j k n:Nat) (v q:Int),Tl b a j k n=(v,q,true)->∃m e:Nat,v=((n+m*2^(7*k):Nat))/\q=e/\n+m*2^(7*k)<=1000000000000/\e<=b.length/\a+k+(uv m).length=e/\b.drop (a+k)=uv m++b.drop e/\(k=0\/0<m)
 |0,_,_,_,_,h=>by cases h
 |j+1,k,n,v,q,h=>by
  unfold Tl at h
  by_cases hlt:a+k<b.length
  ·obtain⟨x,ex,hx⟩:=aAb hb hlt
   have C:b.drop (a+k)=(x:Int)::b.drop (a+k+1):=by rw[qX hlt,ex]
   rw[qF hlt,ex]at h
   dsimp only at h
   rw[qH]at h
   by_cases h1:x<128
   ·rw[jE h1,Nat.mod_eq_of_lt h1]at h;split at h;(cases h);·rename_i h2;rw[jX,qM,qL,qL,qL]at h2;simp only[qb]at h;refine⟨x,a+k+1,h.1.symm,h.2.1.symm,wi,wi,by rw[Mx h1];rfl,by rw[Mx h1];exact C,wi⟩
   ·rw[jF h1]at h
    obtain⟨m,e,e1,e2,e3,e4,e5,e6,e7⟩:=Vn hb a j (k+1) _ v q h
    have U:0<m:=by omega
    have J:2^(7*(k+1))=128*2^(7*k):=by rw[show 7*(k+1)=7+7*k from by omega,Nat.pow_add]
    have e8:n+x%128*2^(7*k)+m*2^(7*(k+1))=n+(m*128+x%128)*2^(7*k):=by rw[J,<-Nat.mul_assoc,Nat.add_assoc,<-Nat.add_mul,Nat.add_comm (x%128)]
    have I:uv (m*128+x%128)=(x:Int)::uv m:=by rw[S1 wi,show(m*128+x%128)/128=m from by omega,show(m*128+x%128)%128+128=x from by omega]
    rw[e8]at e1 e3
    refine⟨m*128+x%128,e,e1,e2,e3,e4,by rw[I,qJ];omega,by rw[I,C,jP];exact congrArg _ e6,.inr wi⟩
  ·rw[qZ wi]at h;cases h
theorem Re{b:List Int}{p v q:Int}(hb:okB b)(h:nUv b p=(v,q,true)):∃a m e:Nat,p=a/\v=m/\q=e/\m<=1000000000000/\e<=b.length/\a+(uv m).length=e/\b.drop a=uv m++b.drop e:=by unfold nUv at h;split at h;(cases h);·obtain⟨m,e,e1,e2,e3,e4,e5,e6,_⟩:=Vn hb p.toNat 6 0 0 v q h;grind
def nRb(b:List Int)(p c:Int):List Int×Int×Bool:=if(nUv b p).2.2=true then if(nUv b p).1>c then([],0,false)else if(nUv b p).1>b.length-(nUv b p).2.1 then([],0,false)else((b.drop (nUv b p).2.1.toNat).take (nUv b p).1.toNat,(nUv b p).2.1+(nUv b p).1,true)else([],0,false)
theorem aAf{b:List Int}(h:okB b)(i j:Nat):okB ((b.drop i).take j):=⟨qh (by rw[qV,qW];omega) h.1,λx C=>h.2 x (qv (qk C))⟩
theorem Aa{b:List Int}{p c:Int}(hb:okB b)(C:b.length<=1500000)(I:inI p):fA b p c=some (nRb b p c):=by
 unfold fA nRb
 rw[vV hb C I,qA]
 cases h:(nUv b p).2.2 with
 |false=>rfl
 |true=>
  obtain⟨a,m,e,e1,e2,e3,e4,e5,e6,e7⟩:=Re hb (show nUv b p=((nUv b p).1,(nUv b p).2.1,true)from by rw[<-h])
  rw[e2,e3]
  simp only[qB,qD,jG,jH]
  by_cases h1:m>c
  ·rw[jE (by simpa using h1),jE h1]
  ·rw[jF wZ,jF h1,bQ (n:=b.length-e) wi wi]
   by_cases h2:m>b.length-(e:Int)
   ·rw[jE (by simpa using h2),jE h2]
   ·rw[jF (by simpa using h2),jF h2,bQ (n:=e+m) wi wi]
    have J:∀(α:Type) (xs:List α),xs.length=b.length->SU xs e (e+m)=some ((xs.take (e+(m:Int)).toNat).drop (e:Int).toNat):=λα xs U=>by unfold SU;rw[jE ⟨wi,wi,wi⟩]
    have j:List.drop (e:Int).toNat (b.take (e+(m:Int)).toNat)=List.take m (b.drop e):=by rw[qH,show(e+(m:Int)).toNat=e+m from by omega,List.drop_take];congr 1;omega
    rw[J _ b rfl,qA,j,qH,qH]
    have hk:(List.take m (b.drop e)).length<=1500000:=by rw[qV,qW];omega
    rw[IP wi wi,qA]
theorem Av{b:List Int}{p c:Int}(hb:okB b)(C:b.length<=1500000):eY b p c=some (nRb b p c):=by
 unfold eY nRb
 rw[vC hb C,qA]
 cases h:(nUv b p).2.2 with
 |false=>rfl
 |true=>
  obtain⟨a,m,e,e1,e2,e3,e4,e5,e6,e7⟩:=Re hb (show nUv b p=((nUv b p).1,(nUv b p).2.1,true)from by rw[<-h])
  rw[e2,e3]
  simp only[qB,qD,jG,jH]
  by_cases h1:m>c
  ·rw[jE (by simpa using h1),jE h1]
  ·rw[jF wZ,jF h1,bQ (n:=b.length-e) wi wi]
   by_cases h2:m>b.length-(e:Int)
   ·rw[jE (by simpa using h2),jE h2]
   ·rw[jF (by simpa using h2),jF h2,bQ (n:=e+m) wi wi]
    have I:∀(α:Type) (xs:List α),xs.length=b.length->SU xs e (e+m)=some ((xs.take (e+(m:Int)).toNat).drop (e:Int).toNat):=λα xs J=>by unfold SU;rw[jE ⟨wi,wi,wi⟩]
    have j:List.drop (e:Int).toNat (b.take (e+(m:Int)).toNat)=List.take m (b.drop e):=by rw[qH,show(e+(m:Int)).toNat=e+m from by omega,List.drop_take];congr 1;omega
    rw[I _ b rfl,qA,j,qH,qH]
    have hk:(List.take m (b.drop e)).length<=1500000:=by rw[qV,qW];omega
    unfold eD
    rw[IP wi wi,qA,qA]
theorem aD1{b:List Int}{p c:Int}(h:(nRb b p c).2.2=false):nRb b p c=([],0,false):=by unfold nRb at h⊢;grind
theorem Yk{b s:List Int}{p c q:Int}(hb:okB b)(h:nRb b p c=(s,q,true)):∃a e:Nat,p=a/\q=e/\s.length<=c/\e<=b.length/\s.length<=1000000000000/\a+(uv s.length).length+s.length=e/\b.drop a=uv s.length++(s++b.drop e)/\okB s:=by
 unfold nRb at h
 split at h
 ·rename_i C
  obtain⟨a,m,e,e1,e2,e3,e4,e5,e6,e7⟩:=Re hb (show nUv b p=((nUv b p).1,(nUv b p).2.1,true)from by rw[<-C])
  rw[e2,e3]at h
  split at h
  ·cases h
  ·split at h
   ·cases h
   ·simp only[qb,qH]at h
    have j:s.length=m:=by rw[<-h.1,qV,qW];omega
    refine⟨a,e+m,e1,wi,wi,wi,wi,by rw[j];omega,?_,by rw[<-h.1];exact aAf hb _ _⟩
    rw[j,e7,<-h.1,<-List.drop_drop,qo]
 ·cases h
theorem X6{b s r:List Int}{a:Nat}{c:Int}(h:b.drop a=uv s.length++(s++r))(hc:s.length<=c)(j:s.length<=1000000000000):nRb b a c=(s,((a+(uv s.length).length+s.length:Nat):Int),true):=by
 have hlen:b.length-a=(uv s.length).length+(s.length+r.length):=by have:=congrArg List.length h;simpa using this
 have:=Nv s.length
 unfold nRb
 rw[T8 h j]
 simp only[jH]
 rw[jF wi,jF wi,qH,qH,<-List.drop_drop,h,List.drop_left,List.take_left]
 rfl
theorem aAJ{b s:List Int}{p c d q:Int}(hb:okB b)(h:nRb b p c=(s,q,true))(j:s.length<=d):nRb b p d=(s,q,true):=by obtain⟨a,e,rfl,rfl,h1,h2,h3,h4,h5,_⟩:=Yk hb h;rw[X6 h5 j h3,h4]
theorem Gf(s:ByteArray):∀x∈bJ s,0<=x/\x<=255:=by intro x j;obtain⟨b,_,rfl⟩:=qx.1 j;have:=b.toNat_lt;omega
theorem Fe{l:List Int}(h:∀x∈l,0<=x/\x<=255):bJ (bS l)=l:=by unfold bJ bS;simp only[List.map_map];refine(List.map_congr_left λx j=> ?_).trans (List.map_id l);have:=h x j;simp only[Function.comp_apply,UInt8.toNat_ofNat',id_eq];omega
theorem Gg(l:List Int):(bS l).size=l.length:=by show(l.map _).toArray.size=_;simp
theorem Ux{L:Nat->Int->List Int->Option (List Int)}{b c:Int->Int}
  (h1:∀m (n:Nat) r,¬n<128->n<2^63->L (m+1) n r=(app 1 r [b n]).bind λ_=>L m ((n/128:Nat)) (r++[b n]))
  (h2:∀m (n:Nat) r,n<128->L (m+1) n r=(app 1 r [c n]).bind λ_=>some (r++[c n]))
  (hb:∀n:Nat,n<2^63->b n=((n%128+128:Nat)))(hc:∀n:Nat,n<128->c n=n):
  ∀(j m n:Nat) (r:List Int),n<2^(7*(j+1))->n<2^63->j<m->r.length+(j+1)<=140737488355328->L m n r=some (r++uv n)
 |j,0,n,r,_,_,I,_=>by omega
 |0,m+1,n,r,J,C,I,hr=>by
  have h:n<128:=by simpa using J
  rw[h2 m n r h,dN wX,qA,hc n h,Mx h]
 |j+1,m+1,n,r,J,C,I,hr=>by
  by_cases h:n<128
  ·rw[h2 m n r h,dN wX,qA,hc n h,Mx h]
  ·have U:n/128<2^(7*(j+1)):=by
    have e:2^(7*(j+1+1))=2^(7*(j+1))*128:=by rw[show 7*(j+1+1)=7*(j+1)+7 by omega,Nat.pow_add]
    omega
   rw[h1 m n r h C,dN wX,qA,Ux h1 h2 hb hc j m (n/128) (r++[b n]) U wi wi wX,hb n C,S1 h,qT]
   rfl
theorem u8n{n:Nat}(h:n<128):IntKind.u8.wrap n=n:=by rw[wrap_u8];omega
theorem u8S{n:Nat}(h:n<2^63):IntKind.u8.wrap (i64.wrap (BitVec.ofInt (IntKind.i64.bits) (i64.wrap (BitVec.ofInt (IntKind.i64.bits) n&&&BitVec.ofInt (IntKind.i64.bits) 127).toNat)|||BitVec.ofInt (IntKind.i64.bits) 128).toNat)=((n%128+128:Nat)):=by have e:=N8 (n:=n) (m:=127) wi wi;rw[aBX]at e;have e2:=TZ (n:=n%128) (m:=128) wi wi;rw[aFm wi]at e2;rw[show(127)=((127:Nat):Int)from rfl,e,show(128)=((128:Nat):Int)from rfl,e2,wrap_u8];omega
theorem u8I{n:Nat}(h:n<2^63):IntKind.u8.wrap (i64.wrap ((Int.tmod (n:Int) 128)+128))=((n%128+128:Nat)):=by
 have e:Int.tmod n 128=((n%128:Nat)):=by rw[Int.tmod_eq_emod_of_nonneg wi];omega
 rw[e,bQ wi wi,wrap_u8]
 omega
theorem rK{r:List Int}{n:Nat}(I:r.length<=16777216)(C:n<=1000000000000):cG r n=some (r++uv n):=by
 have j:inR n 0 1000000000000=true:=by unfold inR;simp;omega
 unfold cG
 rw[dN wX,qA,cK,qA,j,jF we]
 refine Ux (L:=dI) (b:=λv=>IntKind.u8.wrap (i64.wrap (BitVec.ofInt (IntKind.i64.bits) (i64.wrap (BitVec.ofInt (IntKind.i64.bits) v&&&BitVec.ofInt (IntKind.i64.bits) 127).toNat)|||BitVec.ofInt (IntKind.i64.bits) 128).toNat)) (c:=λv=>IntKind.u8.wrap v) (λm n r h1 h2=> ?_) (λm n r h1=> ?_) (λn h=>u8S h) (λn h=>u8n h) 8 aH n r wi wi wH wi
 ·simp only[dI];rw[jE wX,uvf]
 ·simp only[dI];rw[jF wX]
