/-
  Helper text. No conditions.
-/
import Derived.Test.YtjlnkcoeghonfaaGreatRunPagePm2
set_option linter.all false
namespace Go.Proofs.YtjlnkcoeghonfaaGreat.gen
open Go Go.Sh
def Cn(x y:Int):Bool:=x==y
theorem Rt{xs ys:List Int}(C:xs.length<=maxLen):sZ xs ys=some (eqL Cn xs ys):=by
 have I:=le_max C
 unfold sZ
 rw[aBh (f:=Cn) C (E:=some true) (λn k hk j=>by
  simp only[kF]
  rw[if_pos (bE hk),aH hk,aH j,qA,qA,bG jD]
  first|rw[C8];rfl|rw[GD];rfl) (λn=>by
  simp only[kF]
  rw[if_neg jK]),bY,Bool.and_true]
theorem K7{a b:List Int}(j:okB a)(hb:okB b):xQ a b=some (eqL Cn a b):=by unfold xQ;rw[Dc j.2,Dc hb.2,qA,qA,RW j.2 hb.2];rfl
theorem BS{a b:List Int}(j:okB a):lJ a b=some (eqL Cn a b):=by unfold lJ;rw[Rt j.1,qA]
theorem Qv:inI 0:=by unfold inI;omega
theorem aIN(n:Nat)(h:n<=1500000):n<=maxLen:=by unfold maxLen;omega
theorem sz0:((⟨#[]⟩:ByteArray)).size<=maxLen:=aIN _ jG
theorem Ze{α:Type}{l:List α}{k:Nat}(h:k<=l.length):Ea l (k:Int)=some (l.drop k):=by unfold Ea;rw[if_pos ⟨jD,by simpa using h⟩];simp
theorem Pt:∀{a b c:List UInt8},Op.bytesLess a b=true->Op.bytesLess b c=true->Op.bytesLess a c=true
 |[],[],_,h,_=>by cases h
 |_::_,[],_,h,_=>by cases h
 |_,_::_,[],_,h=>by cases h
 |[],_::_,_::_,_,_=>rfl
 |x::a,y::b,z::c,h1,h2=>by
  have e1:Op.bytesLess (x::a) (y::b)=(decide (x<y)||((x==y)&&Op.bytesLess a b)):=rfl
  have e2:Op.bytesLess (y::b) (z::c)=(decide (y<z)||((y==z)&&Op.bytesLess b c)):=rfl
  have e3:Op.bytesLess (x::a) (z::c)=(decide (x<z)||((x==z)&&Op.bytesLess a c)):=rfl
  rw[e1,Bool.or_eq_true,qM,qL,UInt8.lt_iff_toNat_lt]at h1
  rw[e2,Bool.or_eq_true,qM,qL,UInt8.lt_iff_toNat_lt]at h2
  rw[e3,Bool.or_eq_true,qM,qL,UInt8.lt_iff_toNat_lt]
  rcases h1 with h1|⟨h1,h1'⟩<;>rcases h2 with h2|⟨h2,j⟩
  ·exact .inl jD
  ·exact .inl (by rw[<-eq_of_beq h2];exact h1)
  ·exact .inl (by rw[eq_of_beq h1];exact h2)
  ·exact .inr ⟨by rw[eq_of_beq h1];exact h2,Pt h1' j⟩
theorem Kq{α:Type}{f:α->Bool}:∀{l:List α} {k:Nat},(∀(j:Nat) (C:j<l.length),j<k->f l[j]=true)->(∀(hk:k<l.length),f l[k]=false)->k<=l.length->(l.takeWhile f).length=k
 |[],k,_,_,h=>by simp at h;simp[h]
 |x::l,0,_,h,_=>by have:=h jF;simp only[List.getElem_cons_zero]at this;rw[List.takeWhile_cons,if_neg (by rw[this];simp)];rfl
 |x::l,k+1,h1,h2,h3=>by have:=h1 0 jF jD;simp only[List.getElem_cons_zero]at this;rw[List.takeWhile_cons,if_pos this,qJ,Kq (k:=k) (λj C I=> ?_) (λhk=> ?_) (by simpa using h3)];(have:=h1 (j+1) jE jD;simpa using this);·have:=h2 jE;simpa using this
theorem L6{α:Type}{f:α->Bool}:∀{l:List α} (j:Nat) (C:j<l.length),j<(l.takeWhile f).length->f l[j]=true
 |[],j,C,_=>by simp at C
 |x::l,j,C,h=>by
  rw[List.takeWhile_cons]at h
  split at h
  ·rename_i I
   cases j with
   |zero=>exact I
   |succ j=>exact L6 j (by simpa using C) (by simpa using h)
  ·simp at h
theorem Mf{α:Type}{f:α->Bool}:∀{l:List α} (hk:(l.takeWhile f).length<l.length),f (l[(l.takeWhile f).length])=false
 |[],hk=>by simp at hk
 |x::l,hk=>by
  cases hx:f x with
  |false=>simp[List.takeWhile_cons,hx]
  |true=>
   have j:(l.takeWhile f).length<l.length:=by rw[List.takeWhile_cons,if_pos hx]at hk;simpa using hk
   have:=Mf j
   simpa[List.takeWhile_cons,hx]using this
theorem Ez{α:Type}{f:α->Bool}{l:List α}{k:Nat}(h:mF f l=(k:Int)):∃hk:k<l.length,f l[k]=true:=by
 unfold mF at h
 cases e:l.findIdx? f with
 |none=>rw[e]at h;simp only at h;omega
 |some i=>
  rw[e]at h
  simp only at h
  have:i=k:=by omega
  subst this
  obtain⟨h1,h2,_⟩:=List.findIdx?_eq_some_iff_getElem.1 e
  exact⟨h1,h2⟩
theorem O7{α:Type}{f:α->Bool}{l:List α}(h:mF f l<0):∀x∈l,f x=false:=by
 have h2:=Ks f l
 rw[decide_eq_false jD]at h2
 intro x j
 cases hf:f x with
 |false=>rfl
 |true=>
  have:l.any f=true:=List.any_eq_true.2 ⟨x,j,hf⟩
  rw[<-h2]at this
  cases this
theorem V7{r:M.aC}(h:bU r=true)(k:Nat)(hk:k+1<r.aJq.length):Op.bytesLess r.aJq[k].Name.toList r.aJq[k+1].Name.toList=true:=by unfold bU at h;rw[qM,qR]at h;have:=h.1 (k+1) (qS.2 hk);unfold Hu at this;rw[qF hk,Nat.add_sub_cancel,qF (show k<r.aJq.length by omega)]at this;simp only[qe,qM]at this;simpa using this.2
theorem Y7{r:M.aC}(h:bU r=true):∀(d i:Nat) (j:i+d+1<r.aJq.length),Op.bytesLess r.aJq[i].Name.toList r.aJq[i+d+1].Name.toList=true
 |0,i,j=>V7 h i j
 |d+1,i,j=>Pt (Y7 h d i jD) (V7 h (i+d+1) j)
def Rf(a:ByteArray)(x:M.Field):Bool:=Op.bytesLess x.Name.toList a.toList
def P6(l:List M.Field)(a:ByteArray):Nat:=(l.takeWhile (Rf a)).length
theorem TA(l:List M.Field)(a:ByteArray):P6 l a<=l.length:=(List.takeWhile_prefix _).length_le
theorem RU{r:M.aC}{a:ByteArray}(h:bU r=true){k:Nat}(hk:k<r.aJq.length)(C:nP a r.aJq[k]=true):P6 r.aJq a=k:=by
 have e:r.aJq[k].Name.toList=a.toList:=eq_of_beq C
 refine Kq (λj J I=> ?_) (λ_=> ?_) jD
 ·unfold Rf
  rw[<-e]
  have:=Y7 h (k-j-1) j jD
  have e2:j+(k-j-1)+1=k:=by omega
  simp only[e2]at this
  exact this
 ·unfold Rf;rw[e];exact NR _
def Ru(r:M.aC)(a:ByteArray)(n:Int):List M.Field:=if mF (nP a) r.aJq<0 then r.aJq.take (P6 r.aJq a)++([(⟨a,n⟩:M.Field)]++r.aJq.drop (P6 r.aJq a))
 else match r.aJq[(mF (nP a) r.aJq).toNat]? with|some x=>r.aJq.set (mF (nP a) r.aJq).toNat (⟨x.Name,n⟩:M.Field)|none=>r.aJq
def Nn(r:M.aC)(l:List M.Field):M.aC×Bool:=if bU r=true then if bU (⟨l⟩:M.aC)=true then((⟨l⟩:M.aC),true)else(r,false)else(r,false)
def Ia(r:M.aC)(a:ByteArray)(n:Int):M.aC×Bool:=Nn r (Ru r a n)
theorem Jd{r:M.aC}(h:bU r=false)(l:List M.Field):Nn r l=(r,false):=by unfold Nn;rw[h,if_neg jF]
theorem V6{r:M.aC}{a:ByteArray}{n:Int}(k:Nat)(C:r.ok)(hl:r.aJq.length<=1073741824)(I:a.size<=maxLen)(J:inI n):M.aC.ok (⟨r.aJq.take k++([(⟨a,n⟩:M.Field)]++r.aJq.drop k)⟩:M.aC):=
 ⟨⟨by show(r.aJq.take k++([(⟨a,n⟩:M.Field)]++r.aJq.drop k)).length<=maxLen;unfold maxLen;simp only[qE,qU,qV,qJ,qK];omega,λy U=>by have j:y∈r.aJq.take k++([(⟨a,n⟩:M.Field)]++r.aJq.drop k):=U;simp only[qP,qp,qO,or_false]at j;rcases j with h|rfl|h;(exact C.aJq.2 y (qj h));(exact⟨I,J⟩);·exact C.aJq.2 y (qv h)⟩⟩
theorem Sp{r:M.aC}{n:Int}{k:Nat}(hk:k<r.aJq.length)(j:r.ok)(I:inI n):M.aC.ok (⟨r.aJq.set k (⟨r.aJq[k].Name,n⟩:M.Field)⟩:M.aC):=
 ⟨⟨by show(r.aJq.set k _).length<=maxLen;rw[qN];exact j.aJq.1,λy J=>by have C:y∈r.aJq.set k (⟨r.aJq[k].Name,n⟩:M.Field):=J;rcases jC C with h|rfl;(exact j.aJq.2 y h);·exact⟨(j.aJq.2 _ (qG hk)).Name,I⟩⟩⟩
theorem OV{r:M.aC}{l:List M.Field}(C:r.ok)(hz:M.aC.sz r<=1073741824)(j:M.aC.ok (⟨l⟩:M.aC)):
  ((bS r).bind λx=>if(!x)=true then(cD r).bind λy=>some (y,false)else(bS (⟨l⟩:M.aC)).bind λz=>if(!z)=true then(cD r).bind λy=>some (y,false)else some ((⟨l⟩:M.aC),true))=some (Nn r l):=by
 rw[pI C,qA,B5 r hz,pI j]
 unfold Nn
 cases bU r
 ·simp
 ·cases bU (⟨l⟩:M.aC)<;>simp
theorem OZ{r:M.aC}{l:List M.Field}(C:r.ok)(hz:M.aC.sz r<=1073741824)(j:M.aC.ok (⟨l⟩:M.aC)):
  ((cK r).bind λx=>if(!x)=true then(bQ r).bind λy=>some (y,false)else(cK (⟨l⟩:M.aC)).bind λz=>if(!z)=true then(bQ r).bind λy=>some (y,false)else some ((⟨l⟩:M.aC),true))=some (Nn r l):=by
 rw[wZ C,qA,sJ r hz,wZ j]
 unfold Nn
 cases bU r
 ·simp
 ·cases bU (⟨l⟩:M.aC)<;>simp
def tFI(r:M.aC)(a:ByteArray)(n:Int)(k:Nat):Option (M.aC×Bool):=(KO 24 r.aJq (k:Int) ([(⟨a,n⟩:M.Field)])).bind λ_=>(cK r).bind λj=>if(!j)=true then(bQ r).bind λC=>some (C,false)else(cK (⟨List.take (k:Int).toNat r.aJq++([(⟨a,n⟩:M.Field)]++List.drop (k:Int).toNat r.aJq)⟩:M.aC)).bind λI=>if(!I)=true then(bQ r).bind λJ=>some (J,false)else some ((⟨List.take (k:Int).toNat r.aJq++([(⟨a,n⟩:M.Field)]++List.drop (k:Int).toNat r.aJq)⟩:M.aC),true)
theorem D5{r:M.aC}{a:ByteArray}{n:Int}(j:r.ok)(hz:M.aC.sz r<=1073741824)(J:a.size<=maxLen)(C:inI n):mH r a n=some (Ia r a n):=by
 have U:r.aJq.length<=1073741824:=by simp only[M.aC.sz]at hz;omega
 unfold mH AS Ia Ru
 rw[sJ r hz,qA,G7 (f:=nP a) j.aJq.1 (λx _=>by simp only[tG];rfl),qA,qA]
 by_cases h:mF (nP a) r.aJq<0
 ·rw[if_neg jE,if_pos h,LR (l:=r.aJq) (f:=Rf a) (L:=mP r a n r) (S:=tFI r a n) j.aJq.1 (λm k hk=> ?_) (λm=> ?_)];(show tFI r a n (P6 r.aJq a)=_;have hp:=TA r.aJq a;unfold tFI;rw[MZ jO,qA,qH];exact OZ j hz (V6 _ j U J C));(simp only[mP];rw[if_pos (bE hk),aH hk,qA,bG jD];rfl);·simp only[mP];rw[if_neg jK];rfl
 ·obtain⟨k,e,hk⟩:=eN h;rw[if_pos (by simpa using h),if_neg h,e,aH hk,qA,qH,qF hk];have I:=OZ j hz (Sp hk j C);rw[sJ r hz]at I;exact I
def tFA(r:M.aC)(a:ByteArray)(n:Int)(k:Nat):Option (M.aC×Bool):=(idx r.aJq (k:Int)).bind λj=>(bS r).bind λC=>if(!C)=true then(cD r).bind λI=>some (I,false)else(bS (⟨List.set r.aJq (k:Int).toNat (⟨j.Name,n⟩:M.Field)⟩:M.aC)).bind λJ=>if(!J)=true then(cD r).bind λU=>some (U,false)else some ((⟨List.set r.aJq (k:Int).toNat (⟨j.Name,n⟩:M.Field)⟩:M.aC),true)
def tFB(r:M.aC)(a:ByteArray)(n:Int)(k:Nat):Option (M.aC×Bool):=(GR r.aJq (k:Int)).bind λ_=>(app 24 ([]:List M.Field) (List.take (k:Int).toNat r.aJq)).bind λ_=>(app 24 (List.take (k:Int).toNat r.aJq) ([(⟨a,n⟩:M.Field)])).bind λ_=>(Ea r.aJq (k:Int)).bind λ_=>(app 24 ((List.take (k:Int).toNat r.aJq)++[(⟨a,n⟩:M.Field)]) (List.drop (k:Int).toNat r.aJq)).bind λ_=>(bS r).bind λj=>if(!j)=true then(cD r).bind λC=>some (C,false)else(bS (⟨((List.take (k:Int).toNat r.aJq)++[(⟨a,n⟩:M.Field)])++(List.drop (k:Int).toNat r.aJq)⟩:M.aC)).bind λI=>if(!I)=true then(cD r).bind λJ=>some (J,false)else some ((⟨((List.take (k:Int).toNat r.aJq)++[(⟨a,n⟩:M.Field)])++(List.drop (k:Int).toNat r.aJq)⟩:M.aC),true)
def tFS(r:M.aC)(a:ByteArray)(n:Int)(k:Nat):Option (M.aC×Bool):=match r.aJq[k]? with|some x=>if(x.Name.toList==a.toList)=true then tFA r a n k else tFB r a n k|none=>tFB r a n k
theorem Y0{r:M.aC}{a:ByteArray}{n:Int}{k:Nat}(hk:k<=r.aJq.length)(j:r.ok)(hz:M.aC.sz r<=1073741824)(C:a.size<=maxLen)(J:inI n):tFB r a n k=some (Nn r (r.aJq.take k++([(⟨a,n⟩:M.Field)]++r.aJq.drop k))):=by
 have I:r.aJq.length<=1073741824:=by simp only[M.aC.sz]at hz;omega
 unfold tFB
 rw[Lq hk,qA,qH,JX (by rw[qU];omega) jD,qA,eH jQ,qA,Ze hk,qA,eH jM,qA,qT]
 exact OV j hz (V6 k j I C J)
theorem DO{r:M.aC}{a:ByteArray}{n:Int}(I:r.ok)(hz:M.aC.sz r<=1073741824)(U:a.size<=maxLen)(J:inI n):mS r a n=some (Ia r a n):=by
 have hl:r.aJq.length<=1073741824:=by simp only[M.aC.sz]at hz;omega
 have hp:=TA r.aJq a
 unfold mS
 rw[B5 r hz,qA,LR (l:=r.aJq) (f:=Rf a) (L:=mG r a n r) (S:=tFS r a n) I.aJq.1 (λm k hk=> ?_) (λm=> ?_)]
 ·show tFS r a n (P6 r.aJq a)=_
  unfold tFS Ia
  rcases Nat.lt_or_ge (P6 r.aJq a) r.aJq.length with h|h
  ·rw[qF h]
   simp only
   by_cases hf:(r.aJq[P6 r.aJq a].Name.toList==a.toList)=true
   ·rw[if_pos hf]
    unfold tFA
    rw[aH h,qA,qH,OV I hz (Sp h I J)]
    cases hR:bU r with
    |false=>rw[Jd hR,Jd hR]
    |true=>
     have hnot:¬mF (nP a) r.aJq<0:=λh0=>by have:=O7 h0 _ (qG h);rw[show nP a r.aJq[P6 r.aJq a]=true from hf]at this;cases this
     obtain⟨k,e,hk⟩:=eN hnot
     obtain⟨_,j⟩:=Ez e
     have C:=RU hR hk j
     unfold Ru
     rw[if_neg hnot,e,qH,qF hk]
     simp only[C]
   ·rw[if_neg hf,Y0 hp I hz U J]
    cases hR:bU r with
    |false=>rw[Jd hR,Jd hR]
    |true=>
     have hneg:mF (nP a) r.aJq<0:=Classical.byContradiction λhnot=>by obtain⟨k,e,hk⟩:=eN hnot;obtain⟨_,j⟩:=Ez e;have C:=RU hR hk j;apply hf;simp only[C];exact j
     unfold Ru
     rw[if_pos hneg]
  ·rw[qY h]
   simp only
   rw[Y0 hp I hz U J]
   cases hR:bU r with
   |false=>rw[Jd hR,Jd hR]
   |true=>
    have hneg:mF (nP a) r.aJq<0:=Classical.byContradiction λhnot=>by obtain⟨k,e,hk⟩:=eN hnot;obtain⟨_,j⟩:=Ez e;have C:=RU hR hk j;omega
    unfold Ru
    rw[if_pos hneg]
 ·simp only[mG];rw[if_pos (bE hk),aH hk,qA,bG jD];unfold tFS;rw[qF hk];simp only;unfold tFA;rw[aH hk];rfl
 ·simp only[mG];rw[if_neg jK];unfold tFS;rw[qY (qf _)];rfl
def sW(k:M.Key)(x:M.aJt):Bool:=(x.Key.aJz==k.aJz)&&((x.Key.N==k.N)&&(x.Key.aKA.toList==k.aKA.toList))
theorem yR{s:M.aD}{k:M.Key}(I:s.ok):gY s k=some (mF (sW k) s.aJm):=by have J:=le_max I.aJm.1;unfold gY;rw[findAll (L:=mT s k) (f:=sW k) (A:=λi=>some (i:Int)) (E:=some (-1)) I.aJm.1 (λm j C=> ?_) (λm=> ?_),pG];(simp only[mT];rw[if_pos (bE C),aH C,qA,bG jD];rfl);·simp only[mT];rw[if_neg jK]
theorem Br{s:M.aD}{k:M.Key}(j:s.ok):kI s k=some (mF (sW k) s.aJm):=by unfold kI;rw[HX (f:=sW k) j.aJm.1 (λx _=>by simp only[yN];rfl),qA]
theorem Xx{x y:M.Key}(I:Dv x=true)(J:Dv y=true)(h:¬bP x y<0)(j:((x.aJz==y.aJz)&&((x.N==y.N)&&(x.aKA.toList==y.aKA.toList)))=false):bP y x<0:=by
 unfold bP at*
 rw[if_pos ⟨I,J⟩]at h
 rw[if_pos ⟨J,I⟩]
 by_cases hk:x.aJz=y.aJz
 ·rw[if_pos hk]at h
  rw[if_pos hk.symm]
  by_cases hn:x.N=y.N
  ·rw[if_pos hn]at h
   rw[if_pos hn.symm]
   have hb:(x.aKA.toList==y.aKA.toList)=false:=by simpa[hk,hn]using j
   have U:Op.bytesLess x.aKA.toList y.aKA.toList=false:=by
    cases e:Op.bytesLess x.aKA.toList y.aKA.toList with
    |false=>rfl
    |true=>rw[e,if_pos rfl]at h;omega
   have C:=Ch x.aKA.toList y.aKA.toList
   rw[U,Bool.beq_comm,hb,Bool.or_false]at C
   have h2:Op.bytesLess y.aKA.toList x.aKA.toList=true:=by
    cases e:Op.bytesLess y.aKA.toList x.aKA.toList with
    |true=>rfl
    |false=>rw[e]at C;cases C
   rw[if_pos h2]
   omega
  ·rw[if_neg hn]at h;rw[if_neg (λe=>hn e.symm)];by_cases hlt:x.N<y.N;(rw[if_pos hlt]at h;omega);·rw[if_pos jD];omega
 ·rw[if_neg hk]at h;rw[if_neg (λe=>hk e.symm)];by_cases hlt:x.aJz<y.aJz;(rw[if_pos hlt]at h;omega);·rw[if_pos jD];omega
theorem QH{l:List M.aJt}(h1:∀(k:Nat) (x:M.aJt),l[k]? =some x->Dv x.Key=true/\bU x.aC=true)(h2:∀(k:Nat) (x y:M.aJt),l[k]? =some x->l[k+1]? =some y->bP x.Key y.Key<0):(List.range l.length).all (Ey l)=true:=by
 rw[qR]
 intro k hk
 have hk:=qS.1 hk
 unfold Ey
 obtain⟨C,I⟩:=h1 k _ (qF hk)
 cases k with
 |zero=>rw[qF hk];simp[C,I]
 |succ k=>
  have j:k<l.length:=by omega
  have b:=h2 k _ _ (qF j) (qF hk)
  rw[qF hk,Nat.add_sub_cancel,qF j]
  simp[C,I,b]
theorem KA{l:List M.aJt}(h:(List.range l.length).all (Ey l)=true):(∀(k:Nat) (x:M.aJt),l[k]? =some x->Dv x.Key=true/\bU x.aC=true)/\(∀(k:Nat) (x y:M.aJt),l[k]? =some x->l[k+1]? =some y->bP x.Key y.Key<0):=by rw[qR]at h;refine⟨λk x j=> ?_,λk x y j C=> ?_⟩;(have hk:k<l.length:=(qd.1 j).1;have:=h k (qS.2 hk);unfold Ey at this;rw[j]at this;simp only[qe,qM]at this;exact this.1);·have hk:k+1<l.length:=(qd.1 C).1;have:=h (k+1) (qS.2 hk);unfold Ey at this;rw[C,Nat.add_sub_cancel,j]at this;simp only[qe,qM]at this;simpa using this.2
theorem Wd{α:Type}{l:List α}{p:Nat}{x:α}(C:p<=l.length)(k:Nat):(l.take p++([x]++l.drop p))[k]? =if k<p then l[k]? else if k=p then some x else l[k-1]? :=by
 have j:(l.take p).length=p:=by rw[qU];omega
 rw[List.getElem?_append,j]
 by_cases h1:k<p
 ·rw[if_pos h1,if_pos h1,List.getElem?_take_of_lt h1]
 ·rw[if_neg h1,if_neg h1];by_cases h2:k=p;(subst h2;simp);·rw[if_neg h2];obtain⟨d,rfl⟩:∃d,k=p+1+d:=⟨k-p-1,jD⟩;rw[show p+1+d-p=d+1 by omega,List.singleton_append,List.getElem?_cons_succ,List.getElem?_drop,show p+1+d-1=p+d by omega]
def Kg(k:M.Key)(x:M.aJt):Bool:=decide (bP x.Key k<0)
def Fg(l:List M.aJt)(k:M.Key):Nat:=(l.takeWhile (Kg k)).length
theorem PW(l:List M.aJt)(k:M.Key):Fg l k<=l.length:=(List.takeWhile_prefix _).length_le
def SL(s:M.aD)(k:M.Key):Int:=if((k.aJz==1)&&(decide (k.N>s.aKG)&&decide (k.N<=1000000)))=true then k.N else s.aKG
def XK(s:M.aD)(k:M.Key)(r:M.aC):M.aD:=(⟨s.Name,s.aJm.take (Fg s.aJm k)++([(⟨k,r⟩:M.aJt)]++s.aJm.drop (Fg s.aJm k)),SL s k⟩:M.aD)
def Rc(s:M.aD)(i:Nat)(r:M.aC):M.aD:=(⟨s.Name,match s.aJm[i]? with|some x=>s.aJm.set i (⟨x.Key,r⟩:M.aJt)|none=>s.aJm,s.aKG⟩:M.aD)
def F8(s:M.aD)(k:M.Key)(r:M.aC):M.aD×Bool:=if lQ s=true then if Dv k=true then if mF (sW k) s.aJm<0 then if s.aJm.length<16 then(XK s k r,true)else(s,false)else(Rc s (mF (sW k) s.aJm).toNat r,true)else(s,false)else(s,false)
theorem Be{s:M.aD}(h:lQ s=true):(List.range s.aJm.length).all (Ey s.aJm)=true/\mN s.Name=true/\s.aJm.length<=16/\0<=s.aKG/\s.aKG<=1000000:=by unfold lQ inR at h;simp only[qM,qL]at h;exact⟨h.1,h.2.1,h.2.2.1,h.2.2.2.1,h.2.2.2.2⟩
theorem X5{s:M.aD}(h1:(List.range s.aJm.length).all (Ey s.aJm)=true)(h2:mN s.Name=true)(h3:s.aJm.length<=16)(h4:0<=s.aKG)(h5:s.aKG<=1000000):lQ s=true:=by unfold lQ inR;simp[h1,h2,h3,h4,h5]
theorem Tb{s:M.aD}{k:M.Key}(h:lQ s=true):0<=SL s k/\SL s k<=1000000:=by obtain⟨_,_,_,h4,h5⟩:=Be h;unfold SL;split;(rename_i hc;simp only[qM,qL]at hc;omega);·exact⟨h4,h5⟩
theorem RF{s:M.aD}{i:Nat}{r:M.aC}(h:lQ s=true)(C:i<s.aJm.length):lQ (Rc s i r)=bU r:=by
 obtain⟨h1,h2,h3,h4,h5⟩:=Be h
 obtain⟨a1,a2⟩:=KA h1
 have e:Rc s i r=(⟨s.Name,s.aJm.set i (⟨s.aJm[i].Key,r⟩:M.aJt),s.aKG⟩:M.aD):=by unfold Rc;rw[qF C]
 rw[e]
 have key:∀(k:Nat) (x:M.aJt),(s.aJm.set i (⟨s.aJm[i].Key,r⟩:M.aJt))[k]? =some x->∃y,s.aJm[k]? =some y/\x.Key=y.Key/\(k≠i->x=y)/\(k=i->x.aC=r):=by intro k x j;rw[List.getElem?_set]at j;by_cases hk:i=k;(subst hk;rw[if_pos rfl,if_pos C]at j;cases j;exact⟨_,qF C,rfl,λI=>absurd rfl I,λ_=>rfl⟩);·rw[if_neg hk]at j;exact⟨x,j,rfl,λ_=>rfl,λI=>absurd I.symm hk⟩
 cases hr:bU r with
 |true=>
  refine X5 (QH (λk x j=> ?_) (λk x y j U=> ?_)) h2 (by show(s.aJm.set i _).length<=16;rw[qN];exact h3) h4 h5
  ·obtain⟨y,U,e1,e2,e3⟩:=key k x j;obtain⟨b1,b2⟩:=a1 k y U;refine⟨by rw[e1];exact b1,?_⟩;by_cases hk:k=i;(rw[e3 hk];exact hr);·rw[e2 hk];exact b2
  ·obtain⟨x',J,e1,_⟩:=key k x j;obtain⟨y',hy',e2,_⟩:=key (k+1) y U;rw[e1,e2];exact a2 k x' y' J hy'
 |false=>
  cases hq:lQ (⟨s.Name,s.aJm.set i (⟨s.aJm[i].Key,r⟩:M.aJt),s.aKG⟩:M.aD)with
  |false=>rfl
  |true=>
   have:=(KA (Be hq).1).1 i _ (by show(s.aJm.set i _)[i]? =_;rw[List.getElem?_set,if_pos rfl,if_pos C])
   simp only at this
   rw[hr]at this
   cases this.2
theorem QO{s:M.aD}{k:M.Key}{r:M.aC}(h:lQ s=true)(hk:Dv k=true)(hr:bU r=true)(hf:mF (sW k) s.aJm<0)(au:Int)(U:0<=au/\au<=1000000):
  lQ (⟨s.Name,s.aJm.take (Fg s.aJm k)++([(⟨k,r⟩:M.aJt)]++s.aJm.drop (Fg s.aJm k)),au⟩:M.aD)=decide (s.aJm.length<16):=by
 obtain⟨h1,h2,h3,h4,h5⟩:=Be h
 obtain⟨a1,a2⟩:=KA h1
 have hp:=PW s.aJm k
 have hlen:(s.aJm.take (Fg s.aJm k)++([(⟨k,r⟩:M.aJt)]++s.aJm.drop (Fg s.aJm k))).length=s.aJm.length+1:=by simp only[qE,qU,qV,qJ,qK];omega
 have hall:(List.range (s.aJm.take (Fg s.aJm k)++([(⟨k,r⟩:M.aJt)]++s.aJm.drop (Fg s.aJm k))).length).all (Ey (s.aJm.take (Fg s.aJm k)++([(⟨k,r⟩:M.aJt)]++s.aJm.drop (Fg s.aJm k))))=true:=by
  refine QH (λj x C=> ?_) (λj x y C I=> ?_)
  ·rw[Wd hp]at C;split at C;(exact a1 j x C);·split at C;(cases C;exact⟨hk,hr⟩);·exact a1 _ x C
  ·rw[Wd hp]at C I
   by_cases c1:j+1<Fg s.aJm k
   ·rw[if_pos jD]at C;rw[if_pos c1]at I;exact a2 j x y C I
   ·rw[if_neg c1]at I
    by_cases c2:j+1=Fg s.aJm k
    ·rw[if_pos c2]at I
     rw[if_pos jD]at C
     cases I
     have hj:j<s.aJm.length:=by omega
     have:=L6 (f:=Kg k) (l:=s.aJm) j hj (by show j<Fg s.aJm k;omega)
     rw[qF hj]at C
     cases C
     unfold Kg at this
     simpa using this
    ·rw[if_neg c2]at I
     by_cases c3:j=Fg s.aJm k
     ·rw[if_neg jD,if_pos c3]at C
      cases C
      rw[Nat.add_sub_cancel]at I
      have hj:j<s.aJm.length:=(qd.1 I).1
      have hj':(s.aJm.takeWhile (Kg k)).length<s.aJm.length:=by show Fg s.aJm k<_;omega
      have J:=Mf (f:=Kg k) hj'
      have e1:s.aJm[(s.aJm.takeWhile (Kg k)).length]=y:=by
       have:s.aJm[Fg s.aJm k]? =some y:=by rw[<-c3];exact I
       exact(qd.1 this).2
      rw[e1]at J
      unfold Kg at J
      have hne:=O7 hf y (by rw[<-e1];exact qG _)
      unfold sW at hne
      exact Xx (a1 j y I).1 hk (by simpa using J) hne
     ·rw[if_neg jD,if_neg c3]at C;rw[show j+1-1=(j-1)+1 by omega]at I;exact a2 (j-1) x y C I
 have e1:decide ((s.aJm.take (Fg s.aJm k)++([(⟨k,r⟩:M.aJt)]++s.aJm.drop (Fg s.aJm k))).length<=16)=decide (s.aJm.length<16):=decide_eq_decide.2 (by rw[hlen];omega)
 unfold lQ inR
 rw[hall,h2,e1,decide_eq_true U.1,decide_eq_true U.2]
 simp
theorem O8{s o:M.aD}(hz:M.aD.sz s<=1073741824)(j:o.ok):((bT o).bind λz=>if(!z)=true then(aZ s).bind λy=>some (y,false)else some (o,true))=some (if lQ o=true then(o,true)else(s,false)):=by rw[Ay j,qA,iF s hz];cases lQ o<;>simp
theorem aBT{X:Type}(c1 c2 c3:Bool)(A:Int->X)(x y:Int):(if c1=true then if c2=true then if c3=true then A x else A y else A y else A y)=A (if(c1&&(c2&&c3))=true then x else y):=by cases c1<;>cases c2<;>cases c3<;>rfl
theorem Wm{s:M.aD}{k:M.Key}{r:M.aC}{J:Int}(p:Nat)(I:s.ok)(hl:s.aJm.length<=1073741824)(hk:k.ok)(U:r.ok)(C:inI J):M.aD.ok (⟨s.Name,s.aJm.take p++([(⟨k,r⟩:M.aJt)]++s.aJm.drop p),J⟩:M.aD):=
 ⟨I.Name,⟨by show(s.aJm.take p++([(⟨k,r⟩:M.aJt)]++s.aJm.drop p)).length<=maxLen;unfold maxLen;simp only[qE,qU,qV,qJ,qK];omega,λy hy=>by have j:y∈s.aJm.take p++([(⟨k,r⟩:M.aJt)]++s.aJm.drop p):=hy;simp only[qP,qp,qO,or_false]at j;rcases j with h|rfl|h;(exact I.aJm.2 y (qj h));(exact⟨hk,U⟩);·exact I.aJm.2 y (qv h)⟩,C⟩
theorem Wh{s:M.aD}{r:M.aC}{i:Nat}(I:i<s.aJm.length)(j:s.ok)(J:r.ok):M.aD.ok (⟨s.Name,s.aJm.set i (⟨s.aJm[i].Key,r⟩:M.aJt),s.aKG⟩:M.aD):=
 ⟨j.Name,⟨by show(s.aJm.set i _).length<=maxLen;rw[qN];exact j.aJm.1,λy U=>by have C:y∈s.aJm.set i (⟨s.aJm[i].Key,r⟩:M.aJt):=U;rcases jC C with h|rfl;(exact j.aJm.2 y h);·exact⟨(j.aJm.2 _ (qG I)).Key,J⟩⟩,j.aKG⟩
theorem QC{s:M.aD}{k:M.Key}(j:s.ok)(hk:k.ok):inI (SL s k):=by unfold SL;split;(exact hk.N);·exact j.aKG
def tPI(s:M.aD)(k:M.Key)(r:M.aC)(j:Nat):Option (M.aD×Bool):=(bQ r).bind λC=>(KO 56 s.aJm (j:Int) ([(⟨k,C⟩:M.aJt)])).bind λ_=>if(k.aJz==1)=true then if(decide (k.N>s.aKG))=true then if(decide (k.N<=1000000))=true then(bT (⟨s.Name,List.take (j:Int).toNat s.aJm++([(⟨k,C⟩:M.aJt)]++List.drop (j:Int).toNat s.aJm),k.N⟩:M.aD)).bind λz=>if(!z)=true then(aZ s).bind λy=>some (y,false)else some ((⟨s.Name,List.take (j:Int).toNat s.aJm++([(⟨k,C⟩:M.aJt)]++List.drop (j:Int).toNat s.aJm),k.N⟩:M.aD),true)else(bT (⟨s.Name,List.take (j:Int).toNat s.aJm++([(⟨k,C⟩:M.aJt)]++List.drop (j:Int).toNat s.aJm),s.aKG⟩:M.aD)).bind λz=>if(!z)=true then(aZ s).bind λy=>some (y,false)else some ((⟨s.Name,List.take (j:Int).toNat s.aJm++([(⟨k,C⟩:M.aJt)]++List.drop (j:Int).toNat s.aJm),s.aKG⟩:M.aD),true)else(bT (⟨s.Name,List.take (j:Int).toNat s.aJm++([(⟨k,C⟩:M.aJt)]++List.drop (j:Int).toNat s.aJm),s.aKG⟩:M.aD)).bind λz=>if(!z)=true then(aZ s).bind λy=>some (y,false)else some ((⟨s.Name,List.take (j:Int).toNat s.aJm++([(⟨k,C⟩:M.aJt)]++List.drop (j:Int).toNat s.aJm),s.aKG⟩:M.aD),true)else(bT (⟨s.Name,List.take (j:Int).toNat s.aJm++([(⟨k,C⟩:M.aJt)]++List.drop (j:Int).toNat s.aJm),s.aKG⟩:M.aD)).bind λz=>if(!z)=true then(aZ s).bind λy=>some (y,false)else some ((⟨s.Name,List.take (j:Int).toNat s.aJm++([(⟨k,C⟩:M.aJt)]++List.drop (j:Int).toNat s.aJm),s.aKG⟩:M.aD),true)
def tPS(s:M.aD)(k:M.Key)(r:M.aC)(j:Nat):Option (M.aD×Bool):=(GR s.aJm (j:Int)).bind λ_=>(app 56 ([]:List M.aJt) (List.take (j:Int).toNat s.aJm)).bind λ_=>(cD r).bind λC=>(app 56 (List.take (j:Int).toNat s.aJm) ([(⟨k,C⟩:M.aJt)])).bind λ_=>(app 56 ((List.take (j:Int).toNat s.aJm)++[(⟨k,C⟩:M.aJt)]) (List.drop (j:Int).toNat s.aJm)).bind λ_=>if(k.aJz==1)=true then(bB k.N (IntKind.i64.wrap (s.aKG+1)) 1000000).bind λI=>if I=true then some ((⟨s.Name,((List.take (j:Int).toNat s.aJm)++[(⟨k,C⟩:M.aJt)])++(List.drop (j:Int).toNat s.aJm),k.N⟩:M.aD),true)else some ((⟨s.Name,((List.take (j:Int).toNat s.aJm)++[(⟨k,C⟩:M.aJt)])++(List.drop (j:Int).toNat s.aJm),s.aKG⟩:M.aD),true)else some ((⟨s.Name,((List.take (j:Int).toNat s.aJm)++[(⟨k,C⟩:M.aJt)])++(List.drop (j:Int).toNat s.aJm),s.aKG⟩:M.aD),true)
theorem CC{s:M.aD}{k:M.Key}{r:M.aC}(C:s.ok)(hk:k.ok)(hr:r.ok)(hR:bU r=true)(hz:M.aD.sz s<=1073741824)(I:M.aC.sz r<=1073741824):iJ s k r=some (F8 s k r):=by
 have hl:s.aJm.length<=1073741824:=by simp only[M.aD.sz]at hz;omega
 have hp:=PW s.aJm k
 unfold iJ F8
 rw[Ay C,oZ hk,iF s hz,Br C,sJ r I]
 simp only[qA]
 cases hS:lQ s with
 |false=>simp
 |true=>
  cases hK:Dv k with
  |false=>simp
  |true=>
   simp only[qB,qD,if_false,if_true]
   by_cases h:mF (sW k) s.aJm<0
   ·rw[if_neg jE,if_pos h,LR (l:=s.aJm) (f:=Kg k) (L:=oC s k r s) (S:=tPI s k r) C.aJm.1 (λm j U=> ?_) (λm=> ?_)];(show tPI s k r (Fg s.aJm k)=_;unfold tPI;rw[sJ r I,qA,MZ jO,qA,qH];refine Eq.trans (aBT (k.aJz==1) (decide (k.N>s.aKG)) (decide (k.N<=1000000)) (λau=>(bT (⟨s.Name,s.aJm.take (Fg s.aJm k)++([(⟨k,r⟩:M.aJt)]++s.aJm.drop (Fg s.aJm k)),au⟩:M.aD)).bind λz=>if(!z)=true then(aZ s).bind λy=>some (y,false)else some ((⟨s.Name,s.aJm.take (Fg s.aJm k)++([(⟨k,r⟩:M.aJt)]++s.aJm.drop (Fg s.aJm k)),au⟩:M.aD),true)) k.N s.aKG) ?_;refine(O8 (o:=XK s k r) hz (Wm _ C hl hk hr (QC C hk))).trans ?_;unfold XK;rw[QO hS hK hR h _ (Tb hS)];by_cases aa:s.aJm.length<16;(simp[aa]);·simp[aa]);(have hj':=C.aJm.2 _ (qG U);simp only[oC];rw[if_pos (bE U),aH U,qA,vM hj'.Key hk,qA,bG jD];rfl);·simp only[oC];rw[if_neg jK];rfl
   ·obtain⟨i,e,J⟩:=eN h
    rw[if_pos (by simpa using h),if_neg h,e,aH J,qA,qH]
    have nM:=RF (r:=r) hS J
    have e2:Rc s i r=(⟨s.Name,s.aJm.set i (⟨s.aJm[i].Key,r⟩:M.aJt),s.aKG⟩:M.aD):=by unfold Rc;rw[qF J]
    rw[e2]at nM⊢
    have ht:=O8 hz (Wh J C hr)
    rw[nM,hR,if_pos rfl,iF s hz]at ht
    exact ht
theorem Cu{s:M.aD}{k:M.Key}{r:M.aC}(I:s.ok)(hk:k.ok)(hr:r.ok)(hR:bU r=true)(hz:M.aD.sz s<=1073741824)(C:M.aC.sz r<=1073741824):iE s k r=some (F8 s k r):=by
 have hl:s.aJm.length<=1073741824:=by simp only[M.aD.sz]at hz;omega
 have hp:=PW s.aJm k
 unfold iE F8
 rw[CS I,mD hk,pI hr,hR,rN s hz,yR I,B5 r C]
 simp only[qA]
 cases hS:lQ s with
 |false=>simp
 |true=>
  cases hK:Dv k with
  |false=>simp
  |true=>
   simp only[qB,qD,if_false,if_true]
   by_cases h:mF (sW k) s.aJm<0
   ·rw[if_neg jE,if_pos h]
    by_cases aa:s.aJm.length<16
    ·rw[if_neg jE,if_pos aa,LR (l:=s.aJm) (f:=Kg k) (L:=oM s k r s) (S:=tPS s k r) I.aJm.1 (λm j J=> ?_) (λm=> ?_)]
     ·show tPS s k r (Fg s.aJm k)=_
      obtain⟨_,_,_,ha4,ha5⟩:=Be hS
      have ew:IntKind.i64.wrap (s.aKG+1)=s.aKG+1:=bI jD jD
      have ei:inR k.N (s.aKG+1) 1000000=(decide (k.N>s.aKG)&&decide (k.N<=1000000)):=by unfold inR;congr 1
      unfold tPS
      rw[Lq hp,qA,qH,JX (by rw[qU];omega) jD,qA,B5 r C,qA,eH jQ,qA,eH jM,qA,qT,cG,qA,ew,ei]
      unfold XK SL
      cases (k.aJz==1)<;>cases (decide (k.N>s.aKG)&&decide (k.N<=1000000))<;>rfl
     ·have U:=I.aJm.2 _ (qG J);simp only[oM];rw[if_pos (bE J),aH J,qA,vW U.Key hk,qA,bG jD];rfl
     ·simp only[oM];rw[if_neg jK];rfl
    ·rw[if_pos jE,if_neg aa]
   ·obtain⟨i,e,hi⟩:=eN h;rw[if_pos (by simpa using h),if_neg h,e,aH hi,qA,qH];unfold Rc;rw[qF hi]
def eQ(s:M.aD)(k:M.Key):M.aC:=if mF (sW k) s.aJm<0 then(⟨([]:List M.Field)⟩:M.aC)else match s.aJm[(mF (sW k) s.aJm).toNat]? with|some x=>x.aC|none=>(⟨([]:List M.Field)⟩:M.aC)
theorem Tr:M.aC.ok (⟨([]:List M.Field)⟩:M.aC):=⟨⟨by simp[maxLen],jF⟩⟩
theorem FR{s:M.aD}{k:M.Key}(j:s.ok):(eQ s k).ok:=by unfold eQ;split;(exact Tr);·split;(rename_i x C;exact(j.aJm.2 x (jB C)).aC);·exact Tr
theorem Ic(s:M.aD)(k:M.Key):M.aC.sz (eQ s k)<=M.aD.sz s:=by
 unfold eQ
 split
 ·simp[M.aC.sz,bA]
 ·split
  ·rename_i x j
   have h1:=dW (f:=M.aJt.sz) (jB j)
   have h2:M.aC.sz x.aC<=M.aJt.sz x:=by simp only[M.aJt.sz];omega
   simp only[M.aD.sz]
   omega
  ·simp[M.aC.sz,bA]
theorem Xj{r:M.aC}{a:ByteArray}{n:Int}(C:r.ok)(J:r.aJq.length<=1073741824)(I:a.size<=maxLen)(j:inI n):M.aC.ok (⟨Ru r a n⟩:M.aC):=by unfold Ru;by_cases h:mF (nP a) r.aJq<0;(rw[if_pos h];exact V6 _ C J I j);·rw[if_neg h];obtain⟨k,e,hk⟩:=eN h;rw[e,qH,qF hk];exact Sp hk C j
theorem Nq{r:M.aC}{a:ByteArray}{n:Int}(j:r.ok)(I:r.aJq.length<=1073741824)(C:a.size<=maxLen)(J:inI n):(Ia r a n).1.ok:=by unfold Ia Nn;split;(split;(exact Xj j I C J);·exact j);·exact j
theorem G8{r:M.aC}{a:ByteArray}{n:Int}(h:(Ia r a n).2=true):bU (Ia r a n).1=true:=by unfold Ia Nn at h⊢;by_cases h1:bU r=true;(rw[if_pos h1]at h⊢;by_cases h2:bU (⟨Ru r a n⟩:M.aC)=true;(rw[if_pos h2];exact h2);·rw[if_neg h2]at h;cases h);·rw[if_neg h1]at h;cases h
theorem NV{r:M.aC}(h:bU r=true):M.aC.sz r<=100:=by obtain⟨h1,h2⟩:=vO h;have:=Bc (w:=M.Field.sz) (b:=8) (xs:=r.aJq) (λx j=>by have:=(h2 x j).1;simp only[M.Field.sz];omega);simp only[M.aC.sz];omega
theorem J6{s:M.aD}(h:lQ s=true):M.aD.sz s<=10000:=by
 obtain⟨h1,h2,h3,_,_⟩:=Be h
 obtain⟨j,_⟩:=KA h1
 have hn:s.Name.size<=8:=by unfold mN inR at h2;simp only[qM,qL]at h2;omega
 have:=Bc (w:=M.aJt.sz) (b:=112) (xs:=s.aJm) (λx J=>by obtain⟨k,hk,rfl⟩:=List.mem_iff_getElem.1 J;obtain⟨C,I⟩:=j k _ (qF hk);have U:=G6 C;have c2:=NV I;simp only[M.aJt.sz,M.Key.sz];omega)
 simp only[M.aD.sz]
 omega
theorem OU{s:M.aD}{k:M.Key}{r:M.aC}(j:bU r=true)(h:(F8 s k r).2=true):lQ (F8 s k r).1=true:=by unfold F8 at h⊢;by_cases hS:lQ s=true;(rw[if_pos hS]at h⊢;by_cases hK:Dv k=true;(rw[if_pos hK]at h⊢;by_cases hf:mF (sW k) s.aJm<0;(rw[if_pos hf]at h⊢;by_cases aa:s.aJm.length<16;(rw[if_pos aa];have:=QO hS hK j hf _ (Tb (k:=k) hS);simp only[aa,decide_true]at this;exact this);·rw[if_neg aa]at h;cases h);·rw[if_neg hf];obtain⟨i,e,C⟩:=eN hf;simp only[e,qH];rw[RF hS C];exact j);·rw[if_neg hK]at h;cases h);·rw[if_neg hS]at h;cases h
theorem Ty{s:M.aD}{k:M.Key}{r:M.aC}(j:s.ok)(J:s.aJm.length<=1073741824)(hk:k.ok)(I:r.ok):(F8 s k r).1.ok:=by unfold F8;by_cases hS:lQ s=true;(rw[if_pos hS];by_cases hK:Dv k=true;(rw[if_pos hK];by_cases hf:mF (sW k) s.aJm<0;(rw[if_pos hf];split;(exact Wm _ j J hk I (QC j hk));·exact j);·rw[if_neg hf];obtain⟨i,e,C⟩:=eN hf;simp only[e,qH];unfold Rc;rw[qF C];exact Wh C j I);·rw[if_neg hK];exact j);·rw[if_neg hS];exact j
theorem Pv{s:M.aD}{k:M.Key}{r:M.aC}(h:(F8 s k r).2=false):(F8 s k r).1=s:=by unfold F8 at h⊢;by_cases hS:lQ s=true;(rw[if_pos hS]at h⊢;by_cases hK:Dv k=true;(rw[if_pos hK]at h⊢;by_cases hf:mF (sW k) s.aJm<0;(rw[if_pos hf]at h⊢;by_cases aa:s.aJm.length<16;(rw[if_pos aa]at h;cases h);·rw[if_neg aa]);·rw[if_neg hf]at h;cases h);·rw[if_neg hK]);·rw[if_neg hS]
