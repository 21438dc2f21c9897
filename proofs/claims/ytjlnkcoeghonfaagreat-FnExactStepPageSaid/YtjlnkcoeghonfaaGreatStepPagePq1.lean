/-
  Helper text. No conditions.
-/
import Derived.Test.YtjlnkcoeghonfaaGreatStepPagePm2
set_option linter.all false
namespace Go.Proofs.YtjlnkcoeghonfaaGreat.gen
open Go Go.Sh
def Cj(x y:Int):Bool:=x==y
theorem Ro{xs ys:List Int}(C:xs.length<=maxLen):sX xs ys=some (eqL Cj xs ys):=by
 have I:=le_max C
 unfold sX
 rw[aBZ (f:=Cj) C (E:=some true) (λn k hk j=>by
  simp only[kC]
  rw[if_pos (bE hk),aH hk,aH j,qA,qA,bG jD]
  first|rw[C2];rfl|rw[Gy];rfl) (λn=>by
  simp only[kC]
  rw[if_neg jK]),bY,Bool.and_true]
theorem K1{a b:List Int}(j:okB a)(hb:okB b):xO a b=some (eqL Cj a b):=by unfold xO;rw[C6 j.2,C6 hb.2,qA,qA,RS j.2 hb.2];rfl
theorem BO{a b:List Int}(j:okB a):lH a b=some (eqL Cj a b):=by unfold lH;rw[Ro j.1,qA]
theorem Qr:inI 0:=by unfold inI;omega
theorem aIF(n:Nat)(h:n<=1048576):n<=maxLen:=by unfold maxLen;omega
theorem sz0:((⟨#[]⟩:ByteArray)).size<=maxLen:=aIF _ jG
theorem Y6{α:Type}{l:List α}{k:Nat}(h:k<=l.length):D3 l (k:Int)=some (l.drop k):=by unfold D3;rw[if_pos ⟨jD,by simpa using h⟩];simp
theorem Pp:∀{a b c:List UInt8},Op.bytesLess a b=true->Op.bytesLess b c=true->Op.bytesLess a c=true
 |[],[],_,h,_=>by cases h
 |_::_,[],_,h,_=>by cases h
 |_,_::_,[],_,h=>by cases h
 |[],_::_,_::_,_,_=>rfl
 |x::a,y::b,z::c,h1,h2=>by
  have e1:Op.bytesLess (x::a) (y::b)=(decide (x<y)||((x==y)&&Op.bytesLess a b)):=rfl
  have e2:Op.bytesLess (y::b) (z::c)=(decide (y<z)||((y==z)&&Op.bytesLess b c)):=rfl
  have e3:Op.bytesLess (x::a) (z::c)=(decide (x<z)||((x==z)&&Op.bytesLess a c)):=rfl
  rw[e1,Bool.or_eq_true,qM,qL,UInt8.lt_iff_toNat_lt]at h1
  rw[e2,Bool.or_eq_true,qM,qL,UInt8.lt_iff_toNat_lt]at h2
  rw[e3,Bool.or_eq_true,qM,qL,UInt8.lt_iff_toNat_lt]
  rcases h1 with h1|⟨h1,h1'⟩<;>rcases h2 with h2|⟨h2,j⟩
  ·exact .inl jD
  ·exact .inl (by rw[<-eq_of_beq h2];exact h1)
  ·exact .inl (by rw[eq_of_beq h1];exact h2)
  ·exact .inr ⟨by rw[eq_of_beq h1];exact h2,Pp h1' j⟩
theorem Kk{α:Type}{f:α->Bool}:∀{l:List α} {k:Nat},(∀(j:Nat) (C:j<l.length),j<k->f l[j]=true)->(∀(hk:k<l.length),f l[k]=false)->k<=l.length->(l.takeWhile f).length=k
 |[],k,_,_,h=>by simp at h;simp[h]
 |x::l,0,_,h,_=>by have:=h jF;simp only[List.getElem_cons_zero]at this;rw[List.takeWhile_cons,if_neg (by rw[this];simp)];rfl
 |x::l,k+1,h1,h2,h3=>by have:=h1 0 jF jD;simp only[List.getElem_cons_zero]at this;rw[List.takeWhile_cons,if_pos this,qJ,Kk (k:=k) (λj C I=> ?_) (λhk=> ?_) (by simpa using h3)];(have:=h1 (j+1) jE jD;simpa using this);·have:=h2 jE;simpa using this
theorem L0{α:Type}{f:α->Bool}:∀{l:List α} (j:Nat) (C:j<l.length),j<(l.takeWhile f).length->f l[j]=true
 |[],j,C,_=>by simp at C
 |x::l,j,C,h=>by
  rw[List.takeWhile_cons]at h
  split at h
  ·rename_i I
   cases j with
   |zero=>exact I
   |succ j=>exact L0 j (by simpa using C) (by simpa using h)
  ·simp at h
theorem L9{α:Type}{f:α->Bool}:∀{l:List α} (hk:(l.takeWhile f).length<l.length),f (l[(l.takeWhile f).length])=false
 |[],hk=>by simp at hk
 |x::l,hk=>by
  cases hx:f x with
  |false=>simp[List.takeWhile_cons,hx]
  |true=>
   have j:(l.takeWhile f).length<l.length:=by rw[List.takeWhile_cons,if_pos hx]at hk;simpa using hk
   have:=L9 j
   simpa[List.takeWhile_cons,hx]using this
theorem Es{α:Type}{f:α->Bool}{l:List α}{k:Nat}(h:mD f l=(k:Int)):∃hk:k<l.length,f l[k]=true:=by
 unfold mD at h
 cases e:l.findIdx? f with
 |none=>rw[e]at h;simp only at h;omega
 |some i=>
  rw[e]at h
  simp only at h
  have:i=k:=by omega
  subst this
  obtain⟨h1,h2,_⟩:=List.findIdx?_eq_some_iff_getElem.1 e
  exact⟨h1,h2⟩
theorem O3{α:Type}{f:α->Bool}{l:List α}(h:mD f l<0):∀x∈l,f x=false:=by
 have h2:=Km f l
 rw[decide_eq_false jD]at h2
 intro x j
 cases hf:f x with
 |false=>rfl
 |true=>
  have:l.any f=true:=List.any_eq_true.2 ⟨x,j,hf⟩
  rw[<-h2]at this
  cases this
theorem V2{r:M.aA}(h:bU r=true)(k:Nat)(hk:k+1<r.aJi.length):Op.bytesLess r.aJi[k].Name.toList r.aJi[k+1].Name.toList=true:=by unfold bU at h;rw[qM,qR]at h;have:=h.1 (k+1) (qS.2 hk);unfold Ho at this;rw[qF hk,Nat.add_sub_cancel,qF (show k<r.aJi.length by omega)]at this;simp only[qe,qM]at this;simpa using this.2
theorem YZ{r:M.aA}(h:bU r=true):∀(d i:Nat) (j:i+d+1<r.aJi.length),Op.bytesLess r.aJi[i].Name.toList r.aJi[i+d+1].Name.toList=true
 |0,i,j=>V2 h i j
 |d+1,i,j=>Pp (YZ h d i jD) (V2 h (i+d+1) j)
def Rb(a:ByteArray)(x:M.Field):Bool:=Op.bytesLess x.Name.toList a.toList
def P2(l:List M.Field)(a:ByteArray):Nat:=(l.takeWhile (Rb a)).length
theorem Tu(l:List M.Field)(a:ByteArray):P2 l a<=l.length:=(List.takeWhile_prefix _).length_le
theorem RQ{r:M.aA}{a:ByteArray}(h:bU r=true){k:Nat}(hk:k<r.aJi.length)(C:nM a r.aJi[k]=true):P2 r.aJi a=k:=by
 have e:r.aJi[k].Name.toList=a.toList:=eq_of_beq C
 refine Kk (λj J I=> ?_) (λ_=> ?_) jD
 ·unfold Rb
  rw[<-e]
  have:=YZ h (k-j-1) j jD
  have e2:j+(k-j-1)+1=k:=by omega
  simp only[e2]at this
  exact this
 ·unfold Rb;rw[e];exact NM _
def Rp(r:M.aA)(a:ByteArray)(n:Int):List M.Field:=if mD (nM a) r.aJi<0 then r.aJi.take (P2 r.aJi a)++([(⟨a,n⟩:M.Field)]++r.aJi.drop (P2 r.aJi a))
 else match r.aJi[(mD (nM a) r.aJi).toNat]? with|some x=>r.aJi.set (mD (nM a) r.aJi).toNat (⟨x.Name,n⟩:M.Field)|none=>r.aJi
def Nh(r:M.aA)(l:List M.Field):M.aA×Bool:=if bU r=true then if bU (⟨l⟩:M.aA)=true then((⟨l⟩:M.aA),true)else(r,false)else(r,false)
def H4(r:M.aA)(a:ByteArray)(n:Int):M.aA×Bool:=Nh r (Rp r a n)
theorem I6{r:M.aA}(h:bU r=false)(l:List M.Field):Nh r l=(r,false):=by unfold Nh;rw[h,if_neg jF]
theorem V1{r:M.aA}{a:ByteArray}{n:Int}(k:Nat)(C:r.ok)(hl:r.aJi.length<=1073741824)(I:a.size<=maxLen)(J:inI n):M.aA.ok (⟨r.aJi.take k++([(⟨a,n⟩:M.Field)]++r.aJi.drop k)⟩:M.aA):=
 ⟨⟨by show(r.aJi.take k++([(⟨a,n⟩:M.Field)]++r.aJi.drop k)).length<=maxLen;unfold maxLen;simp only[qE,qU,qV,qJ,qK];omega,λy U=>by have j:y∈r.aJi.take k++([(⟨a,n⟩:M.Field)]++r.aJi.drop k):=U;simp only[qP,qp,qO,or_false]at j;rcases j with h|rfl|h;(exact C.aJi.2 y (qj h));(exact⟨I,J⟩);·exact C.aJi.2 y (qv h)⟩⟩
theorem Sk{r:M.aA}{n:Int}{k:Nat}(hk:k<r.aJi.length)(j:r.ok)(I:inI n):M.aA.ok (⟨r.aJi.set k (⟨r.aJi[k].Name,n⟩:M.Field)⟩:M.aA):=
 ⟨⟨by show(r.aJi.set k _).length<=maxLen;rw[qN];exact j.aJi.1,λy J=>by have C:y∈r.aJi.set k (⟨r.aJi[k].Name,n⟩:M.Field):=J;rcases jC C with h|rfl;(exact j.aJi.2 y h);·exact⟨(j.aJi.2 _ (qG hk)).Name,I⟩⟩⟩
theorem OR{r:M.aA}{l:List M.Field}(C:r.ok)(hz:M.aA.sz r<=1073741824)(j:M.aA.ok (⟨l⟩:M.aA)):
  ((bS r).bind λx=>if(!x)=true then(cD r).bind λy=>some (y,false)else(bS (⟨l⟩:M.aA)).bind λz=>if(!z)=true then(cD r).bind λy=>some (y,false)else some ((⟨l⟩:M.aA),true))=some (Nh r l):=by
 rw[pD C,qA,B1 r hz,pD j]
 unfold Nh
 cases bU r
 ·simp
 ·cases bU (⟨l⟩:M.aA)<;>simp
theorem OV{r:M.aA}{l:List M.Field}(C:r.ok)(hz:M.aA.sz r<=1073741824)(j:M.aA.ok (⟨l⟩:M.aA)):
  ((cM r).bind λx=>if(!x)=true then(bQ r).bind λy=>some (y,false)else(cM (⟨l⟩:M.aA)).bind λz=>if(!z)=true then(bQ r).bind λy=>some (y,false)else some ((⟨l⟩:M.aA),true))=some (Nh r l):=by
 rw[wX C,qA,sG r hz,wX j]
 unfold Nh
 cases bU r
 ·simp
 ·cases bU (⟨l⟩:M.aA)<;>simp
def tFI(r:M.aA)(a:ByteArray)(n:Int)(k:Nat):Option (M.aA×Bool):=(KI 24 r.aJi (k:Int) ([(⟨a,n⟩:M.Field)])).bind λ_=>(cM r).bind λj=>if(!j)=true then(bQ r).bind λC=>some (C,false)else(cM (⟨List.take (k:Int).toNat r.aJi++([(⟨a,n⟩:M.Field)]++List.drop (k:Int).toNat r.aJi)⟩:M.aA)).bind λI=>if(!I)=true then(bQ r).bind λJ=>some (J,false)else some ((⟨List.take (k:Int).toNat r.aJi++([(⟨a,n⟩:M.Field)]++List.drop (k:Int).toNat r.aJi)⟩:M.aA),true)
theorem DY{r:M.aA}{a:ByteArray}{n:Int}(j:r.ok)(hz:M.aA.sz r<=1073741824)(J:a.size<=maxLen)(C:inI n):mF r a n=some (H4 r a n):=by
 have U:r.aJi.length<=1073741824:=by simp only[M.aA.sz]at hz;omega
 unfold mF AP H4 Rp
 rw[sG r hz,qA,GY (f:=nM a) j.aJi.1 (λx _=>by simp only[tE];rfl),qA,qA]
 by_cases h:mD (nM a) r.aJi<0
 ·rw[if_neg jE,if_pos h,LH (l:=r.aJi) (f:=Rb a) (L:=mN r a n r) (S:=tFI r a n) j.aJi.1 (λm k hk=> ?_) (λm=> ?_)];(show tFI r a n (P2 r.aJi a)=_;have hp:=Tu r.aJi a;unfold tFI;rw[MQ jO,qA,qH];exact OV j hz (V1 _ j U J C));(simp only[mN];rw[if_pos (bE hk),aH hk,qA,bG jD];rfl);·simp only[mN];rw[if_neg jK];rfl
 ·obtain⟨k,e,hk⟩:=eN h;rw[if_pos (by simpa using h),if_neg h,e,aH hk,qA,qH,qF hk];have I:=OV j hz (Sk hk j C);rw[sG r hz]at I;exact I
def tFA(r:M.aA)(a:ByteArray)(n:Int)(k:Nat):Option (M.aA×Bool):=(idx r.aJi (k:Int)).bind λj=>(bS r).bind λC=>if(!C)=true then(cD r).bind λI=>some (I,false)else(bS (⟨List.set r.aJi (k:Int).toNat (⟨j.Name,n⟩:M.Field)⟩:M.aA)).bind λJ=>if(!J)=true then(cD r).bind λU=>some (U,false)else some ((⟨List.set r.aJi (k:Int).toNat (⟨j.Name,n⟩:M.Field)⟩:M.aA),true)
def tFB(r:M.aA)(a:ByteArray)(n:Int)(k:Nat):Option (M.aA×Bool):=(GL r.aJi (k:Int)).bind λ_=>(app 24 ([]:List M.Field) (List.take (k:Int).toNat r.aJi)).bind λ_=>(app 24 (List.take (k:Int).toNat r.aJi) ([(⟨a,n⟩:M.Field)])).bind λ_=>(D3 r.aJi (k:Int)).bind λ_=>(app 24 ((List.take (k:Int).toNat r.aJi)++[(⟨a,n⟩:M.Field)]) (List.drop (k:Int).toNat r.aJi)).bind λ_=>(bS r).bind λj=>if(!j)=true then(cD r).bind λC=>some (C,false)else(bS (⟨((List.take (k:Int).toNat r.aJi)++[(⟨a,n⟩:M.Field)])++(List.drop (k:Int).toNat r.aJi)⟩:M.aA)).bind λI=>if(!I)=true then(cD r).bind λJ=>some (J,false)else some ((⟨((List.take (k:Int).toNat r.aJi)++[(⟨a,n⟩:M.Field)])++(List.drop (k:Int).toNat r.aJi)⟩:M.aA),true)
def tFS(r:M.aA)(a:ByteArray)(n:Int)(k:Nat):Option (M.aA×Bool):=match r.aJi[k]? with|some x=>if(x.Name.toList==a.toList)=true then tFA r a n k else tFB r a n k|none=>tFB r a n k
theorem YS{r:M.aA}{a:ByteArray}{n:Int}{k:Nat}(hk:k<=r.aJi.length)(j:r.ok)(hz:M.aA.sz r<=1073741824)(C:a.size<=maxLen)(J:inI n):tFB r a n k=some (Nh r (r.aJi.take k++([(⟨a,n⟩:M.Field)]++r.aJi.drop k))):=by
 have I:r.aJi.length<=1073741824:=by simp only[M.aA.sz]at hz;omega
 unfold tFB
 rw[Lk hk,qA,qH,JR (by rw[qU];omega) jD,qA,eH jQ,qA,Y6 hk,qA,eH jM,qA,qT]
 exact OR j hz (V1 k j I C J)
theorem DI{r:M.aA}{a:ByteArray}{n:Int}(I:r.ok)(hz:M.aA.sz r<=1073741824)(U:a.size<=maxLen)(J:inI n):mQ r a n=some (H4 r a n):=by
 have hl:r.aJi.length<=1073741824:=by simp only[M.aA.sz]at hz;omega
 have hp:=Tu r.aJi a
 unfold mQ
 rw[B1 r hz,qA,LH (l:=r.aJi) (f:=Rb a) (L:=mE r a n r) (S:=tFS r a n) I.aJi.1 (λm k hk=> ?_) (λm=> ?_)]
 ·show tFS r a n (P2 r.aJi a)=_
  unfold tFS H4
  rcases Nat.lt_or_ge (P2 r.aJi a) r.aJi.length with h|h
  ·rw[qF h]
   simp only
   by_cases hf:(r.aJi[P2 r.aJi a].Name.toList==a.toList)=true
   ·rw[if_pos hf]
    unfold tFA
    rw[aH h,qA,qH,OR I hz (Sk h I J)]
    cases hR:bU r with
    |false=>rw[I6 hR,I6 hR]
    |true=>
     have hnot:¬mD (nM a) r.aJi<0:=λh0=>by have:=O3 h0 _ (qG h);rw[show nM a r.aJi[P2 r.aJi a]=true from hf]at this;cases this
     obtain⟨k,e,hk⟩:=eN hnot
     obtain⟨_,j⟩:=Es e
     have C:=RQ hR hk j
     unfold Rp
     rw[if_neg hnot,e,qH,qF hk]
     simp only[C]
   ·rw[if_neg hf,YS hp I hz U J]
    cases hR:bU r with
    |false=>rw[I6 hR,I6 hR]
    |true=>
     have hneg:mD (nM a) r.aJi<0:=Classical.byContradiction λhnot=>by obtain⟨k,e,hk⟩:=eN hnot;obtain⟨_,j⟩:=Es e;have C:=RQ hR hk j;apply hf;simp only[C];exact j
     unfold Rp
     rw[if_pos hneg]
  ·rw[qY h]
   simp only
   rw[YS hp I hz U J]
   cases hR:bU r with
   |false=>rw[I6 hR,I6 hR]
   |true=>
    have hneg:mD (nM a) r.aJi<0:=Classical.byContradiction λhnot=>by obtain⟨k,e,hk⟩:=eN hnot;obtain⟨_,j⟩:=Es e;have C:=RQ hR hk j;omega
    unfold Rp
    rw[if_pos hneg]
 ·simp only[mE];rw[if_pos (bE hk),aH hk,qA,bG jD];unfold tFS;rw[qF hk];simp only;unfold tFA;rw[aH hk];rfl
 ·simp only[mE];rw[if_neg jK];unfold tFS;rw[qY (qf _)];rfl
def sU(k:M.Key)(x:M.aJl):Bool:=(x.Key.aJr==k.aJr)&&((x.Key.N==k.N)&&(x.Key.aJ2.toList==k.aJ2.toList))
theorem yP{s:M.aD}{k:M.Key}(I:s.ok):gX s k=some (mD (sU k) s.aJe):=by have J:=le_max I.aJe.1;unfold gX;rw[findAll (L:=mR s k) (f:=sU k) (A:=λi=>some (i:Int)) (E:=some (-1)) I.aJe.1 (λm j C=> ?_) (λm=> ?_),pB];(simp only[mR];rw[if_pos (bE C),aH C,qA,bG jD];rfl);·simp only[mR];rw[if_neg jK]
theorem Bn{s:M.aD}{k:M.Key}(j:s.ok):kF s k=some (mD (sU k) s.aJe):=by unfold kF;rw[HR (f:=sU k) j.aJe.1 (λx _=>by simp only[yL];rfl),qA]
theorem Xr{x y:M.Key}(I:Dp x=true)(J:Dp y=true)(h:¬bP x y<0)(j:((x.aJr==y.aJr)&&((x.N==y.N)&&(x.aJ2.toList==y.aJ2.toList)))=false):bP y x<0:=by
 unfold bP at*
 rw[if_pos ⟨I,J⟩]at h
 rw[if_pos ⟨J,I⟩]
 by_cases hk:x.aJr=y.aJr
 ·rw[if_pos hk]at h
  rw[if_pos hk.symm]
  by_cases hn:x.N=y.N
  ·rw[if_pos hn]at h
   rw[if_pos hn.symm]
   have hb:(x.aJ2.toList==y.aJ2.toList)=false:=by simpa[hk,hn]using j
   have U:Op.bytesLess x.aJ2.toList y.aJ2.toList=false:=by
    cases e:Op.bytesLess x.aJ2.toList y.aJ2.toList with
    |false=>rfl
    |true=>rw[e,if_pos rfl]at h;omega
   have C:=Cd x.aJ2.toList y.aJ2.toList
   rw[U,Bool.beq_comm,hb,Bool.or_false]at C
   have h2:Op.bytesLess y.aJ2.toList x.aJ2.toList=true:=by
    cases e:Op.bytesLess y.aJ2.toList x.aJ2.toList with
    |true=>rfl
    |false=>rw[e]at C;cases C
   rw[if_pos h2]
   omega
  ·rw[if_neg hn]at h;rw[if_neg (λe=>hn e.symm)];by_cases hlt:x.N<y.N;(rw[if_pos hlt]at h;omega);·rw[if_pos jD];omega
 ·rw[if_neg hk]at h;rw[if_neg (λe=>hk e.symm)];by_cases hlt:x.aJr<y.aJr;(rw[if_pos hlt]at h;omega);·rw[if_pos jD];omega
theorem QC{l:List M.aJl}(h1:∀(k:Nat) (x:M.aJl),l[k]? =some x->Dp x.Key=true/\bU x.aA=true)(h2:∀(k:Nat) (x y:M.aJl),l[k]? =some x->l[k+1]? =some y->bP x.Key y.Key<0):(List.range l.length).all (Er l)=true:=by
 rw[qR]
 intro k hk
 have hk:=qS.1 hk
 unfold Er
 obtain⟨C,I⟩:=h1 k _ (qF hk)
 cases k with
 |zero=>rw[qF hk];simp[C,I]
 |succ k=>
  have j:k<l.length:=by omega
  have b:=h2 k _ _ (qF j) (qF hk)
  rw[qF hk,Nat.add_sub_cancel,qF j]
  simp[C,I,b]
theorem Ku{l:List M.aJl}(h:(List.range l.length).all (Er l)=true):(∀(k:Nat) (x:M.aJl),l[k]? =some x->Dp x.Key=true/\bU x.aA=true)/\(∀(k:Nat) (x y:M.aJl),l[k]? =some x->l[k+1]? =some y->bP x.Key y.Key<0):=by rw[qR]at h;refine⟨λk x j=> ?_,λk x y j C=> ?_⟩;(have hk:k<l.length:=(qd.1 j).1;have:=h k (qS.2 hk);unfold Er at this;rw[j]at this;simp only[qe,qM]at this;exact this.1);·have hk:k+1<l.length:=(qd.1 C).1;have:=h (k+1) (qS.2 hk);unfold Er at this;rw[C,Nat.add_sub_cancel,j]at this;simp only[qe,qM]at this;simpa using this.2
theorem V8{α:Type}{l:List α}{p:Nat}{x:α}(C:p<=l.length)(k:Nat):(l.take p++([x]++l.drop p))[k]? =if k<p then l[k]? else if k=p then some x else l[k-1]? :=by
 have j:(l.take p).length=p:=by rw[qU];omega
 rw[List.getElem?_append,j]
 by_cases h1:k<p
 ·rw[if_pos h1,if_pos h1,List.getElem?_take_of_lt h1]
 ·rw[if_neg h1,if_neg h1];by_cases h2:k=p;(subst h2;simp);·rw[if_neg h2];obtain⟨d,rfl⟩:∃d,k=p+1+d:=⟨k-p-1,jD⟩;rw[show p+1+d-p=d+1 by omega,List.singleton_append,List.getElem?_cons_succ,List.getElem?_drop,show p+1+d-1=p+d by omega]
def Ka(k:M.Key)(x:M.aJl):Bool:=decide (bP x.Key k<0)
def E6(l:List M.aJl)(k:M.Key):Nat:=(l.takeWhile (Ka k)).length
theorem PS(l:List M.aJl)(k:M.Key):E6 l k<=l.length:=(List.takeWhile_prefix _).length_le
def SG(s:M.aD)(k:M.Key):Int:=if((k.aJr==1)&&(decide (k.N>s.aJ7)&&decide (k.N<=1000000)))=true then k.N else s.aJ7
def XE(s:M.aD)(k:M.Key)(r:M.aA):M.aD:=(⟨s.Name,s.aJe.take (E6 s.aJe k)++([(⟨k,r⟩:M.aJl)]++s.aJe.drop (E6 s.aJe k)),SG s k⟩:M.aD)
def Q8(s:M.aD)(i:Nat)(r:M.aA):M.aD:=(⟨s.Name,match s.aJe[i]? with|some x=>s.aJe.set i (⟨x.Key,r⟩:M.aJl)|none=>s.aJe,s.aJ7⟩:M.aD)
def FZ(s:M.aD)(k:M.Key)(r:M.aA):M.aD×Bool:=if lO s=true then if Dp k=true then if mD (sU k) s.aJe<0 then if s.aJe.length<16 then(XE s k r,true)else(s,false)else(Q8 s (mD (sU k) s.aJe).toNat r,true)else(s,false)else(s,false)
theorem Bb{s:M.aD}(h:lO s=true):(List.range s.aJe.length).all (Er s.aJe)=true/\mL s.Name=true/\s.aJe.length<=16/\0<=s.aJ7/\s.aJ7<=1000000:=by unfold lO inR at h;simp only[qM,qL]at h;exact⟨h.1,h.2.1,h.2.2.1,h.2.2.2.1,h.2.2.2.2⟩
theorem XW{s:M.aD}(h1:(List.range s.aJe.length).all (Er s.aJe)=true)(h2:mL s.Name=true)(h3:s.aJe.length<=16)(h4:0<=s.aJ7)(h5:s.aJ7<=1000000):lO s=true:=by unfold lO inR;simp[h1,h2,h3,h4,h5]
theorem S5{s:M.aD}{k:M.Key}(h:lO s=true):0<=SG s k/\SG s k<=1000000:=by obtain⟨_,_,_,h4,h5⟩:=Bb h;unfold SG;split;(rename_i hc;simp only[qM,qL]at hc;omega);·exact⟨h4,h5⟩
theorem RA{s:M.aD}{i:Nat}{r:M.aA}(h:lO s=true)(C:i<s.aJe.length):lO (Q8 s i r)=bU r:=by
 obtain⟨h1,h2,h3,h4,h5⟩:=Bb h
 obtain⟨a1,a2⟩:=Ku h1
 have e:Q8 s i r=(⟨s.Name,s.aJe.set i (⟨s.aJe[i].Key,r⟩:M.aJl),s.aJ7⟩:M.aD):=by unfold Q8;rw[qF C]
 rw[e]
 have key:∀(k:Nat) (x:M.aJl),(s.aJe.set i (⟨s.aJe[i].Key,r⟩:M.aJl))[k]? =some x->∃y,s.aJe[k]? =some y/\x.Key=y.Key/\(k≠i->x=y)/\(k=i->x.aA=r):=by intro k x j;rw[List.getElem?_set]at j;by_cases hk:i=k;(subst hk;rw[if_pos rfl,if_pos C]at j;cases j;exact⟨_,qF C,rfl,λI=>absurd rfl I,λ_=>rfl⟩);·rw[if_neg hk]at j;exact⟨x,j,rfl,λ_=>rfl,λI=>absurd I.symm hk⟩
 cases hr:bU r with
 |true=>
  refine XW (QC (λk x j=> ?_) (λk x y j U=> ?_)) h2 (by show(s.aJe.set i _).length<=16;rw[qN];exact h3) h4 h5
  ·obtain⟨y,U,e1,e2,e3⟩:=key k x j;obtain⟨b1,b2⟩:=a1 k y U;refine⟨by rw[e1];exact b1,?_⟩;by_cases hk:k=i;(rw[e3 hk];exact hr);·rw[e2 hk];exact b2
  ·obtain⟨x',J,e1,_⟩:=key k x j;obtain⟨y',hy',e2,_⟩:=key (k+1) y U;rw[e1,e2];exact a2 k x' y' J hy'
 |false=>
  cases hq:lO (⟨s.Name,s.aJe.set i (⟨s.aJe[i].Key,r⟩:M.aJl),s.aJ7⟩:M.aD)with
  |false=>rfl
  |true=>
   have:=(Ku (Bb hq).1).1 i _ (by show(s.aJe.set i _)[i]? =_;rw[List.getElem?_set,if_pos rfl,if_pos C])
   simp only at this
   rw[hr]at this
   cases this.2
theorem QK{s:M.aD}{k:M.Key}{r:M.aA}(h:lO s=true)(hk:Dp k=true)(hr:bU r=true)(hf:mD (sU k) s.aJe<0)(au:Int)(U:0<=au/\au<=1000000):
  lO (⟨s.Name,s.aJe.take (E6 s.aJe k)++([(⟨k,r⟩:M.aJl)]++s.aJe.drop (E6 s.aJe k)),au⟩:M.aD)=decide (s.aJe.length<16):=by
 obtain⟨h1,h2,h3,h4,h5⟩:=Bb h
 obtain⟨a1,a2⟩:=Ku h1
 have hp:=PS s.aJe k
 have hlen:(s.aJe.take (E6 s.aJe k)++([(⟨k,r⟩:M.aJl)]++s.aJe.drop (E6 s.aJe k))).length=s.aJe.length+1:=by simp only[qE,qU,qV,qJ,qK];omega
 have hall:(List.range (s.aJe.take (E6 s.aJe k)++([(⟨k,r⟩:M.aJl)]++s.aJe.drop (E6 s.aJe k))).length).all (Er (s.aJe.take (E6 s.aJe k)++([(⟨k,r⟩:M.aJl)]++s.aJe.drop (E6 s.aJe k))))=true:=by
  refine QC (λj x C=> ?_) (λj x y C I=> ?_)
  ·rw[V8 hp]at C;split at C;(exact a1 j x C);·split at C;(cases C;exact⟨hk,hr⟩);·exact a1 _ x C
  ·rw[V8 hp]at C I
   by_cases c1:j+1<E6 s.aJe k
   ·rw[if_pos jD]at C;rw[if_pos c1]at I;exact a2 j x y C I
   ·rw[if_neg c1]at I
    by_cases c2:j+1=E6 s.aJe k
    ·rw[if_pos c2]at I
     rw[if_pos jD]at C
     cases I
     have hj:j<s.aJe.length:=by omega
     have:=L0 (f:=Ka k) (l:=s.aJe) j hj (by show j<E6 s.aJe k;omega)
     rw[qF hj]at C
     cases C
     unfold Ka at this
     simpa using this
    ·rw[if_neg c2]at I
     by_cases c3:j=E6 s.aJe k
     ·rw[if_neg jD,if_pos c3]at C
      cases C
      rw[Nat.add_sub_cancel]at I
      have hj:j<s.aJe.length:=(qd.1 I).1
      have hj':(s.aJe.takeWhile (Ka k)).length<s.aJe.length:=by show E6 s.aJe k<_;omega
      have J:=L9 (f:=Ka k) hj'
      have e1:s.aJe[(s.aJe.takeWhile (Ka k)).length]=y:=by
       have:s.aJe[E6 s.aJe k]? =some y:=by rw[<-c3];exact I
       exact(qd.1 this).2
      rw[e1]at J
      unfold Ka at J
      have hne:=O3 hf y (by rw[<-e1];exact qG _)
      unfold sU at hne
      exact Xr (a1 j y I).1 hk (by simpa using J) hne
     ·rw[if_neg jD,if_neg c3]at C;rw[show j+1-1=(j-1)+1 by omega]at I;exact a2 (j-1) x y C I
 have e1:decide ((s.aJe.take (E6 s.aJe k)++([(⟨k,r⟩:M.aJl)]++s.aJe.drop (E6 s.aJe k))).length<=16)=decide (s.aJe.length<16):=decide_eq_decide.2 (by rw[hlen];omega)
 unfold lO inR
 rw[hall,h2,e1,decide_eq_true U.1,decide_eq_true U.2]
 simp
theorem O4{s o:M.aD}(hz:M.aD.sz s<=1073741824)(j:o.ok):((bT o).bind λz=>if(!z)=true then(aY s).bind λy=>some (y,false)else some (o,true))=some (if lO o=true then(o,true)else(s,false)):=by rw[Aw j,qA,iD s hz];cases lO o<;>simp
theorem aBL{X:Type}(c1 c2 c3:Bool)(A:Int->X)(x y:Int):(if c1=true then if c2=true then if c3=true then A x else A y else A y else A y)=A (if(c1&&(c2&&c3))=true then x else y):=by cases c1<;>cases c2<;>cases c3<;>rfl
theorem Wh{s:M.aD}{k:M.Key}{r:M.aA}{J:Int}(p:Nat)(I:s.ok)(hl:s.aJe.length<=1073741824)(hk:k.ok)(U:r.ok)(C:inI J):M.aD.ok (⟨s.Name,s.aJe.take p++([(⟨k,r⟩:M.aJl)]++s.aJe.drop p),J⟩:M.aD):=
 ⟨I.Name,⟨by show(s.aJe.take p++([(⟨k,r⟩:M.aJl)]++s.aJe.drop p)).length<=maxLen;unfold maxLen;simp only[qE,qU,qV,qJ,qK];omega,λy hy=>by have j:y∈s.aJe.take p++([(⟨k,r⟩:M.aJl)]++s.aJe.drop p):=hy;simp only[qP,qp,qO,or_false]at j;rcases j with h|rfl|h;(exact I.aJe.2 y (qj h));(exact⟨hk,U⟩);·exact I.aJe.2 y (qv h)⟩,C⟩
theorem Wc{s:M.aD}{r:M.aA}{i:Nat}(I:i<s.aJe.length)(j:s.ok)(J:r.ok):M.aD.ok (⟨s.Name,s.aJe.set i (⟨s.aJe[i].Key,r⟩:M.aJl),s.aJ7⟩:M.aD):=
 ⟨j.Name,⟨by show(s.aJe.set i _).length<=maxLen;rw[qN];exact j.aJe.1,λy U=>by have C:y∈s.aJe.set i (⟨s.aJe[i].Key,r⟩:M.aJl):=U;rcases jC C with h|rfl;(exact j.aJe.2 y h);·exact⟨(j.aJe.2 _ (qG I)).Key,J⟩⟩,j.aJ7⟩
theorem Qy{s:M.aD}{k:M.Key}(j:s.ok)(hk:k.ok):inI (SG s k):=by unfold SG;split;(exact hk.N);·exact j.aJ7
def tPI(s:M.aD)(k:M.Key)(r:M.aA)(j:Nat):Option (M.aD×Bool):=(bQ r).bind λC=>(KI 56 s.aJe (j:Int) ([(⟨k,C⟩:M.aJl)])).bind λ_=>if(k.aJr==1)=true then if(decide (k.N>s.aJ7))=true then if(decide (k.N<=1000000))=true then(bT (⟨s.Name,List.take (j:Int).toNat s.aJe++([(⟨k,C⟩:M.aJl)]++List.drop (j:Int).toNat s.aJe),k.N⟩:M.aD)).bind λz=>if(!z)=true then(aY s).bind λy=>some (y,false)else some ((⟨s.Name,List.take (j:Int).toNat s.aJe++([(⟨k,C⟩:M.aJl)]++List.drop (j:Int).toNat s.aJe),k.N⟩:M.aD),true)else(bT (⟨s.Name,List.take (j:Int).toNat s.aJe++([(⟨k,C⟩:M.aJl)]++List.drop (j:Int).toNat s.aJe),s.aJ7⟩:M.aD)).bind λz=>if(!z)=true then(aY s).bind λy=>some (y,false)else some ((⟨s.Name,List.take (j:Int).toNat s.aJe++([(⟨k,C⟩:M.aJl)]++List.drop (j:Int).toNat s.aJe),s.aJ7⟩:M.aD),true)else(bT (⟨s.Name,List.take (j:Int).toNat s.aJe++([(⟨k,C⟩:M.aJl)]++List.drop (j:Int).toNat s.aJe),s.aJ7⟩:M.aD)).bind λz=>if(!z)=true then(aY s).bind λy=>some (y,false)else some ((⟨s.Name,List.take (j:Int).toNat s.aJe++([(⟨k,C⟩:M.aJl)]++List.drop (j:Int).toNat s.aJe),s.aJ7⟩:M.aD),true)else(bT (⟨s.Name,List.take (j:Int).toNat s.aJe++([(⟨k,C⟩:M.aJl)]++List.drop (j:Int).toNat s.aJe),s.aJ7⟩:M.aD)).bind λz=>if(!z)=true then(aY s).bind λy=>some (y,false)else some ((⟨s.Name,List.take (j:Int).toNat s.aJe++([(⟨k,C⟩:M.aJl)]++List.drop (j:Int).toNat s.aJe),s.aJ7⟩:M.aD),true)
def tPS(s:M.aD)(k:M.Key)(r:M.aA)(j:Nat):Option (M.aD×Bool):=(GL s.aJe (j:Int)).bind λ_=>(app 56 ([]:List M.aJl) (List.take (j:Int).toNat s.aJe)).bind λ_=>(cD r).bind λC=>(app 56 (List.take (j:Int).toNat s.aJe) ([(⟨k,C⟩:M.aJl)])).bind λ_=>(app 56 ((List.take (j:Int).toNat s.aJe)++[(⟨k,C⟩:M.aJl)]) (List.drop (j:Int).toNat s.aJe)).bind λ_=>if(k.aJr==1)=true then(bB k.N (IntKind.i64.wrap (s.aJ7+1)) 1000000).bind λI=>if I=true then some ((⟨s.Name,((List.take (j:Int).toNat s.aJe)++[(⟨k,C⟩:M.aJl)])++(List.drop (j:Int).toNat s.aJe),k.N⟩:M.aD),true)else some ((⟨s.Name,((List.take (j:Int).toNat s.aJe)++[(⟨k,C⟩:M.aJl)])++(List.drop (j:Int).toNat s.aJe),s.aJ7⟩:M.aD),true)else some ((⟨s.Name,((List.take (j:Int).toNat s.aJe)++[(⟨k,C⟩:M.aJl)])++(List.drop (j:Int).toNat s.aJe),s.aJ7⟩:M.aD),true)
theorem Cx{s:M.aD}{k:M.Key}{r:M.aA}(C:s.ok)(hk:k.ok)(hr:r.ok)(hR:bU r=true)(hz:M.aD.sz s<=1073741824)(I:M.aA.sz r<=1073741824):iH s k r=some (FZ s k r):=by
 have hl:s.aJe.length<=1073741824:=by simp only[M.aD.sz]at hz;omega
 have hp:=PS s.aJe k
 unfold iH FZ
 rw[Aw C,oS hk,iD s hz,Bn C,sG r I]
 simp only[qA]
 cases hS:lO s with
 |false=>simp
 |true=>
  cases hK:Dp k with
  |false=>simp
  |true=>
   simp only[qB,qD,if_false,if_true]
   by_cases h:mD (sU k) s.aJe<0
   ·rw[if_neg jE,if_pos h,LH (l:=s.aJe) (f:=Ka k) (L:=nY s k r s) (S:=tPI s k r) C.aJe.1 (λm j U=> ?_) (λm=> ?_)];(show tPI s k r (E6 s.aJe k)=_;unfold tPI;rw[sG r I,qA,MQ jO,qA,qH];refine Eq.trans (aBL (k.aJr==1) (decide (k.N>s.aJ7)) (decide (k.N<=1000000)) (λau=>(bT (⟨s.Name,s.aJe.take (E6 s.aJe k)++([(⟨k,r⟩:M.aJl)]++s.aJe.drop (E6 s.aJe k)),au⟩:M.aD)).bind λz=>if(!z)=true then(aY s).bind λy=>some (y,false)else some ((⟨s.Name,s.aJe.take (E6 s.aJe k)++([(⟨k,r⟩:M.aJl)]++s.aJe.drop (E6 s.aJe k)),au⟩:M.aD),true)) k.N s.aJ7) ?_;refine(O4 (o:=XE s k r) hz (Wh _ C hl hk hr (Qy C hk))).trans ?_;unfold XE;rw[QK hS hK hR h _ (S5 hS)];by_cases aa:s.aJe.length<16;(simp[aa]);·simp[aa]);(have hj':=C.aJe.2 _ (qG U);simp only[nY];rw[if_pos (bE U),aH U,qA,vH hj'.Key hk,qA,bG jD];rfl);·simp only[nY];rw[if_neg jK];rfl
   ·obtain⟨i,e,J⟩:=eN h
    rw[if_pos (by simpa using h),if_neg h,e,aH J,qA,qH]
    have nJ:=RA (r:=r) hS J
    have e2:Q8 s i r=(⟨s.Name,s.aJe.set i (⟨s.aJe[i].Key,r⟩:M.aJl),s.aJ7⟩:M.aD):=by unfold Q8;rw[qF J]
    rw[e2]at nJ⊢
    have ht:=O4 hz (Wc J C hr)
    rw[nJ,hR,if_pos rfl,iD s hz]at ht
    exact ht
theorem Cq{s:M.aD}{k:M.Key}{r:M.aA}(I:s.ok)(hk:k.ok)(hr:r.ok)(hR:bU r=true)(hz:M.aD.sz s<=1073741824)(C:M.aA.sz r<=1073741824):iC s k r=some (FZ s k r):=by
 have hl:s.aJe.length<=1073741824:=by simp only[M.aD.sz]at hz;omega
 have hp:=PS s.aJe k
 unfold iC FZ
 rw[CM I,mB hk,pD hr,hR,rJ s hz,yP I,B1 r C]
 simp only[qA]
 cases hS:lO s with
 |false=>simp
 |true=>
  cases hK:Dp k with
  |false=>simp
  |true=>
   simp only[qB,qD,if_false,if_true]
   by_cases h:mD (sU k) s.aJe<0
   ·rw[if_neg jE,if_pos h]
    by_cases aa:s.aJe.length<16
    ·rw[if_neg jE,if_pos aa,LH (l:=s.aJe) (f:=Ka k) (L:=oI s k r s) (S:=tPS s k r) I.aJe.1 (λm j J=> ?_) (λm=> ?_)]
     ·show tPS s k r (E6 s.aJe k)=_
      obtain⟨_,_,_,ha4,ha5⟩:=Bb hS
      have ew:IntKind.i64.wrap (s.aJ7+1)=s.aJ7+1:=bK jD jD
      have ei:inR k.N (s.aJ7+1) 1000000=(decide (k.N>s.aJ7)&&decide (k.N<=1000000)):=by unfold inR;congr 1
      unfold tPS
      rw[Lk hp,qA,qH,JR (by rw[qU];omega) jD,qA,B1 r C,qA,eH jQ,qA,eH jM,qA,qT,cG,qA,ew,ei]
      unfold XE SG
      cases (k.aJr==1)<;>cases (decide (k.N>s.aJ7)&&decide (k.N<=1000000))<;>rfl
     ·have U:=I.aJe.2 _ (qG J);simp only[oI];rw[if_pos (bE J),aH J,qA,vT U.Key hk,qA,bG jD];rfl
     ·simp only[oI];rw[if_neg jK];rfl
    ·rw[if_pos jE,if_neg aa]
   ·obtain⟨i,e,hi⟩:=eN h;rw[if_pos (by simpa using h),if_neg h,e,aH hi,qA,qH];unfold Q8;rw[qF hi]
def eP(s:M.aD)(k:M.Key):M.aA:=if mD (sU k) s.aJe<0 then(⟨([]:List M.Field)⟩:M.aA)else match s.aJe[(mD (sU k) s.aJe).toNat]? with|some x=>x.aA|none=>(⟨([]:List M.Field)⟩:M.aA)
theorem Tk:M.aA.ok (⟨([]:List M.Field)⟩:M.aA):=⟨⟨by simp[maxLen],jF⟩⟩
theorem FL{s:M.aD}{k:M.Key}(j:s.ok):(eP s k).ok:=by unfold eP;split;(exact Tk);·split;(rename_i x C;exact(j.aJe.2 x (jB C)).aA);·exact Tk
theorem H6(s:M.aD)(k:M.Key):M.aA.sz (eP s k)<=M.aD.sz s:=by
 unfold eP
 split
 ·simp[M.aA.sz,bA]
 ·split
  ·rename_i x j
   have h1:=eD (f:=M.aJl.sz) (jB j)
   have h2:M.aA.sz x.aA<=M.aJl.sz x:=by simp only[M.aJl.sz];omega
   simp only[M.aD.sz]
   omega
  ·simp[M.aA.sz,bA]
theorem Xd{r:M.aA}{a:ByteArray}{n:Int}(C:r.ok)(J:r.aJi.length<=1073741824)(I:a.size<=maxLen)(j:inI n):M.aA.ok (⟨Rp r a n⟩:M.aA):=by unfold Rp;by_cases h:mD (nM a) r.aJi<0;(rw[if_pos h];exact V1 _ C J I j);·rw[if_neg h];obtain⟨k,e,hk⟩:=eN h;rw[e,qH,qF hk];exact Sk hk C j
theorem Nk{r:M.aA}{a:ByteArray}{n:Int}(j:r.ok)(I:r.aJi.length<=1073741824)(C:a.size<=maxLen)(J:inI n):(H4 r a n).1.ok:=by unfold H4 Nh;split;(split;(exact Xd j I C J);·exact j);·exact j
theorem GZ{r:M.aA}{a:ByteArray}{n:Int}(h:(H4 r a n).2=true):bU (H4 r a n).1=true:=by unfold H4 Nh at h⊢;by_cases h1:bU r=true;(rw[if_pos h1]at h⊢;by_cases h2:bU (⟨Rp r a n⟩:M.aA)=true;(rw[if_pos h2];exact h2);·rw[if_neg h2]at h;cases h);·rw[if_neg h1]at h;cases h
theorem NQ{r:M.aA}(h:bU r=true):M.aA.sz r<=100:=by obtain⟨h1,h2⟩:=vK h;have:=A9 (w:=M.Field.sz) (b:=8) (xs:=r.aJi) (λx j=>by have:=(h2 x j).1;simp only[M.Field.sz];omega);simp only[M.aA.sz];omega
theorem J0{s:M.aD}(h:lO s=true):M.aD.sz s<=10000:=by
 obtain⟨h1,h2,h3,_,_⟩:=Bb h
 obtain⟨j,_⟩:=Ku h1
 have hn:s.Name.size<=8:=by unfold mL inR at h2;simp only[qM,qL]at h2;omega
 have:=A9 (w:=M.aJl.sz) (b:=112) (xs:=s.aJe) (λx J=>by obtain⟨k,hk,rfl⟩:=List.mem_iff_getElem.1 J;obtain⟨C,I⟩:=j k _ (qF hk);have U:=GW C;have c2:=NQ I;simp only[M.aJl.sz,M.Key.sz];omega)
 simp only[M.aD.sz]
 omega
theorem OQ{s:M.aD}{k:M.Key}{r:M.aA}(j:bU r=true)(h:(FZ s k r).2=true):lO (FZ s k r).1=true:=by unfold FZ at h⊢;by_cases hS:lO s=true;(rw[if_pos hS]at h⊢;by_cases hK:Dp k=true;(rw[if_pos hK]at h⊢;by_cases hf:mD (sU k) s.aJe<0;(rw[if_pos hf]at h⊢;by_cases aa:s.aJe.length<16;(rw[if_pos aa];have:=QK hS hK j hf _ (S5 (k:=k) hS);simp only[aa,decide_true]at this;exact this);·rw[if_neg aa]at h;cases h);·rw[if_neg hf];obtain⟨i,e,C⟩:=eN hf;simp only[e,qH];rw[RA hS C];exact j);·rw[if_neg hK]at h;cases h);·rw[if_neg hS]at h;cases h
theorem Ts{s:M.aD}{k:M.Key}{r:M.aA}(j:s.ok)(J:s.aJe.length<=1073741824)(hk:k.ok)(I:r.ok):(FZ s k r).1.ok:=by unfold FZ;by_cases hS:lO s=true;(rw[if_pos hS];by_cases hK:Dp k=true;(rw[if_pos hK];by_cases hf:mD (sU k) s.aJe<0;(rw[if_pos hf];split;(exact Wh _ j J hk I (Qy j hk));·exact j);·rw[if_neg hf];obtain⟨i,e,C⟩:=eN hf;simp only[e,qH];unfold Q8;rw[qF C];exact Wc C j I);·rw[if_neg hK];exact j);·rw[if_neg hS];exact j
theorem Pr{s:M.aD}{k:M.Key}{r:M.aA}(h:(FZ s k r).2=false):(FZ s k r).1=s:=by unfold FZ at h⊢;by_cases hS:lO s=true;(rw[if_pos hS]at h⊢;by_cases hK:Dp k=true;(rw[if_pos hK]at h⊢;by_cases hf:mD (sU k) s.aJe<0;(rw[if_pos hf]at h⊢;by_cases aa:s.aJe.length<16;(rw[if_pos aa]at h;cases h);·rw[if_neg aa]);·rw[if_neg hf]at h;cases h);·rw[if_neg hK]);·rw[if_neg hS]
