/-
  Helper text. No conditions.
-/
import Derived.Test.YtndidbigdalbnaaGreatNotesPd2
set_option linter.all false
namespace Go.Proofs.YtndidbigdalbnaaGreat.gen
open Go Go.Sh
open Go.IntKind (i64)
theorem Hu{s:M.aC}{b:M.aKe}(C:s.ok)(hb:b.ok)(I:M.aC.sz s<=1500000)(zc:M.aKe.sz b<=1073741824)(zb:M.aKc.sz b.bJ.aK1<=1500000):yV s b=some (Ij s b):=by
 have hm:=aZ C.aKf.1
 have hlen:s.aKf.length<=1500000:=by simp only[M.aC.sz]at I;omega
 have ok:=Q1 C hb I
 have all:=Pr (s:=s) I zb
 have hle:=RN s b
 unfold yV Ij
 rw[D3 s wg,qA,xN C,qA]
 by_cases h:gJ (nAt b.aKl b.Top) s.aKf>=0
 ·obtain⟨j,U,J⟩:=cT (show ¬gJ (nAt b.aKl b.Top) s.aKf<0 by omega)
  have e:Ef s b=s.aKf.set (gJ (nAt b.aKl b.Top) s.aKf).toNat b:=by unfold Ef;rw[jF h]
  rw[jF wM,Bd b wg,qA]
  rw[e]at ok all⊢
  rw[U]at ok all⊢
  rw[aK J,qA]
  exact VZ C I ok all
 ·have e:Ef s b=s.aKf.take (Xn s b)++([b]++s.aKf.drop (Xn s b)):=by unfold Ef;rw[jG h]
  rw[jG wM,KI (l:=s.aKf) (f:=λx=>GQ x b) (L:=nI s b s) (S:=tI s b) C.aKf.1 (λn k hk=> ?_) (λn=> ?_)]
  ·show tI s b (Xn s b)=_;unfold tI;rw[Bd b wg,qA,NX (by simp only[qH,qJ,qK];omega),qA,qH,<-e];rw[D3 s wg];exact VZ C I ok all
  ·simp only[nI];rw[jF (bE hk),aK hk,qA,F5,qA,bM wg];rfl
  ·simp only[nI];rw[jG wF];rfl
theorem Ob{α:Type}{l:List α}{k:Nat}(h:k<=l.length):BM l k=some (l.drop k):=by unfold BM;rw[jF ⟨wg,wM⟩];simp
theorem QK:∀{a b c:List UInt8},Op.bytesLess a b=true->Op.bytesLess b c=true->Op.bytesLess a c=true
 |[],[],_,h,_=>by cases h
 |_::_,[],_,h,_=>by cases h
 |_,_::_,[],_,h=>by cases h
 |[],_::_,_::_,_,_=>rfl
 |x::a,y::b,z::c,h1,h2=>by
  have e1:Op.bytesLess (x::a) (y::b)=(decide (x<y)||((x==y)&&Op.bytesLess a b)):=rfl
  have e2:Op.bytesLess (y::b) (z::c)=(decide (y<z)||((y==z)&&Op.bytesLess b c)):=rfl
  have e3:Op.bytesLess (x::a) (z::c)=(decide (x<z)||((x==z)&&Op.bytesLess a c)):=rfl
  rw[e1,jY,qM,qL,je]at h1
  rw[e2,jY,qM,qL,je]at h2
  rw[e3,jY,qM,qL,je]
  rcases h1 with h1|⟨h1,h1'⟩<;>rcases h2 with h2|⟨h2,j⟩
  ·exact .inl wg
  ·exact .inl (by rw[<-eq_of_beq h2];exact h1)
  ·exact .inl (by rw[eq_of_beq h1];exact h2)
  ·exact .inr ⟨by rw[eq_of_beq h1];exact h2,QK h1' j⟩
theorem Lp{α:Type}{f:α->Bool}:∀{l:List α} {k:Nat},(∀(j:Nat) (C:j<l.length),j<k->f l[j]=true)->(∀(hk:k<l.length),f l[k]=false)->k<=l.length->(l.takeWhile f).length=k
 |[],k,_,_,h=>by simp at h;simp[h]
 |x::l,0,_,h,_=>by have:=h wb;simp only[List.getElem_cons_zero]at this;rw[List.takeWhile_cons,jG (by rw[this];simp)];rfl
 |x::l,k+1,h1,h2,h3=>by have:=h1 0 wb wg;simp only[List.getElem_cons_zero]at this;rw[List.takeWhile_cons,jF this,qJ,Lp (k:=k) (λj C I=> ?_) (λhk=> ?_) (by simpa using h3)];(have:=h1 (j+1) wV wg;simpa using this);·have:=h2 wV;simpa using this
theorem M3{α:Type}{f:α->Bool}:∀{l:List α} (j:Nat) (C:j<l.length),j<(l.takeWhile f).length->f l[j]=true
 |[],j,C,_=>by simp at C
 |x::l,j,C,h=>by
  rw[List.takeWhile_cons]at h
  split at h
  ·rename_i I
   cases j with
   |zero=>exact I
   |succ j=>exact M3 j (by simpa using C) wM
  ·simp at h
theorem Nf{α:Type}{f:α->Bool}:∀{l:List α} (hk:(l.takeWhile f).length<l.length),f (l[(l.takeWhile f).length])=false
 |[],hk=>by simp at hk
 |x::l,hk=>by
  cases hx:f x with
  |false=>simp[List.takeWhile_cons,hx]
  |true=>
   have j:(l.takeWhile f).length<l.length:=by rw[List.takeWhile_cons,jF hx]at hk;simpa using hk
   have:=Nf j
   simpa[List.takeWhile_cons,hx]using this
theorem pY{α:Type}{f:α->Bool}{l:List α}{k:Nat}(h:gJ f l=k):∃hk:k<l.length,f l[k]=true:=by
 unfold gJ at h
 cases e:l.findIdx? f with
 |none=>rw[e]at h;simp only at h;omega
 |some i=>
  rw[e]at h
  simp only at h
  have:i=k:=by omega
  subst this
  obtain⟨h1,h2,_⟩:=List.findIdx?_eq_some_iff_getElem.1 e
  exact⟨h1,h2⟩
theorem FQ{α:Type}{f:α->Bool}{l:List α}(h:gJ f l<0):∀x∈l,f x=false:=by
 have h2:=Lu f l
 rw[decide_eq_false wg]at h2
 intro x j
 cases hf:f x with
 |false=>rfl
 |true=>
  have:l.any f=true:=List.any_eq_true.2 ⟨x,j,hf⟩
  rw[<-h2]at this
  cases this
theorem YB{r:M.aF}(h:cV r=true)(k:Nat)(hk:k+1<r.aKj.length):Op.bytesLess r.aKj[k].Name.toList r.aKj[k+1].Name.toList=true:=by unfold cV at h;rw[qM,qR]at h;have:=h.1 (k+1) (qS.2 hk);unfold HI at this;rw[qF hk,Nat.add_sub_cancel,qF (show k<r.aKj.length by omega)]at this;simp only[qf,qM]at this;simpa using this.2
theorem aBy{r:M.aF}(h:cV r=true):∀(d i:Nat) (j:i+d+1<r.aKj.length),Op.bytesLess r.aKj[i].Name.toList r.aKj[i+d+1].Name.toList=true
 |0,i,j=>YB h i j
 |d+1,i,j=>QK (aBy h d i wg) (YB h (i+d+1) j)
def Tc(a:ByteArray)(x:M.aR):Bool:=Op.bytesLess x.Name.toList a.toList
def RF(l:List M.aR)(a:ByteArray):Nat:=(l.takeWhile (Tc a)).length
theorem Rg(l:List M.aR)(a:ByteArray):RF l a<=l.length:=(List.takeWhile_prefix _).length_le
theorem TX{r:M.aF}{a:ByteArray}(h:cV r=true){k:Nat}(hk:k<r.aKj.length)(C:mV a r.aKj[k]=true):RF r.aKj a=k:=by
 have e:r.aKj[k].Name.toList=a.toList:=eq_of_beq C
 refine Lp (λj J I=> ?_) (λ_=> ?_) wg
 ·unfold Tc
  rw[<-e]
  have:=aBy h (k-j-1) j wg
  have e2:j+(k-j-1)+1=k:=by omega
  simp only[e2]at this
  exact this
 ·unfold Tc;rw[e];exact OW _
def RG(r:M.aF)(a:ByteArray)(n:Int):List M.aR:=if gJ (mV a) r.aKj<0 then r.aKj.take (RF r.aKj a)++([⟨a,n⟩]++r.aKj.drop (RF r.aKj a))
 else match r.aKj[(gJ (mV a) r.aKj).toNat]? with|some x=>r.aKj.set (gJ (mV a) r.aKj).toNat ⟨x.Name,n⟩|none=>r.aKj
def Nt(r:M.aF)(l:List M.aR):M.aF×Bool:=if cV r=true then if cV ⟨l⟩=true then(⟨l⟩,true)else(r,false)else(r,false)
def GL(r:M.aF)(a:ByteArray)(n:Int):M.aF×Bool:=Nt r (RG r a n)
theorem JP{r:M.aF}(h:cV r=false)(l:List M.aR):Nt r l=(r,false):=by unfold Nt;rw[h,jG wb]
theorem YA{r:M.aF}{a:ByteArray}{n:Int}(k:Nat)(C:r.ok)(hl:r.aKj.length<=1073741824)(I:a.size<=maxLen)(J:inI n):M.aF.ok ⟨r.aKj.take k++([⟨a,n⟩]++r.aKj.drop k)⟩:=
 ⟨⟨by show(r.aKj.take k++([(⟨a,n⟩:M.aR)]++r.aKj.drop k)).length<=maxLen;unfold maxLen;simp only[qE,qV,qW,qJ,qK];omega,λy U=>by have j:y∈r.aKj.take k++([⟨a,n⟩]++r.aKj.drop k):=U;simp only[qP,qq,qO,or_false]at j;rcases j with h|rfl|h;(exact C.aKj.2 y (qk h));(exact⟨I,J⟩);·exact C.aKj.2 y (qv h)⟩⟩
theorem Uq{r:M.aF}{n:Int}{k:Nat}(hk:k<r.aKj.length)(j:r.ok)(I:inI n):M.aF.ok ⟨r.aKj.set k ⟨r.aKj[k].Name,n⟩⟩:=
 ⟨⟨by show(r.aKj.set k _).length<=maxLen;rw[qN];exact j.aKj.1,λy J=>by have C:y∈r.aKj.set k ⟨r.aKj[k].Name,n⟩:=J;rcases jE C with h|rfl;(exact j.aKj.2 y h);·exact⟨(j.aKj.2 _ (qG hk)).Name,I⟩⟩⟩
theorem P6{r:M.aF}{l:List M.aR}(C:r.ok)(I:M.aF.sz r<=1073741824)(j:M.aF.ok ⟨l⟩):
  ((cA r).bind λx=>if(!x)=true then(cR r).bind λy=>some (y,false)else(cA ⟨l⟩).bind λz=>if(!z)=true then(cR r).bind λy=>some (y,false)else some (⟨l⟩,true))=some (Nt r l):=by
 rw[tP C,qA,CA r I,tP j]
 unfold Nt
 cases cV r
 ·simp
 ·cases cV ⟨l⟩<;>simp
theorem Qc{r:M.aF}{l:List M.aR}(C:r.ok)(I:M.aF.sz r<=1073741824)(j:M.aF.ok ⟨l⟩):
  ((dA r).bind λx=>if(!x)=true then(bW r).bind λy=>some (y,false)else(dA ⟨l⟩).bind λz=>if(!z)=true then(bW r).bind λy=>some (y,false)else some (⟨l⟩,true))=some (Nt r l):=by
 rw[AJ C,qA,xM r I,AJ j]
 unfold Nt
 cases cV r
 ·simp
 ·cases cV ⟨l⟩<;>simp
def tFI(r:M.aF)(a:ByteArray)(n:Int)(k:Nat):Option (M.aF×Bool):=(LW 24 r.aKj k ([⟨a,n⟩])).bind λ_=>(dA r).bind λj=>if(!j)=true then(bW r).bind λC=>some (C,false)else(dA ⟨r.aKj.take (k:Int).toNat++([⟨a,n⟩]++r.aKj.drop (k:Int).toNat)⟩).bind λI=>if(!I)=true then(bW r).bind λJ=>some (J,false)else some (⟨r.aKj.take (k:Int).toNat++([⟨a,n⟩]++r.aKj.drop (k:Int).toNat)⟩,true)
theorem DW{r:M.aF}{a:ByteArray}{n:Int}(j:r.ok)(C:M.aF.sz r<=1073741824)(U:a.size<=maxLen)(I:inI n):oT r a n=some (GL r a n):=by
 have hl:r.aKj.length<=1073741824:=by simp only[M.aF.sz]at C;omega
 unfold oT B1 GL RG
 rw[xM r C,qA,Hl (f:=mV a) j.aKj.1 (λx _=>by simp only[yO];rfl),qA,qA]
 by_cases h:gJ (mV a) r.aKj<0
 ·rw[jG wV,jF h,KI (l:=r.aKj) (f:=Tc a) (L:=pE r a n r) (S:=tFI r a n) j.aKj.1 (λm k hk=> ?_) (λm=> ?_)];(show tFI r a n (RF r.aKj a)=_;have hp:=Rg r.aKj a;unfold tFI;rw[NX (by simp only[qH,qJ,qK];omega),qA,qH];exact Qc j C (YA _ j hl U I));(simp only[pE];rw[jF (bE hk),aK hk,qA,bM wg];rfl);·simp only[pE];rw[jG wF];rfl
 ·obtain⟨k,e,hk⟩:=cT h;rw[jF wM,jG h,e,aK hk,qA,qH,qF hk];have J:=Qc j C (Uq hk j I);rw[xM r C]at J;exact J
def tFA(r:M.aF)(a:ByteArray)(n:Int)(k:Nat):Option (M.aF×Bool):=(idx r.aKj k).bind λj=>(cA r).bind λC=>if(!C)=true then(cR r).bind λI=>some (I,false)else(cA ⟨r.aKj.set (k:Int).toNat ⟨j.Name,n⟩⟩).bind λJ=>if(!J)=true then(cR r).bind λU=>some (U,false)else some (⟨r.aKj.set (k:Int).toNat ⟨j.Name,n⟩⟩,true)
def tFB(r:M.aF)(a:ByteArray)(n:Int)(k:Nat):Option (M.aF×Bool):=(B6 r.aKj k).bind λ_=>(app 24 [] (r.aKj.take (k:Int).toNat)).bind λ_=>(app 24 (r.aKj.take (k:Int).toNat) ([⟨a,n⟩])).bind λ_=>(BM r.aKj k).bind λ_=>(app 24 ((r.aKj.take (k:Int).toNat)++[⟨a,n⟩]) (r.aKj.drop (k:Int).toNat)).bind λ_=>(cA r).bind λj=>if(!j)=true then(cR r).bind λC=>some (C,false)else(cA ⟨((r.aKj.take (k:Int).toNat)++[⟨a,n⟩])++(r.aKj.drop (k:Int).toNat)⟩).bind λI=>if(!I)=true then(cR r).bind λJ=>some (J,false)else some (⟨((r.aKj.take (k:Int).toNat)++[⟨a,n⟩])++(r.aKj.drop (k:Int).toNat)⟩,true)
def tFS(r:M.aF)(a:ByteArray)(n:Int)(k:Nat):Option (M.aF×Bool):=match r.aKj[k]? with|some x=>if(x.Name.toList==a.toList)=true then tFA r a n k else tFB r a n k|none=>tFB r a n k
theorem aBu{r:M.aF}{a:ByteArray}{n:Int}{k:Nat}(hk:k<=r.aKj.length)(j:r.ok)(C:M.aF.sz r<=1073741824)(I:a.size<=maxLen)(U:inI n):tFB r a n k=some (Nt r (r.aKj.take k++([⟨a,n⟩]++r.aKj.drop k))):=by
 have J:r.aKj.length<=1073741824:=by simp only[M.aF.sz]at C;omega
 unfold tFB
 rw[Ew hk,qA,qH,Ip wO wg,qA,dK jv,qA,Ob hk,qA,dK jr,qA,qT]
 exact P6 j C (YA k j J I U)
theorem Cf{r:M.aF}{a:ByteArray}{n:Int}(I:r.ok)(J:M.aF.sz r<=1073741824)(ha:a.size<=maxLen)(U:inI n):iC r a n=some (GL r a n):=by
 have hl:r.aKj.length<=1073741824:=by simp only[M.aF.sz]at J;omega
 have hp:=Rg r.aKj a
 unfold iC
 rw[CA r J,qA,KI (l:=r.aKj) (f:=Tc a) (L:=oR r a n r) (S:=tFS r a n) I.aKj.1 (λm k hk=> ?_) (λm=> ?_)]
 ·show tFS r a n (RF r.aKj a)=_
  unfold tFS GL
  rcases jS (RF r.aKj a) r.aKj.length with h|h
  ·rw[qF h]
   simp only
   by_cases hf:(r.aKj[RF r.aKj a].Name.toList==a.toList)=true
   ·rw[jF hf]
    unfold tFA
    rw[aK h,qA,qH,P6 I J (Uq h I U)]
    cases hR:cV r with
    |false=>rw[JP hR,JP hR]
    |true=>
     have hnot:¬gJ (mV a) r.aKj<0:=λh0=>by have:=FQ h0 _ (qG h);rw[show mV a r.aKj[RF r.aKj a]=true from hf]at this;cases this
     obtain⟨k,e,hk⟩:=cT hnot
     obtain⟨_,j⟩:=pY e
     have C:=TX hR hk j
     unfold RG
     rw[jG hnot,e,qH,qF hk]
     simp only[C]
   ·rw[jG hf,aBu hp I J ha U]
    cases hR:cV r with
    |false=>rw[JP hR,JP hR]
    |true=>
     have hneg:gJ (mV a) r.aKj<0:=Classical.byContradiction λhnot=>by obtain⟨k,e,hk⟩:=cT hnot;obtain⟨_,j⟩:=pY e;have C:=TX hR hk j;apply hf;simp only[C];exact j
     unfold RG
     rw[jF hneg]
  ·rw[qZ h]
   simp only
   rw[aBu hp I J ha U]
   cases hR:cV r with
   |false=>rw[JP hR,JP hR]
   |true=>
    have hneg:gJ (mV a) r.aKj<0:=Classical.byContradiction λhnot=>by obtain⟨k,e,hk⟩:=cT hnot;obtain⟨_,j⟩:=pY e;have C:=TX hR hk j;omega
    unfold RG
    rw[jF hneg]
 ·simp only[oR];rw[jF (bE hk),aK hk,qA,bM wg];unfold tFS;rw[qF hk];simp only;unfold tFA;rw[aK hk];rfl
 ·simp only[oR];rw[jG wF];unfold tFS;rw[qZ (qg _)];rfl
def uB(k:M.bD)(x:M.aKy):Bool:=(x.Key.aKx==k.aKx)&&((x.Key.N==k.N)&&(x.Key.aK5.toList==k.aK5.toList))
theorem Bc{s:M.aD}{k:M.bD}(I:s.ok):kH s k=some (gJ (uB k) s.aKg):=by have J:=aZ I.aKg.1;unfold kH;rw[oQ (L:=pO s k) (f:=uB k) (A:=λi=>some (i:Int)) (E:=some (-1)) I.aKg.1 (λm j C=> ?_) (λm=> ?_),tK];(simp only[pO];rw[jF (bE C),aK C,qA,bM wg];rfl);·simp only[pO];rw[jG wF]
theorem Cm{s:M.aD}{k:M.bD}(j:s.ok):mH s k=some (gJ (uB k) s.aKg):=by unfold mH;rw[Ih (f:=uB k) j.aKg.1 (λx _=>by simp only[Ba];rfl),qA]
theorem aAD{x y:M.bD}(I:Ec x=true)(J:Ec y=true)(h:¬bZ x y<0)(j:((x.aKx==y.aKx)&&((x.N==y.N)&&(x.aK5.toList==y.aK5.toList)))=false):bZ y x<0:=by
 unfold bZ at*
 rw[jF ⟨I,J⟩]at h
 rw[jF ⟨J,I⟩]
 by_cases hk:x.aKx=y.aKx
 ·rw[jF hk]at h
  rw[jF hk.symm]
  by_cases hn:x.N=y.N
  ·rw[jF hn]at h
   rw[jF hn.symm]
   have hb:(x.aK5.toList==y.aK5.toList)=false:=by simpa[hk,hn]using j
   have U:Op.bytesLess x.aK5.toList y.aK5.toList=false:=by
    cases e:Op.bytesLess x.aK5.toList y.aK5.toList with
    |false=>rfl
    |true=>rw[e,jF rfl]at h;omega
   have C:=D4 x.aK5.toList y.aK5.toList
   rw[U,Bool.beq_comm,hb,Bool.or_false]at C
   have h2:Op.bytesLess y.aK5.toList x.aK5.toList=true:=by
    cases e:Op.bytesLess y.aK5.toList x.aK5.toList with
    |true=>rfl
    |false=>rw[e]at C;cases C
   rw[jF h2]
   omega
  ·rw[jG hn]at h;rw[jG (λe=>hn e.symm)];by_cases hlt:x.N<y.N;(rw[jF hlt]at h;omega);·rw[jF wg];omega
 ·rw[jG hk]at h;rw[jG (λe=>hk e.symm)];by_cases hlt:x.aKx<y.aKx;(rw[jF hlt]at h;omega);·rw[jF wg];omega
theorem Sr{l:List M.aKy}(h1:∀(k:Nat) (x:M.aKy),l[k]? =some x->Ec x.Key=true/\cV x.aF=true)(h2:∀(k:Nat) (x y:M.aKy),l[k]? =some x->l[k+1]? =some y->bZ x.Key y.Key<0):(List.range l.length).all (EC l)=true:=by unfold EC;grind
theorem LH{l:List M.aKy}(h:(List.range l.length).all (EC l)=true):(∀(k:Nat) (x:M.aKy),l[k]? =some x->Ec x.Key=true/\cV x.aF=true)/\(∀(k:Nat) (x y:M.aKy),l[k]? =some x->l[k+1]? =some y->bZ x.Key y.Key<0):=by rw[qR]at h;refine⟨λk x j=> ?_,λk x y j C=> ?_⟩;(have hk:k<l.length:=(qe.1 j).1;have:=h k (qS.2 hk);unfold EC at this;simp_all);·have hk:k+1<l.length:=(qe.1 C).1;have:=h (k+1) (qS.2 hk);unfold EC at this;simp_all
theorem YJ{α:Type}{l:List α}{p:Nat}{x:α}(C:p<=l.length)(k:Nat):(l.take p++([x]++l.drop p))[k]? =if k<p then l[k]? else if k=p then some x else l[k-1]? :=by
 have j:(l.take p).length=p:=by rw[qV];omega
 rw[List.getElem?_append,j]
 by_cases h1:k<p
 ·rw[jF h1,jF h1,List.getElem?_take_of_lt h1]
 ·rw[jG h1,jG h1];by_cases h2:k=p;(subst h2;simp);·rw[jG h2];obtain⟨d,rfl⟩:∃d,k=p+1+d:=⟨k-p-1,wg⟩;rw[show p+1+d-p=d+1 by omega,List.singleton_append,List.getElem?_cons_succ,List.getElem?_drop,show p+1+d-1=p+d by omega]
def K4(k:M.bD)(x:M.aKy):Bool:=decide (bZ x.Key k<0)
def EE(l:List M.aKy)(k:M.bD):Nat:=(l.takeWhile (K4 k)).length
theorem N4(l:List M.aKy)(k:M.bD):EE l k<=l.length:=(List.takeWhile_prefix _).length_le
def LV(s:M.aD)(k:M.bD):Int:=if((k.aKx==1)&&(decide (k.N>s.aK7)&&decide (k.N<=1000000)))=true then k.N else s.aK7
def PK(s:M.aD)(k:M.bD)(r:M.aF):M.aD:=⟨s.Name,s.aKg.take (EE s.aKg k)++([⟨k,r⟩]++s.aKg.drop (EE s.aKg k)),LV s k⟩
def OV(s:M.aD)(i:Nat)(r:M.aF):M.aD:=⟨s.Name,match s.aKg[i]? with|some x=>s.aKg.set i ⟨x.Key,r⟩|none=>s.aKg,s.aK7⟩
def Ca(s:M.aD)(k:M.bD)(r:M.aF):M.aD×Bool:=if iM s=true then if Ec k=true then if gJ (uB k) s.aKg<0 then if s.aKg.length<16 then(PK s k r,true)else(s,false)else(OV s (gJ (uB k) s.aKg).toNat r,true)else(s,false)else(s,false)
theorem Bi{s:M.aD}(h:iM s=true):(List.range s.aKg.length).all (EC s.aKg)=true/\oO s.Name=true/\s.aKg.length<=16/\0<=s.aK7/\s.aK7<=1000000:=by unfold iM inR at h;simp_all
theorem aAr{s:M.aD}(h1:(List.range s.aKg.length).all (EC s.aKg)=true)(h2:oO s.Name=true)(h3:s.aKg.length<=16)(h4:0<=s.aK7)(h5:s.aK7<=1000000):iM s=true:=by unfold iM inR;simp_all
theorem Va{s:M.aD}{k:M.bD}(h:iM s=true):0<=LV s k/\LV s k<=1000000:=by obtain⟨_,_,_,h4,h5⟩:=Bi h;unfold LV;grind
theorem TC{s:M.aD}{i:Nat}{r:M.aF}(h:iM s=true)(C:i<s.aKg.length):iM (OV s i r)=cV r:=by
 obtain⟨h1,h2,h3,h4,h5⟩:=Bi h
 obtain⟨a1,a2⟩:=LH h1
 have e:OV s i r=⟨s.Name,s.aKg.set i ⟨s.aKg[i].Key,r⟩,s.aK7⟩:=by unfold OV;rw[qF C]
 rw[e]
 have key:∀(k:Nat) (x:M.aKy),(s.aKg.set i ⟨s.aKg[i].Key,r⟩)[k]? =some x->∃y,s.aKg[k]? =some y/\x.Key=y.Key/\(k≠i->x=y)/\(k=i->x.aF=r):=by intro k x j;rw[List.getElem?_set]at j;by_cases hk:i=k;(subst hk;rw[jF rfl,jF C]at j;cases j;exact⟨_,qF C,rfl,λI=>absurd rfl I,λ_=>rfl⟩);·rw[jG hk]at j;exact⟨x,j,rfl,λ_=>rfl,λI=>absurd I.symm hk⟩
 cases hr:cV r with
 |true=>
  refine aAr (Sr (λk x j=> ?_) (λk x y j U=> ?_)) h2 (by rw[qN];exact h3) h4 h5
  ·obtain⟨y,U,e1,e2,e3⟩:=key k x j;obtain⟨b1,b2⟩:=a1 k y U;refine⟨by rw[e1];exact b1,?_⟩;by_cases hk:k=i;(rw[e3 hk];exact hr);·rw[e2 hk];exact b2
  ·obtain⟨x',J,e1,_⟩:=key k x j;obtain⟨y',hy',e2,_⟩:=key (k+1) y U;rw[e1,e2];exact a2 k x' y' J hy'
 |false=>
  cases hq:iM ⟨s.Name,s.aKg.set i ⟨s.aKg[i].Key,r⟩,s.aK7⟩with
  |false=>rfl
  |true=>
   have:=(LH (Bi hq).1).1 i _ (by rw[List.getElem?_set,jF rfl,jF C])
   simp only at this
   rw[hr]at this
   cases this.2
theorem SE{s:M.aD}{k:M.bD}{r:M.aF}(h:iM s=true)(hk:Ec k=true)(hr:cV r=true)(hf:gJ (uB k) s.aKg<0)(au:Int)(U:0<=au/\au<=1000000):
  iM ⟨s.Name,s.aKg.take (EE s.aKg k)++([⟨k,r⟩]++s.aKg.drop (EE s.aKg k)),au⟩=decide (s.aKg.length<16):=by
 obtain⟨h1,h2,h3,h4,h5⟩:=Bi h
 obtain⟨a1,a2⟩:=LH h1
 have hp:=N4 s.aKg k
 have hlen:(s.aKg.take (EE s.aKg k)++([(⟨k,r⟩:M.aKy)]++s.aKg.drop (EE s.aKg k))).length=s.aKg.length+1:=by simp only[qE,qV,qW,qJ,qK];omega
 have hall:(List.range (s.aKg.take (EE s.aKg k)++([(⟨k,r⟩:M.aKy)]++s.aKg.drop (EE s.aKg k))).length).all (EC (s.aKg.take (EE s.aKg k)++([⟨k,r⟩]++s.aKg.drop (EE s.aKg k))))=true:=by
  refine Sr (λj x C=> ?_) (λj x y C I=> ?_)
  ·rw[YJ hp]at C;split at C;(exact a1 j x C);·split at C;(cases C;exact⟨hk,hr⟩);·exact a1 _ x C
  ·rw[YJ hp]at C I
   by_cases c1:j+1<EE s.aKg k
   ·rw[jF wg]at C;rw[jF c1]at I;exact a2 j x y C I
   ·rw[jG c1]at I
    by_cases c2:j+1=EE s.aKg k
    ·rw[jF c2]at I
     rw[jF wg]at C
     cases I
     have hj:j<s.aKg.length:=by omega
     have:=M3 (f:=K4 k) (l:=s.aKg) j hj (by show j<EE s.aKg k;omega)
     rw[qF hj]at C
     cases C
     unfold K4 at this
     simpa using this
    ·rw[jG c2]at I
     by_cases c3:j=EE s.aKg k
     ·rw[jG wg,jF c3]at C
      cases C
      have hj:j<s.aKg.length:=(qe.1 I).1
      have hj':(s.aKg.takeWhile (K4 k)).length<s.aKg.length:=by show EE s.aKg k<_;omega
      have J:=Nf (f:=K4 k) hj'
      have e1:s.aKg[(s.aKg.takeWhile (K4 k)).length]=y:=by
       have:s.aKg[EE s.aKg k]? =some y:=by rw[<-c3];exact I
       exact(qe.1 this).2
      rw[e1]at J
      unfold K4 at J
      have hne:=FQ hf y (by rw[<-e1];exact qG _)
      exact aAD (a1 j y I).1 hk (by simpa using J) hne
     ·rw[jG wg,jG c3]at C;rw[show j+1-1=(j-1)+1 by omega]at I;exact a2 (j-1) x y C I
 have e1:decide ((s.aKg.take (EE s.aKg k)++([(⟨k,r⟩:M.aKy)]++s.aKg.drop (EE s.aKg k))).length<=16)=decide (s.aKg.length<16):=decide_eq_decide.2 wg
 unfold iM inR
 rw[hall,h2,e1,decide_eq_true U.1,decide_eq_true U.2]
 simp
theorem Qm{s o:M.aD}(C:M.aD.sz s<=1073741824)(j:o.ok):((cC o).bind λz=>if(!z)=true then(bH s).bind λy=>some (y,false)else some (o,true))=some (if iM o=true then(o,true)else(s,false)):=by rw[BR j,qA,kZ s C];cases iM o<;>simp
theorem aE6{X:Type}(c1 c2 c3:Bool)(A:Int->X)(x y:Int):(if c1=true then if c2=true then if c3=true then A x else A y else A y else A y)=A (if(c1&&(c2&&c3))=true then x else y):=by cases c1<;>cases c2<;>cases c3<;>rfl
theorem Uy{s:M.aD}{k:M.bD}{r:M.aF}{J:Int}(p:Nat)(I:s.ok)(hl:s.aKg.length<=1073741824)(hk:k.ok)(U:r.ok)(C:inI J):M.aD.ok ⟨s.Name,s.aKg.take p++([⟨k,r⟩]++s.aKg.drop p),J⟩:=
 ⟨I.Name,⟨by unfold maxLen;grind,λy hy=>by have j:y∈s.aKg.take p++([⟨k,r⟩]++s.aKg.drop p):=hy;simp only[qP,qq,qO,or_false]at j;rcases j with h|rfl|h;(exact I.aKg.2 y (qk h));(exact⟨hk,U⟩);·exact I.aKg.2 y (qv h)⟩,C⟩
theorem YU{s:M.aD}{r:M.aF}{i:Nat}(I:i<s.aKg.length)(j:s.ok)(J:r.ok):M.aD.ok ⟨s.Name,s.aKg.set i ⟨s.aKg[i].Key,r⟩,s.aK7⟩:=
 ⟨j.Name,⟨by rw[qN];exact j.aKg.1,λy U=>by have C:y∈s.aKg.set i ⟨s.aKg[i].Key,r⟩:=U;rcases jE C with h|rfl;(exact j.aKg.2 y h);·exact⟨(j.aKg.2 _ (qG I)).Key,J⟩⟩,j.aK7⟩
theorem Sp{s:M.aD}{k:M.bD}(j:s.ok)(hk:k.ok):inI (LV s k):=by unfold LV;split;(exact hk.N);·exact j.aK7
def tPI(s:M.aD)(k:M.bD)(r:M.aF)(j:Nat):Option (M.aD×Bool):=(bW r).bind λC=>(LW 56 s.aKg j ([⟨k,C⟩])).bind λ_=>if(k.aKx==1)=true then if(decide (k.N>s.aK7))=true then if(decide (k.N<=1000000))=true then(cC ⟨s.Name,s.aKg.take (j:Int).toNat++([⟨k,C⟩]++s.aKg.drop (j:Int).toNat),k.N⟩).bind λz=>if(!z)=true then(bH s).bind λy=>some (y,false)else some (⟨s.Name,s.aKg.take (j:Int).toNat++([⟨k,C⟩]++s.aKg.drop (j:Int).toNat),k.N⟩,true)else(cC ⟨s.Name,s.aKg.take (j:Int).toNat++([⟨k,C⟩]++s.aKg.drop (j:Int).toNat),s.aK7⟩).bind λz=>if(!z)=true then(bH s).bind λy=>some (y,false)else some (⟨s.Name,s.aKg.take (j:Int).toNat++([⟨k,C⟩]++s.aKg.drop (j:Int).toNat),s.aK7⟩,true)else(cC ⟨s.Name,s.aKg.take (j:Int).toNat++([⟨k,C⟩]++s.aKg.drop (j:Int).toNat),s.aK7⟩).bind λz=>if(!z)=true then(bH s).bind λy=>some (y,false)else some (⟨s.Name,s.aKg.take (j:Int).toNat++([⟨k,C⟩]++s.aKg.drop (j:Int).toNat),s.aK7⟩,true)else(cC ⟨s.Name,s.aKg.take (j:Int).toNat++([⟨k,C⟩]++s.aKg.drop (j:Int).toNat),s.aK7⟩).bind λz=>if(!z)=true then(bH s).bind λy=>some (y,false)else some (⟨s.Name,s.aKg.take (j:Int).toNat++([⟨k,C⟩]++s.aKg.drop (j:Int).toNat),s.aK7⟩,true)
def tPS(s:M.aD)(k:M.bD)(r:M.aF)(j:Nat):Option (M.aD×Bool):=(B6 s.aKg j).bind λ_=>(app 56 [] (s.aKg.take (j:Int).toNat)).bind λ_=>(cR r).bind λC=>(app 56 (s.aKg.take (j:Int).toNat) ([⟨k,C⟩])).bind λ_=>(app 56 ((s.aKg.take (j:Int).toNat)++[⟨k,C⟩]) (s.aKg.drop (j:Int).toNat)).bind λ_=>if(k.aKx==1)=true then(bG k.N (i64.wrap (s.aK7+1)) 1000000).bind λI=>if I=true then some (⟨s.Name,((s.aKg.take (j:Int).toNat)++[⟨k,C⟩])++(s.aKg.drop (j:Int).toNat),k.N⟩,true)else some (⟨s.Name,((s.aKg.take (j:Int).toNat)++[⟨k,C⟩])++(s.aKg.drop (j:Int).toNat),s.aK7⟩,true)else some (⟨s.Name,((s.aKg.take (j:Int).toNat)++[⟨k,C⟩])++(s.aKg.drop (j:Int).toNat),s.aK7⟩,true)
theorem C1{s:M.aD}{k:M.bD}{r:M.aF}(C:s.ok)(hk:k.ok)(hr:r.ok)(hR:cV r=true)(I:M.aD.sz s<=1073741824)(J:M.aF.sz r<=1073741824):lD s k r=some (Ca s k r):=by
 have hl:s.aKg.length<=1073741824:=by simp only[M.aD.sz]at I;omega
 have hp:=N4 s.aKg k
 unfold lD Ca
 rw[BR C,sZ hk,kZ s I,Cm C,xM r J]
 simp only[qA]
 cases hS:iM s with
 |false=>simp
 |true=>
  cases hK:Ec k with
  |false=>simp
  |true=>
   simp only[qB,qD,jH]
   by_cases h:gJ (uB k) s.aKg<0
   ·rw[jG wV,jF h,KI (l:=s.aKg) (f:=K4 k) (L:=sA s k r s) (S:=tPI s k r) C.aKg.1 (λm j hj=> ?_) (λm=> ?_)];(show tPI s k r (EE s.aKg k)=_;unfold tPI;rw[xM r J,qA,NX jz,qA,qH];refine Eq.trans (aE6 (k.aKx==1) (decide (k.N>s.aK7)) (decide (k.N<=1000000)) (λau=>(cC ⟨s.Name,s.aKg.take (EE s.aKg k)++([(⟨k,r⟩:M.aKy)]++s.aKg.drop (EE s.aKg k)),au⟩).bind λz=>if(!z)=true then(bH s).bind λy=>some (y,false)else some (⟨s.Name,s.aKg.take (EE s.aKg k)++([⟨k,r⟩]++s.aKg.drop (EE s.aKg k)),au⟩,true)) k.N s.aK7) ?_;refine(Qm (o:=PK s k r) I (Uy _ C hl hk hr (Sp C hk))).trans ?_;unfold PK;rw[SE hS hK hR h _ (Va hS)];by_cases aa:s.aKg.length<16;(simp[aa]);·simp[aa]);(have hj':=C.aKg.2 _ (qG hj);simp only[sA];rw[jF (bE hj),aK hj,qA,Af hj'.Key hk,qA,bM wg];rfl);·simp only[sA];rw[jG wb];rfl
   ·obtain⟨i,e,U⟩:=cT h
    rw[jF wM,jG h,e,aK U,qA,qH]
    have pZ:=TC (r:=r) hS U
    have e2:OV s i r=⟨s.Name,s.aKg.set i ⟨s.aKg[i].Key,r⟩,s.aK7⟩:=by unfold OV;rw[qF U]
    rw[e2]at pZ⊢
    have ht:=Qm I (YU U C hr)
    rw[pZ,hR,jF rfl,kZ s I]at ht
    exact ht
theorem BT{s:M.aD}{k:M.bD}{r:M.aF}(I:s.ok)(hk:k.ok)(hr:r.ok)(hR:cV r=true)(hz:M.aD.sz s<=1073741824)(C:M.aF.sz r<=1073741824):fD s k r=some (Ca s k r):=by
 have hp:=N4 s.aKg k
 unfold fD Ca
 rw[B2 I,oM hk,tP hr,hR,pM s hz,Bc I,CA r C]
 simp only[qA]
 cases hS:iM s with
 |false=>simp
 |true=>
  cases hK:Ec k with
  |false=>simp
  |true=>
   simp only[qB,qD,jH,jI]
   by_cases h:gJ (uB k) s.aKg<0
   ·rw[jG wV,jF h]
    by_cases aa:s.aKg.length<16
    ·rw[jG wV,jF aa,KI (l:=s.aKg) (f:=K4 k) (L:=sM s k r s) (S:=tPS s k r) I.aKg.1 (λm j J=> ?_) (λm=> ?_)]
     ·show tPS s k r (EE s.aKg k)=_
      obtain⟨_,_,_,ha4,ha5⟩:=Bi hS
      have ew:i64.wrap (s.aK7+1)=s.aK7+1:=bO wg wg
      have ei:inR k.N (s.aK7+1) 1000000=(decide (k.N>s.aK7)&&decide (k.N<=1000000)):=by congr 1
      unfold tPS
      rw[Ew hp,qA,qH,Ip wO wg,qA,CA r C,qA,dK jv,qA,dK jr,qA,qT,cO,qA,ew,ei]
      unfold PK LV
      cases (k.aKx==1)<;>cases (decide (k.N>s.aK7)&&decide (k.N<=1000000))<;>rfl
     ·have U:=I.aKg.2 _ (qG J);simp only[sM];rw[jF (bE J),aK J,qA,Ak U.Key hk,qA,bM wg];rfl
     ·simp only[sM];rw[jG wb];rfl
    grind
   ·obtain⟨i,e,hi⟩:=cT h;rw[jF wM,jG h,e,aK hi,qA,qH];unfold OV;rw[qF hi]
def fC(s:M.aD)(k:M.bD):M.aF:=if gJ (uB k) s.aKg<0 then⟨[]⟩else match s.aKg[(gJ (uB k) s.aKg).toNat]? with|some x=>x.aF|none=>⟨[]⟩
def Mz(s:M.aD)(w:M.cH):M.aD×Bool:=if(GL (fC s w.Key) w.Field w.N).2=true then Ca s w.Key (GL (fC s w.Key) w.Field w.N).1 else(s,false)
theorem IX:M.aF.ok ⟨[]⟩:=⟨⟨wb,wb⟩⟩
theorem FW{s:M.aD}{k:M.bD}(j:s.ok):(fC s k).ok:=by unfold fC;split;(exact IX);·split;(rename_i x C;exact(j.aKg.2 x (jD C)).aF);·exact IX
theorem IA(s:M.aD)(k:M.bD):M.aF.sz (fC s k)<=M.aD.sz s:=by
 unfold fC
 split
 ·simp[M.aF.sz,dO]
 ·split
  ·rename_i x j
   have h1:=dW (f:=M.aKy.sz) (jD j)
   have h2:M.aF.sz x.aF<=M.aKy.sz x:=by simp only[M.aKy.sz];omega
   simp only[M.aD.sz]
   omega
  ·simp[M.aF.sz,dO]
theorem ZW{r:M.aF}{a:ByteArray}{n:Int}(C:r.ok)(J:r.aKj.length<=1073741824)(I:a.size<=maxLen)(j:inI n):M.aF.ok ⟨RG r a n⟩:=by unfold RG;by_cases h:gJ (mV a) r.aKj<0;(rw[jF h];exact YA _ C J I j);·obtain⟨k,e,hk⟩:=cT h;rw[e,qH,qF hk];exact Uq hk C j
theorem Ml{r:M.aF}{a:ByteArray}{n:Int}(j:r.ok)(I:r.aKj.length<=1073741824)(C:a.size<=maxLen)(J:inI n):(GL r a n).1.ok:=by unfold GL Nt;split;(split;(exact ZW j I C J);·exact j);·exact j
theorem Ga{r:M.aF}{a:ByteArray}{n:Int}(h:(GL r a n).2=true):cV (GL r a n).1=true:=by unfold GL Nt at h⊢;grind
theorem Il{r:M.aF}(h:cV r=true):M.aF.sz r<=100:=by obtain⟨h1,h2⟩:=vT h;have:=eN (w:=M.aR.sz) (b:=8) (xs:=r.aKj) (λx j=>by have:=(h2 x j).1;simp only[M.aR.sz];omega);simp only[M.aF.sz];omega
theorem tR{s:M.aD}(h:iM s=true):M.aD.sz s<=10000:=by
 obtain⟨h1,h2,h3,_,_⟩:=Bi h
 obtain⟨j,_⟩:=LH h1
 have hn:s.Name.size<=8:=by unfold oO inR at h2;grind
 have:=eN (w:=M.aKy.sz) (b:=112) (xs:=s.aKg) (λx J=>by obtain⟨k,hk,rfl⟩:=List.mem_iff_getElem.1 J;obtain⟨C,I⟩:=j k _ (qF hk);have U:=Hj C;have c2:=Il I;simp only[M.aKy.sz,M.bD.sz];omega)
 simp only[M.aD.sz]
 omega
theorem G5{s:M.aD}{k:M.bD}{r:M.aF}(j:cV r=true)(h:(Ca s k r).2=true):iM (Ca s k r).1=true:=by unfold Ca at h⊢;by_cases hS:iM s=true;(rw[jF hS]at h⊢;by_cases hK:Ec k=true;(rw[jF hK]at h⊢;by_cases hf:gJ (uB k) s.aKg<0;(rw[jF hf]at h⊢;by_cases aa:s.aKg.length<16;(rw[jF aa];have:=SE hS hK j hf _ (Va (k:=k) hS);simp only[aa]at this;exact this);·rw[jG aa]at h;cases h);·rw[jG hf];obtain⟨i,e,C⟩:=cT hf;simp only[e,qH];rw[TC hS C];exact j);·rw[jG hK]at h;cases h);simp_all
theorem Q9{s:M.aD}{k:M.bD}{r:M.aF}(j:s.ok)(J:s.aKg.length<=1073741824)(hk:k.ok)(I:r.ok):(Ca s k r).1.ok:=by unfold Ca;by_cases hS:iM s=true;(rw[jF hS];by_cases hK:Ec k=true;(rw[jF hK];by_cases hf:gJ (uB k) s.aKg<0;(rw[jF hf];split;(exact Uy _ j J hk I (Sp j hk));·exact j);·obtain⟨i,e,C⟩:=cT hf;simp only[e,qH];unfold OV;rw[qF C];exact YU C j I);·rw[jG hK];exact j);simp_all
theorem MV{s:M.aD}{k:M.bD}{r:M.aF}(h:(Ca s k r).2=false):(Ca s k r).1=s:=by unfold Ca at h⊢;grind
theorem Pn{s:M.aD}{w:M.cH}(h:(Mz s w).2=false):(Mz s w).1=s:=by unfold Mz at h⊢;by_cases h1:(GL (fC s w.Key) w.Field w.N).2=true;(rw[jF h1]at h⊢;exact MV h);simp_all
theorem Lr{s:M.aD}{w:M.cH}(C:s.ok)(I:w.ok)(U:M.aD.sz s<=536870912):(Mz s w).1.ok/\M.aD.sz (Mz s w).1<=536870912:=by
 have hl:s.aKg.length<=1073741824:=by simp only[M.aD.sz]at U;omega
 have J:=IA s w.Key
 have j:(fC s w.Key).aKj.length<=1073741824:=by simp only[M.aF.sz]at J;omega
 cases h2:(Mz s w).2 with
 |false=>rw[Pn h2];exact⟨C,U⟩
 |true=>
  unfold Mz at h2⊢
  by_cases h1:(GL (fC s w.Key) w.Field w.N).2=true
  ·rw[jF h1]at h2⊢;have:=tR (G5 (Ga h1) h2);exact⟨Q9 C hl I.Key (Ml (FW C) j I.Field I.N),wg⟩
  simp_all
theorem Dq{s:M.aD}{w:M.cH}(C:s.ok)(j:w.ok)(hz:M.aD.sz s<=1073741824):mZ s w=some (Mz s w):=by
 have J:=IA s w.Key
 have I:(fC s w.Key).aKj.length<=1073741824:=by simp only[M.aF.sz]at J;omega
 have pZ:=Cf (r:=fC s w.Key) (a:=w.Field) (n:=w.N) (FW C) wg j.Field j.N
 have hput:(GL (fC s w.Key) w.Field w.N).2=true->fD s w.Key (GL (fC s w.Key) w.Field w.N).1=some (Ca s w.Key (GL (fC s w.Key) w.Field w.N).1):=λh1=>
  BT C j.Key (Ml (FW C) I j.Field j.N) (Ga h1) hz (qh (Il (Ga h1)) wg)
 have hfin:((some (GL (fC s w.Key) w.Field w.N)).bind λx9=>if(!x9.2)=true then(cP s).bind λae=>some (ae,false)else(fD s w.Key x9.1).bind λU=>some (U.1,U.2))=some (Mz s w):=by rw[qA,pM s hz];unfold Mz;grind
 unfold mZ
 rw[Bc C,qA]
 by_cases h:gJ (uB w.Key) s.aKg<0
 ·have e:fC s w.Key=⟨[]⟩:=by unfold fC;rw[jF h]
  rw[jG wV]
  rw[e]at pZ hfin
  rw[pZ]
  exact hfin
 ·obtain⟨i,ei,hi⟩:=cT h
  have e:fC s w.Key=s.aKg[i].aF:=by unfold fC;rw[jG h,ei,qH,qF hi]
  rw[jF wM,ei,aK hi,qA]
  rw[e]at pZ hfin
  rw[pZ]
  exact hfin
theorem F4{s:M.aD}{w:M.cH}(C:s.ok)(j:w.ok)(hz:M.aD.sz s<=1073741824):Bt s w=some (Mz s w):=by
 have J:=IA s w.Key
 have I:(fC s w.Key).aKj.length<=1073741824:=by simp only[M.aF.sz]at J;omega
 have pZ:=DW (r:=fC s w.Key) (a:=w.Field) (n:=w.N) (FW C) wg j.Field j.N
 have hput:(GL (fC s w.Key) w.Field w.N).2=true->lD s w.Key (GL (fC s w.Key) w.Field w.N).1=some (Ca s w.Key (GL (fC s w.Key) w.Field w.N).1):=λh1=>
  C1 C j.Key (Ml (FW C) I j.Field j.N) (Ga h1) hz (qh (Il (Ga h1)) wg)
 have hfin:((some (GL (fC s w.Key) w.Field w.N)).bind λx9=>if(!x9.2)=true then(bH s).bind λae=>some (ae,false)else(lD s w.Key x9.1).bind λU=>some (U.1,U.2))=some (Mz s w):=by rw[qA,kZ s hz];unfold Mz;grind
 unfold Bt
 rw[Cm C,qA]
 by_cases h:gJ (uB w.Key) s.aKg<0
 ·have e:fC s w.Key=⟨[]⟩:=by unfold fC;rw[jF h]
  rw[jG wV]
  rw[e]at pZ hfin
  rw[pZ]
  exact hfin
 ·obtain⟨i,ei,hi⟩:=cT h
  have e:fC s w.Key=s.aKg[i].aF:=by unfold fC;rw[jG h,ei,qH,qF hi]
  rw[jF wM,ei,aK hi,qA]
  rw[e]at pZ hfin
  rw[pZ]
  exact hfin
def Bs(s:M.aD)(l:List M.cH):M.aD:=l.foldl (λt w=>(Mz t w).1) s
theorem PQ{s:M.aD}{l:List M.cH}(U:s.ok)(C:l.length<=maxLen)(J:∀w∈l,M.cH.ok w)(hz:M.aD.sz s<=536870912):G4 s l=some (Bs s l)/\(Bs s l).ok/\M.aD.sz (Bs s l)<=536870912:=by
 have hm:=aZ C
 unfold G4 Bs
 rw[kZ s wg,qA]
 have:=Qa (xs:=l) (L:=λn k t=>AY l n k t.Name t.aK7 t.aKg) (step:=λt w=>(Mz t w).1) (I:=λ_ t=>t.ok/\M.aD.sz t<=536870912) (E:=some) C
  (λt k hk j=>Lr j.1 (J _ (qG hk)) j.2) (λn t k hk j=>by
   simp only[AY]
   rw[jF (bE hk),aK hk,qA,show⟨t.Name,t.aKg,t.aK7⟩=t from rfl,F4 j.1 (J _ (qG hk)) wg,qA,bM wg]) (λn t j=>by
   simp only[AY]
   rw[jG wb]) s ⟨U,hz⟩
 exact⟨this.1,this.2⟩
theorem IU{s:M.aD}{l:List M.cH}(U:s.ok)(C:l.length<=maxLen)(J:∀w∈l,M.cH.ok w)(hz:M.aD.sz s<=536870912):A0 s l=some (Bs s l):=by
 have hm:=aZ C
 unfold A0 Bs
 rw[pM s wg,qA]
 have:=Qa (xs:=l) (L:=λn k t=>lZ l n k t.Name t.aK7 t.aKg) (step:=λt w=>(Mz t w).1) (I:=λ_ t=>t.ok/\M.aD.sz t<=536870912) (E:=some) C
  (λt k hk j=>Lr j.1 (J _ (qG hk)) j.2) (λn t k hk j=>by
   simp only[lZ]
   rw[jF (bE hk),aK hk,qA,show⟨t.Name,t.aKg,t.aK7⟩=t from rfl,Dq j.1 (J _ (qG hk)) wg,qA,bM wg]
   cases h2:(Mz t l[k]).2 with
   |true=>rfl
   |false=>rw[Pn h2];rfl) (λn t j=>by
   simp only[lZ]
   rw[jG wb]) s ⟨U,hz⟩
 exact this.1
theorem E5:∀(j n:Nat),n<2^(7*(j+1))->(uv n).length<=j+1
 |0,n,h=>by rw[DN wM];simp
 |j+1,n,h=>by
  by_cases h1:n<128
  ·rw[DN h1];simp
  ·rw[KC h1,qJ]
   have e:2^(7*(j+1+1))=2^(7*(j+1))*128:=by rw[show 7*(j+1+1)=7*(j+1)+7 from by omega,Nat.pow_add]
   have:=E5 j (n/128) wg
   omega
theorem FV{n:Nat}(h:n<=1000000000000):(uv n).length<=6:=E5 5 n (Nat.lt_of_le_of_lt h we)
theorem HA(n:Nat):1<=(uv n).length:=by by_cases h:n<128;(rw[DN h];simp);·rw[KC h];simp
theorem Kk:∀(n:Nat) (x:Int),x∈uv n->0<=x/\x<=255:=by
 intro n
 induction n using Nat.strongRecOn with
 |_ n C=>
  intro x j
  by_cases h:n<128
  ·rw[DN h,qQ]at j;omega
  ·rw[KC h,qq]at j;rcases j with rfl|j;(omega);·exact C (n/128) wg x j
def Tl(b:List Int)(a:Nat):Nat->Nat->Nat->Int×Int×Bool
 |0,_,_=>(0,0,false)
 |j+1,k,n=>match b[a+k]? with
  |none=>(0,0,false)
  |some x=>if x.toNat<128 then if(decide (x.toNat=0)&&decide (0<k))||decide (1000000000000<n+x.toNat%128*2^(7*k))then(0,0,false)else(((n+x.toNat%128*2^(7*k):Nat):Int),((a+k+1:Nat):Int),true)else Tl b a j (k+1) (n+x.toNat%128*2^(7*k))
def nUv(b:List Int)(p:Int):Int×Int×Bool:=if p<0 then(0,0,false)else Tl b p.toNat 6 0 0
theorem O8{k:Nat}(h:k<6):2^(7*k)<=34359738368:=Nat.pow_le_pow_right (n:=2) we (show 7*k<=35 by omega)
theorem ZB{k n x:Nat}(j:n<2^(7*k)):n+x%128*2^(7*k)<2^(7*(k+1)):=by
 have e:2^(7*(k+1))=2^(7*k)*128:=by rw[show 7*(k+1)=7*k+7 from by omega,Nat.pow_add]
 have h1:x%128<=127:=by omega
 have h2:x%128*2^(7*k)<=127*2^(7*k):=qj _ h1
 omega
theorem aBp{n x k:Nat}(h:n<2^k):n|||x*2^k=n+x*2^k:=by have:=Nat.two_pow_add_eq_or_of_lt h x;rw[Nat.mul_comm x,Nat.or_comm,<-this,Nat.add_comm]
theorem U2{k x:Nat}(hk:k<6):i64.wrap (((x%128:Nat))*2^(min (i64.wrap (7*k)).toNat i64.bits))=((x%128*2^(7*k):Nat)):=by
 have j:=O8 hk
 have h1:x%128<=127:=by omega
 have h2:x%128*2^(7*k)<=127*2^(7*k):=qj _ h1
 have e:min (i64.wrap (7*k)).toNat i64.bits=7*k:=by rw[bO wg wg,show i64.bits=64 from rfl];omega
 rw[e,show(((x%128:Nat))*2^(7*k))=((x%128*2^(7*k):Nat):Int)from by rfl]
 exact bO wg wg
theorem uvS{n k x:Nat}(hk:k<6)(I:x<=255)(j:n<2^(7*k)):(i64.wrap (BitVec.ofInt i64.bits n|||BitVec.ofInt i64.bits (i64.wrap ((i64.wrap (BitVec.ofInt i64.bits (i64.wrap x)&&&BitVec.ofInt i64.bits 127).toNat)*2^(min (i64.wrap (7*k)).toNat i64.bits)))).toNat)=((n+x%128*2^(7*k):Nat)):=by
 have C:=O8 hk
 have h1:x%128<=127:=by omega
 have h2:x%128*2^(7*k)<=127*2^(7*k):=qj _ h1
 have e:=NZ (n:=x) (m:=127) wg wg
 rw[aBm]at e
 rw[bO (n:=x) wg wg,show(127)=((127:Nat):Int)from rfl,e,U2 hk,T6 wg wg,aBp j]
theorem uvI{n k x:Nat}(hk:k<6)(I:x<=255)(j:n<2^(7*k)):(i64.wrap (n+(i64.wrap ((Int.tmod (i64.wrap x) 128)*2^(min (i64.wrap (7*k)).toNat i64.bits)))))=((n+x%128*2^(7*k):Nat)):=by
 have C:=O8 hk
 have h1:x%128<=127:=by omega
 have h2:x%128*2^(7*k)<=127*2^(7*k):=qj _ h1
 have e:Int.tmod x 128=((x%128:Nat)):=by rw[Int.tmod_eq_emod_of_nonneg wg];omega
 rw[bO (n:=x) wg wg,e,U2 hk,<-Int.natCast_add]
 exact bO wg wg
theorem aAq{b:List Int}(hb:okB b){k:Nat}(h:k<b.length):∃x:Nat,b[k]=x/\x<=255:=by have:=hb.2 _ (qG h);exact⟨b[k].toNat,wg,wg⟩
