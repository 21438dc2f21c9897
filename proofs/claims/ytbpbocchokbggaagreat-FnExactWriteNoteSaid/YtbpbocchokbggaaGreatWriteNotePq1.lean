/-
  Helper text. No conditions.
-/
import Derived.Test.YtbpbocchokbggaaGreatWriteNotePm2
set_option linter.all false
namespace Go.Proofs.YtbpbocchokbggaaGreat.gen
open Go Go.Sh
open Go.IntKind (i64)
def Ad(x y:Int):Bool:=x==y
theorem NL{xs ys:List Int}(C:xs.length<=maxLen):oO xs ys=some (eqL Ad xs ys):=by
 have I:=le_max C
 unfold oO
 rw[Xy (f:=Ad) C (E:=some true) (λn k hk j=>by
  simp only[hZ]
  rw[if_pos (bL hk),aM hk,aM j,qA,qA,bI jD]
  first|rw[DQ];rfl|rw[HK];rfl) (λn=>by
  simp only[hZ]
  rw[if_neg jK]),fF,Bool.and_true]
theorem H3{a b:List Int}(j:okB a)(hb:okB b):tH a b=some (eqL Ad a b):=by unfold tH;rw[A4 j.2,A4 hb.2,qA,qA,Of j.2 hb.2];rfl
theorem zE{a b:List Int}(j:okB a):iY a b=some (eqL Ad a b):=by unfold iY;rw[NL j.1,qA]
theorem S5:inI 0:=by unfold inI;omega
theorem aDB(n:Nat)(h:n<=1048576):n<=maxLen:=by unfold maxLen;omega
theorem sz0:((⟨#[]⟩:ByteArray)).size<=maxLen:=aDB _ jG
theorem Hh{l:List Int}(j:l.length<=1048576):rU l=some ([(List.length l:Int)]++l.map i64.wrap):=by unfold rU;have:=OO (b:=8) (xs:=l) (f:=i64.wrap) (L:=fV l) (λn k hk r=> ?_) (λn r=> ?_) fuel 0 ([(List.length l:Int)]) jI jD jE;(simpa using this);(simp only[fV];rw[if_pos (bL hk),aM hk,qA,bI jD]);·simp only[fV];rw[if_neg jK]
theorem Ho{l:List Int}(j:l.length<=1048576):rP l=some ([(List.length l:Int)]++l.map i64.wrap):=by unfold rP;have:=OO (b:=8) (xs:=l) (f:=i64.wrap) (L:=gD l) (λn k hk r=> ?_) (λn r=> ?_) fuel 0 ([(List.length l:Int)]) jI jD jE;(simpa using this);(simp only[gD];rw[if_pos (bL hk),aM hk,qA,bI jD]);·simp only[gD];rw[if_neg jK]
theorem Qe(x:Int):D0 x 2147483647=some (N8 x):=by
 have e:bZ 2147483647 1 1000000000000=some true:=by decide
 unfold D0
 rw[e,qA,if_neg jF,if_neg jF,Tg]
theorem Qw(x:Int):En x 2147483647=some (N8 x):=by
 have e:bG 2147483647 1 1000000000000=some true:=by decide
 unfold En
 rw[e,qA,if_neg jF,if_neg jF,Ui]
theorem OH{l:List Int}(j:l.length<=maxLen):Dr l=some (Mm l):=by have C:=le_max j;unfold Dr Mm;refine Gl (L:=rZ l) (E:=some) j (λn v k hk=> ?_) (λn v=> ?_) 11;(simp only[rZ];rw[if_pos (bL hk),aM hk,qA,Qe,qA,bI jD];rfl);·simp only[rZ];rw[if_neg jK]
theorem Ox{l:List Int}(j:l.length<=maxLen):DB l=some (Mm l):=by have C:=le_max j;unfold DB Mm;refine Gl (L:=sA l) (E:=some) j (λn v k hk=> ?_) (λn v=> ?_) 11;(simp only[sA];rw[if_pos (bL hk),aM hk,qA,Qw,qA,bI jD];rfl);·simp only[sA];rw[if_neg jK]
theorem U5{α:Type}{l:List α}{k:Nat}(h:k<=l.length):B4 l (k:Int)=some (l.drop k):=by unfold B4;rw[if_pos ⟨jD,by simpa using h⟩];simp
theorem LD:∀{a b c:List UInt8},Op.bytesLess a b=true->Op.bytesLess b c=true->Op.bytesLess a c=true
 |[],[],_,h,_=>by cases h
 |_::_,[],_,h,_=>by cases h
 |_,_::_,[],_,h=>by cases h
 |[],_::_,_::_,_,_=>rfl
 |x::a,y::b,z::c,h1,h2=>by
  have e1:Op.bytesLess (x::a) (y::b)=(decide (x<y)||((x==y)&&Op.bytesLess a b)):=rfl
  have e2:Op.bytesLess (y::b) (z::c)=(decide (y<z)||((y==z)&&Op.bytesLess b c)):=rfl
  have e3:Op.bytesLess (x::a) (z::c)=(decide (x<z)||((x==z)&&Op.bytesLess a c)):=rfl
  rw[e1,Bool.or_eq_true,qM,qL,UInt8.lt_iff_toNat_lt]at h1
  rw[e2,Bool.or_eq_true,qM,qL,UInt8.lt_iff_toNat_lt]at h2
  rw[e3,Bool.or_eq_true,qM,qL,UInt8.lt_iff_toNat_lt]
  rcases h1 with h1|⟨h1,h1'⟩<;>rcases h2 with h2|⟨h2,j⟩
  ·exact .inl jD
  ·exact .inl (by rw[<-eq_of_beq h2];exact h1)
  ·exact .inl (by rw[eq_of_beq h1];exact h2)
  ·exact .inr ⟨by rw[eq_of_beq h1];exact h2,LD h1' j⟩
theorem Hq{α:Type}{f:α->Bool}:∀{l:List α} {k:Nat},(∀(j:Nat) (C:j<l.length),j<k->f l[j]=true)->(∀(hk:k<l.length),f l[k]=false)->k<=l.length->(l.takeWhile f).length=k
 |[],k,_,_,h=>by simp at h;simp[h]
 |x::l,0,_,h,_=>by have:=h jF;simp only[List.getElem_cons_zero]at this;rw[List.takeWhile_cons,if_neg (by rw[this];simp)];rfl
 |x::l,k+1,h1,h2,h3=>by have:=h1 0 jF jD;simp only[List.getElem_cons_zero]at this;rw[List.takeWhile_cons,if_pos this,qJ,Hq (k:=k) (λj C I=> ?_) (λhk=> ?_) (by simpa using h3)];(have:=h1 (j+1) jE jD;simpa using this);·have:=h2 jE;simpa using this
theorem IU{α:Type}{f:α->Bool}:∀{l:List α} (j:Nat) (C:j<l.length),j<(l.takeWhile f).length->f l[j]=true
 |[],j,C,_=>by simp at C
 |x::l,j,C,h=>by
  rw[List.takeWhile_cons]at h
  split at h
  ·rename_i I
   cases j with
   |zero=>exact I
   |succ j=>exact IU j (by simpa using C) (by simpa using h)
  ·simp at h
theorem I4{α:Type}{f:α->Bool}:∀{l:List α} (hk:(l.takeWhile f).length<l.length),f (l[(l.takeWhile f).length])=false
 |[],hk=>by simp at hk
 |x::l,hk=>by
  cases hx:f x with
  |false=>simp[List.takeWhile_cons,hx]
  |true=>
   have j:(l.takeWhile f).length<l.length:=by rw[List.takeWhile_cons,if_pos hx]at hk;simpa using hk
   have:=I4 j
   simpa[List.takeWhile_cons,hx]using this
theorem FW{α:Type}{f:α->Bool}{l:List α}{k:Nat}(h:rY f l=(k:Int)):∃hk:k<l.length,f l[k]=true:=by
 unfold rY at h
 cases e:l.findIdx? f with
 |none=>rw[e]at h;simp only at h;omega
 |some i=>
  rw[e]at h
  simp only at h
  have:i=k:=by omega
  subst this
  obtain⟨h1,h2,_⟩:=List.findIdx?_eq_some_iff_getElem.1 e
  exact⟨h1,h2⟩
theorem Ll{α:Type}{f:α->Bool}{l:List α}(h:rY f l<0):∀x∈l,f x=false:=by
 have h2:=Ma f l
 rw[decide_eq_false jD]at h2
 intro x j
 cases hf:f x with
 |false=>rfl
 |true=>
  have:l.any f=true:=List.any_eq_true.2 ⟨x,j,hf⟩
  rw[<-h2]at this
  cases this
theorem R5{r:M.aA}(h:bO r=true)(k:Nat)(hk:k+1<r.aEN.length):Op.bytesLess r.aEN[k].Name.toList r.aEN[k+1].Name.toList=true:=by unfold bO at h;rw[qM,qR]at h;have:=h.1 (k+1) (qS.2 hk);unfold Ey at this;rw[qF hk,Nat.add_sub_cancel,qF (show k<r.aEN.length by omega)]at this;simp only[qe,qM]at this;simpa using this.2
theorem UZ{r:M.aA}(h:bO r=true):∀(d i:Nat) (j:i+d+1<r.aEN.length),Op.bytesLess r.aEN[i].Name.toList r.aEN[i+d+1].Name.toList=true
 |0,i,j=>R5 h i j
 |d+1,i,j=>LD (UZ h d i jD) (R5 h (i+d+1) j)
def Ny(a:ByteArray)(x:M.Field):Bool:=Op.bytesLess x.Name.toList a.toList
def Mn(l:List M.Field)(a:ByteArray):Nat:=(l.takeWhile (Ny a)).length
theorem PH(l:List M.Field)(a:ByteArray):Mn l a<=l.length:=(List.takeWhile_prefix _).length_le
theorem Od{r:M.aA}{a:ByteArray}(h:bO r=true){k:Nat}(hk:k<r.aEN.length)(C:lE a r.aEN[k]=true):Mn r.aEN a=k:=by
 have e:r.aEN[k].Name.toList=a.toList:=eq_of_beq C
 refine Hq (λj J I=> ?_) (λ_=> ?_) jD
 ·unfold Ny
  rw[<-e]
  have:=UZ h (k-j-1) j jD
  have e2:j+(k-j-1)+1=k:=by omega
  simp only[e2]at this
  exact this
 ·unfold Ny;rw[e];exact Kj _
def NM(r:M.aA)(a:ByteArray)(n:Int):List M.Field:=if rY (lE a) r.aEN<0 then r.aEN.take (Mn r.aEN a)++([(⟨a,n⟩:M.Field)]++r.aEN.drop (Mn r.aEN a))
 else match r.aEN[(rY (lE a) r.aEN).toNat]? with|some x=>r.aEN.set (rY (lE a) r.aEN).toNat (⟨x.Name,n⟩:M.Field)|none=>r.aEN
def JZ(r:M.aA)(l:List M.Field):M.aA×Bool:=if bO r=true then if bO (⟨l⟩:M.aA)=true then((⟨l⟩:M.aA),true)else(r,false)else(r,false)
def KG(r:M.aA)(a:ByteArray)(n:Int):M.aA×Bool:=JZ r (NM r a n)
theorem FX{r:M.aA}(h:bO r=false)(l:List M.Field):JZ r l=(r,false):=by unfold JZ;rw[h,if_neg jF]
theorem RZ{r:M.aA}{a:ByteArray}{n:Int}(k:Nat)(C:r.ok)(hl:r.aEN.length<=1073741824)(I:a.size<=maxLen)(J:inI n):M.aA.ok (⟨r.aEN.take k++([(⟨a,n⟩:M.Field)]++r.aEN.drop k)⟩:M.aA):=
 ⟨⟨by show(r.aEN.take k++([(⟨a,n⟩:M.Field)]++r.aEN.drop k)).length<=maxLen;unfold maxLen;simp only[qE,qU,qV,qJ,qK];omega,λy U=>by have j:y∈r.aEN.take k++([(⟨a,n⟩:M.Field)]++r.aEN.drop k):=U;simp only[qP,qp,qO,or_false]at j;rcases j with h|rfl|h;(exact C.aEN.2 y (qj h));(exact⟨I,J⟩);·exact C.aEN.2 y (qv h)⟩⟩
theorem OD{r:M.aA}{n:Int}{k:Nat}(hk:k<r.aEN.length)(j:r.ok)(I:inI n):M.aA.ok (⟨r.aEN.set k (⟨r.aEN[k].Name,n⟩:M.Field)⟩:M.aA):=
 ⟨⟨by show(r.aEN.set k _).length<=maxLen;rw[qN];exact j.aEN.1,λy J=>by have C:y∈r.aEN.set k (⟨r.aEN[k].Name,n⟩:M.Field):=J;rcases jC C with h|rfl;(exact j.aEN.2 y h);·exact⟨(j.aEN.2 _ (qG hk)).Name,I⟩⟩⟩
theorem K9{r:M.aA}{l:List M.Field}(C:r.ok)(hz:M.aA.sz r<=1073741824)(j:M.aA.ok (⟨l⟩:M.aA)):
  ((bM r).bind λx=>if(!x)=true then(bY r).bind λy=>some (y,false)else(bM (⟨l⟩:M.aA)).bind λz=>if(!z)=true then(bY r).bind λy=>some (y,false)else some ((⟨l⟩:M.aA),true))=some (JZ r l):=by
 rw[mD C,qA,zP r hz,mD j]
 unfold JZ
 cases bO r
 ·simp
 ·cases bO (⟨l⟩:M.aA)<;>simp
theorem Le{r:M.aA}{l:List M.Field}(C:r.ok)(hz:M.aA.sz r<=1073741824)(j:M.aA.ok (⟨l⟩:M.aA)):
  ((cD r).bind λx=>if(!x)=true then(bJ r).bind λy=>some (y,false)else(cD (⟨l⟩:M.aA)).bind λz=>if(!z)=true then(bJ r).bind λy=>some (y,false)else some ((⟨l⟩:M.aA),true))=some (JZ r l):=by
 rw[sQ C,qA,oC r hz,sQ j]
 unfold JZ
 cases bO r
 ·simp
 ·cases bO (⟨l⟩:M.aA)<;>simp
def tFI(r:M.aA)(a:ByteArray)(n:Int)(k:Nat):Option (M.aA×Bool):=(HM 24 r.aEN (k:Int) ([(⟨a,n⟩:M.Field)])).bind λ_=>(cD r).bind λj=>if(!j)=true then(bJ r).bind λC=>some (C,false)else(cD (⟨List.take (k:Int).toNat r.aEN++([(⟨a,n⟩:M.Field)]++List.drop (k:Int).toNat r.aEN)⟩:M.aA)).bind λI=>if(!I)=true then(bJ r).bind λJ=>some (J,false)else some ((⟨List.take (k:Int).toNat r.aEN++([(⟨a,n⟩:M.Field)]++List.drop (k:Int).toNat r.aEN)⟩:M.aA),true)
theorem DA{r:M.aA}{a:ByteArray}{n:Int}(j:r.ok)(hz:M.aA.sz r<=1073741824)(J:a.size<=maxLen)(C:inI n):oD r a n=some (KG r a n):=by
 have U:r.aEN.length<=1073741824:=by simp only[M.aA.sz]at hz;omega
 unfold oD xF KG NM
 rw[oC r hz,qA,Ec (f:=lE a) j.aEN.1 (λx _=>by simp only[oS];rfl),qA,qA]
 by_cases h:rY (lE a) r.aEN<0
 ·rw[if_neg jE,if_pos h,IE (l:=r.aEN) (f:=Ny a) (L:=kM r a n r) (S:=tFI r a n) j.aEN.1 (λm k hk=> ?_) (λm=> ?_)];(show tFI r a n (Mn r.aEN a)=_;have hp:=PH r.aEN a;unfold tFI;rw[JE jO,qA,qH];exact Le j hz (RZ _ j U J C));(simp only[kM];rw[if_pos (bL hk),aM hk,qA,bI jD];rfl);·simp only[kM];rw[if_neg jK];rfl
 ·obtain⟨k,e,hk⟩:=kN h;rw[if_pos (by simpa using h),if_neg h,e,aM hk,qA,qH,qF hk];have I:=Le j hz (OD hk j C);rw[oC r hz]at I;exact I
def tFA(r:M.aA)(a:ByteArray)(n:Int)(k:Nat):Option (M.aA×Bool):=(idx r.aEN (k:Int)).bind λj=>(bM r).bind λC=>if(!C)=true then(bY r).bind λI=>some (I,false)else(bM (⟨List.set r.aEN (k:Int).toNat (⟨j.Name,n⟩:M.Field)⟩:M.aA)).bind λJ=>if(!J)=true then(bY r).bind λU=>some (U,false)else some ((⟨List.set r.aEN (k:Int).toNat (⟨j.Name,n⟩:M.Field)⟩:M.aA),true)
def tFB(r:M.aA)(a:ByteArray)(n:Int)(k:Nat):Option (M.aA×Bool):=(Ek r.aEN (k:Int)).bind λ_=>(app 24 ([]:List M.Field) (List.take (k:Int).toNat r.aEN)).bind λ_=>(app 24 (List.take (k:Int).toNat r.aEN) ([(⟨a,n⟩:M.Field)])).bind λ_=>(B4 r.aEN (k:Int)).bind λ_=>(app 24 ((List.take (k:Int).toNat r.aEN)++[(⟨a,n⟩:M.Field)]) (List.drop (k:Int).toNat r.aEN)).bind λ_=>(bM r).bind λj=>if(!j)=true then(bY r).bind λC=>some (C,false)else(bM (⟨((List.take (k:Int).toNat r.aEN)++[(⟨a,n⟩:M.Field)])++(List.drop (k:Int).toNat r.aEN)⟩:M.aA)).bind λI=>if(!I)=true then(bY r).bind λJ=>some (J,false)else some ((⟨((List.take (k:Int).toNat r.aEN)++[(⟨a,n⟩:M.Field)])++(List.drop (k:Int).toNat r.aEN)⟩:M.aA),true)
def tFS(r:M.aA)(a:ByteArray)(n:Int)(k:Nat):Option (M.aA×Bool):=match r.aEN[k]? with|some x=>if(x.Name.toList==a.toList)=true then tFA r a n k else tFB r a n k|none=>tFB r a n k
theorem US{r:M.aA}{a:ByteArray}{n:Int}{k:Nat}(hk:k<=r.aEN.length)(j:r.ok)(hz:M.aA.sz r<=1073741824)(C:a.size<=maxLen)(J:inI n):tFB r a n k=some (JZ r (r.aEN.take k++([(⟨a,n⟩:M.Field)]++r.aEN.drop k))):=by
 have I:r.aEN.length<=1073741824:=by simp only[M.aA.sz]at hz;omega
 unfold tFB
 rw[J7 hk,qA,qH,GN (by rw[qU];omega) jD,qA,fR jP,qA,U5 hk,qA,fR jM,qA,qT]
 exact K9 j hz (RZ k j I C J)
theorem Dq{r:M.aA}{a:ByteArray}{n:Int}(I:r.ok)(hz:M.aA.sz r<=1073741824)(U:a.size<=maxLen)(J:inI n):oN r a n=some (KG r a n):=by
 have hl:r.aEN.length<=1073741824:=by simp only[M.aA.sz]at hz;omega
 have hp:=PH r.aEN a
 unfold oN
 rw[zP r hz,qA,IE (l:=r.aEN) (f:=Ny a) (L:=kE r a n r) (S:=tFS r a n) I.aEN.1 (λm k hk=> ?_) (λm=> ?_)]
 ·show tFS r a n (Mn r.aEN a)=_
  unfold tFS KG
  rcases Nat.lt_or_ge (Mn r.aEN a) r.aEN.length with h|h
  ·rw[qF h]
   simp only
   by_cases hf:(r.aEN[Mn r.aEN a].Name.toList==a.toList)=true
   ·rw[if_pos hf]
    unfold tFA
    rw[aM h,qA,qH,K9 I hz (OD h I J)]
    cases hR:bO r with
    |false=>rw[FX hR,FX hR]
    |true=>
     have hnot:¬rY (lE a) r.aEN<0:=λh0=>by have:=Ll h0 _ (qG h);rw[show lE a r.aEN[Mn r.aEN a]=true from hf]at this;cases this
     obtain⟨k,e,hk⟩:=kN hnot
     obtain⟨_,j⟩:=FW e
     have C:=Od hR hk j
     unfold NM
     rw[if_neg hnot,e,qH,qF hk]
     simp only[C]
   ·rw[if_neg hf,US hp I hz U J]
    cases hR:bO r with
    |false=>rw[FX hR,FX hR]
    |true=>
     have hneg:rY (lE a) r.aEN<0:=Classical.byContradiction λhnot=>by obtain⟨k,e,hk⟩:=kN hnot;obtain⟨_,j⟩:=FW e;have C:=Od hR hk j;apply hf;simp only[C];exact j
     unfold NM
     rw[if_pos hneg]
  ·rw[qY h]
   simp only
   rw[US hp I hz U J]
   cases hR:bO r with
   |false=>rw[FX hR,FX hR]
   |true=>
    have hneg:rY (lE a) r.aEN<0:=Classical.byContradiction λhnot=>by obtain⟨k,e,hk⟩:=kN hnot;obtain⟨_,j⟩:=FW e;have C:=Od hR hk j;omega
    unfold NM
    rw[if_pos hneg]
 ·simp only[kE];rw[if_pos (bL hk),aM hk,qA,bI jD];unfold tFS;rw[qF hk];simp only;unfold tFA;rw[aM hk];rfl
 ·simp only[kE];rw[if_neg jK];unfold tFS;rw[qY (qf _)];rfl
def rJ(k:M.Key)(x:M.aES):Bool:=(x.Key.aEc==k.aEc)&&((x.Key.N==k.N)&&(x.Key.aEj.toList==k.aEj.toList))
theorem yT{s:M.aC}{k:M.Key}(I:s.ok):iC s k=some (rY (rJ k) s.aEM):=by have J:=le_max I.aEM.1;unfold iC;rw[findAll (L:=kP s k) (f:=rJ k) (A:=λi=>some (i:Int)) (E:=some (-1)) I.aEM.1 (λm j C=> ?_) (λm=> ?_),B2];(simp only[kP];rw[if_pos (bL C),aM C,qA,bI jD];rfl);·simp only[kP];rw[if_neg jK]
theorem BO{s:M.aC}{k:M.Key}(j:s.ok):kJ s k=some (rY (rJ k) s.aEM):=by unfold kJ;rw[ET (f:=rJ k) j.aEM.1 (λx _=>by simp only[uG];rfl),qA]
theorem Tl{x y:M.Key}(I:Bn x=true)(J:Bn y=true)(h:¬bH x y<0)(j:((x.aEc==y.aEc)&&((x.N==y.N)&&(x.aEj.toList==y.aEj.toList)))=false):bH y x<0:=by
 unfold bH at*
 rw[if_pos ⟨I,J⟩]at h
 rw[if_pos ⟨J,I⟩]
 by_cases hk:x.aEc=y.aEc
 ·rw[if_pos hk]at h
  rw[if_pos hk.symm]
  by_cases hn:x.N=y.N
  ·rw[if_pos hn]at h
   rw[if_pos hn.symm]
   have hb:(x.aEj.toList==y.aEj.toList)=false:=by simpa[hk,hn]using j
   have U:Op.bytesLess x.aEj.toList y.aEj.toList=false:=by
    cases e:Op.bytesLess x.aEj.toList y.aEj.toList with
    |false=>rfl
    |true=>rw[e,if_pos rfl]at h;omega
   have C:=zX x.aEj.toList y.aEj.toList
   rw[U,Bool.beq_comm,hb,Bool.or_false]at C
   have h2:Op.bytesLess y.aEj.toList x.aEj.toList=true:=by
    cases e:Op.bytesLess y.aEj.toList x.aEj.toList with
    |true=>rfl
    |false=>rw[e]at C;cases C
   rw[if_pos h2]
   omega
  ·rw[if_neg hn]at h;rw[if_neg (λe=>hn e.symm)];by_cases hlt:x.N<y.N;(rw[if_pos hlt]at h;omega);·rw[if_pos jD];omega
 ·rw[if_neg hk]at h;rw[if_neg (λe=>hk e.symm)];by_cases hlt:x.aEc<y.aEc;(rw[if_pos hlt]at h;omega);·rw[if_pos jD];omega
theorem M1{l:List M.aES}(h1:∀(k:Nat) (x:M.aES),l[k]? =some x->Bn x.Key=true/\bO x.aA=true)(h2:∀(k:Nat) (x y:M.aES),l[k]? =some x->l[k+1]? =some y->bH x.Key y.Key<0):(List.range l.length).all (Ck l)=true:=by
 rw[qR]
 intro k hk
 have hk:=qS.1 hk
 unfold Ck
 obtain⟨C,I⟩:=h1 k _ (qF hk)
 cases k with
 |zero=>rw[qF hk];simp[C,I]
 |succ k=>
  have j:k<l.length:=by omega
  have b:=h2 k _ _ (qF j) (qF hk)
  rw[qF hk,Nat.add_sub_cancel,qF j]
  simp[C,I,b]
theorem Hz{l:List M.aES}(h:(List.range l.length).all (Ck l)=true):(∀(k:Nat) (x:M.aES),l[k]? =some x->Bn x.Key=true/\bO x.aA=true)/\(∀(k:Nat) (x y:M.aES),l[k]? =some x->l[k+1]? =some y->bH x.Key y.Key<0):=by rw[qR]at h;refine⟨λk x j=> ?_,λk x y j C=> ?_⟩;(have hk:k<l.length:=(qd.1 j).1;have:=h k (qS.2 hk);unfold Ck at this;rw[j]at this;simp only[qe,qM]at this;exact this.1);·have hk:k+1<l.length:=(qd.1 C).1;have:=h (k+1) (qS.2 hk);unfold Ck at this;rw[C,Nat.add_sub_cancel,j]at this;simp only[qe,qM]at this;simpa using this.2
theorem Sb{α:Type}{l:List α}{p:Nat}{x:α}(C:p<=l.length)(k:Nat):(l.take p++([x]++l.drop p))[k]? =if k<p then l[k]? else if k=p then some x else l[k-1]? :=by
 have j:(l.take p).length=p:=by rw[qU];omega
 rw[List.getElem?_append,j]
 by_cases h1:k<p
 ·rw[if_pos h1,if_pos h1,List.getElem?_take_of_lt h1]
 ·rw[if_neg h1,if_neg h1];by_cases h2:k=p;(subst h2;simp);·rw[if_neg h2];obtain⟨d,rfl⟩:∃d,k=p+1+d:=⟨k-p-1,jD⟩;rw[show p+1+d-p=d+1 by omega,List.singleton_append,List.getElem?_cons_succ,List.getElem?_drop,show p+1+d-1=p+d by omega]
def G9(k:M.Key)(x:M.aES):Bool:=decide (bH x.Key k<0)
def C2(l:List M.aES)(k:M.Key):Nat:=(l.takeWhile (G9 k)).length
theorem Md(l:List M.aES)(k:M.Key):C2 l k<=l.length:=(List.takeWhile_prefix _).length_le
def OW(s:M.aC)(k:M.Key):Int:=if((k.aEc==1)&&(decide (k.N>s.aEo)&&decide (k.N<=1000000)))=true then k.N else s.aEo
def Ty(s:M.aC)(k:M.Key)(r:M.aA):M.aC:=(⟨s.Name,s.aEM.take (C2 s.aEM k)++([(⟨k,r⟩:M.aES)]++s.aEM.drop (C2 s.aEM k)),OW s k⟩:M.aC)
def Nv(s:M.aC)(i:Nat)(r:M.aA):M.aC:=(⟨s.Name,match s.aEM[i]? with|some x=>s.aEM.set i (⟨x.Key,r⟩:M.aES)|none=>s.aEM,s.aEo⟩:M.aC)
def Eh(s:M.aC)(k:M.Key)(r:M.aA):M.aC×Bool:=if kZ s=true then if Bn k=true then if rY (rJ k) s.aEM<0 then if s.aEM.length<16 then(Ty s k r,true)else(s,false)else(Nv s (rY (rJ k) s.aEM).toNat r,true)else(s,false)else(s,false)
theorem xY{s:M.aC}(h:kZ s=true):(List.range s.aEM.length).all (Ck s.aEM)=true/\sY s.Name=true/\s.aEM.length<=16/\0<=s.aEo/\s.aEo<=1000000:=by unfold kZ inR at h;simp only[qM,qL]at h;exact⟨h.1,h.2.1,h.2.2.1,h.2.2.2.1,h.2.2.2.2⟩
theorem TW{s:M.aC}(h1:(List.range s.aEM.length).all (Ck s.aEM)=true)(h2:sY s.Name=true)(h3:s.aEM.length<=16)(h4:0<=s.aEo)(h5:s.aEo<=1000000):kZ s=true:=by unfold kZ inR;simp[h1,h2,h3,h4,h5]
theorem Pj{s:M.aC}{k:M.Key}(h:kZ s=true):0<=OW s k/\OW s k<=1000000:=by obtain⟨_,_,_,h4,h5⟩:=xY h;unfold OW;split;(rename_i hc;simp only[qM,qL]at hc;omega);·exact⟨h4,h5⟩
theorem NV{s:M.aC}{i:Nat}{r:M.aA}(h:kZ s=true)(C:i<s.aEM.length):kZ (Nv s i r)=bO r:=by
 obtain⟨h1,h2,h3,h4,h5⟩:=xY h
 obtain⟨a1,a2⟩:=Hz h1
 have e:Nv s i r=(⟨s.Name,s.aEM.set i (⟨s.aEM[i].Key,r⟩:M.aES),s.aEo⟩:M.aC):=by unfold Nv;rw[qF C]
 rw[e]
 have key:∀(k:Nat) (x:M.aES),(s.aEM.set i (⟨s.aEM[i].Key,r⟩:M.aES))[k]? =some x->∃y,s.aEM[k]? =some y/\x.Key=y.Key/\(k≠i->x=y)/\(k=i->x.aA=r):=by intro k x j;rw[List.getElem?_set]at j;by_cases hk:i=k;(subst hk;rw[if_pos rfl,if_pos C]at j;cases j;exact⟨_,qF C,rfl,λI=>absurd rfl I,λ_=>rfl⟩);·rw[if_neg hk]at j;exact⟨x,j,rfl,λ_=>rfl,λI=>absurd I.symm hk⟩
 cases hr:bO r with
 |true=>
  refine TW (M1 (λk x j=> ?_) (λk x y j U=> ?_)) h2 (by show(s.aEM.set i _).length<=16;rw[qN];exact h3) h4 h5
  ·obtain⟨y,U,e1,e2,e3⟩:=key k x j;obtain⟨b1,b2⟩:=a1 k y U;refine⟨by rw[e1];exact b1,?_⟩;by_cases hk:k=i;(rw[e3 hk];exact hr);·rw[e2 hk];exact b2
  ·obtain⟨x',J,e1,_⟩:=key k x j;obtain⟨y',hy',e2,_⟩:=key (k+1) y U;rw[e1,e2];exact a2 k x' y' J hy'
 |false=>
  cases hq:kZ (⟨s.Name,s.aEM.set i (⟨s.aEM[i].Key,r⟩:M.aES),s.aEo⟩:M.aC)with
  |false=>rfl
  |true=>
   have:=(Hz (xY hq).1).1 i _ (by show(s.aEM.set i _)[i]? =_;rw[List.getElem?_set,if_pos rfl,if_pos C])
   simp only at this
   rw[hr]at this
   cases this.2
theorem M8{s:M.aC}{k:M.Key}{r:M.aA}(h:kZ s=true)(hk:Bn k=true)(hr:bO r=true)(hf:rY (rJ k) s.aEM<0)(au:Int)(U:0<=au/\au<=1000000):
  kZ (⟨s.Name,s.aEM.take (C2 s.aEM k)++([(⟨k,r⟩:M.aES)]++s.aEM.drop (C2 s.aEM k)),au⟩:M.aC)=decide (s.aEM.length<16):=by
 obtain⟨h1,h2,h3,h4,h5⟩:=xY h
 obtain⟨a1,a2⟩:=Hz h1
 have hp:=Md s.aEM k
 have hlen:(s.aEM.take (C2 s.aEM k)++([(⟨k,r⟩:M.aES)]++s.aEM.drop (C2 s.aEM k))).length=s.aEM.length+1:=by simp only[qE,qU,qV,qJ,qK];omega
 have hall:(List.range (s.aEM.take (C2 s.aEM k)++([(⟨k,r⟩:M.aES)]++s.aEM.drop (C2 s.aEM k))).length).all (Ck (s.aEM.take (C2 s.aEM k)++([(⟨k,r⟩:M.aES)]++s.aEM.drop (C2 s.aEM k))))=true:=by
  refine M1 (λj x C=> ?_) (λj x y C I=> ?_)
  ·rw[Sb hp]at C;split at C;(exact a1 j x C);·split at C;(cases C;exact⟨hk,hr⟩);·exact a1 _ x C
  ·rw[Sb hp]at C I
   by_cases c1:j+1<C2 s.aEM k
   ·rw[if_pos jD]at C;rw[if_pos c1]at I;exact a2 j x y C I
   ·rw[if_neg c1]at I
    by_cases c2:j+1=C2 s.aEM k
    ·rw[if_pos c2]at I
     rw[if_pos jD]at C
     cases I
     have hj:j<s.aEM.length:=by omega
     have:=IU (f:=G9 k) (l:=s.aEM) j hj (by show j<C2 s.aEM k;omega)
     rw[qF hj]at C
     cases C
     unfold G9 at this
     simpa using this
    ·rw[if_neg c2]at I
     by_cases c3:j=C2 s.aEM k
     ·rw[if_neg jD,if_pos c3]at C
      cases C
      rw[Nat.add_sub_cancel]at I
      have hj:j<s.aEM.length:=(qd.1 I).1
      have hj':(s.aEM.takeWhile (G9 k)).length<s.aEM.length:=by show C2 s.aEM k<_;omega
      have J:=I4 (f:=G9 k) hj'
      have e1:s.aEM[(s.aEM.takeWhile (G9 k)).length]=y:=by
       have:s.aEM[C2 s.aEM k]? =some y:=by rw[<-c3];exact I
       exact(qd.1 this).2
      rw[e1]at J
      unfold G9 at J
      have hne:=Ll hf y (by rw[<-e1];exact qG _)
      unfold rJ at hne
      exact Tl (a1 j y I).1 hk (by simpa using J) hne
     ·rw[if_neg jD,if_neg c3]at C;rw[show j+1-1=(j-1)+1 by omega]at I;exact a2 (j-1) x y C I
 have e1:decide ((s.aEM.take (C2 s.aEM k)++([(⟨k,r⟩:M.aES)]++s.aEM.drop (C2 s.aEM k))).length<=16)=decide (s.aEM.length<16):=decide_eq_decide.2 (by rw[hlen];omega)
 unfold kZ inR
 rw[hall,h2,e1,decide_eq_true U.1,decide_eq_true U.2]
 simp
theorem Lm{s o:M.aC}(hz:M.aC.sz s<=1073741824)(j:o.ok):((bN o).bind λz=>if(!z)=true then(aW s).bind λy=>some (y,false)else some (o,true))=some (if kZ o=true then(o,true)else(s,false)):=by rw[Ai j,qA,lA s hz];cases kZ o<;>simp
theorem Xg{X:Type}(c1 c2 c3:Bool)(A:Int->X)(x y:Int):(if c1=true then if c2=true then if c3=true then A x else A y else A y else A y)=A (if(c1&&(c2&&c3))=true then x else y):=by cases c1<;>cases c2<;>cases c3<;>rfl
theorem Sm{s:M.aC}{k:M.Key}{r:M.aA}{J:Int}(p:Nat)(I:s.ok)(hl:s.aEM.length<=1073741824)(hk:k.ok)(U:r.ok)(C:inI J):M.aC.ok (⟨s.Name,s.aEM.take p++([(⟨k,r⟩:M.aES)]++s.aEM.drop p),J⟩:M.aC):=
 ⟨I.Name,⟨by show(s.aEM.take p++([(⟨k,r⟩:M.aES)]++s.aEM.drop p)).length<=maxLen;unfold maxLen;simp only[qE,qU,qV,qJ,qK];omega,λy hy=>by have j:y∈s.aEM.take p++([(⟨k,r⟩:M.aES)]++s.aEM.drop p):=hy;simp only[qP,qp,qO,or_false]at j;rcases j with h|rfl|h;(exact I.aEM.2 y (qj h));(exact⟨hk,U⟩);·exact I.aEM.2 y (qv h)⟩,C⟩
theorem Si{s:M.aC}{r:M.aA}{i:Nat}(I:i<s.aEM.length)(j:s.ok)(J:r.ok):M.aC.ok (⟨s.Name,s.aEM.set i (⟨s.aEM[i].Key,r⟩:M.aES),s.aEo⟩:M.aC):=
 ⟨j.Name,⟨by show(s.aEM.set i _).length<=maxLen;rw[qN];exact j.aEM.1,λy U=>by have C:y∈s.aEM.set i (⟨s.aEM[i].Key,r⟩:M.aES):=U;rcases jC C with h|rfl;(exact j.aEM.2 y h);·exact⟨(j.aEM.2 _ (qG I)).Key,J⟩⟩,j.aEo⟩
theorem MY{s:M.aC}{k:M.Key}(j:s.ok)(hk:k.ok):inI (OW s k):=by unfold OW;split;(exact hk.N);·exact j.aEo
def tPI(s:M.aC)(k:M.Key)(r:M.aA)(j:Nat):Option (M.aC×Bool):=(bJ r).bind λC=>(HM 56 s.aEM (j:Int) ([(⟨k,C⟩:M.aES)])).bind λ_=>if(k.aEc==1)=true then if(decide (k.N>s.aEo))=true then if(decide (k.N<=1000000))=true then(bN (⟨s.Name,List.take (j:Int).toNat s.aEM++([(⟨k,C⟩:M.aES)]++List.drop (j:Int).toNat s.aEM),k.N⟩:M.aC)).bind λz=>if(!z)=true then(aW s).bind λy=>some (y,false)else some ((⟨s.Name,List.take (j:Int).toNat s.aEM++([(⟨k,C⟩:M.aES)]++List.drop (j:Int).toNat s.aEM),k.N⟩:M.aC),true)else(bN (⟨s.Name,List.take (j:Int).toNat s.aEM++([(⟨k,C⟩:M.aES)]++List.drop (j:Int).toNat s.aEM),s.aEo⟩:M.aC)).bind λz=>if(!z)=true then(aW s).bind λy=>some (y,false)else some ((⟨s.Name,List.take (j:Int).toNat s.aEM++([(⟨k,C⟩:M.aES)]++List.drop (j:Int).toNat s.aEM),s.aEo⟩:M.aC),true)else(bN (⟨s.Name,List.take (j:Int).toNat s.aEM++([(⟨k,C⟩:M.aES)]++List.drop (j:Int).toNat s.aEM),s.aEo⟩:M.aC)).bind λz=>if(!z)=true then(aW s).bind λy=>some (y,false)else some ((⟨s.Name,List.take (j:Int).toNat s.aEM++([(⟨k,C⟩:M.aES)]++List.drop (j:Int).toNat s.aEM),s.aEo⟩:M.aC),true)else(bN (⟨s.Name,List.take (j:Int).toNat s.aEM++([(⟨k,C⟩:M.aES)]++List.drop (j:Int).toNat s.aEM),s.aEo⟩:M.aC)).bind λz=>if(!z)=true then(aW s).bind λy=>some (y,false)else some ((⟨s.Name,List.take (j:Int).toNat s.aEM++([(⟨k,C⟩:M.aES)]++List.drop (j:Int).toNat s.aEM),s.aEo⟩:M.aC),true)
def tPS(s:M.aC)(k:M.Key)(r:M.aA)(j:Nat):Option (M.aC×Bool):=(Ek s.aEM (j:Int)).bind λ_=>(app 56 ([]:List M.aES) (List.take (j:Int).toNat s.aEM)).bind λ_=>(bY r).bind λC=>(app 56 (List.take (j:Int).toNat s.aEM) ([(⟨k,C⟩:M.aES)])).bind λ_=>(app 56 ((List.take (j:Int).toNat s.aEM)++[(⟨k,C⟩:M.aES)]) (List.drop (j:Int).toNat s.aEM)).bind λ_=>if(k.aEc==1)=true then(bZ k.N (i64.wrap (s.aEo+1)) 1000000).bind λI=>if I=true then some ((⟨s.Name,((List.take (j:Int).toNat s.aEM)++[(⟨k,C⟩:M.aES)])++(List.drop (j:Int).toNat s.aEM),k.N⟩:M.aC),true)else some ((⟨s.Name,((List.take (j:Int).toNat s.aEM)++[(⟨k,C⟩:M.aES)])++(List.drop (j:Int).toNat s.aEM),s.aEo⟩:M.aC),true)else some ((⟨s.Name,((List.take (j:Int).toNat s.aEM)++[(⟨k,C⟩:M.aES)])++(List.drop (j:Int).toNat s.aEM),s.aEo⟩:M.aC),true)
theorem Cv{s:M.aC}{k:M.Key}{r:M.aA}(C:s.ok)(hk:k.ok)(hr:r.ok)(hR:bO r=true)(hz:M.aC.sz s<=1073741824)(I:M.aA.sz r<=1073741824):nN s k r=some (Eh s k r):=by
 have hl:s.aEM.length<=1073741824:=by simp only[M.aC.sz]at hz;omega
 have hp:=Md s.aEM k
 unfold nN Eh
 rw[Ai C,lZ hk,lA s hz,BO C,oC r I]
 simp only[qA]
 cases hS:kZ s with
 |false=>simp
 |true=>
  cases hK:Bn k with
  |false=>simp
  |true=>
   simp only[qB,qD,if_false,if_true]
   by_cases h:rY (rJ k) s.aEM<0
   ·rw[if_neg jE,if_pos h,IE (l:=s.aEM) (f:=G9 k) (L:=lL s k r s) (S:=tPI s k r) C.aEM.1 (λm j U=> ?_) (λm=> ?_)];(show tPI s k r (C2 s.aEM k)=_;unfold tPI;rw[oC r I,qA,JE jO,qA,qH];refine Eq.trans (Xg (k.aEc==1) (decide (k.N>s.aEo)) (decide (k.N<=1000000)) (λau=>(bN (⟨s.Name,s.aEM.take (C2 s.aEM k)++([(⟨k,r⟩:M.aES)]++s.aEM.drop (C2 s.aEM k)),au⟩:M.aC)).bind λz=>if(!z)=true then(aW s).bind λy=>some (y,false)else some ((⟨s.Name,s.aEM.take (C2 s.aEM k)++([(⟨k,r⟩:M.aES)]++s.aEM.drop (C2 s.aEM k)),au⟩:M.aC),true)) k.N s.aEo) ?_;refine(Lm (o:=Ty s k r) hz (Sm _ C hl hk hr (MY C hk))).trans ?_;unfold Ty;rw[M8 hS hK hR h _ (Pj hS)];by_cases aa:s.aEM.length<16;(simp[aa]);·simp[aa]);(have hj':=C.aEM.2 _ (qG U);simp only[lL];rw[if_pos (bL U),aM U,qA,rK hj'.Key hk,qA,bI jD];rfl);·simp only[lL];rw[if_neg jK];rfl
   ·obtain⟨i,e,J⟩:=kN h
    rw[if_pos (by simpa using h),if_neg h,e,aM J,qA,qH]
    have mS:=NV (r:=r) hS J
    have e2:Nv s i r=(⟨s.Name,s.aEM.set i (⟨s.aEM[i].Key,r⟩:M.aES),s.aEo⟩:M.aC):=by unfold Nv;rw[qF J]
    rw[e2]at mS⊢
    have ht:=Lm hz (Si J C hr)
    rw[mS,hR,if_pos rfl,lA s hz]at ht
    exact ht
theorem Co{s:M.aC}{k:M.Key}{r:M.aA}(I:s.ok)(hk:k.ok)(hr:r.ok)(hR:bO r=true)(hz:M.aC.sz s<=1073741824)(C:M.aA.sz r<=1073741824):nH s k r=some (Eh s k r):=by
 have hl:s.aEM.length<=1073741824:=by simp only[M.aC.sz]at hz;omega
 have hp:=Md s.aEM k
 unfold nH Eh
 rw[CG I,kC hk,mD hr,hR,uX s hz,yT I,zP r C]
 simp only[qA]
 cases hS:kZ s with
 |false=>simp
 |true=>
  cases hK:Bn k with
  |false=>simp
  |true=>
   simp only[qB,qD,if_false,if_true]
   by_cases h:rY (rJ k) s.aEM<0
   ·rw[if_neg jE,if_pos h]
    by_cases aa:s.aEM.length<16
    ·rw[if_neg jE,if_pos aa,IE (l:=s.aEM) (f:=G9 k) (L:=lT s k r s) (S:=tPS s k r) I.aEM.1 (λm j J=> ?_) (λm=> ?_)]
     ·show tPS s k r (C2 s.aEM k)=_
      obtain⟨_,_,_,ha4,ha5⟩:=xY hS
      have ew:i64.wrap (s.aEo+1)=s.aEo+1:=bP jD jD
      have ei:inR k.N (s.aEo+1) 1000000=(decide (k.N>s.aEo)&&decide (k.N<=1000000)):=by unfold inR;congr 1
      unfold tPS
      rw[J7 hp,qA,qH,GN (by rw[qU];omega) jD,qA,zP r C,qA,fR jP,qA,fR jM,qA,qT,fY,qA,ew,ei]
      unfold Ty OW
      cases (k.aEc==1)<;>cases (decide (k.N>s.aEo)&&decide (k.N<=1000000))<;>rfl
     ·have U:=I.aEM.2 _ (qG J);simp only[lT];rw[if_pos (bL J),aM J,qA,rR U.Key hk,qA,bI jD];rfl
     ·simp only[lT];rw[if_neg jK];rfl
    ·rw[if_pos jE,if_neg aa]
   ·obtain⟨i,e,hi⟩:=kN h;rw[if_pos (by simpa using h),if_neg h,e,aM hi,qA,qH];unfold Nv;rw[qF hi]
def rE(s:M.aC)(k:M.Key):M.aA:=if rY (rJ k) s.aEM<0 then(⟨([]:List M.Field)⟩:M.aA)else match s.aEM[(rY (rJ k) s.aEM).toNat]? with|some x=>x.aA|none=>(⟨([]:List M.Field)⟩:M.aA)
theorem Py:M.aA.ok (⟨([]:List M.Field)⟩:M.aA):=⟨⟨by simp[maxLen],jF⟩⟩
theorem M9{s:M.aC}{k:M.Key}(j:s.ok):(rE s k).ok:=by unfold rE;split;(exact Py);·split;(rename_i x C;exact(j.aEM.2 x (jB C)).aA);·exact Py
theorem MQ(s:M.aC)(k:M.Key):M.aA.sz (rE s k)<=M.aC.sz s:=by
 unfold rE
 split
 ·simp[M.aA.sz,aV]
 ·split
  ·rename_i x j
   have h1:=gL (f:=M.aES.sz) (jB j)
   have h2:M.aA.sz x.aA<=M.aES.sz x:=by simp only[M.aES.sz];omega
   simp only[M.aC.sz]
   omega
  ·simp[M.aA.sz,aV]
theorem Ta{r:M.aA}{a:ByteArray}{n:Int}(C:r.ok)(J:r.aEN.length<=1073741824)(I:a.size<=maxLen)(j:inI n):M.aA.ok (⟨NM r a n⟩:M.aA):=by unfold NM;by_cases h:rY (lE a) r.aEN<0;(rw[if_pos h];exact RZ _ C J I j);·rw[if_neg h];obtain⟨k,e,hk⟩:=kN h;rw[e,qH,qF hk];exact OD hk C j
theorem Rn{r:M.aA}{a:ByteArray}{n:Int}(j:r.ok)(I:r.aEN.length<=1073741824)(C:a.size<=maxLen)(J:inI n):(KG r a n).1.ok:=by unfold KG JZ;split;(split;(exact Ta j I C J);·exact j);·exact j
theorem Sg{r:M.aA}{a:ByteArray}{n:Int}(h:(KG r a n).2=true):bO (KG r a n).1=true:=by unfold KG JZ at h⊢;by_cases h1:bO r=true;(rw[if_pos h1]at h⊢;by_cases h2:bO (⟨NM r a n⟩:M.aA)=true;(rw[if_pos h2];exact h2);·rw[if_neg h2]at h;cases h);·rw[if_neg h1]at h;cases h
theorem ND{r:M.aA}(h:bO r=true):M.aA.sz r<=100:=by obtain⟨h1,h2⟩:=rL h;have:=xX (w:=M.Field.sz) (b:=8) (xs:=r.aEN) (λx j=>by have:=(h2 x j).1;simp only[M.Field.sz];omega);simp only[M.aA.sz];omega
theorem JD{s:M.aC}(h:kZ s=true):M.aC.sz s<=10000:=by
 obtain⟨h1,h2,h3,_,_⟩:=xY h
 obtain⟨j,_⟩:=Hz h1
 have hn:s.Name.size<=8:=by unfold sY inR at h2;simp only[qM,qL]at h2;omega
 have:=xX (w:=M.aES.sz) (b:=112) (xs:=s.aEM) (λx J=>by obtain⟨k,hk,rfl⟩:=List.mem_iff_getElem.1 J;obtain⟨C,I⟩:=j k _ (qF hk);have U:=Eb C;have c2:=ND I;simp only[M.aES.sz,M.Key.sz];omega)
 simp only[M.aC.sz]
 omega
theorem P7{s:M.aC}{k:M.Key}{r:M.aA}(j:bO r=true)(h:(Eh s k r).2=true):kZ (Eh s k r).1=true:=by unfold Eh at h⊢;by_cases hS:kZ s=true;(rw[if_pos hS]at h⊢;by_cases hK:Bn k=true;(rw[if_pos hK]at h⊢;by_cases hf:rY (rJ k) s.aEM<0;(rw[if_pos hf]at h⊢;by_cases aa:s.aEM.length<16;(rw[if_pos aa];have:=M8 hS hK j hf _ (Pj (k:=k) hS);simp only[aa,decide_true]at this;exact this);·rw[if_neg aa]at h;cases h);·rw[if_neg hf];obtain⟨i,e,C⟩:=kN hf;simp only[e,qH];rw[NV hS C];exact j);·rw[if_neg hK]at h;cases h);·rw[if_neg hS]at h;cases h
theorem TG{s:M.aC}{k:M.Key}{r:M.aA}(j:s.ok)(J:s.aEM.length<=1073741824)(hk:k.ok)(I:r.ok):(Eh s k r).1.ok:=by unfold Eh;by_cases hS:kZ s=true;(rw[if_pos hS];by_cases hK:Bn k=true;(rw[if_pos hK];by_cases hf:rY (rJ k) s.aEM<0;(rw[if_pos hf];split;(exact Sm _ j J hk I (MY j hk));·exact j);·rw[if_neg hf];obtain⟨i,e,C⟩:=kN hf;simp only[e,qH];unfold Nv;rw[qF C];exact Si C j I);·rw[if_neg hK];exact j);·rw[if_neg hS];exact j
theorem QL{s:M.aC}{k:M.Key}{r:M.aA}(h:(Eh s k r).2=false):(Eh s k r).1=s:=by unfold Eh at h⊢;by_cases hS:kZ s=true;(rw[if_pos hS]at h⊢;by_cases hK:Bn k=true;(rw[if_pos hK]at h⊢;by_cases hf:rY (rJ k) s.aEM<0;(rw[if_pos hf]at h⊢;by_cases aa:s.aEM.length<16;(rw[if_pos aa]at h;cases h);·rw[if_neg aa]);·rw[if_neg hf]at h;cases h);·rw[if_neg hK]);·rw[if_neg hS]
