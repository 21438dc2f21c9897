/-
  Helper text. No conditions.
-/
import Derived.Test.YtjlnkcoeghonfaaGreatRunPageShD
set_option linter.all false
namespace Go.Sh
theorem le_max{n:Nat}(h:n<=maxLen):n<=9223372036854775807:=by unfold maxLen at h;omega
def inI(n:Int):Prop:= -9223372036854775808<=n/\n<=9223372036854775807
theorem wf_i64{n:Int}(h:(Lit.int .i64 n).wf=true):inI n:=by
 have h1:IntKind.i64.min= -9223372036854775808:=by decide
 have h2:IntKind.i64.max=9223372036854775807:=by decide
 simp only[Lit.wf,qM,qL,h1,h2]at h
 exact h
theorem wf_u8{n:Int}(h:(Lit.int .u8 n).wf=true):0<=n/\n<=255:=by
 have h1:IntKind.u8.min=0:=by decide
 have h2:IntKind.u8.max=255:=by decide
 simp only[Lit.wf,qM,qL,h1,h2]at h
 exact h
theorem bG{n:Nat}(h:n<9223372036854775807):IntKind.i64.wrap ((n:Int)+1)=((n+1:Nat):Int):=by rw[bI jD jD];rfl
theorem aH{α:Type}{xs:List α}{k:Nat}(h:k<xs.length):idx xs (k:Int)=some xs[k]:=by unfold idx;rw[if_pos jD];simp[h]
theorem bE{k n:Nat}(h:k<n):decide ((k:Int)<(n:Int))=true:=by simp;omega
theorem ZW(n:Nat):decide ((n:Int)<(n:Int))=false:=by simp
theorem bH{α:Type}{sh:List Shp}{en:α->List D}{ok:α->Prop}(h:∀d,sP sh d->∃x,d=en x/\ok x):∀{xs:List (List D)},(∀d∈xs,sP sh d)->∃l:List α,xs=l.map en/\∀x∈l,ok x
 |[],_=>⟨[],rfl,jF⟩
 |d::xs,j=>by
  obtain⟨x,rfl,h1⟩:=h d (j d jF)
  obtain⟨l,rfl,h2⟩:=bH (xs:=xs) h λd C=>j d (List.mem_cons_of_mem _ C)
  exact⟨x::l,rfl,by simp[h1];exact h2⟩
theorem Zu(d:List D)(h:sP [.int .i64] d):∃x,d=enI x/\inI x:=by simp only[sP,Has]at h;obtain⟨_,_,rfl,⟨n,rfl,j⟩,rfl⟩:=h;exact⟨n,rfl,wf_i64 j⟩
theorem Yj(d:List D)(h:sP [.int .u8] d):∃x,d=enB x/\(0<=x/\x<=255):=by simp only[sP,Has]at h;obtain⟨_,_,rfl,⟨n,rfl,j⟩,rfl⟩:=h;exact⟨n,rfl,wf_u8 j⟩
theorem aCo(d:List D)(h:sP [.str] d):∃x,d=enS x/\x.size<=maxLen:=by simp only[sP,Has]at h;obtain⟨_,_,rfl,⟨n,rfl,j⟩,rfl⟩:=h;exact⟨n,rfl,j⟩
def okB(l:List Int):Prop:=l.length<=maxLen/\∀x∈l,0<=x/\x<=255
def okI(l:List Int):Prop:=l.length<=maxLen/\∀x∈l,inI x
def okS(l:List ByteArray):Prop:=l.length<=maxLen/\∀x∈l,x.size<=maxLen
def Lf(n:Nat)(left:Int):Int:=if(n:Int)<=left then left-n else -1
theorem W7{n:Nat}{l:Int}(h:(n:Int)<=l):Lf n l=l-n:=by unfold Lf;rw[if_pos h]
theorem Xu{n:Nat}{l:Int}(h:¬(n:Int)<=l):Lf n l= -1:=by unfold Lf;rw[if_neg h]
def Sz(F:Int->Option Int)(a:Nat):Prop:=∀l,0<=l->l<=1048576->F l=some (Lf a l)
theorem Rx(a b:Nat)(l:Int)(j:0<=l):(if(a:Int)<=l then some (Lf b (l-a))else some (-1))=some (Lf (a+b) l):=by unfold Lf;by_cases h:(a:Int)<=l;(rw[if_pos h];by_cases h2:(b:Int)<=l-a;(rw[if_pos h2,if_pos jD];congr 1;omega);·rw[if_neg h2,if_neg jD]);·rw[if_neg h,if_neg jD]
theorem Sz.Gm{G:Int->Option Int}{n b:Nat}(I:n<=maxLen)(C:Sz G b):Sz (λl=>if(decide ((IntKind.i64.wrap (l-(n:Int)))<0))=true then some (-1)else G (IntKind.i64.wrap (l-(n:Int)))) (n+b):=by intro l j h1;have:=le_max I;simp only;rw[bI jD jD,<-Rx n b l j];by_cases h:(n:Int)<=l;(rw[if_neg jE,if_pos h,C _ jD jD]);·rw[if_pos jE,if_neg h]
theorem Sz.done:Sz (λl=>some l) 0:=by intro l j h1;unfold Lf;rw[if_pos jD];simp
theorem Sz.str{n:Nat}(j:n<=maxLen):Sz (λl=>if(decide ((IntKind.i64.wrap (l-(n:Int)))<0))=true then some (-1)else some (IntKind.i64.wrap (l-(n:Int)))) n:=Sz.Gm (b:=0) j Sz.done
theorem Sz.zG{F G:Int->Option Int}{a b:Nat}(C:Sz F a)(I:Sz G b):Sz (λl=>(F l).bind λx=>if(decide (x<0))=true then some (-1)else G x) (a+b):=by
 intro l j h1
 simp only
 rw[C l j h1,qA,<-Rx a b l j]
 by_cases h:(a:Int)<=l
 ·have e:Lf a l=l-a:=by unfold Lf;rw[if_pos h]
  rw[e,if_neg jE,if_pos h,I _ jD jD]
 ·have e:Lf a l= -1:=by unfold Lf;rw[if_neg h]
  rw[e,if_pos jF,if_neg h]
theorem Sz.call{F:Int->Option Int}{a:Nat}(j:Sz F a):Sz (λl=>(F l).bind λx=>if(decide (x<0))=true then some (-1)else some x) a:=Sz.zG (b:=0) j Sz.done
def bA{α:Type}(f:α->Nat):List α->Nat
 |[]=>0
 |x::j=>f x+bA f j
theorem Y2{α:Type}{xs:List α}{f:α->Nat}{L:Nat->Int->Int->Option Int}{S:α->Int->Option Int}(J:xs.length<=maxLen)(I:∀x∈xs,Sz (S x) (f x))
  (C:∀n l (v:Int),L (n+1) l v=if(decide (v<(xs.length:Int)))=true then(idx xs v).bind λx=>(S x l).bind λy=>if(decide (y<0))=true then some (-1)else L n y (IntKind.i64.wrap (v+1))else some l):
  ∀(n k:Nat),xs.length-k<n->k<=xs.length->Sz (λl=>L n l (k:Int)) (bA f (xs.drop k))
 |0,k,U,_=>by omega
 |n+1,k,U,hk=>by
  have hm:=le_max J
  intro l j h1
  simp only
  rw[C]
  rcases Nat.lt_or_ge k xs.length with h|h
  ·rw[if_pos (bE h),aH h,qA,bG jD,qW h];exact Sz.zG (I _ (qG h)) (Y2 J I C n (k+1) jD h) l j h1
  ·have:k=xs.length:=by omega
   subst this
   rw[if_neg jK,qZ]
   exact Sz.done l j h1
theorem Sz.aCK{α:Type}{xs:List α}{f:α->Nat}{L:Nat->Int->Int->Option Int}{S:α->Int->Option Int}(j:xs.length<=maxLen)(I:∀x∈xs,Sz (S x) (f x))
  (C:∀n l (v:Int),L (n+1) l v=if(decide (v<(xs.length:Int)))=true then(idx xs v).bind λx=>(S x l).bind λy=>if(decide (y<0))=true then some (-1)else L n y (IntKind.i64.wrap (v+1))else some l):
  Sz (λl=>if(decide ((IntKind.i64.wrap (l-(List.length xs:Int)))<0))=true then some (-1)else L fuel (IntKind.i64.wrap (l-(List.length xs:Int))) 0) (xs.length+bA f xs):=by
 have J:=le_max j
 have:=Y2 j I C fuel 0 jI jD
 rw[List.drop_zero]at this
 exact Sz.Gm j this
theorem Ro{α:Type}{xs:List α}{L:Nat->Int->List α->Option (List α)}(J:xs.length<=maxLen)
  (h1:∀n (k:Nat) (r:List α) (hk:k<xs.length) (j:r.length=xs.length),L (n+1) (k:Int) r=L n ((k+1:Nat):Int) (r.set k xs[k]))(h2:∀n r,L (n+1) (xs.length:Int) r=some r):
  ∀(n k:Nat) (r:List α),xs.length-k<n->k<=xs.length->r.length=xs.length->r.take k=xs.take k->L n (k:Int) r=some xs
 |0,k,r,I,_,_,_=>by omega
 |n+1,k,r,I,hk,j,C=>by
  rcases Nat.lt_or_ge k xs.length with h|h
  ·rw[h1 n k r h j];refine Ro J h1 h2 n (k+1) _ jD h (by simpa using j) ?_;rw[List.take_succ_eq_append_getElem (by simp[j];omega),List.take_succ_eq_append_getElem h,List.take_set_of_le jD,C];simp
  ·have:k=xs.length:=by omega
   subst this
   rw[h2]
   rw[List.take_length,<-j,List.take_length]at C
   rw[C]
theorem QR{j:Nat}{L:Nat->Int->Option Bool}(I:j<=maxLen)(h1:∀n (k:Nat) (hk:k<j),L (n+1) (k:Int)=L n ((k+1:Nat):Int))(h2:∀n,L (n+1) (j:Int)=some true):
  ∀(n k:Nat),j-k<n->k<=j->L n (k:Int)=some true
 |0,k,C,_=>by omega
 |n+1,k,C,hk=>by
  rcases Nat.lt_or_ge k j with h|h
  ·rw[h1 n k h];exact QR I h1 h2 n (k+1) jD h
  ·have:k=j:=by omega
   subst this
   exact h2 n
theorem dW{α:Type}{f:α->Nat}:∀{xs:List α} {x:α},x∈xs->f x<=bA f xs
 |y::xs,x,h=>by rcases qp.1 h with rfl|h;(simp only[bA];omega);·have:=dW (f:=f) h;simp only[bA];omega
theorem TR{α:Type}{b n:Nat}{z:α}(h:n*b<=140737488355328)(h2:n<=1048576):mkL b (n:Int) z=some (List.replicate (n:Int).toNat z):=by unfold mkL;rw[if_pos ⟨jD,by simpa using h,jD⟩]
theorem RN{xs:List ByteArray}{L:Nat->Int->Int->Option Int}(j:okS xs)
  (I:∀n l (v:Int),L (n+1) l v=if(decide (v<(xs.length:Int)))=true then(idx xs v).bind λx=>if(decide ((IntKind.i64.wrap (l-(x.size:Int)))<0))=true then some (-1)else L n (IntKind.i64.wrap (l-(x.size:Int))) (IntKind.i64.wrap (v+1))else some l):
  ∀(n k:Nat),xs.length-k<n->k<=xs.length->Sz (λl=>L n l (k:Int)) (bA ByteArray.size (xs.drop k))
 |0,k,J,_=>by omega
 |n+1,k,J,hk=>by
  have U:=le_max j.1
  intro l C h1
  simp only
  rw[I]
  rcases Nat.lt_or_ge k xs.length with h|h
  ·rw[if_pos (bE h),aH h,qA,bG jD,qW h];exact Sz.Gm (j.2 _ (qG h)) (RN j I n (k+1) jD h) l C h1
  ·have:k=xs.length:=by omega
   subst this
   rw[if_neg jK,qZ]
   exact Sz.done l C h1
theorem Sz.strs{xs:List ByteArray}{L:Nat->Int->Int->Option Int}(j:okS xs)
  (C:∀n l (v:Int),L (n+1) l v=if(decide (v<(xs.length:Int)))=true then(idx xs v).bind λx=>if(decide ((IntKind.i64.wrap (l-(x.size:Int)))<0))=true then some (-1)else L n (IntKind.i64.wrap (l-(x.size:Int))) (IntKind.i64.wrap (v+1))else some l):
  Sz (λl=>if(decide ((IntKind.i64.wrap (l-(List.length xs:Int)))<0))=true then some (-1)else L fuel (IntKind.i64.wrap (l-(List.length xs:Int))) 0) (xs.length+bA ByteArray.size xs):=by
 have I:=le_max j.1
 have:=RN j C fuel 0 jI jD
 rw[List.drop_zero]at this
 exact Sz.Gm j.1 this
def eqL{α:Type}(f:α->α->Bool):List α->List α->Bool
 |[],[]=>true
 |x::j,y::C=>f x y&&eqL f j C
 |_,_=>false
theorem Vf{α:Type}{f:α->α->Bool}:∀{xs ys:List α},eqL f xs ys=true->xs.length=ys.length
 |[],[],_=>rfl
 |x::xs,y::ys,h=>by simp only[eqL,qM]at h;simp[Vf h.2]
 |[],_::_,h=>by simp[eqL]at h
 |_::_,[],h=>by simp[eqL]at h
theorem bY(b x:Bool):(if b=true then some x else some false)=some (b&&x):=by cases b<;>rfl
theorem C8{α:Type}(b:Bool)(x y:α):(if(!b)=true then x else y)=if b=true then y else x:=by cases b<;>rfl
theorem GD{α β:Type}[BEq β](a b:β)(x y:α):(if(a !=b)=true then x else y)=if(a==b)=true then y else x:=by unfold bne;cases (a==b)<;>rfl
theorem X0{α:Type}(a b:Bool)(x y:α):(if a=true then if b=true then x else y else y)=if(a&&b)=true then x else y:=by cases a<;>cases b<;>rfl
theorem Vu{α:Type}{xs ys:List α}{f:α->α->Bool}{E:Option Bool}{L:Nat->Int->Option Bool}(j:xs.length=ys.length)
  (h1:∀n (k:Nat) (hk:k<xs.length) (C:k<ys.length),L (n+1) (k:Int)=if f xs[k] ys[k]=true then L n ((k+1:Nat):Int)else some false)(h2:∀n,L (n+1) (xs.length:Int)=E):
  ∀(n k:Nat),xs.length-k<n->k<=xs.length->L n (k:Int)=if eqL f (xs.drop k) (ys.drop k)=true then E else some false
 |0,k,I,_=>by omega
 |n+1,k,I,hk=>by
  rcases Nat.lt_or_ge k xs.length with h|h
  ·rw[h1 n k h jD,Vu j h1 h2 n (k+1) jD h,qW h,qW (by omega:k<ys.length)];have e:eqL f (xs[k]::xs.drop (k+1)) (ys[k]::ys.drop (k+1))=(f xs[k] ys[k]&&eqL f (xs.drop (k+1)) (ys.drop (k+1))):=rfl;rw[e];exact X0 _ _ _ _
  ·have:k=xs.length:=by omega
   subst this
   rw[h2,qZ,j,qZ]
   simp[eqL]
theorem aBh{α:Type}{xs ys:List α}{f:α->α->Bool}{E:Option Bool}{L:Nat->Int->Option Bool}(C:xs.length<=maxLen)
  (h1:∀n (k:Nat) (hk:k<xs.length) (j:k<ys.length),L (n+1) (k:Int)=if f xs[k] ys[k]=true then L n ((k+1:Nat):Int)else some false)(h2:∀n,L (n+1) (xs.length:Int)=E):
  (if((List.length xs:Int) !=(List.length ys:Int))=true then some false else L fuel 0)=if eqL f xs ys=true then E else some false:=by
 have I:=le_max C
 by_cases h:xs.length=ys.length
 ·rw[if_neg (by simp[h])];have:=Vu h h1 h2 fuel 0 jI jD;simpa using this
 ·rw[if_pos jE]
  have:eqL f xs ys≠true:=λe=>h (Vf e)
  rw[if_neg this]
theorem ofNat_eq{x y:Int}(h1:0<=x/\x<=255)(h2:0<=y/\y<=255):(UInt8.ofNat x.toNat==UInt8.ofNat y.toNat)=(x==y):=by
 by_cases e:x=y
 ·subst e;simp
 ·have:¬UInt8.ofNat x.toNat=UInt8.ofNat y.toNat:=by
   intro h
   have:=congrArg UInt8.toNat h
   rw[UInt8.toNat_ofNat',UInt8.toNat_ofNat']at this
   omega
  rw[beq_eq_false_iff_ne.2 this,beq_eq_false_iff_ne.2 e]
theorem map_eq:∀{a b:List Int},(∀x∈a,0<=x/\x<=255)->(∀x∈b,0<=x/\x<=255)->((a.map λn=>UInt8.ofNat n.toNat)==(b.map λn=>UInt8.ofNat n.toNat))=eqL (λx y=>x==y) a b
 |[],[],_,_=>rfl
 |[],_::_,_,_=>rfl
 |_::_,[],_,_=>rfl
 |x::a,y::b,j,hb=>by have:=map_eq (a:=a) (b:=b) (λz hz=>j z (by simp[hz])) (λz hz=>hb z (by simp[hz]));have e:eqL (λx y=>x==y) (x::a) (y::b)=((x==y)&&eqL (λx y=>x==y) a b):=rfl;rw[e,<-this,<-ofNat_eq (j x jF) (hb y jF)];rfl
theorem RW{a b:List Int}(j:∀x∈a,0<=x/\x<=255)(hb:∀x∈b,0<=x/\x<=255):((bF a).toList==(bF b).toList)=eqL (λx y=>x==y) a b:=by rw[ByteArray.toList_eq,ByteArray.toList_eq];exact map_eq j hb
theorem Dc{a:List Int}(j:∀x∈a,0<=x/\x<=255):toStr a=some (bF a):=by unfold toStr;rw[if_pos];rw[qR];intro x C;have:=j x C;simp;omega
theorem TE{α R:Type}{xs:List α}{f:α->Bool}{A:Nat->Option R}{E:Option R}{L:Nat->Int->Option R}
  (h1:∀n (k:Nat) (hk:k<xs.length),L (n+1) (k:Int)=if f xs[k]=true then A k else L n ((k+1:Nat):Int))(h2:∀n,L (n+1) (xs.length:Int)=E):
  ∀(n k:Nat),xs.length-k<n->k<=xs.length->L n (k:Int)=match(xs.drop k).findIdx? f with|some i=>A (k+i)|none=>E
 |0,k,j,_=>by omega
 |n+1,k,j,hk=>by
  rcases Nat.lt_or_ge k xs.length with h|h
  ·rw[h1 n k h,qW h,List.findIdx?_cons]
   cases hf:f xs[k]with
   |true=>simp
   |false=>
    rw[if_neg jF,if_neg jF,TE h1 h2 n (k+1) jD h]
    cases (xs.drop (k+1)).findIdx? f with
    |none=>rfl
    |some i=>simp only[Option.map_some];congr 1;omega
  ·have:k=xs.length:=by omega
   subst this
   rw[h2,qZ]
   simp
theorem findAll{α R:Type}{xs:List α}{f:α->Bool}{A:Nat->Option R}{E:Option R}{L:Nat->Int->Option R}(j:xs.length<=maxLen)
  (h1:∀n (k:Nat) (hk:k<xs.length),L (n+1) (k:Int)=if f xs[k]=true then A k else L n ((k+1:Nat):Int))(h2:∀n,L (n+1) (xs.length:Int)=E):
  L fuel 0=match xs.findIdx? f with|some i=>A i|none=>E:=by
 have C:=le_max j
 have:=TE h1 h2 fuel 0 jI jD
 simpa using this
def mF{α:Type}(f:α->Bool)(xs:List α):Int:=match xs.findIdx? f with|some i=>(i:Int)|none=> -1
theorem pG{α:Type}(f:α->Bool)(xs:List α):(match xs.findIdx? f with|some i=>some (i:Int)|none=>some (-1))=some (mF f xs):=by unfold mF;cases xs.findIdx? f<;>rfl
theorem Ks{α:Type}(f:α->Bool)(xs:List α):decide (mF f xs>=0)=xs.any f:=by
 unfold mF
 cases h:xs.findIdx? f with
 |none=>
  have:=List.findIdx?_eq_none_iff.1 h
  have e:xs.any f=false:=by rw[List.any_eq_false];intro x j;simp[this x j]
  rw[e];simp
 |some i=>
  have h2:=List.findIdx?_isSome (xs:=xs) (p:=f)
  rw[h]at h2
  rw[<-h2]
  simp
theorem X8{α R:Type}(f:α->Bool)(xs:List α)(a e:R):(match xs.findIdx? f with|some _=>a|none=>e)=if xs.any f=true then a else e:=by have h2:=List.findIdx?_isSome (xs:=xs) (p:=f);rw[<-h2];cases xs.findIdx? f<;>simp
