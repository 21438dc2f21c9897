/-
  Helper text. No conditions.
-/
import Derived.Test.YtndidbigdalbnaaGreatNotesShD
set_option linter.all false
namespace Go.Sh
theorem aZ{n:Nat}(h:n<=maxLen):n<=9223372036854775807:=by unfold maxLen at h;omega
def inI(n:Int):Prop:= -9223372036854775808<=n/\n<=9223372036854775807
theorem wf_u8{n:Int}(h:(Lit.int .u8 n).wf=true):0<=n/\n<=255:=by
 have h1:IntKind.u8.min=0:=by decide
 have h2:IntKind.u8.max=255:=by decide
 simp only[Lit.wf,qM,qL,h1,h2]at h
 exact h
theorem bM{n:Nat}(h:n<9223372036854775807):IntKind.i64.wrap ((n:Int)+1)=((n+1:Nat):Int):=by rw[bO wg wg];rfl
theorem aK{α:Type}{xs:List α}{k:Nat}(h:k<xs.length):idx xs (k:Int)=some xs[k]:=by unfold idx;rw[jF wg];simp[h]
theorem bE{k n:Nat}(h:k<n):decide ((k:Int)<(n:Int))=true:=by simp;omega
theorem aC9(n:Nat):decide ((n:Int)<(n:Int))=false:=by simp
theorem Ok{α:Type}{sh:List Shp}{en:α->List D}{ok:α->Prop}(h:∀d,KR sh d->∃x,d=en x/\ok x):∀{xs:List (List D)},(∀d∈xs,KR sh d)->∃l:List α,xs=l.map en/\∀x∈l,ok x
 |[],_=>⟨[],rfl,wb⟩
 |d::xs,j=>by
  obtain⟨x,rfl,h1⟩:=h d (j d wb)
  obtain⟨l,rfl,h2⟩:=Ok (xs:=xs) h λd C=>j d (List.mem_cons_of_mem _ C)
  exact⟨x::l,rfl,by simp[h1];exact h2⟩
theorem aFn(d:List D)(h:KR [.int .u8] d):∃x,d=enB x/\(0<=x/\x<=255):=by simp only[KR,Has]at h;obtain⟨_,_,rfl,⟨n,rfl,j⟩,rfl⟩:=h;exact⟨n,rfl,wf_u8 j⟩
def okB(l:List Int):Prop:=l.length<=maxLen/\∀x∈l,0<=x/\x<=255
def okI(l:List Int):Prop:=l.length<=maxLen/\∀x∈l,inI x
def okS(l:List ByteArray):Prop:=l.length<=maxLen/\∀x∈l,x.size<=maxLen
def Q2(n:Nat)(left:Int):Int:=if(n:Int)<=left then left-n else -1
def Sz(F:Int->Option Int)(a:Nat):Prop:=∀l,0<=l->l<=1048576->F l=some (Q2 a l)
theorem Tt(a b:Nat)(l:Int)(j:0<=l):(if(a:Int)<=l then some (Q2 b (l-a))else some (-1))=some (Q2 (a+b) l):=by unfold Q2;by_cases h:(a:Int)<=l;(rw[jF h];by_cases h2:(b:Int)<=l-a;(rw[jF h2,jF wg];congr 1;omega);·rw[jG h2,jG wg]);·rw[jG h,jG wg]
theorem Sz.aDo{G:Int->Option Int}{n b:Nat}(I:n<=maxLen)(C:Sz G b):Sz (λl=>if(decide ((IntKind.i64.wrap (l-(n:Int)))<0))=true then some (-1)else G (IntKind.i64.wrap (l-(n:Int)))) (n+b):=by intro l j h1;have:=aZ I;simp only;rw[bO wg wg,<-Tt n b l j];by_cases h:(n:Int)<=l;(rw[jG wV,jF h,C _ wg wg]);·rw[jF wV,jG h]
theorem Sz.done:Sz (λl=>some l) 0:=by intro l j h1;unfold Q2;rw[jF wg];simp
theorem Sz.str{n:Nat}(j:n<=maxLen):Sz (λl=>if(decide ((IntKind.i64.wrap (l-(n:Int)))<0))=true then some (-1)else some (IntKind.i64.wrap (l-(n:Int)))) n:=Sz.aDo (b:=0) j Sz.done
theorem Sz.aDD{F G:Int->Option Int}{a b:Nat}(C:Sz F a)(I:Sz G b):Sz (λl=>(F l).bind λx=>if(decide (x<0))=true then some (-1)else G x) (a+b):=by
 intro l j h1
 simp only
 rw[C l j h1,qA,<-Tt a b l j]
 by_cases h:(a:Int)<=l
 ·have e:Q2 a l=l-a:=by unfold Q2;rw[jF h]
  rw[e,jG wV,jF h,I _ wg wg]
 ·have e:Q2 a l= -1:=by unfold Q2;rw[jG h]
  rw[e,jF wb,jG h]
theorem Sz.call{F:Int->Option Int}{a:Nat}(j:Sz F a):Sz (λl=>(F l).bind λx=>if(decide (x<0))=true then some (-1)else some x) a:=Sz.aDD (b:=0) j Sz.done
def dO{α:Type}(f:α->Nat):List α->Nat
 |[]=>0
 |x::j=>f x+dO f j
theorem dW{α:Type}{f:α->Nat}:∀{xs:List α} {x:α},x∈xs->f x<=dO f xs
 |y::xs,x,h=>by rcases qq.1 h with rfl|h;(simp only[dO];omega);·have:=dW (f:=f) h;simp only[dO];omega
def eqL{α:Type}(f:α->α->Bool):List α->List α->Bool
 |[],[]=>true
 |x::j,y::C=>f x y&&eqL f j C
 |_,_=>false
theorem XI{α:Type}{f:α->α->Bool}:∀{xs ys:List α},eqL f xs ys=true->xs.length=ys.length
 |[],[],_=>rfl
 |x::xs,y::ys,h=>by simp only[eqL,qM]at h;simp[XI h.2]
 |[],_::_,h=>by simp[eqL]at h
 |_::_,[],h=>by simp[eqL]at h
theorem bI(b x:Bool):(if b=true then some x else some false)=some (b&&x):=by cases b<;>rfl
theorem Ei(b x:Bool):(if(!b)=true then some false else some x)=some (b&&x):=by cases b<;>rfl
theorem B4{α:Type}[BEq α](a b:α)(x:Bool):(if(a !=b)=true then some false else some x)=some ((a==b)&&x):=by unfold bne;cases (a==b)<;>rfl
theorem iD{α:Type}(b:Bool)(x y:α):(if(!b)=true then x else y)=if b=true then y else x:=by cases b<;>rfl
theorem yJ{α β:Type}[BEq β](a b:β)(x y:α):(if(a !=b)=true then x else y)=if(a==b)=true then y else x:=by unfold bne;cases (a==b)<;>rfl
theorem aAo{α:Type}(a b:Bool)(x y:α):(if a=true then if b=true then x else y else y)=if(a&&b)=true then x else y:=by cases a<;>cases b<;>rfl
theorem X0{α:Type}{xs ys:List α}{f:α->α->Bool}{E:Option Bool}{L:Nat->Int->Option Bool}(j:xs.length=ys.length)
  (h1:∀n (k:Nat) (hk:k<xs.length) (C:k<ys.length),L (n+1) (k:Int)=if f xs[k] ys[k]=true then L n ((k+1:Nat):Int)else some false)(h2:∀n,L (n+1) (xs.length:Int)=E):
  ∀(n k:Nat),xs.length-k<n->k<=xs.length->L n (k:Int)=if eqL f (xs.drop k) (ys.drop k)=true then E else some false
 |0,k,I,_=>by omega
 |n+1,k,I,hk=>by
  rcases jS k xs.length with h|h
  ·rw[h1 n k h wg,X0 j h1 h2 n (k+1) wg h,qX h,qX (by omega:k<ys.length)];have e:eqL f (xs[k]::xs.drop (k+1)) (ys[k]::ys.drop (k+1))=(f xs[k] ys[k]&&eqL f (xs.drop (k+1)) (ys.drop (k+1))):=rfl;rw[e];exact aAo _ _ _ _
  ·have:k=xs.length:=by omega
   subst this
   rw[h2,qa,j,qa]
   simp[eqL]
theorem HL{α:Type}{xs ys:List α}{f:α->α->Bool}{E:Option Bool}{L:Nat->Int->Option Bool}(C:xs.length<=maxLen)
  (h1:∀n (k:Nat) (hk:k<xs.length) (j:k<ys.length),L (n+1) (k:Int)=if f xs[k] ys[k]=true then L n ((k+1:Nat):Int)else some false)(h2:∀n,L (n+1) (xs.length:Int)=E):
  (if((List.length xs:Int) !=(List.length ys:Int))=true then some false else L aJ 0)=if eqL f xs ys=true then E else some false:=by
 have I:=aZ C
 by_cases h:xs.length=ys.length
 ·rw[jG wY];have:=X0 h h1 h2 aJ 0 wG wg;simpa using this
 ·rw[jF wV]
  have:eqL f xs ys≠true:=λe=>h (XI e)
  rw[jG this]
theorem ofNat_eq{x y:Int}(h1:0<=x/\x<=255)(h2:0<=y/\y<=255):(UInt8.ofNat x.toNat==UInt8.ofNat y.toNat)=(x==y):=by
 by_cases e:x=y
 ·subst e;simp
 ·have:¬UInt8.ofNat x.toNat=UInt8.ofNat y.toNat:=by
   intro h
   have:=congrArg UInt8.toNat h
   rw[UInt8.toNat_ofNat',UInt8.toNat_ofNat']at this
   omega
  rw[beq_eq_false_iff_ne.2 this,beq_eq_false_iff_ne.2 e]
theorem map_eq:∀{a b:List Int},(∀x∈a,0<=x/\x<=255)->(∀x∈b,0<=x/\x<=255)->((a.map λn=>UInt8.ofNat n.toNat)==(b.map λn=>UInt8.ofNat n.toNat))=eqL (λx y=>x==y) a b
 |[],[],_,_=>rfl
 |[],_::_,_,_=>rfl
 |_::_,[],_,_=>rfl
 |x::a,y::b,C,hb=>by have:=map_eq (a:=a) (b:=b) (λz j=>C z (by simp[j])) (λz j=>hb z (by simp[j]));have e:eqL (λx y=>x==y) (x::a) (y::b)=((x==y)&&eqL (λx y=>x==y) a b):=rfl;rw[e,<-this,<-ofNat_eq (C x wb) (hb y wb)];rfl
theorem TZ{a b:List Int}(j:∀x∈a,0<=x/\x<=255)(hb:∀x∈b,0<=x/\x<=255):((bL a).toList==(bL b).toList)=eqL (λx y=>x==y) a b:=by rw[ByteArray.toList_eq,ByteArray.toList_eq];exact map_eq j hb
theorem Dk{a:List Int}(j:∀x∈a,0<=x/\x<=255):toStr a=some (bL a):=by unfold toStr;rw[jF];rw[qR];intro x C;have:=j x C;simp;omega
theorem VE{α R:Type}{xs:List α}{f:α->Bool}{A:Nat->Option R}{E:Option R}{L:Nat->Int->Option R}
  (h1:∀n (k:Nat) (hk:k<xs.length),L (n+1) (k:Int)=if f xs[k]=true then A k else L n ((k+1:Nat):Int))(h2:∀n,L (n+1) (xs.length:Int)=E):
  ∀(n k:Nat),xs.length-k<n->k<=xs.length->L n (k:Int)=match(xs.drop k).findIdx? f with|some i=>A (k+i)|none=>E
 |0,k,j,_=>by omega
 |n+1,k,j,hk=>by
  rcases jS k xs.length with h|h
  ·rw[h1 n k h,qX h,List.findIdx?_cons]
   cases hf:f xs[k]with
   |true=>simp
   |false=>
    rw[jG wb,jG wb,VE h1 h2 n (k+1) wg h]
    cases (xs.drop (k+1)).findIdx? f with
    |none=>rfl
    |some i=>simp only[Option.map_some];congr 1;omega
  ·have:k=xs.length:=by omega
   subst this
   rw[h2,qa]
   simp
theorem oQ{α R:Type}{xs:List α}{f:α->Bool}{A:Nat->Option R}{E:Option R}{L:Nat->Int->Option R}(j:xs.length<=maxLen)
  (h1:∀n (k:Nat) (hk:k<xs.length),L (n+1) (k:Int)=if f xs[k]=true then A k else L n ((k+1:Nat):Int))(h2:∀n,L (n+1) (xs.length:Int)=E):
  L aJ 0=match xs.findIdx? f with|some i=>A i|none=>E:=by
 have C:=aZ j
 have:=VE h1 h2 aJ 0 wG wg
 simpa using this
def gJ{α:Type}(f:α->Bool)(xs:List α):Int:=match xs.findIdx? f with|some i=>(i:Int)|none=> -1
theorem tK{α:Type}(f:α->Bool)(xs:List α):(match xs.findIdx? f with|some i=>some (i:Int)|none=>some (-1))=some (gJ f xs):=by unfold gJ;cases xs.findIdx? f<;>rfl
theorem Lu{α:Type}(f:α->Bool)(xs:List α):decide (gJ f xs>=0)=xs.any f:=by
 unfold gJ
 cases h:xs.findIdx? f with
 |none=>
  have:=List.findIdx?_eq_none_iff.1 h
  have e:xs.any f=false:=by rw[List.any_eq_false];intro x j;simp[this x j]
  rw[e];simp
 |some i=>
  have h2:=List.findIdx?_isSome (xs:=xs) (p:=f)
  rw[h]at h2
  rw[<-h2]
  simp
theorem VH{α R:Type}(f:α->Bool)(xs:List α)(a e:R):(match xs.findIdx? f with|some _=>a|none=>e)=if xs.any f=true then a else e:=by have h2:=List.findIdx?_isSome (xs:=xs) (p:=f);rw[<-h2];cases xs.findIdx? f<;>simp
