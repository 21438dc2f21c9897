/-
  Helper text. No conditions.
-/
import Derived.Test.YtjlnkcoeghonfaaGreatRunningPagesShD
set_option linter.all false
namespace Go.Sh
theorem aY{n:Nat}(h:n<=maxLen):n<=9223372036854775807:=by unfold maxLen at h;omega
def inI(n:Int):Prop:= -9223372036854775808<=n/\n<=9223372036854775807
theorem wf_u8{n:Int}(h:(Lit.int .u8 n).wf=true):0<=n/\n<=255:=by
 have h1:IntKind.u8.min=0:=by decide
 have h2:IntKind.u8.max=255:=by decide
 simp only[Lit.wf,qM,qL,h1,h2]at h
 exact h
theorem bL{n:Nat}(h:n<9223372036854775807):IntKind.i64.wrap ((n:Int)+1)=((n+1:Nat):Int):=by rw[bQ wi wi];rfl
theorem aM{α:Type}{xs:List α}{k:Nat}(h:k<xs.length):idx xs (k:Int)=some xs[k]:=by unfold idx;rw[jE wi];simp[h]
theorem bE{k n:Nat}(h:k<n):decide ((k:Int)<(n:Int))=true:=by simp;omega
theorem aCr(n:Nat):decide ((n:Int)<(n:Int))=false:=by simp
theorem Oq{α:Type}{sh:List Shp}{en:α->List D}{ok:α->Prop}(h:∀d,K5 sh d->∃x,d=en x/\ok x):∀{xs:List (List D)},(∀d∈xs,K5 sh d)->∃l:List α,xs=l.map en/\∀x∈l,ok x
 |[],_=>⟨[],rfl,we⟩
 |d::xs,j=>by
  obtain⟨x,rfl,h1⟩:=h d (j d we)
  obtain⟨l,rfl,h2⟩:=Oq (xs:=xs) h λd C=>j d (List.mem_cons_of_mem _ C)
  exact⟨x::l,rfl,by simp[h1];exact h2⟩
theorem aFb(d:List D)(h:K5 [.int .u8] d):∃x,d=enB x/\(0<=x/\x<=255):=by simp only[K5,Has]at h;obtain⟨_,_,rfl,⟨n,rfl,j⟩,rfl⟩:=h;exact⟨n,rfl,wf_u8 j⟩
def okB(l:List Int):Prop:=l.length<=maxLen/\∀x∈l,0<=x/\x<=255
def okI(l:List Int):Prop:=l.length<=maxLen/\∀x∈l,inI x
def okS(l:List ByteArray):Prop:=l.length<=maxLen/\∀x∈l,x.size<=maxLen
def Q1(n:Nat)(left:Int):Int:=if(n:Int)<=left then left-n else -1
def Sz(F:Int->Option Int)(a:Nat):Prop:=∀l,0<=l->l<=1048576->F l=some (Q1 a l)
theorem Ts(a b:Nat)(l:Int)(j:0<=l):(if(a:Int)<=l then some (Q1 b (l-a))else some (-1))=some (Q1 (a+b) l):=by unfold Q1;by_cases h:(a:Int)<=l;(rw[jE h];by_cases h2:(b:Int)<=l-a;(rw[jE h2,jE wi];congr 1;omega);·rw[jF h2,jF wi]);·rw[jF h,jF wi]
theorem Sz.aDY{G:Int->Option Int}{n b:Nat}(I:n<=maxLen)(C:Sz G b):Sz (λl=>if(decide ((IntKind.i64.wrap (l-(n:Int)))<0))=true then some (-1)else G (IntKind.i64.wrap (l-(n:Int)))) (n+b):=by intro l j h1;have:=aY I;simp only;rw[bQ wi wi,<-Ts n b l j];by_cases h:(n:Int)<=l;(rw[jF wX,jE h,C _ wi wi]);·rw[jE wX,jF h]
theorem Sz.done:Sz (λl=>some l) 0:=by intro l j h1;unfold Q1;rw[jE wi];simp
theorem Sz.str{n:Nat}(j:n<=maxLen):Sz (λl=>if(decide ((IntKind.i64.wrap (l-(n:Int)))<0))=true then some (-1)else some (IntKind.i64.wrap (l-(n:Int)))) n:=Sz.aDY (b:=0) j Sz.done
theorem Sz.aCu{F G:Int->Option Int}{a b:Nat}(C:Sz F a)(I:Sz G b):Sz (λl=>(F l).bind λx=>if(decide (x<0))=true then some (-1)else G x) (a+b):=by
 intro l j h1
 simp only
 rw[C l j h1,qA,<-Ts a b l j]
 by_cases h:(a:Int)<=l
 ·have e:Q1 a l=l-a:=by unfold Q1;rw[jE h]
  rw[e,jF wX,jE h,I _ wi wi]
 ·have e:Q1 a l= -1:=by unfold Q1;rw[jF h]
  rw[e,jE we,jF h]
theorem Sz.call{F:Int->Option Int}{a:Nat}(j:Sz F a):Sz (λl=>(F l).bind λx=>if(decide (x<0))=true then some (-1)else some x) a:=Sz.aCu (b:=0) j Sz.done
def dV{α:Type}(f:α->Nat):List α->Nat
 |[]=>0
 |x::j=>f x+dV f j
theorem eA{α:Type}{f:α->Nat}:∀{xs:List α} {x:α},x∈xs->f x<=dV f xs
 |y::xs,x,h=>by rcases qq.1 h with rfl|h;(simp only[dV];omega);·have:=eA (f:=f) h;simp only[dV];omega
def eqL{α:Type}(f:α->α->Bool):List α->List α->Bool
 |[],[]=>true
 |x::j,y::C=>f x y&&eqL f j C
 |_,_=>false
theorem TW{α:Type}{f:α->α->Bool}:∀{xs ys:List α},eqL f xs ys=true->xs.length=ys.length
 |[],[],_=>rfl
 |x::xs,y::ys,h=>by simp only[eqL,qM]at h;simp[TW h.2]
 |[],_::_,h=>by simp[eqL]at h
 |_::_,[],h=>by simp[eqL]at h
theorem bF(b x:Bool):(if b=true then some x else some false)=some (b&&x):=by cases b<;>rfl
theorem Cd(b x:Bool):(if(!b)=true then some false else some x)=some (b&&x):=by cases b<;>rfl
theorem tG{α:Type}[BEq α](a b:α)(x:Bool):(if(a !=b)=true then some false else some x)=some ((a==b)&&x):=by unfold bne;cases (a==b)<;>rfl
theorem eJ{α:Type}(b:Bool)(x y:α):(if(!b)=true then x else y)=if b=true then y else x:=by cases b<;>rfl
theorem xY{α β:Type}[BEq β](a b:β)(x y:α):(if(a !=b)=true then x else y)=if(a==b)=true then y else x:=by unfold bne;cases (a==b)<;>rfl
theorem Xf{α:Type}(a b:Bool)(x y:α):(if a=true then if b=true then x else y else y)=if(a&&b)=true then x else y:=by cases a<;>cases b<;>rfl
theorem XP{α:Type}{xs ys:List α}{f:α->α->Bool}{E:Option Bool}{L:Nat->Int->Option Bool}(j:xs.length=ys.length)
  (h1:∀n (k:Nat) (hk:k<xs.length) (C:k<ys.length),L (n+1) (k:Int)=if f xs[k] ys[k]=true then L n ((k+1:Nat):Int)else some false)(h2:∀n,L (n+1) (xs.length:Int)=E):
  ∀(n k:Nat),xs.length-k<n->k<=xs.length->L n (k:Int)=if eqL f (xs.drop k) (ys.drop k)=true then E else some false
 |0,k,I,_=>by omega
 |n+1,k,I,hk=>by
  rcases jR k xs.length with h|h
  ·rw[h1 n k h wi,XP j h1 h2 n (k+1) wi h,qX h,qX (by omega:k<ys.length)];have e:eqL f (xs[k]::xs.drop (k+1)) (ys[k]::ys.drop (k+1))=(f xs[k] ys[k]&&eqL f (xs.drop (k+1)) (ys.drop (k+1))):=rfl;rw[e];exact Xf _ _ _ _
  ·have:k=xs.length:=by omega
   subst this
   rw[h2,qa,j,qa]
   simp[eqL]
theorem FF{α:Type}{xs ys:List α}{f:α->α->Bool}{E:Option Bool}{L:Nat->Int->Option Bool}(C:xs.length<=maxLen)
  (h1:∀n (k:Nat) (hk:k<xs.length) (j:k<ys.length),L (n+1) (k:Int)=if f xs[k] ys[k]=true then L n ((k+1:Nat):Int)else some false)(h2:∀n,L (n+1) (xs.length:Int)=E):
  (if((List.length xs:Int) !=(List.length ys:Int))=true then some false else L aH 0)=if eqL f xs ys=true then E else some false:=by
 have I:=aY C
 by_cases h:xs.length=ys.length
 ·rw[jF wa];have:=XP h h1 h2 aH 0 wH wi;simpa using this
 ·rw[jE wX]
  have:eqL f xs ys≠true:=λe=>h (TW e)
  rw[jF this]
theorem ofNat_eq{x y:Int}(h1:0<=x/\x<=255)(h2:0<=y/\y<=255):(UInt8.ofNat x.toNat==UInt8.ofNat y.toNat)=(x==y):=by
 by_cases e:x=y
 ·subst e;simp
 ·have:¬UInt8.ofNat x.toNat=UInt8.ofNat y.toNat:=by
   intro h
   have:=congrArg UInt8.toNat h
   rw[UInt8.toNat_ofNat',UInt8.toNat_ofNat']at this
   omega
  rw[beq_eq_false_iff_ne.2 this,beq_eq_false_iff_ne.2 e]
theorem map_eq:∀{a b:List Int},(∀x∈a,0<=x/\x<=255)->(∀x∈b,0<=x/\x<=255)->((a.map λn=>UInt8.ofNat n.toNat)==(b.map λn=>UInt8.ofNat n.toNat))=eqL (λx y=>x==y) a b
 |[],[],_,_=>rfl
 |[],_::_,_,_=>rfl
 |_::_,[],_,_=>rfl
 |x::a,y::b,C,hb=>by have:=map_eq (a:=a) (b:=b) (λz j=>C z (by simp[j])) (λz j=>hb z (by simp[j]));have e:eqL (λx y=>x==y) (x::a) (y::b)=((x==y)&&eqL (λx y=>x==y) a b):=rfl;rw[e,<-this,<-ofNat_eq (C x we) (hb y we)];rfl
theorem TT{a b:List Int}(j:∀x∈a,0<=x/\x<=255)(hb:∀x∈b,0<=x/\x<=255):((bS a).toList==(bS b).toList)=eqL (λx y=>x==y) a b:=by rw[ByteArray.toList_eq,ByteArray.toList_eq];exact map_eq j hb
theorem D6{a:List Int}(j:∀x∈a,0<=x/\x<=255):toStr a=some (bS a):=by unfold toStr;rw[jE];rw[qR];intro x C;have:=j x C;simp;omega
theorem Vz{α R:Type}{xs:List α}{f:α->Bool}{A:Nat->Option R}{E:Option R}{L:Nat->Int->Option R}
  (h1:∀n (k:Nat) (hk:k<xs.length),L (n+1) (k:Int)=if f xs[k]=true then A k else L n ((k+1:Nat):Int))(h2:∀n,L (n+1) (xs.length:Int)=E):
  ∀(n k:Nat),xs.length-k<n->k<=xs.length->L n (k:Int)=match(xs.drop k).findIdx? f with|some i=>A (k+i)|none=>E
 |0,k,j,_=>by omega
 |n+1,k,j,hk=>by
  rcases jR k xs.length with h|h
  ·rw[h1 n k h,qX h,List.findIdx?_cons]
   cases hf:f xs[k]with
   |true=>simp
   |false=>
    rw[jF we,jF we,Vz h1 h2 n (k+1) wi h]
    cases (xs.drop (k+1)).findIdx? f with
    |none=>rfl
    |some i=>simp only[Option.map_some];congr 1;omega
  ·have:k=xs.length:=by omega
   subst this
   rw[h2,qa]
   simp
theorem pI{α R:Type}{xs:List α}{f:α->Bool}{A:Nat->Option R}{E:Option R}{L:Nat->Int->Option R}(j:xs.length<=maxLen)
  (h1:∀n (k:Nat) (hk:k<xs.length),L (n+1) (k:Int)=if f xs[k]=true then A k else L n ((k+1:Nat):Int))(h2:∀n,L (n+1) (xs.length:Int)=E):
  L aH 0=match xs.findIdx? f with|some i=>A i|none=>E:=by
 have C:=aY j
 have:=Vz h1 h2 aH 0 wH wi
 simpa using this
def kP{α:Type}(f:α->Bool)(xs:List α):Int:=match xs.findIdx? f with|some i=>(i:Int)|none=> -1
theorem uQ{α:Type}(f:α->Bool)(xs:List α):(match xs.findIdx? f with|some i=>some (i:Int)|none=>some (-1))=some (kP f xs):=by unfold kP;cases xs.findIdx? f<;>rfl
theorem LH{α:Type}(f:α->Bool)(xs:List α):decide (kP f xs>=0)=xs.any f:=by
 unfold kP
 cases h:xs.findIdx? f with
 |none=>
  have:=List.findIdx?_eq_none_iff.1 h
  have e:xs.any f=false:=by rw[List.any_eq_false];intro x j;simp[this x j]
  rw[e];simp
 |some i=>
  have h2:=List.findIdx?_isSome (xs:=xs) (p:=f)
  rw[h]at h2
  rw[<-h2]
  simp
theorem VC{α R:Type}(f:α->Bool)(xs:List α)(a e:R):(match xs.findIdx? f with|some _=>a|none=>e)=if xs.any f=true then a else e:=by have h2:=List.findIdx?_isSome (xs:=xs) (p:=f);rw[<-h2];cases xs.findIdx? f<;>simp
