/-
  Helper text. No conditions.
-/
import Derived.Test.YtipmihbgjolaaaaGreatStorageShD
set_option linter.unusedVariables false
set_option linter.unusedSimpArgs false
namespace Go.Sh
theorem le_max{n:Nat}(h:n<=maxLen):n<=9223372036854775807:=by unfold maxLen at h;omega
def inI(n:Int):Prop:= -9223372036854775808<=n/\n<=9223372036854775807
theorem wf_u8{n:Int}(h:(Lit.int .u8 n).wf=true):0<=n/\n<=255:=by
 have C:IntKind.u8.min=0:=by decide
 have j:IntKind.u8.max=255:=by decide
 simp only[Lit.wf,qM,qL,C,j]at h
 exact h
theorem bN{n:Nat}(h:n<9223372036854775807):IntKind.i64.wrap ((n:Int)+1)=((n+1:Nat):Int):=by rw[bT qc qc];rfl
theorem aN{α:Type}{xs:List α}{k:Nat}(h:k<xs.length):idx xs (k:Int)=some xs[k]:=by unfold idx;rw[if_pos qc];simp[h]
theorem aY{k n:Nat}(h:k<n):decide ((k:Int)<(n:Int))=true:=by simp;omega
theorem SI(n:Nat):decide ((n:Int)<(n:Int))=false:=by simp
theorem Gy{α:Type}{sh:List Shp}{en:α->List D}{ok:α->Prop}(h:∀d,DE sh d->∃x,d=en x/\ok x):∀{xs:List (List D)},(∀d∈xs,DE sh d)->∃l:List α,xs=l.map en/\∀x∈l,ok x
 |[],_=>⟨[],rfl,qe⟩
 |d::xs,j=>by
  obtain⟨x,rfl,J⟩:=h d (j d qe)
  obtain⟨l,rfl,C⟩:=Gy (xs:=xs) h λd I=>j d (List.mem_cons_of_mem _ I)
  exact⟨x::l,rfl,by simp[J];exact C⟩
theorem UJ(d:List D)(h:DE [.int .u8] d):∃x,d=enB x/\(0<=x/\x<=255):=by simp only[DE,Has]at h;obtain⟨_,_,rfl,⟨n,rfl,j⟩,rfl⟩:=h;exact⟨n,rfl,wf_u8 j⟩
def okB(l:List Int):Prop:=l.length<=maxLen/\∀x∈l,0<=x/\x<=255
def okI(l:List Int):Prop:=l.length<=maxLen/\∀x∈l,inI x
def II(n:Nat)(left:Int):Int:=if(n:Int)<=left then left-n else -1
def Sz(F:Int->Option Int)(a:Nat):Prop:=∀l,0<=l->l<=1048576->F l=some (II a l)
theorem Kn(a b:Nat)(l:Int)(j:0<=l):(if(a:Int)<=l then some (II b (l-a))else some (-1))=some (II (a+b) l):=by unfold II;by_cases h:(a:Int)<=l;(rw[if_pos h];by_cases h2:(b:Int)<=l-a;(rw[if_pos h2,if_pos qc];congr 1;omega);·rw[if_neg h2,if_neg qc]);·rw[if_neg h,if_neg qc]
theorem Sz.Tf{G:Int->Option Int}{n b:Nat}(C:n<=maxLen)(I:Sz G b):Sz (λl=>if(decide ((IntKind.i64.wrap (l-(n:Int)))<0))=true then some (-1)else G (IntKind.i64.wrap (l-(n:Int)))) (n+b):=by intro l j J;have:=le_max C;simp only;rw[bT qc qc,<-Kn n b l j];by_cases h:(n:Int)<=l;(rw[if_neg qd,if_pos h,I _ qc qc]);·rw[if_pos qd,if_neg h]
theorem Sz.done:Sz (λl=>some l) 0:=by intro l j C;unfold II;rw[if_pos qc];simp
theorem Sz.str{n:Nat}(j:n<=maxLen):Sz (λl=>if(decide ((IntKind.i64.wrap (l-(n:Int)))<0))=true then some (-1)else some (IntKind.i64.wrap (l-(n:Int)))) n:=Sz.Tf (b:=0) j Sz.done
theorem Sz.SM{F G:Int->Option Int}{a b:Nat}(C:Sz F a)(J:Sz G b):Sz (λl=>(F l).bind λx=>if(decide (x<0))=true then some (-1)else G x) (a+b):=by
 intro l j I
 simp only
 rw[C l j I,qA,<-Kn a b l j]
 by_cases h:(a:Int)<=l
 ·have e:II a l=l-a:=by unfold II;rw[if_pos h]
  rw[e,if_neg qd,if_pos h,J _ qc qc]
 ·have e:II a l= -1:=by unfold II;rw[if_neg h]
  rw[e,if_pos qe,if_neg h]
theorem Sz.call{F:Int->Option Int}{a:Nat}(j:Sz F a):Sz (λl=>(F l).bind λx=>if(decide (x<0))=true then some (-1)else some x) a:=Sz.SM (b:=0) j Sz.done
def jO{α:Type}(f:α->Nat):List α->Nat
 |[]=>0
 |x::j=>f x+jO f j
theorem iE{α:Type}{f:α->Nat}:∀{j:List α} {x:α},x∈j->f x<=jO f j
 |y::j,x,h=>by rcases List.mem_cons.1 h with rfl|h;(simp only[jO];omega);·have:=iE (f:=f) h;simp only[jO];omega
end Go.Sh
namespace Go.Sh
def eqL{α:Type}(f:α->α->Bool):List α->List α->Bool
 |[],[]=>true
 |x::j,y::C=>f x y&&eqL f j C
 |_,_=>false
theorem KP{α:Type}{f:α->α->Bool}:∀{j C:List α},eqL f j C=true->j.length=C.length
 |[],[],_=>rfl
 |x::j,y::C,h=>by simp only[eqL,qM]at h;simp[KP h.2]
 |[],_::_,h=>by simp[eqL]at h
 |_::_,[],h=>by simp[eqL]at h
theorem aW(b x:Bool):(if b=true then some x else some false)=some (b&&x):=by cases b<;>rfl
theorem wX(b x:Bool):(if(!b)=true then some false else some x)=some (b&&x):=by cases b<;>rfl
theorem pC{α:Type}[BEq α](a b:α)(x:Bool):(if(a !=b)=true then some false else some x)=some ((a==b)&&x):=by unfold bne;cases (a==b)<;>rfl
theorem iG{α:Type}(b:Bool)(x y:α):(if(!b)=true then x else y)=if b=true then y else x:=by cases b<;>rfl
theorem yX{α β:Type}[BEq β](a b:β)(x y:α):(if(a !=b)=true then x else y)=if(a==b)=true then y else x:=by unfold bne;cases (a==b)<;>rfl
theorem OJ{α:Type}(a b:Bool)(x y:α):(if a=true then if b=true then x else y else y)=if(a&&b)=true then x else y:=by cases a<;>cases b<;>rfl
theorem NZ{α:Type}{xs ys:List α}{f:α->α->Bool}{E:Option Bool}{L:Nat->Int->Option Bool}(I:xs.length=ys.length)
  (C:∀n (k:Nat) (J:k<xs.length) (U:k<ys.length),L (n+1) (k:Int)=if f xs[k] ys[k]=true then L n ((k+1:Nat):Int)else some false)(j:∀n,L (n+1) (xs.length:Int)=E):
  ∀(n k:Nat),xs.length-k<n->k<=xs.length->L n (k:Int)=if eqL f (xs.drop k) (ys.drop k)=true then E else some false
 |0,k,hn,_=>by omega
 |n+1,k,hn,J=>by
  rcases Nat.lt_or_ge k xs.length with h|h
  ·rw[C n k h qc,NZ I C j n (k+1) qc h,qW h,qW (by omega:k<ys.length)];have e:eqL f (xs[k]::xs.drop (k+1)) (ys[k]::ys.drop (k+1))=(f xs[k] ys[k]&&eqL f (xs.drop (k+1)) (ys.drop (k+1))):=rfl;rw[e];exact OJ _ _ _ _
  ·have:k=xs.length:=by omega
   subst this
   rw[j,qZ,I,qZ]
   simp[eqL]
theorem CP{α:Type}{xs ys:List α}{f:α->α->Bool}{E:Option Bool}{L:Nat->Int->Option Bool}(J:xs.length<=maxLen)
  (C:∀n (k:Nat) (U:k<xs.length) (I:k<ys.length),L (n+1) (k:Int)=if f xs[k] ys[k]=true then L n ((k+1:Nat):Int)else some false)(j:∀n,L (n+1) (xs.length:Int)=E):
  (if((List.length xs:Int) !=(List.length ys:Int))=true then some false else L fuel 0)=if eqL f xs ys=true then E else some false:=by
 have hm:=le_max J
 by_cases h:xs.length=ys.length
 ·rw[if_neg (by simp[h])];have:=NZ h C j fuel 0 qj qc;simpa using this
 ·rw[if_pos qd]
  have:eqL f xs ys≠true:=λe=>h (KP e)
  rw[if_neg this]
theorem ofNat_eq{x y:Int}(C:0<=x/\x<=255)(j:0<=y/\y<=255):(UInt8.ofNat x.toNat==UInt8.ofNat y.toNat)=(x==y):=by
 by_cases e:x=y
 ·subst e;simp
 ·have:¬UInt8.ofNat x.toNat=UInt8.ofNat y.toNat:=by
   intro h
   have:=congrArg UInt8.toNat h
   rw[UInt8.toNat_ofNat',UInt8.toNat_ofNat']at this
   omega
  rw[beq_eq_false_iff_ne.2 this,beq_eq_false_iff_ne.2 e]
theorem map_eq:∀{a b:List Int},(∀x∈a,0<=x/\x<=255)->(∀x∈b,0<=x/\x<=255)->((a.map λn=>UInt8.ofNat n.toNat)==(b.map λn=>UInt8.ofNat n.toNat))=eqL (λx y=>x==y) a b
 |[],[],_,_=>rfl
 |[],_::_,_,_=>rfl
 |_::_,[],_,_=>rfl
 |x::a,y::b,I,C=>by have:=map_eq (a:=a) (b:=b) (λz j=>I z (by simp[j])) (λz j=>C z (by simp[j]));have e:eqL (λx y=>x==y) (x::a) (y::b)=((x==y)&&eqL (λx y=>x==y) a b):=rfl;rw[e,<-this,<-ofNat_eq (I x qe) (C y qe)];rfl
theorem KO{a b:List Int}(C:∀x∈a,0<=x/\x<=255)(j:∀x∈b,0<=x/\x<=255):((cP a).toList==(cP b).toList)=eqL (λx y=>x==y) a b:=by rw[ByteArray.toList_eq,ByteArray.toList_eq];exact map_eq C j
theorem BD{a:List Int}(j:∀x∈a,0<=x/\x<=255):toStr a=some (cP a):=by unfold toStr;rw[if_pos];rw[qQ];intro x C;have:=j x C;simp;omega
theorem Md{α R:Type}{xs:List α}{f:α->Bool}{A:Nat->Option R}{E:Option R}{L:Nat->Int->Option R}
  (C:∀n (k:Nat) (J:k<xs.length),L (n+1) (k:Int)=if f xs[k]=true then A k else L n ((k+1:Nat):Int))(j:∀n,L (n+1) (xs.length:Int)=E):
  ∀(n k:Nat),xs.length-k<n->k<=xs.length->L n (k:Int)=match(xs.drop k).findIdx? f with|some i=>A (k+i)|none=>E
 |0,k,I,_=>by omega
 |n+1,k,I,J=>by
  rcases Nat.lt_or_ge k xs.length with h|h
  ·rw[C n k h,qW h,List.findIdx?_cons]
   cases hf:f xs[k]with
   |true=>simp
   |false=>
    rw[if_neg qe,if_neg qe,Md C j n (k+1) qc h]
    cases (xs.drop (k+1)).findIdx? f with
    |none=>rfl
    |some i=>simp only[Option.map_some];congr 1;omega
  ·have:k=xs.length:=by omega
   subst this
   rw[j,qZ]
   simp
theorem findAll{α R:Type}{xs:List α}{f:α->Bool}{A:Nat->Option R}{E:Option R}{L:Nat->Int->Option R}(I:xs.length<=maxLen)
  (C:∀n (k:Nat) (J:k<xs.length),L (n+1) (k:Int)=if f xs[k]=true then A k else L n ((k+1:Nat):Int))(j:∀n,L (n+1) (xs.length:Int)=E):
  L fuel 0=match xs.findIdx? f with|some i=>A i|none=>E:=by
 have U:=le_max I
 have:=Md C j fuel 0 qj qc
 simpa using this
def pU{α:Type}(f:α->Bool)(xs:List α):Int:=match xs.findIdx? f with|some i=>(i:Int)|none=> -1
theorem uU{α:Type}(f:α->Bool)(xs:List α):(match xs.findIdx? f with|some i=>some (i:Int)|none=>some (-1))=some (pU f xs):=by unfold pU;cases xs.findIdx? f<;>rfl
theorem Gq{α:Type}(f:α->Bool)(xs:List α):decide (pU f xs>=0)=xs.any f:=by
 unfold pU
 cases h:xs.findIdx? f with
 |none=>
  have:=List.findIdx?_eq_none_iff.1 h
  have e:xs.any f=false:=by rw[List.any_eq_false];intro x C;simp[this x C]
  rw[e];simp
 |some i=>
  have j:=List.findIdx?_isSome (xs:=xs) (p:=f)
  rw[h]at j
  rw[<-j]
  simp
end Go.Sh
