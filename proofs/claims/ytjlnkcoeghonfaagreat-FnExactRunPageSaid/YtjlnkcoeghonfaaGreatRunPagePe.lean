/-
  Helper text. No conditions.
-/
import Derived.Test.YtjlnkcoeghonfaaGreatRunPagePd
set_option linter.all false
namespace Go.Proofs.YtjlnkcoeghonfaaGreat.gen
open Go Go.Sh
theorem Jg{α:Type}{f:α->Bool}{xs:List α}{k:Nat}(hk:k<xs.length)(I:f xs[k]=true):(mF f xs==(k:Int))=(List.range k).all (λj=> !((xs[j]?).any f)):=by
 rw[Bool.eq_iff_iff]
 simp only[beq_iff_eq,qR,qS]
 constructor
 ·intro h j C
  unfold mF at h
  cases e:xs.findIdx? f with
  |none=>rw[e]at h;simp only at h;omega
  |some i=>
   rw[e]at h
   simp only at h
   have:i=k:=by omega
   subst this
   have:=(List.findIdx?_eq_some_iff_getElem.1 e).2.2 j C
   rw[qF jD]
   simpa using this
 ·intro h;have e:xs.findIdx? f=some k:=List.findIdx?_eq_some_iff_getElem.2 ⟨hk,I,λj C=>by have:=h j C;rw[qF jD]at this;simpa using this⟩;unfold mF;rw[e]
def Ii(a b:ByteArray)(x:M.aJx):Bool:=(x.aJr.toList==a.toList)&&(x.aKP.toList==b.toList)
theorem IJ{c:M.aJ0}{a b:ByteArray}(hc:c.ok):oT c a b=some (mF (Ii a b) c.aJ1):=by unfold oT;rw[Gt (f:=Ii a b) hc.aJ1.1 (λx _=>by simp only[tV,bY];rfl),qA]
def Jz(r:M.aJo):Bool:=inR r.aKc 1 4&&(inR r.aKS 0 999&&(inR r.aJl 0 1000000000000&&decide ((List.length r.aKa:Int)<=60)))
theorem K8(r:M.aJo):yA r=some (Jz r):=by unfold yA Jz;simp only[cG,qA,bY]
theorem Hb(r:M.aJo):sA r=some (Jz r):=by unfold sA Jz;simp only[bR,qA,bY]
def Yq(l:List M.aJx)(k:Nat)(x:M.aJx):Bool:=(List.range k).all λj=> !((l[j]?).any (Ii x.aJr x.aKP))
def Fw(l:List M.aJx)(k:Nat):Bool:=(l[k]?).any λx=>mN x.aJr&&(mN x.aKP&&(Jz x.aJo&&Yq l k x))
def Ja(l:List M.aJx):Bool:=(List.range l.length).all (Fw l)&&decide (l.length<=12)
theorem Lo{l:List M.aJx}(I:l.length<=maxLen/\∀x∈l,M.aJx.ok x):sB l=some (Ja l):=by
 have hm:=le_max I.1
 unfold sB Ja
 rw[oS (L:=eV l) (g:=Fw l) (F:=some false) (E:=some (decide (l.length<=12))) I.1 (λn k hk=> ?_) (λn=> ?_),bY]
 ·have J:=I.2 _ (qG hk)
  simp only[eV]
  rw[if_pos (bE hk),aH hk,qA,bG jD,dG J.aJr,qA,dG J.aKP,qA,K8,qA]
  rw[oS (N:=k) (L:=gF l (k:Int) l[k] (λ_=>eV l n ((k+1:Nat):Int))) (g:=λj=> !((l[j]?).any (Ii l[k].aJr l[k].aKP))) (F:=some false) (E:=eV l n ((k+1:Nat):Int)) (by have:=I.1;omega) (λn j U=> ?_) (λn=> ?_)]
  ·unfold Fw Yq;rw[qF hk,qe];simp only[C8,X0]
  ·have C:j<l.length:=by omega
   simp only[gF]
   rw[if_pos (bE U),aH C,qA,bG jD,X0,qF C,qe,C8]
   rfl
  ·simp only[gF];rw[if_neg jK]
 ·simp only[eV];rw[if_neg jK];simp;omega
theorem Mw{c:M.aJ0}{Z:Option Bool}(hc:c.ok):fC c (λ_=>Z) fuel 0=if(List.range c.aJ1.length).all (Fw c.aJ1)=true then Z else some false:=by have I:=le_max hc.aJ1.1;refine oS (L:=fC c (λ_=>Z)) hc.aJ1.1 (λn k hk=> ?_) (λn=> ?_);(have C:=hc.aJ1.2 _ (qG hk);simp only[fC];rw[if_pos (bE hk),aH hk,qA,bG jD,cT C.aJr,qA,cT C.aKP,qA,IJ hc,qA,Hb,qA,GD,Jg hk (by simp[Ii])];unfold Fw Yq;rw[qF hk,qe];generalize fC c (λ_=>Z) n ((k+1:Nat):Int)=Y;generalize mN c.aJ1[k].aJr=a;generalize mN c.aJ1[k].aKP=b;generalize Jz c.aJ1[k].aJo=d;generalize (List.range k).all (λj=> !((c.aJ1[j]?).any (Ii c.aJ1[k].aJr c.aJ1[k].aKP)))=e;cases a<;>cases b<;>cases d<;>cases e<;>rfl);·simp only[fC];rw[if_neg jK]
theorem My{c:M.aJ0}{Z:Option Bool}(hc:c.ok):eT c (λ_=>Z) fuel 0=if(List.range c.aJ1.length).all (Fw c.aJ1)=true then Z else some false:=by have I:=le_max hc.aJ1.1;refine oS (L:=eT c (λ_=>Z)) hc.aJ1.1 (λn k hk=> ?_) (λn=> ?_);(have C:=hc.aJ1.2 _ (qG hk);simp only[eT];rw[if_pos (bE hk),aH hk,qA,bG jD,cT C.aJr,qA,cT C.aKP,qA,IJ hc,qA,Hb,qA,GD,Jg hk (by simp[Ii])];unfold Fw Yq;rw[qF hk,qe];generalize eT c (λ_=>Z) n ((k+1:Nat):Int)=Y;generalize mN c.aJ1[k].aJr=a;generalize mN c.aJ1[k].aKP=b;generalize Jz c.aJ1[k].aJo=d;generalize (List.range k).all (λj=> !((c.aJ1[j]?).any (Ii c.aJ1[k].aJr c.aJ1[k].aKP)))=e;cases a<;>cases b<;>cases d<;>cases e<;>rfl);·simp only[eT];rw[if_neg jK]
def J5(l:List M.aJ0)(k:Nat):Bool:=(l[k]?).any (λc=>inR c.aJl 1 1000000000000&&Ja c.aJ1)&&(decide (k=0)||(l[k-1]?).any λd=>(l[k]?).any λc=>decide (d.aJl<c.aJl))
def IV(s:M.aO):Bool:=(List.range s.aJs.length).all (J5 s.aJs)&&decide (s.aJs.length<=4)
theorem LS{s:M.aO}(C:s.ok):yC s=some (IV s):=by
 have J:=le_max C.aJs.1
 unfold yC IV
 rw[oS (L:=eU s) (g:=J5 s.aJs) (F:=some false) (E:=some (decide (s.aJs.length<=4))) C.aJs.1 (λn k hk=> ?_) (λn=> ?_),bY]
 ·have I:=C.aJs.2 _ (qG hk)
  simp only[eU]
  rw[if_pos (bE hk),aH hk,qA,bG jD,cG,qA,Lo I.aJ1]
  simp only[qA]
  unfold J5
  rw[qF hk]
  generalize eU s n ((k+1:Nat):Int)=Z
  by_cases h0:k=0
  ·subst h0;simp only[qe];generalize inR s.aJs[0].aJl 1 1000000000000=a;generalize Ja s.aJs[0].aJ1=b;cases a<;>cases b<;>simp
  ·have e:IntKind.i64.wrap ((k:Int)-1)=((k-1:Nat):Int):=by rw[bI jD jD];omega
   have j:k-1<s.aJs.length:=by omega
   rw[if_pos (c:=(decide ((k:Int)>0))=true) jE,e,aH j,qA,qF j]
   simp only[qe,h0,decide_false,Bool.false_or]
   generalize inR s.aJs[k].aJl 1 1000000000000=a
   generalize Ja s.aJs[k].aJ1=b
   by_cases hc:s.aJs[k-1].aJl<s.aJs[k].aJl
   ·rw[if_neg (c:=(decide (s.aJs[k-1].aJl>=s.aJs[k].aJl))=true) jE];cases a<;>cases b<;>simp[hc]
   ·rw[if_pos (c:=(decide (s.aJs[k-1].aJl>=s.aJs[k].aJl))=true) jE];cases a<;>cases b<;>simp[hc]
 ·simp only[eU];rw[if_neg jK];simp;omega
theorem K9{s:M.aO}(C:s.ok):wV s=some (IV s):=by
 have U:=le_max C.aJs.1
 unfold wV IV
 rw[oS (L:=fB s) (g:=J5 s.aJs) (F:=some false) (E:=some (decide (s.aJs.length<=4))) C.aJs.1 (λn k hk=> ?_) (λn=> ?_),bY]
 ·have I:=C.aJs.2 _ (qG hk)
  simp only[fB]
  rw[if_pos (bE hk),aH hk,qA,bG jD,bR,qA,Mw I,My I]
  unfold J5 Ja
  rw[qF hk]
  generalize fB s n ((k+1:Nat):Int)=Z
  have J:(decide ((List.length s.aJs[k].aJ1:Int)>12))= !decide (s.aJs[k].aJ1.length<=12):=by by_cases h:s.aJs[k].aJ1.length<=12;(simp[h];omega);·simp[h];omega
  rw[J]
  by_cases h0:k=0
  ·subst h0;simp only[qe];generalize inR s.aJs[0].aJl 1 1000000000000=a;generalize (List.range s.aJs[0].aJ1.length).all (Fw s.aJs[0].aJ1)=b;generalize decide (s.aJs[0].aJ1.length<=12)=d;cases a<;>cases b<;>cases d<;>simp
  ·have e:IntKind.i64.wrap ((k:Int)-1)=((k-1:Nat):Int):=by rw[bI jD jD];omega
   have j:k-1<s.aJs.length:=by omega
   rw[if_pos (c:=(decide ((k:Int)>0))=true) jE,e,aH j,qA,qF j]
   simp only[qe,h0,decide_false,Bool.false_or]
   generalize inR s.aJs[k].aJl 1 1000000000000=a
   generalize (List.range s.aJs[k].aJ1.length).all (Fw s.aJs[k].aJ1)=b
   generalize decide (s.aJs[k].aJ1.length<=12)=d
   by_cases hc:s.aJs[k-1].aJl<s.aJs[k].aJl
   ·rw[if_neg (c:=(decide (s.aJs[k].aJl<=s.aJs[k-1].aJl))=true) jE];cases a<;>cases b<;>cases d<;>simp[hc]
   ·rw[if_pos (c:=(decide (s.aJs[k].aJl<=s.aJs[k-1].aJl))=true) jE];cases a<;>cases b<;>cases d<;>simp[hc]
 ·simp only[fB];rw[if_neg jK];simp;omega
