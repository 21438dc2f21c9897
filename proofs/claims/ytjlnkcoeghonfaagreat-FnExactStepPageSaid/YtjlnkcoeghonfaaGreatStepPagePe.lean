/-
  Helper text. No conditions.
-/
import Derived.Test.YtjlnkcoeghonfaaGreatStepPagePd
set_option linter.all false
namespace Go.Proofs.YtjlnkcoeghonfaaGreat.gen
open Go Go.Sh
theorem I9{α:Type}{f:α->Bool}{xs:List α}{k:Nat}(hk:k<xs.length)(I:f xs[k]=true):(mD f xs==(k:Int))=(List.range k).all (λj=> !((xs[j]?).any f)):=by
 rw[Bool.eq_iff_iff]
 simp only[beq_iff_eq,qR,qS]
 constructor
 ·intro h j C
  unfold mD at h
  cases e:xs.findIdx? f with
  |none=>rw[e]at h;simp only at h;omega
  |some i=>
   rw[e]at h
   simp only at h
   have:i=k:=by omega
   subst this
   have:=(List.findIdx?_eq_some_iff_getElem.1 e).2.2 j C
   rw[qF jD]
   simpa using this
 ·intro h;have e:xs.findIdx? f=some k:=List.findIdx?_eq_some_iff_getElem.2 ⟨hk,I,λj C=>by have:=h j C;rw[qF jD]at this;simpa using this⟩;unfold mD;rw[e]
def H9(a b:ByteArray)(x:M.aJo):Bool:=(x.aJj.toList==a.toList)&&(x.aKG.toList==b.toList)
theorem IA{c:M.aJs}{a b:ByteArray}(hc:c.ok):oP c a b=some (mD (H9 a b) c.aJt):=by unfold oP;rw[Gm (f:=H9 a b) hc.aJt.1 (λx _=>by simp only[tU,bY];rfl),qA]
def Jt(r:M.aJg):Bool:=inR r.aKU 1 4&&(inR r.aKK 0 999&&(inR r.aJd 0 1000000000000&&decide ((List.length r.aKS:Int)<=60)))
theorem K2(r:M.aJg):xY r=some (Jt r):=by unfold xY Jt;simp only[cG,qA,bY]
theorem G5(r:M.aJg):rX r=some (Jt r):=by unfold rX Jt;simp only[bR,qA,bY]
def Yj(l:List M.aJo)(k:Nat)(x:M.aJo):Bool:=(List.range k).all λj=> !((l[j]?).any (H9 x.aJj x.aKG))
def Fm(l:List M.aJo)(k:Nat):Bool:=(l[k]?).any λx=>mL x.aJj&&(mL x.aKG&&(Jt x.aJg&&Yj l k x))
def I0(l:List M.aJo):Bool:=(List.range l.length).all (Fm l)&&decide (l.length<=12)
theorem Li{l:List M.aJo}(I:l.length<=maxLen/\∀x∈l,M.aJo.ok x):rY l=some (I0 l):=by
 have hm:=le_max I.1
 unfold rY I0
 rw[oO (L:=eU l) (g:=Fm l) (F:=some false) (E:=some (decide (l.length<=12))) I.1 (λn k hk=> ?_) (λn=> ?_),bY]
 ·have J:=I.2 _ (qG hk)
  simp only[eU]
  rw[if_pos (bE hk),aH hk,qA,bG jD,dF J.aJj,qA,dF J.aKG,qA,K2,qA]
  rw[oO (N:=k) (L:=gE l (k:Int) l[k] (λ_=>eU l n ((k+1:Nat):Int))) (g:=λj=> !((l[j]?).any (H9 l[k].aJj l[k].aKG))) (F:=some false) (E:=eU l n ((k+1:Nat):Int)) (by have:=I.1;omega) (λn j U=> ?_) (λn=> ?_)]
  ·unfold Fm Yj;rw[qF hk,qe];simp only[C2,XU]
  ·have C:j<l.length:=by omega
   simp only[gE]
   rw[if_pos (bE U),aH C,qA,bG jD,XU,qF C,qe,C2]
   rfl
  ·simp only[gE];rw[if_neg jK]
 ·simp only[eU];rw[if_neg jK];simp;omega
theorem Mp{c:M.aJs}{Z:Option Bool}(hc:c.ok):fB c (λ_=>Z) fuel 0=if(List.range c.aJt.length).all (Fm c.aJt)=true then Z else some false:=by have I:=le_max hc.aJt.1;refine oO (L:=fB c (λ_=>Z)) hc.aJt.1 (λn k hk=> ?_) (λn=> ?_);(have C:=hc.aJt.2 _ (qG hk);simp only[fB];rw[if_pos (bE hk),aH hk,qA,bG jD,cT C.aJj,qA,cT C.aKG,qA,IA hc,qA,G5,qA,Gy,I9 hk (by simp[H9])];unfold Fm Yj;rw[qF hk,qe];generalize fB c (λ_=>Z) n ((k+1:Nat):Int)=Y;generalize mL c.aJt[k].aJj=a;generalize mL c.aJt[k].aKG=b;generalize Jt c.aJt[k].aJg=d;generalize (List.range k).all (λj=> !((c.aJt[j]?).any (H9 c.aJt[k].aJj c.aJt[k].aKG)))=e;cases a<;>cases b<;>cases d<;>cases e<;>rfl);·simp only[fB];rw[if_neg jK]
theorem Mr{c:M.aJs}{Z:Option Bool}(hc:c.ok):eS c (λ_=>Z) fuel 0=if(List.range c.aJt.length).all (Fm c.aJt)=true then Z else some false:=by have I:=le_max hc.aJt.1;refine oO (L:=eS c (λ_=>Z)) hc.aJt.1 (λn k hk=> ?_) (λn=> ?_);(have C:=hc.aJt.2 _ (qG hk);simp only[eS];rw[if_pos (bE hk),aH hk,qA,bG jD,cT C.aJj,qA,cT C.aKG,qA,IA hc,qA,G5,qA,Gy,I9 hk (by simp[H9])];unfold Fm Yj;rw[qF hk,qe];generalize eS c (λ_=>Z) n ((k+1:Nat):Int)=Y;generalize mL c.aJt[k].aJj=a;generalize mL c.aJt[k].aKG=b;generalize Jt c.aJt[k].aJg=d;generalize (List.range k).all (λj=> !((c.aJt[j]?).any (H9 c.aJt[k].aJj c.aJt[k].aKG)))=e;cases a<;>cases b<;>cases d<;>cases e<;>rfl);·simp only[eS];rw[if_neg jK]
def JZ(l:List M.aJs)(k:Nat):Bool:=(l[k]?).any (λc=>inR c.aJd 1 1000000000000&&I0 c.aJt)&&(decide (k=0)||(l[k-1]?).any λd=>(l[k]?).any λc=>decide (d.aJd<c.aJd))
def IJ(s:M.aO):Bool:=(List.range s.aJk.length).all (JZ s.aJk)&&decide (s.aJk.length<=4)
theorem LJ{s:M.aO}(C:s.ok):yA s=some (IJ s):=by
 have J:=le_max C.aJk.1
 unfold yA IJ
 rw[oO (L:=eT s) (g:=JZ s.aJk) (F:=some false) (E:=some (decide (s.aJk.length<=4))) C.aJk.1 (λn k hk=> ?_) (λn=> ?_),bY]
 ·have I:=C.aJk.2 _ (qG hk)
  simp only[eT]
  rw[if_pos (bE hk),aH hk,qA,bG jD,cG,qA,Li I.aJt]
  simp only[qA]
  unfold JZ
  rw[qF hk]
  generalize eT s n ((k+1:Nat):Int)=Z
  by_cases h0:k=0
  ·subst h0;simp only[qe];generalize inR s.aJk[0].aJd 1 1000000000000=a;generalize I0 s.aJk[0].aJt=b;cases a<;>cases b<;>simp
  ·have e:IntKind.i64.wrap ((k:Int)-1)=((k-1:Nat):Int):=by rw[bK jD jD];omega
   have j:k-1<s.aJk.length:=by omega
   rw[if_pos (c:=(decide ((k:Int)>0))=true) jE,e,aH j,qA,qF j]
   simp only[qe,h0,decide_false,Bool.false_or]
   generalize inR s.aJk[k].aJd 1 1000000000000=a
   generalize I0 s.aJk[k].aJt=b
   by_cases hc:s.aJk[k-1].aJd<s.aJk[k].aJd
   ·rw[if_neg (c:=(decide (s.aJk[k-1].aJd>=s.aJk[k].aJd))=true) jE];cases a<;>cases b<;>simp[hc]
   ·rw[if_pos (c:=(decide (s.aJk[k-1].aJd>=s.aJk[k].aJd))=true) jE];cases a<;>cases b<;>simp[hc]
 ·simp only[eT];rw[if_neg jK];simp;omega
theorem K3{s:M.aO}(C:s.ok):wS s=some (IJ s):=by
 have U:=le_max C.aJk.1
 unfold wS IJ
 rw[oO (L:=fA s) (g:=JZ s.aJk) (F:=some false) (E:=some (decide (s.aJk.length<=4))) C.aJk.1 (λn k hk=> ?_) (λn=> ?_),bY]
 ·have I:=C.aJk.2 _ (qG hk)
  simp only[fA]
  rw[if_pos (bE hk),aH hk,qA,bG jD,bR,qA,Mp I,Mr I]
  unfold JZ I0
  rw[qF hk]
  generalize fA s n ((k+1:Nat):Int)=Z
  have J:(decide ((List.length s.aJk[k].aJt:Int)>12))= !decide (s.aJk[k].aJt.length<=12):=by by_cases h:s.aJk[k].aJt.length<=12;(simp[h];omega);·simp[h];omega
  rw[J]
  by_cases h0:k=0
  ·subst h0;simp only[qe];generalize inR s.aJk[0].aJd 1 1000000000000=a;generalize (List.range s.aJk[0].aJt.length).all (Fm s.aJk[0].aJt)=b;generalize decide (s.aJk[0].aJt.length<=12)=d;cases a<;>cases b<;>cases d<;>simp
  ·have e:IntKind.i64.wrap ((k:Int)-1)=((k-1:Nat):Int):=by rw[bK jD jD];omega
   have j:k-1<s.aJk.length:=by omega
   rw[if_pos (c:=(decide ((k:Int)>0))=true) jE,e,aH j,qA,qF j]
   simp only[qe,h0,decide_false,Bool.false_or]
   generalize inR s.aJk[k].aJd 1 1000000000000=a
   generalize (List.range s.aJk[k].aJt.length).all (Fm s.aJk[k].aJt)=b
   generalize decide (s.aJk[k].aJt.length<=12)=d
   by_cases hc:s.aJk[k-1].aJd<s.aJk[k].aJd
   ·rw[if_neg (c:=(decide (s.aJk[k].aJd<=s.aJk[k-1].aJd))=true) jE];cases a<;>cases b<;>cases d<;>simp[hc]
   ·rw[if_pos (c:=(decide (s.aJk[k].aJd<=s.aJk[k-1].aJd))=true) jE];cases a<;>cases b<;>cases d<;>simp[hc]
 ·simp only[fA];rw[if_neg jK];simp;omega
