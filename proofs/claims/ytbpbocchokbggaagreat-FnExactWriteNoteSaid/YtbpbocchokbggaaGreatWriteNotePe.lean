/-
  Helper text. No conditions.
-/
import Derived.Test.YtbpbocchokbggaaGreatWriteNotePd
set_option linter.all false
namespace Go.Proofs.YtbpbocchokbggaaGreat.gen
open Go Go.Sh
theorem LH{α:Type}{f:α->Bool}{xs:List α}{k:Nat}(hk:k<xs.length)(I:f xs[k]=true):(rY f xs==(k:Int))=(List.range k).all (λj=> !((xs[j]?).any f)):=by
 rw[Bool.eq_iff_iff]
 simp only[beq_iff_eq,qR,qS]
 constructor
 ·intro h j C
  unfold rY at h
  cases e:xs.findIdx? f with
  |none=>rw[e]at h;simp only at h;omega
  |some i=>
   rw[e]at h
   simp only at h
   have:i=k:=by omega
   subst this
   have:=(List.findIdx?_eq_some_iff_getElem.1 e).2.2 j C
   rw[qF jD]
   simpa using this
 ·intro h;have e:xs.findIdx? f=some k:=List.findIdx?_eq_some_iff_getElem.2 ⟨hk,I,λj C=>by have:=h j C;rw[qF jD]at this;simpa using this⟩;unfold rY;rw[e]
def E4(a b:ByteArray)(x:M.aEW):Bool:=(x.aET.toList==a.toList)&&(x.aEy.toList==b.toList)
theorem Fz{c:M.aEZ}{a b:ByteArray}(hc:c.ok):wT c a b=some (rY (E4 a b) c.aEa):=by unfold wT;rw[Hm (f:=E4 a b) hc.aEa.1 (λx _=>by simp only[vT,fF];rfl),qA]
def Gn(r:M.aEQ):Bool:=inR r.aE8 1 4&&(inR r.aE5 0 999&&(inR r.aER 0 1000000000000&&decide ((List.length r.aFA:Int)<=60)))
theorem H4(r:M.aEQ):tT r=some (Gn r):=by unfold tT Gn;simp only[fY,qA,fF]
theorem Ef(r:M.aEQ):nS r=some (Gn r):=by unfold nS Gn;simp only[dM,qA,fF]
def Uj(l:List M.aEW)(k:Nat)(x:M.aEW):Bool:=(List.range k).all λj=> !((l[j]?).any (E4 x.aET x.aEy))
def C6(l:List M.aEW)(k:Nat):Bool:=(l[k]?).any λx=>sY x.aET&&(sY x.aEy&&(Gn x.aEQ&&Uj l k x))
def FR(l:List M.aEW):Bool:=(List.range l.length).all (C6 l)&&decide (l.length<=12)
theorem Ik{l:List M.aEW}(I:l.length<=maxLen/\∀x∈l,M.aEW.ok x):nT l=some (FR l):=by
 have hm:=le_max I.1
 unfold nT FR
 rw[Bh (L:=dW l) (g:=C6 l) (F:=some false) (E:=some (decide (l.length<=12))) I.1 (λn k hk=> ?_) (λn=> ?_),fF]
 ·have J:=I.2 _ (qG hk)
  simp only[dW]
  rw[if_pos (bL hk),aM hk,qA,bI jD,gN J.aET,qA,gN J.aEy,qA,H4,qA]
  rw[Bh (N:=k) (L:=fC l (k:Int) l[k] (λ_=>dW l n ((k+1:Nat):Int))) (g:=λj=> !((l[j]?).any (E4 l[k].aET l[k].aEy))) (F:=some false) (E:=dW l n ((k+1:Nat):Int)) (by have:=I.1;omega) (λn j U=> ?_) (λn=> ?_)]
  ·unfold C6 Uj;rw[qF hk,qe];simp only[DQ,V3]
  ·have C:j<l.length:=by omega
   simp only[fC]
   rw[if_pos (bL U),aM C,qA,bI jD,V3,qF C,qe,DQ]
   rfl
  ·simp only[fC];rw[if_neg jK]
 ·simp only[dW];rw[if_neg jK];simp;omega
theorem Jk{c:M.aEZ}{Z:Option Bool}(hc:c.ok):eD c (λ_=>Z) fuel 0=if(List.range c.aEa.length).all (C6 c.aEa)=true then Z else some false:=by have I:=le_max hc.aEa.1;refine Bh (L:=eD c (λ_=>Z)) hc.aEa.1 (λn k hk=> ?_) (λn=> ?_);(have C:=hc.aEa.2 _ (qG hk);simp only[eD];rw[if_pos (bL hk),aM hk,qA,bI jD,fP C.aET,qA,fP C.aEy,qA,Fz hc,qA,Ef,qA,HK,LH hk (by simp[E4])];unfold C6 Uj;rw[qF hk,qe];generalize eD c (λ_=>Z) n ((k+1:Nat):Int)=Y;generalize sY c.aEa[k].aET=a;generalize sY c.aEa[k].aEy=b;generalize Gn c.aEa[k].aEQ=d;generalize (List.range k).all (λj=> !((c.aEa[j]?).any (E4 c.aEa[k].aET c.aEa[k].aEy)))=e;cases a<;>cases b<;>cases d<;>cases e<;>rfl);·simp only[eD];rw[if_neg jK]
theorem Jm{c:M.aEZ}{Z:Option Bool}(hc:c.ok):dU c (λ_=>Z) fuel 0=if(List.range c.aEa.length).all (C6 c.aEa)=true then Z else some false:=by have I:=le_max hc.aEa.1;refine Bh (L:=dU c (λ_=>Z)) hc.aEa.1 (λn k hk=> ?_) (λn=> ?_);(have C:=hc.aEa.2 _ (qG hk);simp only[dU];rw[if_pos (bL hk),aM hk,qA,bI jD,fP C.aET,qA,fP C.aEy,qA,Fz hc,qA,Ef,qA,HK,LH hk (by simp[E4])];unfold C6 Uj;rw[qF hk,qe];generalize dU c (λ_=>Z) n ((k+1:Nat):Int)=Y;generalize sY c.aEa[k].aET=a;generalize sY c.aEa[k].aEy=b;generalize Gn c.aEa[k].aEQ=d;generalize (List.range k).all (λj=> !((c.aEa[j]?).any (E4 c.aEa[k].aET c.aEa[k].aEy)))=e;cases a<;>cases b<;>cases d<;>cases e<;>rfl);·simp only[dU];rw[if_neg jK]
def GV(l:List M.aEZ)(k:Nat):Bool:=(l[k]?).any (λc=>inR c.aER 1 1000000000000&&FR c.aEa)&&(decide (k=0)||(l[k-1]?).any λd=>(l[k]?).any λc=>decide (d.aER<c.aER))
def FH(s:M.aP):Bool:=(List.range s.aEV.length).all (GV s.aEV)&&decide (s.aEV.length<=4)
theorem IF{s:M.aP}(C:s.ok):tV s=some (FH s):=by
 have J:=le_max C.aEV.1
 unfold tV FH
 rw[Bh (L:=dV s) (g:=GV s.aEV) (F:=some false) (E:=some (decide (s.aEV.length<=4))) C.aEV.1 (λn k hk=> ?_) (λn=> ?_),fF]
 ·have I:=C.aEV.2 _ (qG hk)
  simp only[dV]
  rw[if_pos (bL hk),aM hk,qA,bI jD,fY,qA,Ik I.aEa]
  simp only[qA]
  unfold GV
  rw[qF hk]
  generalize dV s n ((k+1:Nat):Int)=Z
  by_cases h0:k=0
  ·subst h0;simp only[qe];generalize inR s.aEV[0].aER 1 1000000000000=a;generalize FR s.aEV[0].aEa=b;cases a<;>cases b<;>simp
  ·have e:IntKind.i64.wrap ((k:Int)-1)=((k-1:Nat):Int):=by rw[bP jD jD];omega
   have j:k-1<s.aEV.length:=by omega
   rw[if_pos (c:=(decide ((k:Int)>0))=true) jE,e,aM j,qA,qF j]
   simp only[qe,h0,decide_false,Bool.false_or]
   generalize inR s.aEV[k].aER 1 1000000000000=a
   generalize FR s.aEV[k].aEa=b
   by_cases hc:s.aEV[k-1].aER<s.aEV[k].aER
   ·rw[if_neg (c:=(decide (s.aEV[k-1].aER>=s.aEV[k].aER))=true) jE];cases a<;>cases b<;>simp[hc]
   ·rw[if_pos (c:=(decide (s.aEV[k-1].aER>=s.aEV[k].aER))=true) jE];cases a<;>cases b<;>simp[hc]
 ·simp only[dV];rw[if_neg jK];simp;omega
theorem H5{s:M.aP}(C:s.ok):sM s=some (FH s):=by
 have U:=le_max C.aEV.1
 unfold sM FH
 rw[Bh (L:=eC s) (g:=GV s.aEV) (F:=some false) (E:=some (decide (s.aEV.length<=4))) C.aEV.1 (λn k hk=> ?_) (λn=> ?_),fF]
 ·have I:=C.aEV.2 _ (qG hk)
  simp only[eC]
  rw[if_pos (bL hk),aM hk,qA,bI jD,dM,qA,Jk I,Jm I]
  unfold GV FR
  rw[qF hk]
  generalize eC s n ((k+1:Nat):Int)=Z
  have J:(decide ((List.length s.aEV[k].aEa:Int)>12))= !decide (s.aEV[k].aEa.length<=12):=by by_cases h:s.aEV[k].aEa.length<=12;(simp[h];omega);·simp[h];omega
  rw[J]
  by_cases h0:k=0
  ·subst h0;simp only[qe];generalize inR s.aEV[0].aER 1 1000000000000=a;generalize (List.range s.aEV[0].aEa.length).all (C6 s.aEV[0].aEa)=b;generalize decide (s.aEV[0].aEa.length<=12)=d;cases a<;>cases b<;>cases d<;>simp
  ·have e:IntKind.i64.wrap ((k:Int)-1)=((k-1:Nat):Int):=by rw[bP jD jD];omega
   have j:k-1<s.aEV.length:=by omega
   rw[if_pos (c:=(decide ((k:Int)>0))=true) jE,e,aM j,qA,qF j]
   simp only[qe,h0,decide_false,Bool.false_or]
   generalize inR s.aEV[k].aER 1 1000000000000=a
   generalize (List.range s.aEV[k].aEa.length).all (C6 s.aEV[k].aEa)=b
   generalize decide (s.aEV[k].aEa.length<=12)=d
   by_cases hc:s.aEV[k-1].aER<s.aEV[k].aER
   ·rw[if_neg (c:=(decide (s.aEV[k].aER<=s.aEV[k-1].aER))=true) jE];cases a<;>cases b<;>cases d<;>simp[hc]
   ·rw[if_pos (c:=(decide (s.aEV[k].aER<=s.aEV[k-1].aER))=true) jE];cases a<;>cases b<;>cases d<;>simp[hc]
 ·simp only[eC];rw[if_neg jK];simp;omega
