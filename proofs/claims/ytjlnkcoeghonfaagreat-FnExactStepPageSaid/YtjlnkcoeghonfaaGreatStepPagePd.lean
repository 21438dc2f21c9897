/-
  Helper text. No conditions.
-/
import Derived.Test.YtjlnkcoeghonfaaGreatStepPagePc
set_option linter.all false
namespace Go.Proofs.YtjlnkcoeghonfaaGreat.gen
open Go Go.Sh
def Er(l:List M.aJl)(k:Nat):Bool:=(l[k]?).any (λx=>Dp x.Key&&bU x.aA)&&(decide (k=0)||(l[k-1]?).any λy=>(l[k]?).any λx=>decide (bP y.Key x.Key<0))
def lO(s:M.aD):Bool:=(List.range s.aJe.length).all (Er s.aJe)&&(mL s.Name&&(decide (s.aJe.length<=16)&&inR s.aJ7 0 1000000))
def Lm(x:M.aW):Bool:=inR x.aJq 1 1000000&&(inR x.Seq 1 1000000&&(Dp x.Key&&(mL x.Field&&inR x.N 0 1000000000)))
def Ja(o:M.aM)(k:Nat):Bool:=(o.aJ1[k]?).any λx=>Lm x&&((x.aJq==o.aJq)&&(x.Seq==IntKind.i64.wrap ((IntKind.i64.wrap (o.aKM-(List.length o.aJ1:Int)))+(k:Int))))
def FH(o:M.aM):Bool:=(List.range o.aJ1.length).all (Ja o)&&(inR o.aJq 1 1000000&&(inR o.aKM 1 1000000&&decide (o.aJ1.length<=20)))
theorem CM{s:M.aD}(C:s.ok):oR s=some (lO s):=by
 have U:=le_max C.aJe.1
 unfold oR lO
 rw[oO (L:=iO s) (g:=Er s.aJe) (F:=some false) (E:=some (mL s.Name&&(decide (s.aJe.length<=16)&&inR s.aJ7 0 1000000))) C.aJe.1 (λn k hk=> ?_) (λn=> ?_),bY]
 ·have I:=C.aJe.2 _ (qG hk)
  simp only[iO]
  rw[if_pos (bE hk),aH hk,qA,bG jD,mB I.Key,qA,pD I.aA,qA]
  unfold Er
  rw[qF hk]
  generalize iO s n ((k+1:Nat):Int)=Z
  by_cases h0:k=0
  ·subst h0;simp only[qe];generalize Dp s.aJe[0].Key=a;generalize bU s.aJe[0].aA=b;cases a<;>cases b<;>simp
  ·have e:IntKind.i64.wrap ((k:Int)-1)=((k-1:Nat):Int):=by rw[bK jD jD];omega
   have j:k-1<s.aJe.length:=by omega
   have J:=C.aJe.2 _ (qG j)
   rw[if_pos (c:=(decide ((k:Int)>0))=true) jE,e,aH j,qA,vT J.Key I.Key,qA,qF j]
   simp only[qe,h0,decide_false,Bool.false_or]
   generalize Dp s.aJe[k].Key=a
   generalize bU s.aJe[k].aA=b
   by_cases hc:bP s.aJe[k-1].Key s.aJe[k].Key<0
   ·rw[if_neg (c:=(decide (bP s.aJe[k-1].Key s.aJe[k].Key>=0))=true) jE];cases a<;>cases b<;>simp[hc]
   ·rw[if_pos (c:=(decide (bP s.aJe[k-1].Key s.aJe[k].Key>=0))=true) jE];cases a<;>cases b<;>simp[hc]
 ·simp only[iO];rw[if_neg jK,dF C.Name,qA,cG,qA,bY,bY];congr 3;simp;omega
theorem Fg{x:M.aW}(j:x.ok):nD x=some (Lm x):=by unfold nD Lm;simp only[cG,mB j.Key,dF j.Field,qA,bY]
theorem Aw{s:M.aD}(C:s.ok):bT s=some (lO s):=by
 have U:=le_max C.aJe.1
 unfold bT lO
 rw[oO (L:=iP s) (g:=Er s.aJe) (F:=some false) (E:=some (mL s.Name&&(decide (s.aJe.length<=16)&&inR s.aJ7 0 1000000))) C.aJe.1 (λn k hk=> ?_) (λn=> ?_),bY]
 ·have I:=C.aJe.2 _ (qG hk)
  simp only[iP]
  rw[if_pos (bE hk),aH hk,qA,bG jD,oS I.Key,qA,wX I.aA,qA]
  unfold Er
  rw[qF hk]
  generalize iP s n ((k+1:Nat):Int)=Z
  by_cases h0:k=0
  ·subst h0;simp only[qe];generalize Dp s.aJe[0].Key=a;generalize bU s.aJe[0].aA=b;cases a<;>cases b<;>simp
  ·have e:IntKind.i64.wrap ((k:Int)-1)=((k-1:Nat):Int):=by rw[bK jD jD];omega
   have j:k-1<s.aJe.length:=by omega
   have J:=C.aJe.2 _ (qG j)
   rw[if_pos (c:=(decide ((k:Int)>0))=true) jE,e,aH j,qA,vH J.Key I.Key,qA,qF j]
   simp only[qe,h0,decide_false,Bool.false_or]
   generalize Dp s.aJe[k].Key=a
   generalize bU s.aJe[k].aA=b
   by_cases hc:bP s.aJe[k-1].Key s.aJe[k].Key<0
   ·rw[if_neg (c:=(decide (bP s.aJe[k-1].Key s.aJe[k].Key>=0))=true) jE];cases a<;>cases b<;>simp[hc]
   ·rw[if_pos (c:=(decide (bP s.aJe[k-1].Key s.aJe[k].Key>=0))=true) jE];cases a<;>cases b<;>simp[hc]
 ·simp only[iP];rw[if_neg jK,cT C.Name,qA,bR,qA,bY,bY];congr 3;simp;omega
theorem Fe{x:M.aW}(j:x.ok):mV x=some (Lm x):=by unfold mV Lm;simp only[bR,oS j.Key,cT j.Field,qA,bY]
theorem F9{o:M.aM}(j:o.ok):sV o=some (FH o):=by have I:=le_max j.aJ1.1;unfold sV FH;rw[oO (L:=mH o) (g:=Ja o) (F:=some false) (E:=some true) j.aJ1.1 (λn k hk=> ?_) (λn=> ?_)];(simp only[cG,qA];by_cases h:o.aJ1.length<=20;(rw[if_neg (c:=(decide ((List.length o.aJ1:Int)>20))=true) jE];cases (List.range o.aJ1.length).all (Ja o)<;>cases inR o.aJq 1 1000000<;>cases inR o.aKM 1 1000000<;>simp[h]);·rw[if_pos (c:=(decide ((List.length o.aJ1:Int)>20))=true) jE];cases inR o.aJq 1 1000000<;>cases inR o.aKM 1 1000000<;>simp[h]);(have C:=j.aJ1.2 _ (qG hk);simp only[mH];rw[if_pos (bE hk),aH hk,qA,bG jD,Fg C,qA];unfold Ja;rw[qF hk,qe];simp only[Gy,C2,XU]);·simp only[mH];rw[if_neg jK]
theorem F4{o:M.aM}(j:o.ok):sP o=some (FH o):=by have I:=le_max j.aJ1.1;unfold sP FH;rw[oO (L:=mI o) (g:=Ja o) (F:=some false) (E:=some (inR o.aJq 1 1000000&&(inR o.aKM 1 1000000&&decide (o.aJ1.length<=20)))) j.aJ1.1 (λn k hk=> ?_) (λn=> ?_),bY];(have C:=j.aJ1.2 _ (qG hk);simp only[mI];rw[if_pos (bE hk),aH hk,qA,bG jD,Fe C,qA];unfold Ja;rw[qF hk,qe];simp only[Gy,C2,XU]);·simp only[mI];rw[if_neg jK];simp only[bR,qA,bY];congr 3;simp;omega
def Gu(r:M.aE):Bool:=lO r.aJz&&((r.aJz.Name.toList==(⟨#[110,111,116,101,115]⟩:ByteArray).toList)&&(inR r.aKV 0 1000000000000&&FH r.aJx.aM))
theorem HI{r:M.aE}(j:r.ok):tR r=some (Gu r):=by unfold tR Gu;simp only[CM j.aJz,cG,F9 j.aJx.aM,qA,bY]
theorem HM{r:M.aE}(j:r.ok):uL r=some (Gu r):=by unfold uL Gu;simp only[Aw j.aJz,bR,F4 j.aJx.aM,qA,bY]
