/-
  Helper text. No conditions.
-/
import Derived.Test.YtbpbocchokbggaaGreatWriteNotePc
set_option linter.all false
namespace Go.Proofs.YtbpbocchokbggaaGreat.gen
open Go Go.Sh
def Ck(l:List M.aES)(k:Nat):Bool:=(l[k]?).any (λx=>Bn x.Key&&bO x.aA)&&(decide (k=0)||(l[k-1]?).any λy=>(l[k]?).any λx=>decide (bH y.Key x.Key<0))
def kZ(s:M.aC):Bool:=(List.range s.aEM.length).all (Ck s.aEM)&&(sY s.Name&&(decide (s.aEM.length<=16)&&inR s.aEo 0 1000000))
def J9(x:M.bB):Bool:=inR x.aEd 1 1000000&&(inR x.Seq 1 1000000&&(Bn x.Key&&(sY x.Field&&inR x.N 0 1000000000)))
def F4(o:M.aU)(k:Nat):Bool:=(o.aEm[k]?).any λx=>J9 x&&((x.aEd==o.aEd)&&(x.Seq==IntKind.i64.wrap ((IntKind.i64.wrap (o.aFB-(List.length o.aEm:Int)))+(k:Int))))
def JO(o:M.aU):Bool:=(List.range o.aEm.length).all (F4 o)&&(inR o.aEd 1 1000000&&(inR o.aFB 1 1000000&&decide (o.aEm.length<=20)))
theorem CG{s:M.aC}(C:s.ok):nJ s=some (kZ s):=by
 have U:=le_max C.aEM.1
 unfold nJ kZ
 rw[Bh (L:=gR s) (g:=Ck s.aEM) (F:=some false) (E:=some (sY s.Name&&(decide (s.aEM.length<=16)&&inR s.aEo 0 1000000))) C.aEM.1 (λn k hk=> ?_) (λn=> ?_),fF]
 ·have I:=C.aEM.2 _ (qG hk)
  simp only[gR]
  rw[if_pos (bL hk),aM hk,qA,bI jD,kC I.Key,qA,mD I.aA,qA]
  unfold Ck
  rw[qF hk]
  generalize gR s n ((k+1:Nat):Int)=Z
  by_cases h0:k=0
  ·subst h0;simp only[qe];generalize Bn s.aEM[0].Key=a;generalize bO s.aEM[0].aA=b;cases a<;>cases b<;>simp
  ·have e:IntKind.i64.wrap ((k:Int)-1)=((k-1:Nat):Int):=by rw[bP jD jD];omega
   have j:k-1<s.aEM.length:=by omega
   have J:=C.aEM.2 _ (qG j)
   rw[if_pos (c:=(decide ((k:Int)>0))=true) jE,e,aM j,qA,rR J.Key I.Key,qA,qF j]
   simp only[qe,h0,decide_false,Bool.false_or]
   generalize Bn s.aEM[k].Key=a
   generalize bO s.aEM[k].aA=b
   by_cases hc:bH s.aEM[k-1].Key s.aEM[k].Key<0
   ·rw[if_neg (c:=(decide (bH s.aEM[k-1].Key s.aEM[k].Key>=0))=true) jE];cases a<;>cases b<;>simp[hc]
   ·rw[if_pos (c:=(decide (bH s.aEM[k-1].Key s.aEM[k].Key>=0))=true) jE];cases a<;>cases b<;>simp[hc]
 ·simp only[gR];rw[if_neg jK,gN C.Name,qA,fY,qA,fF,fF];congr 3;simp;omega
theorem F8{x:M.bB}(j:x.ok):nD x=some (J9 x):=by unfold nD J9;simp only[fY,kC j.Key,gN j.Field,qA,fF]
theorem Ai{s:M.aC}(C:s.ok):bN s=some (kZ s):=by
 have U:=le_max C.aEM.1
 unfold bN kZ
 rw[Bh (L:=gS s) (g:=Ck s.aEM) (F:=some false) (E:=some (sY s.Name&&(decide (s.aEM.length<=16)&&inR s.aEo 0 1000000))) C.aEM.1 (λn k hk=> ?_) (λn=> ?_),fF]
 ·have I:=C.aEM.2 _ (qG hk)
  simp only[gS]
  rw[if_pos (bL hk),aM hk,qA,bI jD,lZ I.Key,qA,sQ I.aA,qA]
  unfold Ck
  rw[qF hk]
  generalize gS s n ((k+1:Nat):Int)=Z
  by_cases h0:k=0
  ·subst h0;simp only[qe];generalize Bn s.aEM[0].Key=a;generalize bO s.aEM[0].aA=b;cases a<;>cases b<;>simp
  ·have e:IntKind.i64.wrap ((k:Int)-1)=((k-1:Nat):Int):=by rw[bP jD jD];omega
   have j:k-1<s.aEM.length:=by omega
   have J:=C.aEM.2 _ (qG j)
   rw[if_pos (c:=(decide ((k:Int)>0))=true) jE,e,aM j,qA,rK J.Key I.Key,qA,qF j]
   simp only[qe,h0,decide_false,Bool.false_or]
   generalize Bn s.aEM[k].Key=a
   generalize bO s.aEM[k].aA=b
   by_cases hc:bH s.aEM[k-1].Key s.aEM[k].Key<0
   ·rw[if_neg (c:=(decide (bH s.aEM[k-1].Key s.aEM[k].Key>=0))=true) jE];cases a<;>cases b<;>simp[hc]
   ·rw[if_pos (c:=(decide (bH s.aEM[k-1].Key s.aEM[k].Key>=0))=true) jE];cases a<;>cases b<;>simp[hc]
 ·simp only[gS];rw[if_neg jK,fP C.Name,qA,dM,qA,fF,fF];congr 3;simp;omega
theorem F5{x:M.bB}(j:x.ok):mZ x=some (J9 x):=by unfold mZ J9;simp only[dM,lZ j.Key,fP j.Field,qA,fF]
theorem KE{o:M.aU}(j:o.ok):yN o=some (JO o):=by have I:=le_max j.aEm.1;unfold yN JO;rw[Bh (L:=kG o) (g:=F4 o) (F:=some false) (E:=some true) j.aEm.1 (λn k hk=> ?_) (λn=> ?_)];(simp only[fY,qA];by_cases h:o.aEm.length<=20;(rw[if_neg (c:=(decide ((List.length o.aEm:Int)>20))=true) jE];cases (List.range o.aEm.length).all (F4 o)<;>cases inR o.aEd 1 1000000<;>cases inR o.aFB 1 1000000<;>simp[h]);·rw[if_pos (c:=(decide ((List.length o.aEm:Int)>20))=true) jE];cases inR o.aEd 1 1000000<;>cases inR o.aFB 1 1000000<;>simp[h]);(have C:=j.aEm.2 _ (qG hk);simp only[kG];rw[if_pos (bL hk),aM hk,qA,bI jD,F8 C,qA];unfold F4;rw[qF hk,qe];simp only[HK,DQ,V3]);·simp only[kG];rw[if_neg jK]
theorem Kp{o:M.aU}(j:o.ok):yC o=some (JO o):=by have I:=le_max j.aEm.1;unfold yC JO;rw[Bh (L:=kH o) (g:=F4 o) (F:=some false) (E:=some (inR o.aEd 1 1000000&&(inR o.aFB 1 1000000&&decide (o.aEm.length<=20)))) j.aEm.1 (λn k hk=> ?_) (λn=> ?_),fF];(have C:=j.aEm.2 _ (qG hk);simp only[kH];rw[if_pos (bL hk),aM hk,qA,bI jD,F5 C,qA];unfold F4;rw[qF hk,qe];simp only[HK,DQ,V3]);·simp only[kH];rw[if_neg jK];simp only[dM,qA,fF];congr 3;simp;omega
def Hy(r:M.aF):Bool:=kZ r.aEe&&((r.aEe.Name.toList==(⟨#[110,111,116,101,115]⟩:ByteArray).toList)&&(inR r.aFF 0 1000000000000&&JO r.aEf.aU))
theorem Ja{r:M.aF}(j:r.ok):vQ r=some (Hy r):=by unfold vQ Hy;simp only[CG j.aEe,fY,KE j.aEf.aU,qA,fF]
theorem Jh{r:M.aF}(j:r.ok):wK r=some (Hy r):=by unfold wK Hy;simp only[Ai j.aEe,dM,Kp j.aEf.aU,qA,fF]
