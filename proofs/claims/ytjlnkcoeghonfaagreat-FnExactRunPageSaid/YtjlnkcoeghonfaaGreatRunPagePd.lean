/-
  Helper text. No conditions.
-/
import Derived.Test.YtjlnkcoeghonfaaGreatRunPagePc
set_option linter.all false
namespace Go.Proofs.YtjlnkcoeghonfaaGreat.gen
open Go Go.Sh
def Ey(l:List M.aJt)(k:Nat):Bool:=(l[k]?).any (λx=>Dv x.Key&&bU x.aC)&&(decide (k=0)||(l[k-1]?).any λy=>(l[k]?).any λx=>decide (bP y.Key x.Key<0))
def lQ(s:M.aD):Bool:=(List.range s.aJm.length).all (Ey s.aJm)&&(mN s.Name&&(decide (s.aJm.length<=16)&&inR s.aKG 0 1000000))
def Ls(x:M.aY):Bool:=inR x.aJy 1 1000000&&(inR x.Seq 1 1000000&&(Dv x.Key&&(mN x.Field&&inR x.N 0 1000000000)))
def Jh(o:M.aM)(k:Nat):Bool:=(o.aJ9[k]?).any λx=>Ls x&&((x.aJy==o.aJy)&&(x.Seq==IntKind.i64.wrap ((IntKind.i64.wrap (o.aKU-(List.length o.aJ9:Int)))+(k:Int))))
def FN(o:M.aM):Bool:=(List.range o.aJ9.length).all (Jh o)&&(inR o.aJy 1 1000000&&(inR o.aKU 1 1000000&&decide (o.aJ9.length<=20)))
theorem CS{s:M.aD}(C:s.ok):oV s=some (lQ s):=by
 have U:=le_max C.aJm.1
 unfold oV lQ
 rw[oS (L:=iQ s) (g:=Ey s.aJm) (F:=some false) (E:=some (mN s.Name&&(decide (s.aJm.length<=16)&&inR s.aKG 0 1000000))) C.aJm.1 (λn k hk=> ?_) (λn=> ?_),bY]
 ·have I:=C.aJm.2 _ (qG hk)
  simp only[iQ]
  rw[if_pos (bE hk),aH hk,qA,bG jD,mD I.Key,qA,pI I.aC,qA]
  unfold Ey
  rw[qF hk]
  generalize iQ s n ((k+1:Nat):Int)=Z
  by_cases h0:k=0
  ·subst h0;simp only[qe];generalize Dv s.aJm[0].Key=a;generalize bU s.aJm[0].aC=b;cases a<;>cases b<;>simp
  ·have e:IntKind.i64.wrap ((k:Int)-1)=((k-1:Nat):Int):=by rw[bI jD jD];omega
   have j:k-1<s.aJm.length:=by omega
   have J:=C.aJm.2 _ (qG j)
   rw[if_pos (c:=(decide ((k:Int)>0))=true) jE,e,aH j,qA,vW J.Key I.Key,qA,qF j]
   simp only[qe,h0,decide_false,Bool.false_or]
   generalize Dv s.aJm[k].Key=a
   generalize bU s.aJm[k].aC=b
   by_cases hc:bP s.aJm[k-1].Key s.aJm[k].Key<0
   ·rw[if_neg (c:=(decide (bP s.aJm[k-1].Key s.aJm[k].Key>=0))=true) jE];cases a<;>cases b<;>simp[hc]
   ·rw[if_pos (c:=(decide (bP s.aJm[k-1].Key s.aJm[k].Key>=0))=true) jE];cases a<;>cases b<;>simp[hc]
 ·simp only[iQ];rw[if_neg jK,dG C.Name,qA,cG,qA,bY,bY];congr 3;simp;omega
theorem Fq{x:M.aY}(j:x.ok):nF x=some (Ls x):=by unfold nF Ls;simp only[cG,mD j.Key,dG j.Field,qA,bY]
theorem Ay{s:M.aD}(C:s.ok):bT s=some (lQ s):=by
 have U:=le_max C.aJm.1
 unfold bT lQ
 rw[oS (L:=iR s) (g:=Ey s.aJm) (F:=some false) (E:=some (mN s.Name&&(decide (s.aJm.length<=16)&&inR s.aKG 0 1000000))) C.aJm.1 (λn k hk=> ?_) (λn=> ?_),bY]
 ·have I:=C.aJm.2 _ (qG hk)
  simp only[iR]
  rw[if_pos (bE hk),aH hk,qA,bG jD,oZ I.Key,qA,wZ I.aC,qA]
  unfold Ey
  rw[qF hk]
  generalize iR s n ((k+1:Nat):Int)=Z
  by_cases h0:k=0
  ·subst h0;simp only[qe];generalize Dv s.aJm[0].Key=a;generalize bU s.aJm[0].aC=b;cases a<;>cases b<;>simp
  ·have e:IntKind.i64.wrap ((k:Int)-1)=((k-1:Nat):Int):=by rw[bI jD jD];omega
   have j:k-1<s.aJm.length:=by omega
   have J:=C.aJm.2 _ (qG j)
   rw[if_pos (c:=(decide ((k:Int)>0))=true) jE,e,aH j,qA,vM J.Key I.Key,qA,qF j]
   simp only[qe,h0,decide_false,Bool.false_or]
   generalize Dv s.aJm[k].Key=a
   generalize bU s.aJm[k].aC=b
   by_cases hc:bP s.aJm[k-1].Key s.aJm[k].Key<0
   ·rw[if_neg (c:=(decide (bP s.aJm[k-1].Key s.aJm[k].Key>=0))=true) jE];cases a<;>cases b<;>simp[hc]
   ·rw[if_pos (c:=(decide (bP s.aJm[k-1].Key s.aJm[k].Key>=0))=true) jE];cases a<;>cases b<;>simp[hc]
 ·simp only[iR];rw[if_neg jK,cT C.Name,qA,bR,qA,bY,bY];congr 3;simp;omega
theorem Fm{x:M.aY}(j:x.ok):mX x=some (Ls x):=by unfold mX Ls;simp only[bR,oZ j.Key,cT j.Field,qA,bY]
theorem Ge{o:M.aM}(j:o.ok):sX o=some (FN o):=by have I:=le_max j.aJ9.1;unfold sX FN;rw[oS (L:=mJ o) (g:=Jh o) (F:=some false) (E:=some true) j.aJ9.1 (λn k hk=> ?_) (λn=> ?_)];(simp only[cG,qA];by_cases h:o.aJ9.length<=20;(rw[if_neg (c:=(decide ((List.length o.aJ9:Int)>20))=true) jE];cases (List.range o.aJ9.length).all (Jh o)<;>cases inR o.aJy 1 1000000<;>cases inR o.aKU 1 1000000<;>simp[h]);·rw[if_pos (c:=(decide ((List.length o.aJ9:Int)>20))=true) jE];cases inR o.aJy 1 1000000<;>cases inR o.aKU 1 1000000<;>simp[h]);(have C:=j.aJ9.2 _ (qG hk);simp only[mJ];rw[if_pos (bE hk),aH hk,qA,bG jD,Fq C,qA];unfold Jh;rw[qF hk,qe];simp only[GD,C8,X0]);·simp only[mJ];rw[if_neg jK]
theorem F9{o:M.aM}(j:o.ok):sS o=some (FN o):=by have I:=le_max j.aJ9.1;unfold sS FN;rw[oS (L:=mK o) (g:=Jh o) (F:=some false) (E:=some (inR o.aJy 1 1000000&&(inR o.aKU 1 1000000&&decide (o.aJ9.length<=20)))) j.aJ9.1 (λn k hk=> ?_) (λn=> ?_),bY];(have C:=j.aJ9.2 _ (qG hk);simp only[mK];rw[if_pos (bE hk),aH hk,qA,bG jD,Fm C,qA];unfold Jh;rw[qF hk,qe];simp only[GD,C8,X0]);·simp only[mK];rw[if_neg jK];simp only[bR,qA,bY];congr 3;simp;omega
def Gz(r:M.aE):Bool:=lQ r.aJ8&&((r.aJ8.Name.toList==(⟨#[110,111,116,101,115]⟩:ByteArray).toList)&&(inR r.aKe 0 1000000000000&&FN r.aJ7.aM))
theorem HP{r:M.aE}(j:r.ok):tT r=some (Gz r):=by unfold tT Gz;simp only[CS j.aJ8,cG,Ge j.aJ7.aM,qA,bY]
theorem HS{r:M.aE}(j:r.ok):uN r=some (Gz r):=by unfold uN Gz;simp only[Ay j.aJ8,bR,F9 j.aJ7.aM,qA,bY]
