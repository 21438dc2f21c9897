/-
  Helper text. No conditions.
-/
import Derived.Test.YtbpbocchokbggaaGreatWriteNotePm
set_option linter.all false
namespace Go.Proofs.YtbpbocchokbggaaGreat.gen
open Go Go.Sh
open Go.IntKind (i64)
theorem fY(x a b:Int):bZ x a b=some (inR x a b):=by unfold bZ inR;by_cases h:a<=x;(rw[if_pos (by simpa using h)];simp[h]);·rw[if_neg (by simpa using h)];simp[h]
theorem dM(x a b:Int):bG x a b=some (inR x a b):=by unfold bG inR;by_cases h:a<=x;(rw[if_pos (by simpa using h)];simp[h]);·rw[if_neg (by simpa using h)];simp[h]
def JV(r:M.aEQ)(b:Bool):Int:=if b=true then 76 else i64.wrap (16+(List.length r.aFA:Int))
theorem Iz(r:M.aEQ)(b:Bool):tC r b=some (JV r b):=by unfold tC JV;cases b<;>rfl
theorem H8(r:M.aEQ)(b:Bool):uD r b=some (JV r b):=by unfold uD JV;cases b<;>rfl
def QK(v:Int)(x:M.aEW):Int:=i64.wrap (v+JV x.aEQ (x.aEQ.aE8==3))
def Dw(s:M.aP):Int:=s.aEV.foldl (λv c=>c.aEa.foldl QK v) 0
theorem IA{s:M.aP}(C:s.ok):sU s=some (Dw s):=by have hm:=le_max C.aEV.1;unfold sU Dw;refine Gl (L:=dS s) (E:=some) C.aEV.1 (λn v k hk=> ?_) (λn v=> ?_) 0;(have hc:=C.aEV.2 _ (qG hk);have U:=le_max hc.aEa.1;simp only[dS];rw[if_pos (bL hk),bI jD];refine Gl (xs:=s.aEV[k].aEa) (L:=hJ s (k:Int) (λI _=>dS s n I ((k+1:Nat):Int))) (E:=λI=>dS s n I ((k+1:Nat):Int)) hc.aEa.1 (λn v j J=> ?_) (λn v=> ?_) v;(simp only[hJ];rw[aM hk,qA,if_pos (bL J),aM J,qA,Iz,qA,bI jD];rfl);·simp only[hJ];rw[aM hk,qA,if_neg jK]);·simp only[dS];rw[if_neg jK]
theorem Ih{s:M.aP}(C:s.ok):tU s=some (Dw s):=by have hm:=le_max C.aEV.1;unfold tU Dw;refine Gl (L:=eA s) (E:=some) C.aEV.1 (λn v k hk=> ?_) (λn v=> ?_) 0;(have hc:=C.aEV.2 _ (qG hk);have U:=le_max hc.aEa.1;simp only[eA];rw[if_pos (bL hk),bI jD,aM hk,qA];refine Gl (xs:=s.aEV[k].aEa) (L:=gY s.aEV[k] (λI _=>eA s n I ((k+1:Nat):Int))) (E:=λI=>eA s n I ((k+1:Nat):Int)) hc.aEa.1 (λn v j J=> ?_) (λn v=> ?_) v;(simp only[gY];rw[if_pos (bL J),aM J,qA,H8,qA,bI jD];rfl);·simp only[gY];rw[if_neg jK]);·simp only[eA];rw[if_neg jK]
def N0(b:UInt8):Bool:=(decide (97<=b.toNat)&&decide (b.toNat<=122))||(decide (48<=b.toNat)&&decide (b.toNat<=57))
def Nb(s:ByteArray):Bool:=Td s N0&&decide (s.size<=12)
theorem L0{s:ByteArray}(j:s.size<=maxLen):zA s=some (Nb s):=by
 have C:=le_max j
 unfold zA Nb
 rw[JJ (L:=gI s) (g:=N0) (F:=some false) (E:=some (decide (s.size<=12))) j (λn k hk=> ?_) (λn=> ?_),fF]
 ·simp only[gI]
  rw[if_pos (bL hk),JF hk,qA,bI jD]
  generalize s[k]=b
  unfold N0
  generalize gI s n ((k+1:Nat):Int)=Z
  simp only[Bool.or_eq_true,qM,qL,Bool.not_eq_true',decide_eq_false_iff_not]
  repeat' split
  all_goals first|rfl|(exfalso;omega)
 ·simp only[gI];rw[if_neg jK];simp;omega
theorem Jb{s:ByteArray}(j:s.size<=maxLen):vF s=some (Nb s):=by
 have C:=le_max j
 unfold vF Nb
 rw[JJ (L:=dN s) (g:=N0) (F:=some false) (E:=some (decide (s.size<=12))) j (λn k hk=> ?_) (λn=> ?_),fF]
 ·simp only[dN]
  rw[if_pos (bL hk),JF hk,qA,bI jD]
  generalize s[k]=b
  unfold N0
  generalize dN s n ((k+1:Nat):Int)=Z
  simp only[Bool.or_eq_true,qM,qL,Bool.not_eq_true',decide_eq_false_iff_not]
  repeat' split
  all_goals first|rfl|(exfalso;omega)
 ·simp only[dN];rw[if_neg jK];simp;omega
def Bn(k:M.Key):Bool:=inR k.aEc 1 3&&(inR k.N (-1000000000000) 1000000000000&&(Nb k.aEj&&((k.aEc !=2||k.N==0)&&(k.aEc !=1||(k.aEj.toList==(⟨#[]⟩:ByteArray).toList)))))
theorem kC{k:M.Key}(hk:k.ok):eJ k=some (Bn k):=by have j:=L0 hk.aEj;unfold eJ Bn;simp only[fY,j,qA];generalize inR k.aEc 1 3=a;generalize inR k.N (-1000000000000) 1000000000000=b;generalize Nb k.aEj=c;generalize (k.aEj.toList==(⟨#[]⟩:ByteArray).toList)=g;by_cases h1:k.aEc=2<;>by_cases h2:k.aEc=1<;>by_cases h3:k.N=0<;>cases a<;>cases b<;>cases c<;>cases g<;>simp[h1,h2,h3]<;>omega
theorem lZ{k:M.Key}(hk:k.ok):fX k=some (Bn k):=by have j:=Jb hk.aEj;unfold fX Bn;simp only[dM,j,qA];generalize inR k.aEc 1 3=a;generalize inR k.N (-1000000000000) 1000000000000=b;generalize Nb k.aEj=c;generalize (k.aEj.toList==(⟨#[]⟩:ByteArray).toList)=g;by_cases h1:k.aEc=2<;>by_cases h2:k.aEc=1<;>by_cases h3:k.N=0<;>cases a<;>cases b<;>cases c<;>cases g<;>simp[h1,h2,h3]<;>omega
theorem Eb{k:M.Key}(h:Bn k=true):k.aEj.size<=12:=by unfold Bn Nb at h;simp only[qM,qL]at h;omega
def JN(k:M.Key):Nat:=if Bn k=true then if(k.aEc==2)=true then 1+k.aEj.size else 7+k.aEj.size else 0
theorem Jr{k:M.Key}(hk:k.ok):∃l,iH k=some l/\l.length=JN k:=by
 unfold iH JN
 rw[kC hk,qA]
 by_cases h:Bn k=true
 ·have J:=Eb h
  have I:=aT k.aEj
  rw[if_neg (by simp[h]),if_pos h,TS]
  by_cases h2:(k.aEc==2)=true
  ·have h3:¬(k.aEc !=2)=true:=by simp[bne,h2]
   rw[if_pos h2]
   have C:∀n r,r.length<=7->bE k (n+1) 5 r=some (r++bC k.aEj):=by intro n r j;simp only[bE];rw[if_pos jG,if_neg h3,fR jD,qA]
   exact⟨_,C (18446744073709551609+6) _ jF,jE⟩
  ·have h3:(k.aEc !=2)=true:=by simp[bne,h2]
   rw[if_neg h2]
   have st:∀n (v:Nat) r,r.length<=7->v<=5->∃x:Int,bE k (n+1) (v:Int) r=bE k n ((v:Int)-1) (r++[x]):=by intro n v r j U;apply Exists.intro;simp only[bE];rw[if_pos jF,if_pos h3,if_pos (by rw[bP jD jD];simp;omega),fR jE,qA,bP (n:=(v:Int)-1) jD jD]
   obtain⟨x1,e1⟩:=st (18446744073709551609+6) 5 ([IntKind.u8.wrap k.aEc]) jF jF
   obtain⟨x2,e2⟩:=st (18446744073709551609+5) 4 ([IntKind.u8.wrap k.aEc]++[x1]) jF jF
   obtain⟨x3,e3⟩:=st (18446744073709551609+4) 3 ([IntKind.u8.wrap k.aEc]++[x1]++[x2]) jF jF
   obtain⟨x4,e4⟩:=st (18446744073709551609+3) 2 ([IntKind.u8.wrap k.aEc]++[x1]++[x2]++[x3]) jF jF
   obtain⟨x5,e5⟩:=st (18446744073709551609+2) 1 ([IntKind.u8.wrap k.aEc]++[x1]++[x2]++[x3]++[x4]) jF jF
   obtain⟨x6,e6⟩:=st (18446744073709551609+1) 0 ([IntKind.u8.wrap k.aEc]++[x1]++[x2]++[x3]++[x4]++[x5]) jF jF
   have e7:∀n r,r.length<=7->bE k (n+1) (-1) r=some (r++bC k.aEj):=by intro n r j;simp only[bE];rw[if_neg jG,fR jD,qA]
   exact⟨_,e1.trans (e2.trans (e3.trans (e4.trans (e5.trans (e6.trans (e7 _ _ jF)))))),jE⟩
 ·rw[if_pos (by simp[h]),if_neg h];exact⟨_,rfl,rfl⟩
theorem Jg{k:M.Key}(hk:k.ok):∃l,gJ k=some l/\l.length=JN k:=by
 unfold gJ JN
 rw[lZ hk,qA]
 by_cases h:Bn k=true
 ·have I:=Eb h
  have C:=aT k.aEj
  rw[if_neg (by simp[h]),if_pos h,TS]
  by_cases h2:(k.aEc==2)=true
  ·have h3:¬(k.aEc !=2)=true:=by simp[bne,h2]
   rw[if_pos h2,if_neg h3,fR jE,qA]
   exact⟨_,rfl,jE⟩
  ·have h3:(k.aEc !=2)=true:=by simp[bne,h2]
   rw[if_neg h2,if_pos h3]
   have st:∀n (v:Nat) r,r.length<=7->v<=5->∃x:Int,bX k (n+1) (v:Int) r=bX k n ((v:Int)-1) (r++[x]):=by intro n v r j J;apply Exists.intro;simp only[bX];rw[if_pos jF,if_pos (by rw[bP jD jD];simp;omega),fR jE,qA,bP (n:=(v:Int)-1) jD jD]
   obtain⟨x1,e1⟩:=st (18446744073709551609+6) 5 ([IntKind.u8.wrap k.aEc]) jF jF
   obtain⟨x2,e2⟩:=st (18446744073709551609+5) 4 ([IntKind.u8.wrap k.aEc]++[x1]) jF jF
   obtain⟨x3,e3⟩:=st (18446744073709551609+4) 3 ([IntKind.u8.wrap k.aEc]++[x1]++[x2]) jF jF
   obtain⟨x4,e4⟩:=st (18446744073709551609+3) 2 ([IntKind.u8.wrap k.aEc]++[x1]++[x2]++[x3]) jF jF
   obtain⟨x5,e5⟩:=st (18446744073709551609+2) 1 ([IntKind.u8.wrap k.aEc]++[x1]++[x2]++[x3]++[x4]) jF jF
   obtain⟨x6,e6⟩:=st (18446744073709551609+1) 0 ([IntKind.u8.wrap k.aEc]++[x1]++[x2]++[x3]++[x4]++[x5]) jF jF
   have e7:∀n r,r.length<=7->bX k (n+1) (-1) r=some (r++bC k.aEj):=by intro n r j;simp only[bX];rw[if_neg jG,fR jD,qA]
   exact⟨_,e1.trans (e2.trans (e3.trans (e4.trans (e5.trans (e6.trans (e7 _ _ jF)))))),jE⟩
 ·rw[if_pos (by simp[h]),if_neg h];exact⟨_,rfl,rfl⟩
def Lo(sl:Bool)(b:UInt8):Bool:=(decide (97<=b.toNat)&&decide (b.toNat<=122))||(sl&&decide (b.toNat=47))
def Wr(s:ByteArray)(n:Int)(sl:Bool):Bool:=Td s (Lo sl)&&inR (s.size:Int) 1 n
def sY(s:ByteArray):Bool:=Td s (Lo false)&&inR (s.size:Int) 1 8
theorem gN{s:ByteArray}(j:s.size<=maxLen):dK s=some (sY s):=by
 have C:=le_max j
 unfold dK sY
 rw[JJ (L:=lB s) (g:=Lo false) (F:=some false) (E:=some (inR (s.size:Int) 1 8)) j (λn k hk=> ?_) (λn=> ?_),fF]
 ·simp only[lB]
  rw[if_pos (bL hk),JF hk,qA,bI jD]
  generalize s[k]=b
  unfold Lo
  generalize lB s n ((k+1:Nat):Int)=Z
  simp only[Bool.or_eq_true,qM,qL,Bool.not_eq_true',decide_eq_false_iff_not,Bool.false_and,Bool.or_false]
  repeat' split
  all_goals first|rfl|(exfalso;omega)
 ·simp only[lB];rw[if_neg jK,fY,qA]
theorem LS{s:ByteArray}{m:Int}{sl:Bool}(j:s.size<=maxLen):Bz s m sl=some (Wr s m sl):=by
 have C:=le_max j
 unfold Bz Wr
 rw[JJ (L:=gK s m sl) (g:=Lo sl) (F:=some false) (E:=some (inR (s.size:Int) 1 m)) j (λn k hk=> ?_) (λn=> ?_),fF]
 ·simp only[gK]
  rw[if_pos (bL hk),JF hk,qA,bI jD]
  generalize s[k]=b
  unfold Lo
  generalize gK s m sl n ((k+1:Nat):Int)=Z
  cases sl<;>simp only[Bool.or_eq_true,qM,qL,Bool.not_eq_true',decide_eq_false_iff_not,Bool.false_and,Bool.or_false,Bool.true_and,beq_eq_false_iff_ne,ne_eq,qD,if_true,if_false]
  all_goals repeat' split
  all_goals first|rfl|(exfalso;omega)
 ·simp only[gK];rw[if_neg jK,dM,qA]
theorem fP{s:ByteArray}(j:s.size<=maxLen):cR s=some (sY s):=by unfold cR;rw[LS j,qA];rfl
def Pp(x:M.Field):Bool:=sY x.Name&&inR x.N 0 1000000000
def Ey(l:List M.Field)(k:Nat):Bool:=(l[k]?).any Pp&&(decide (k=0)||(l[k-1]?).any λy=>(l[k]?).any λx=>Op.bytesLess y.Name.toList x.Name.toList)
def bO(r:M.aA):Bool:=(List.range r.aEN.length).all (Ey r.aEN)&&decide (r.aEN.length<=6)
theorem mD{r:M.aA}(C:r.ok):bM r=some (bO r):=by
 have J:=le_max C.aEN.1
 unfold bM bO
 rw[Bh (L:=fL r) (g:=Ey r.aEN) (F:=some false) (E:=some (decide (r.aEN.length<=6))) C.aEN.1 (λn k hk=> ?_) (λn=> ?_),fF]
 ·have I:=C.aEN.2 _ (qG hk)
  simp only[fL]
  rw[if_pos (bL hk),aM hk,qA,bI jD,gN I.Name,qA,fY,qA]
  unfold Ey Pp
  rw[qF hk]
  generalize fL r n ((k+1:Nat):Int)=Z
  by_cases h0:k=0
  ·subst h0;simp only[qe];generalize sY r.aEN[0].Name=a;generalize inR r.aEN[0].N 0 1000000000=b;cases a<;>cases b<;>simp
  ·have e:i64.wrap ((k:Int)-1)=((k-1:Nat):Int):=by rw[bP jD jD];omega
   have j:k-1<r.aEN.length:=by omega
   rw[if_pos (c:=(decide ((k:Int)>0))=true) jE,e,aM j,qA,qF j]
   simp only[qe,h0,decide_false,Bool.false_or]
   generalize sY r.aEN[k].Name=a
   generalize inR r.aEN[k].N 0 1000000000=b
   generalize Op.bytesLess r.aEN[k-1].Name.toList r.aEN[k].Name.toList=c
   cases a<;>cases b<;>cases c<;>simp
 ·simp only[fL];rw[if_neg jK];simp;omega
theorem sQ{r:M.aA}(C:r.ok):cD r=some (bO r):=by
 have J:=le_max C.aEN.1
 unfold cD bO
 rw[Bh (L:=fS r) (g:=Ey r.aEN) (F:=some false) (E:=some (decide (r.aEN.length<=6))) C.aEN.1 (λn k hk=> ?_) (λn=> ?_),fF]
 ·have I:=C.aEN.2 _ (qG hk)
  simp only[fS]
  rw[if_pos (bL hk),aM hk,qA,bI jD,fP I.Name,qA,dM,qA]
  unfold Ey Pp
  rw[qF hk]
  generalize fS r n ((k+1:Nat):Int)=Z
  by_cases h0:k=0
  ·subst h0;simp only[qe];generalize sY r.aEN[0].Name=a;generalize inR r.aEN[0].N 0 1000000000=b;cases a<;>cases b<;>simp
  ·have e:i64.wrap ((k:Int)-1)=((k-1:Nat):Int):=by rw[bP jD jD];omega
   have j:k-1<r.aEN.length:=by omega
   rw[if_pos (c:=(decide ((k:Int)>0))=true) jE,e,aM j,qA,qF j]
   simp only[qe,h0,decide_false,Bool.false_or]
   rw[zX r.aEN[k-1].Name.toList r.aEN[k].Name.toList]
   generalize sY r.aEN[k].Name=a
   generalize inR r.aEN[k].N 0 1000000000=b
   generalize (Op.bytesLess r.aEN[k].Name.toList r.aEN[k-1].Name.toList||r.aEN[k].Name.toList==r.aEN[k-1].Name.toList)=c
   cases a<;>cases b<;>cases c<;>simp
 ·simp only[fS];rw[if_neg jK];simp;omega
theorem rL{r:M.aA}(h:bO r=true):r.aEN.length<=6/\∀x∈r.aEN,x.Name.size<=8/\0<=x.N/\x.N<=1000000000:=by unfold bO at h;simp only[qM,qL,qR,qS]at h;refine⟨h.2,λx j=> ?_⟩;obtain⟨k,hk,rfl⟩:=List.getElem_of_mem j;have:=h.1 k hk;unfold Ey Pp sY inR at this;rw[qF hk]at this;simp only[qe,qM,qL]at this;omega
theorem Ah{r:List Int}{n:Nat}(I:r.length<=1048576)(C:n<=1000000000000):∃l,bU r (n:Int)=some l/\l.length=r.length+(uv n).length:=by
 have j:inR (n:Int) 0 1000000000000=true:=by unfold inR;simp;omega
 unfold bU
 rw[fR jE,qA,fY,qA,j,if_neg jF]
 refine Rw (L:=cG) (b:=λv=>IntKind.u8.wrap (i64.wrap (BitVec.ofInt (IntKind.i64.bits) (i64.wrap (BitVec.ofInt (IntKind.i64.bits) v&&&BitVec.ofInt (IntKind.i64.bits) 127).toNat)|||BitVec.ofInt (IntKind.i64.bits) 128).toNat)) (c:=λv=>IntKind.u8.wrap v) (λm n r h1 h2=> ?_) (λm n r h1=> ?_) 8 fuel n r jD jD jI jD
 ·simp only[cG];rw[if_pos jE,uvf]
 ·simp only[cG];rw[if_neg jE]
theorem Af{r:List Int}{n:Nat}(I:r.length<=1048576)(C:n<=1000000000000):∃l,cA r (n:Int)=some l/\l.length=r.length+(uv n).length:=by
 have j:inR (n:Int) 0 1000000000000=true:=by unfold inR;simp;omega
 unfold cA dG
 rw[fR jE,qA,qA,dM,qA,j,if_neg jF]
 refine Rw (L:=cF) (b:=λv=>IntKind.u8.wrap (i64.wrap ((Int.tmod v 128)+128))) (c:=λv=>IntKind.u8.wrap v) (λm n r h1 h2=> ?_) (λm n r h1=> ?_) 8 fuel n r jD jD jI jD
 ·simp only[cF];rw[if_pos jE,uvt h2]
 ·simp only[cF];rw[if_neg jE]
def BM(x:M.Field):Nat:=(uv x.Name.size).length+x.Name.size+(uv x.N.toNat).length
def J0(r:M.aA):Nat:=if bO r=true then(uv r.aEN.length).length+aV BM r.aEN else 0
theorem HB{r b:List Int}(C:r.length<=1000)(hb:b.length<=1000):∃l,bT r b=some l/\l.length=r.length+((uv b.length).length+b.length):=by obtain⟨l,e,j⟩:=Ah (r:=r) (n:=b.length) jD jD;have h9:=Gb b.length jD;refine⟨l++b,?_,jE⟩;unfold bT;rw[e,qA,fR jD,qA]
theorem Gx{r:M.aA}(hr:r.ok):∃l,eX r=some l/\l.length=J0 r:=by
 unfold eX J0
 rw[mD hr,qA]
 by_cases h:bO r=true
 ·obtain⟨h6,I⟩:=rL h
  have U:∀x∈r.aEN,BM x<=26:=by intro x j;have:=I x j;have h1:=Gb x.Name.size jD;have h2:=Gb x.N.toNat jD;unfold BM;omega
  have hsum:=xX U
  obtain⟨l,e,J⟩:=Ah (r:=[]) (n:=r.aEN.length) jF jD
  have h9:=Gb r.aEN.length jD
  rw[if_neg (by simp[h]),if_pos h,e,qA]
  have:=O8 (xs:=r.aEN) (w:=BM) (B:=900) (L:=cH r) (λn k hk q hq=> ?_) (λn q=> ?_) fuel 0 l jI jD (by simp at J⊢;omega)
  ·obtain⟨z,e2,hz⟩:=this;exact⟨z,e2,by simp at J hz;omega⟩
  ·have j:=I _ (qG hk);have hw2:=U _ (qG hk);obtain⟨a,ea,ha⟩:=HB (r:=q) (b:=bC r.aEN[k].Name) jD (by rw[aT];omega);rw[aT]at ha;have hn:=Gb r.aEN[k].Name.size jD;obtain⟨b,C,hb⟩:=Ah (r:=a) (n:=r.aEN[k].N.toNat) jD jD;rw[Int.toNat_of_nonneg j.2.1]at C;refine⟨b,by unfold BM;omega,?_⟩;simp only[cH];rw[if_pos (bL hk),aM hk,qA,ea,qA,C,qA,bI jD]
  ·simp only[cH];rw[if_neg jK]
 ·rw[if_pos (by simp[h]),if_neg h];exact⟨_,rfl,rfl⟩
theorem Hs{r b:List Int}(C:r.length<=1000)(hb:b.length<=1000):∃l,fQ r b=some l/\l.length=r.length+((uv b.length).length+b.length):=by obtain⟨l,e,j⟩:=Af (r:=r) (n:=b.length) jD jD;have h9:=Gb b.length jD;refine⟨l++b,?_,jE⟩;unfold fQ;rw[e,qA,fR jD,qA]
theorem GD{r:M.aA}(hr:r.ok):∃l,eP r=some l/\l.length=J0 r:=by
 unfold eP J0
 rw[sQ hr,qA]
 by_cases h:bO r=true
 ·obtain⟨h6,I⟩:=rL h
  have U:∀x∈r.aEN,BM x<=26:=by intro x j;have:=I x j;have h1:=Gb x.Name.size jD;have h2:=Gb x.N.toNat jD;unfold BM;omega
  have hsum:=xX U
  obtain⟨l,e,J⟩:=Af (r:=[]) (n:=r.aEN.length) jF jD
  have h9:=Gb r.aEN.length jD
  rw[if_neg (by simp[h]),if_pos h,e,qA]
  have:=O8 (xs:=r.aEN) (w:=BM) (B:=900) (L:=cJ r) (λn k hk q hq=> ?_) (λn q=> ?_) fuel 0 l jI jD (by simp at J⊢;omega)
  ·obtain⟨z,e2,hz⟩:=this;exact⟨z,e2,by simp at J hz;omega⟩
  ·have j:=I _ (qG hk);have hw2:=U _ (qG hk);obtain⟨a,ea,ha⟩:=Hs (r:=q) (b:=bC r.aEN[k].Name) jD (by rw[aT];omega);rw[aT]at ha;have hn:=Gb r.aEN[k].Name.size jD;obtain⟨b,C,hb⟩:=Af (r:=a) (n:=r.aEN[k].N.toNat) jD jD;rw[Int.toNat_of_nonneg j.2.1]at C;refine⟨b,by unfold BM;omega,?_⟩;simp only[cJ];rw[if_pos (bL hk),aM hk,qA,ea,qA,C,qA,bI jD]
  ·simp only[cJ];rw[if_neg jK]
 ·rw[if_pos (by simp[h]),if_neg h];exact⟨_,rfl,rfl⟩
def JQ(v:Int)(x:M.aES):Int:=i64.wrap (v+((JN x.Key:Int)+(J0 x.aA:Int)))
def Dk(s:M.aC):Int:=s.aEM.foldl JQ 0
def BE(d:M.aEK):Int:=d.aEU.foldl (λv s=>i64.wrap (v+Dk s)) 0
def Nw(b:M.aEJ):Int:=i64.wrap ((i64.wrap ((i64.wrap (Dw b.aEV+i64.wrap (BE b.bK.aEe+(List.length b.bK.Log:Int))))+Dk b.aF.aEe))+(i64.wrap (40*(List.length b.aF.aEf.aU.aEm:Int))))
theorem EW{s:M.aC}(j:s.ok):pM s=some (Dk s):=by have hm:=le_max j.aEM.1;unfold pM Dk;refine Gl (L:=iN s) (E:=some) j.aEM.1 (λn v k hk=> ?_) (λn v=> ?_) 0;(have C:=j.aEM.2 _ (qG hk);obtain⟨a,I,U⟩:=Jr C.Key;obtain⟨b,J,hb⟩:=Gx C.aA;simp only[iN];rw[if_pos (bL hk),aM hk,qA,I,qA,J,qA,bI jD,U,hb];unfold JQ;rw[wrap_add,Int.add_assoc]);·simp only[iN];rw[if_neg jK]
theorem GM{d:M.aEK}(j:d.ok):oM d=some (BE d):=by have I:=le_max j.aEU.1;unfold oM BE;refine Gl (L:=fJ d) (E:=some) j.aEU.1 (λn v k hk=> ?_) (λn v=> ?_) 0;(have C:=j.aEU.2 _ (qG hk);simp only[fJ];rw[if_pos (bL hk),aM hk,qA,EW C,qA,bI jD]);·simp only[fJ];rw[if_neg jK]
theorem KZ{b:M.aEJ}(hb:b.ok):AE b=some (Nw b):=by unfold AE B3 Nw;rw[IA hb.aEV,qA,GM hb.bK.aEe,qA,qA,EW hb.aF.aEe,qA]
theorem EP{s:M.aC}(j:s.ok):pG s=some (Dk s):=by have hm:=le_max j.aEM.1;unfold pG Dk;refine Gl (L:=iI s) (E:=some) j.aEM.1 (λn v k hk=> ?_) (λn v=> ?_) 0;(have C:=j.aEM.2 _ (qG hk);obtain⟨a,I,U⟩:=Jg C.Key;obtain⟨b,J,hb⟩:=GD C.aA;simp only[iI];rw[if_pos (bL hk),aM hk,qA,I,qA,J,qA,bI jD,U,hb];unfold JQ;rw[SM]);·simp only[iI];rw[if_neg jK]
theorem Gp{d:M.aEK}(j:d.ok):oI d=some (BE d):=by have I:=le_max j.aEU.1;unfold oI BE;refine Gl (L:=fG d) (E:=some) j.aEU.1 (λn v k hk=> ?_) (λn v=> ?_) 0;(have C:=j.aEU.2 _ (qG hk);simp only[fG];rw[if_pos (bL hk),aM hk,qA,EP C,qA,bI jD]);·simp only[fG];rw[if_neg jK]
theorem K7{b:M.aEJ}(hb:b.ok):Al b=some (Nw b):=by unfold Al BI Nw;rw[Ih hb.aEV,qA,Gp hb.bK.aEe,qA,qA,EP hb.aF.aEe,qA]
