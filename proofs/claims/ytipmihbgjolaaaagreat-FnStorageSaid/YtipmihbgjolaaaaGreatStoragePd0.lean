/-
  Helper text. No conditions.
-/
import Derived.Test.YtipmihbgjolaaaaGreatStoragePz
set_option linter.unusedVariables false
set_option linter.unusedSimpArgs false
namespace Go.Proofs.YtipmihbgjolaaaaGreat.gen
open Go Go.Sh
open Go.IntKind (i64)
theorem dB(x a b:Int):aZ x a b=some (inR x a b):=by unfold aZ inR;by_cases h:a<=x;(rw[if_pos (by simpa using h)];simp[h]);·rw[if_neg (by simpa using h)];simp[h]
theorem eY(x a b:Int):bF x a b=some (inR x a b):=by unfold bF inR;by_cases h:a<=x;(rw[if_pos (by simpa using h)];simp[h]);·rw[if_neg (by simpa using h)];simp[h]
def B7(r:M.Y7)(b:Bool):Int:=if b=true then 76 else i64.wrap (16+(List.length r.ZE:Int))
theorem E2(r:M.Y7)(b:Bool):sG r b=some (B7 r b):=by unfold sG B7;cases b<;>rfl
theorem Ex(r:M.Y7)(b:Bool):sV r b=some (B7 r b):=by unfold sV B7;cases b<;>rfl
def CM(v:Int)(x:M.Zb):Int:=i64.wrap (v+B7 x.Y7 (x.Y7.ZC==3))
def tA(s:M.aE):Int:=s.Y1.foldl (λv c=>c.Y8.foldl CM v) 0
theorem E5{s:M.aE}(J:s.ok):rY s=some (tA s):=by have hm:=le_max J.Y1.1;unfold rY tA;refine C9 (L:=dO s) (E:=some) J.Y1.1 (λn v k C=> ?_) (λn v=> ?_) 0;(have U:=J.Y1.2 _ (qG C);have hm2:=le_max U.Y8.1;simp only[dO];rw[if_pos (aY C),bN qc];refine C9 (xs:=s.Y1[k].Y8) (L:=gP s (k:Int) (λI _=>dO s n I ((k+1:Nat):Int))) (E:=λI=>dO s n I ((k+1:Nat):Int)) U.Y8.1 (λn v j hj=> ?_) (λn v=> ?_) v;(simp only[gP];rw[aN C,qA,if_pos (aY hj),aN hj,qA,E2,qA,bN qc];rfl);·simp only[gP];rw[aN C,qA,if_neg ql]);·simp only[dO];rw[if_neg ql]
theorem EC{s:M.aE}(J:s.ok):sM s=some (tA s):=by have hm:=le_max J.Y1.1;unfold sM tA;refine C9 (L:=dX s) (E:=some) J.Y1.1 (λn v k I=> ?_) (λn v=> ?_) 0;(have U:=J.Y1.2 _ (qG I);have hm2:=le_max U.Y8.1;simp only[dX];rw[if_pos (aY I),bN qc,aN I,qA];refine C9 (xs:=s.Y1[k].Y8) (L:=gO s.Y1[k] (λC _=>dX s n C ((k+1:Nat):Int))) (E:=λC=>dX s n C ((k+1:Nat):Int)) U.Y8.1 (λn v j hj=> ?_) (λn v=> ?_) v;(simp only[gO];rw[if_pos (aY hj),aN hj,qA,Ex,qA,bN qc];rfl);·simp only[gO];rw[if_neg ql]);·simp only[dX];rw[if_neg ql]
def KB(b:UInt8):Bool:=(decide (97<=b.toNat)&&decide (b.toNat<=122))||(decide (48<=b.toNat)&&decide (b.toNat<=57))
def HC(s:ByteArray):Bool:=P1 s KB&&decide (s.size<=12)
theorem IL{s:ByteArray}(C:s.size<=maxLen):vC s=some (HC s):=by
 have I:=le_max C
 unfold vC HC
 rw[Gu (L:=fZ s) (g:=KB) (F:=some false) (E:=some (decide (s.size<=12))) C (λn k j=> ?_) (λn=> ?_),aW]
 ·simp only[fZ]
  rw[if_pos (aY j),Gl j,qA,bN qc]
  generalize s[k]=b
  unfold KB
  generalize fZ s n ((k+1:Nat):Int)=Z
  simp only[Bool.or_eq_true,qM,qL,Bool.not_eq_true',decide_eq_false_iff_not]
  repeat' split
  all_goals first|rfl|(exfalso;omega)
 ·simp only[fZ];rw[if_neg ql];simp;omega
theorem FM{s:ByteArray}(C:s.size<=maxLen):tG s=some (HC s):=by
 have I:=le_max C
 unfold tG HC
 rw[Gu (L:=dJ s) (g:=KB) (F:=some false) (E:=some (decide (s.size<=12))) C (λn k j=> ?_) (λn=> ?_),aW]
 ·simp only[dJ]
  rw[if_pos (aY j),Gl j,qA,bN qc]
  generalize s[k]=b
  unfold KB
  generalize dJ s n ((k+1:Nat):Int)=Z
  simp only[Bool.or_eq_true,qM,qL,Bool.not_eq_true',decide_eq_false_iff_not]
  repeat' split
  all_goals first|rfl|(exfalso;omega)
 ·simp only[dJ];rw[if_neg ql];simp;omega
def zQ(k:M.Key):Bool:=inR k.Zi 1 3&&(inR k.N (-1000000000000) 1000000000000&&(HC k.Zp&&((k.Zi !=2||k.N==0)&&(k.Zi !=1||(k.Zp.toList==(⟨#[]⟩:ByteArray).toList)))))
theorem jN{k:M.Key}(j:k.ok):eH k=some (zQ k):=by have C:=IL j.Zp;unfold eH zQ;simp only[dB,C,qA];generalize inR k.Zi 1 3=a;generalize inR k.N (-1000000000000) 1000000000000=b;generalize HC k.Zp=c;generalize (k.Zp.toList==(⟨#[]⟩:ByteArray).toList)=g;by_cases h1:k.Zi=2<;>by_cases h2:k.Zi=1<;>by_cases h3:k.N=0<;>cases a<;>cases b<;>cases c<;>cases g<;>simp[h1,h2,h3]<;>omega
theorem zB{k:M.Key}(j:k.ok):pV k=some (zQ k):=by have C:=FM j.Zp;unfold pV zQ;simp only[eY,C,qA];generalize inR k.Zi 1 3=a;generalize inR k.N (-1000000000000) 1000000000000=b;generalize HC k.Zp=c;generalize (k.Zp.toList==(⟨#[]⟩:ByteArray).toList)=g;by_cases h1:k.Zi=2<;>by_cases h2:k.Zi=1<;>by_cases h3:k.N=0<;>cases a<;>cases b<;>cases c<;>cases g<;>simp[h1,h2,h3]<;>omega
theorem Bc{k:M.Key}(h:zQ k=true):k.Zp.size<=12:=by unfold zQ HC at h;simp only[qM,qL]at h;omega
def Dc(k:M.Key):Nat:=if zQ k=true then if(k.Zi==2)=true then 1+k.Zp.size else 7+k.Zp.size else 0
theorem F5{k:M.Key}(hk:k.ok):∃l,iD k=some l/\l.length=Dc k:=by
 unfold iD Dc
 rw[jN hk,qA]
 by_cases h:zQ k=true
 ·have ht:=Bc h
  have hl:=aP k.Zp
  rw[if_neg (by simp[h]),if_pos h,Sn]
  by_cases h2:(k.Zi==2)=true
  ·have J:¬(k.Zi !=2)=true:=by simp[bne,h2]
   rw[if_pos h2]
   have e0:∀n r,r.length<=7->bA k (n+1) 5 r=some (r++cO k.Zp):=by intro n r hr;simp only[bA];rw[if_pos qf,if_neg J,eJ qc,qA]
   exact⟨_,e0 (18446744073709551609+6) _ qe,qd⟩
  ·have J:(k.Zi !=2)=true:=by simp[bne,h2]
   rw[if_neg h2]
   have st:∀n (v:Nat) r,r.length<=7->v<=5->∃x:Int,bA k (n+1) (v:Int) r=bA k n ((v:Int)-1) (r++[x]):=by intro n v r hr hv;apply Exists.intro;simp only[bA];rw[if_pos qe,if_pos J,if_pos (by rw[bT qc qc];simp;omega),eJ qd,qA,bT (n:=(v:Int)-1) qc qc]
   obtain⟨j,e1⟩:=st (18446744073709551609+6) 5 ([IntKind.u8.wrap k.Zi]) qe qe
   obtain⟨C,e2⟩:=st (18446744073709551609+5) 4 ([IntKind.u8.wrap k.Zi]++[j]) qe qe
   obtain⟨I,e3⟩:=st (18446744073709551609+4) 3 ([IntKind.u8.wrap k.Zi]++[j]++[C]) qe qe
   obtain⟨U,e4⟩:=st (18446744073709551609+3) 2 ([IntKind.u8.wrap k.Zi]++[j]++[C]++[I]) qe qe
   obtain⟨x5,e5⟩:=st (18446744073709551609+2) 1 ([IntKind.u8.wrap k.Zi]++[j]++[C]++[I]++[U]) qe qe
   obtain⟨x6,e6⟩:=st (18446744073709551609+1) 0 ([IntKind.u8.wrap k.Zi]++[j]++[C]++[I]++[U]++[x5]) qe qe
   have e7:∀n r,r.length<=7->bA k (n+1) (-1) r=some (r++cO k.Zp):=by intro n r hr;simp only[bA];rw[if_neg qf,eJ qc,qA]
   exact⟨_,e1.trans (e2.trans (e3.trans (e4.trans (e5.trans (e6.trans (e7 _ _ qe)))))),qd⟩
 ·rw[if_pos (by simp[h]),if_neg h];exact⟨_,rfl,rfl⟩
theorem FP{k:M.Key}(hk:k.ok):∃l,tP k=some l/\l.length=Dc k:=by
 unfold tP Dc
 rw[zB hk,qA]
 by_cases h:zQ k=true
 ·have ht:=Bc h
  have hl:=aP k.Zp
  rw[if_neg (by simp[h]),if_pos h,Sn]
  by_cases h2:(k.Zi==2)=true
  ·have J:¬(k.Zi !=2)=true:=by simp[bne,h2]
   rw[if_pos h2,if_neg J,eJ qd,qA]
   exact⟨_,rfl,qd⟩
  ·have J:(k.Zi !=2)=true:=by simp[bne,h2]
   rw[if_neg h2,if_pos J]
   have st:∀n (v:Nat) r,r.length<=7->v<=5->∃x:Int,eP k (n+1) (v:Int) r=eP k n ((v:Int)-1) (r++[x]):=by intro n v r hr hv;apply Exists.intro;simp only[eP];rw[if_pos qe,if_pos (by rw[bT qc qc];simp;omega),eJ qd,qA,bT (n:=(v:Int)-1) qc qc]
   obtain⟨j,e1⟩:=st (18446744073709551609+6) 5 ([IntKind.u8.wrap k.Zi]) qe qe
   obtain⟨C,e2⟩:=st (18446744073709551609+5) 4 ([IntKind.u8.wrap k.Zi]++[j]) qe qe
   obtain⟨I,e3⟩:=st (18446744073709551609+4) 3 ([IntKind.u8.wrap k.Zi]++[j]++[C]) qe qe
   obtain⟨U,e4⟩:=st (18446744073709551609+3) 2 ([IntKind.u8.wrap k.Zi]++[j]++[C]++[I]) qe qe
   obtain⟨x5,e5⟩:=st (18446744073709551609+2) 1 ([IntKind.u8.wrap k.Zi]++[j]++[C]++[I]++[U]) qe qe
   obtain⟨x6,e6⟩:=st (18446744073709551609+1) 0 ([IntKind.u8.wrap k.Zi]++[j]++[C]++[I]++[U]++[x5]) qe qe
   have e7:∀n r,r.length<=7->eP k (n+1) (-1) r=some (r++cO k.Zp):=by intro n r hr;simp only[eP];rw[if_neg qf,eJ qc,qA]
   exact⟨_,e1.trans (e2.trans (e3.trans (e4.trans (e5.trans (e6.trans (e7 _ _ qe)))))),qd⟩
 ·rw[if_pos (by simp[h]),if_neg h];exact⟨_,rfl,rfl⟩
def H4(sl:Bool)(b:UInt8):Bool:=(decide (97<=b.toNat)&&decide (b.toNat<=122))||(sl&&decide (b.toNat=47))
def Tw(s:ByteArray)(n:Int)(sl:Bool):Bool:=P1 s (H4 sl)&&inR (s.size:Int) 1 n
def nS(s:ByteArray):Bool:=P1 s (H4 false)&&inR (s.size:Int) 1 8
theorem dG{s:ByteArray}(C:s.size<=maxLen):bU s=some (nS s):=by
 have I:=le_max C
 unfold bU nS
 rw[Gu (L:=kX s) (g:=H4 false) (F:=some false) (E:=some (inR (s.size:Int) 1 8)) C (λn k j=> ?_) (λn=> ?_),aW]
 ·simp only[kX]
  rw[if_pos (aY j),Gl j,qA,bN qc]
  generalize s[k]=b
  unfold H4
  generalize kX s n ((k+1:Nat):Int)=Z
  simp only[Bool.or_eq_true,qM,qL,Bool.not_eq_true',decide_eq_false_iff_not,Bool.false_and,Bool.or_false]
  repeat' split
  all_goals first|rfl|(exfalso;omega)
 ·simp only[kX];rw[if_neg ql,dB,qA]
theorem IA{s:ByteArray}{m:Int}{sl:Bool}(C:s.size<=maxLen):xI s m sl=some (Tw s m sl):=by
 have I:=le_max C
 unfold xI Tw
 rw[Gu (L:=gB s m sl) (g:=H4 sl) (F:=some false) (E:=some (inR (s.size:Int) 1 m)) C (λn k j=> ?_) (λn=> ?_),aW]
 ·simp only[gB]
  rw[if_pos (aY j),Gl j,qA,bN qc]
  generalize s[k]=b
  unfold H4
  generalize gB s m sl n ((k+1:Nat):Int)=Z
  cases sl<;>simp only[Bool.or_eq_true,qM,qL,Bool.not_eq_true',decide_eq_false_iff_not,Bool.false_and,Bool.or_false,Bool.true_and,beq_eq_false_iff_ne,ne_eq,qD,if_true,if_false]
  all_goals repeat' split
  all_goals first|rfl|(exfalso;omega)
 ·simp only[gB];rw[if_neg ql,eY,qA]
theorem iF{s:ByteArray}(j:s.size<=maxLen):eA s=some (nS s):=by unfold eA;rw[IA j,qA];rfl
def LU(x:M.Field):Bool:=nS x.Name&&inR x.N 0 1000000000
def Bs(l:List M.Field)(k:Nat):Bool:=(l[k]?).any LU&&(decide (k=0)||(l[k-1]?).any λy=>(l[k]?).any λx=>Op.bytesLess y.Name.toList x.Name.toList)
def bO(r:M.aC):Bool:=(List.range r.Y4.length).all (Bs r.Y4)&&decide (r.Y4.length<=6)
theorem mK{r:M.aC}(I:r.ok):bD r=some (bO r):=by
 have U:=le_max I.Y4.1
 unfold bD bO
 rw[uG (L:=fM r) (g:=Bs r.Y4) (F:=some false) (E:=some (decide (r.Y4.length<=6))) I.Y4.1 (λn k C=> ?_) (λn=> ?_),aW]
 ·have J:=I.Y4.2 _ (qG C)
  simp only[fM]
  rw[if_pos (aY C),aN C,qA,bN qc,dG J.Name,qA,dB,qA]
  unfold Bs LU
  rw[qF C]
  generalize fM r n ((k+1:Nat):Int)=Z
  by_cases h0:k=0
  ·subst h0;simp only[Option.any_some];generalize nS r.Y4[0].Name=a;generalize inR r.Y4[0].N 0 1000000000=b;cases a<;>cases b<;>simp
  ·have e:i64.wrap ((k:Int)-1)=((k-1:Nat):Int):=by rw[bT qc qc];omega
   have j:k-1<r.Y4.length:=by omega
   rw[if_pos (c:=(decide ((k:Int)>0))=true) qd,e,aN j,qA,qF j]
   simp only[Option.any_some,h0,decide_false,Bool.false_or]
   generalize nS r.Y4[k].Name=a
   generalize inR r.Y4[k].N 0 1000000000=b
   generalize Op.bytesLess r.Y4[k-1].Name.toList r.Y4[k].Name.toList=c
   cases a<;>cases b<;>cases c<;>simp
 ·simp only[fM];rw[if_neg ql];simp;omega
theorem B9{r:M.aC}(I:r.ok):sC r=some (bO r):=by
 have U:=le_max I.Y4.1
 unfold sC bO
 rw[uG (L:=fO r) (g:=Bs r.Y4) (F:=some false) (E:=some (decide (r.Y4.length<=6))) I.Y4.1 (λn k C=> ?_) (λn=> ?_),aW]
 ·have J:=I.Y4.2 _ (qG C)
  simp only[fO]
  rw[if_pos (aY C),aN C,qA,bN qc,iF J.Name,qA,eY,qA]
  unfold Bs LU
  rw[qF C]
  generalize fO r n ((k+1:Nat):Int)=Z
  by_cases h0:k=0
  ·subst h0;simp only[Option.any_some];generalize nS r.Y4[0].Name=a;generalize inR r.Y4[0].N 0 1000000000=b;cases a<;>cases b<;>simp
  ·have e:i64.wrap ((k:Int)-1)=((k-1:Nat):Int):=by rw[bT qc qc];omega
   have j:k-1<r.Y4.length:=by omega
   rw[if_pos (c:=(decide ((k:Int)>0))=true) qd,e,aN j,qA,qF j]
   simp only[Option.any_some,h0,decide_false,Bool.false_or]
   rw[zY r.Y4[k-1].Name.toList r.Y4[k].Name.toList]
   generalize nS r.Y4[k].Name=a
   generalize inR r.Y4[k].N 0 1000000000=b
   generalize (Op.bytesLess r.Y4[k].Name.toList r.Y4[k-1].Name.toList||r.Y4[k].Name.toList==r.Y4[k-1].Name.toList)=c
   cases a<;>cases b<;>cases c<;>simp
 ·simp only[fO];rw[if_neg ql];simp;omega
theorem rA{r:M.aC}(h:bO r=true):r.Y4.length<=6/\∀x∈r.Y4,x.Name.size<=8/\0<=x.N/\x.N<=1000000000:=by unfold bO at h;simp only[qM,qL,qQ,qR]at h;refine⟨h.2,λx C=> ?_⟩;obtain⟨k,j,rfl⟩:=List.getElem_of_mem C;have:=h.1 k j;unfold Bs LU nS inR at this;rw[qF j]at this;simp only[Option.any_some,qM,qL]at this;omega
theorem vX{r:List Int}{n:Nat}(U:r.length<=1048576)(J:n<=1000000000000):∃l,bI r (n:Int)=some l/\l.length=r.length+(uv n).length:=by
 have C:inR (n:Int) 0 1000000000000=true:=by unfold inR;simp;omega
 unfold bI
 rw[eJ qd,qA,dB,qA,C,if_neg qe]
 refine Ob (L:=bV) (b:=λv=>IntKind.u8.wrap (i64.wrap (BitVec.ofInt (IntKind.i64.bits) (i64.wrap (BitVec.ofInt (IntKind.i64.bits) v&&&BitVec.ofInt (IntKind.i64.bits) 127).toNat)|||BitVec.ofInt (IntKind.i64.bits) 128).toNat)) (c:=λv=>IntKind.u8.wrap v) (λm n r j I=> ?_) (λm n r j=> ?_) 8 fuel n r qc qc qj qc
 ·simp only[bV];rw[if_pos qd,uvf]
 ·simp only[bV];rw[if_neg qd]
theorem vU{r:List Int}{n:Nat}(U:r.length<=1048576)(J:n<=1000000000000):∃l,gN r (n:Int)=some l/\l.length=r.length+(uv n).length:=by
 have I:inR (n:Int) 0 1000000000000=true:=by unfold inR;simp;omega
 unfold gN kW
 rw[eJ qd,qA,qA,eY,qA,I,if_neg qe]
 refine Ob (L:=eR) (b:=λv=>IntKind.u8.wrap (i64.wrap ((Int.tmod v 128)+128))) (c:=λv=>IntKind.u8.wrap v) (λm n r C j=> ?_) (λm n r C=> ?_) 8 fuel n r qc qc qj qc
 ·simp only[eR];rw[if_pos qd,uvt j]
 ·simp only[eR];rw[if_neg qd]
def uQ(x:M.Field):Nat:=(uv x.Name.size).length+x.Name.size+(uv x.N.toNat).length
def Dm(r:M.aC):Nat:=if bO r=true then(uv r.Y4.length).length+jO uQ r.Y4 else 0
theorem Ea{r b:List Int}(C:r.length<=1000)(j:b.length<=1000):∃l,bH r b=some l/\l.length=r.length+((uv b.length).length+b.length):=by obtain⟨l,e,J⟩:=vX (r:=r) (n:=b.length) qc qc;have I:=A5 b.length qc;refine⟨l++b,?_,qd⟩;unfold bH;rw[e,qA,eJ qc,qA]
theorem Dj{r:M.aC}(hr:r.ok):∃l,eT r=some l/\l.length=Dm r:=by
 unfold eT Dm
 rw[mK hr,qA]
 by_cases h:bO r=true
 ·obtain⟨h6,hf⟩:=rA h
  have J:∀x∈r.Y4,uQ x<=26:=by intro x C;have:=hf x C;have h1:=A5 x.Name.size qc;have h2:=A5 x.N.toNat qc;unfold uQ;omega
  have hsum:=jW J
  obtain⟨l,e,U⟩:=vX (r:=[]) (n:=r.Y4.length) qe qc
  have h9:=A5 r.Y4.length qc
  rw[if_neg (by simp[h]),if_pos h,e,qA]
  have:=Lw (xs:=r.Y4) (w:=uQ) (B:=900) (L:=bZ r) (λn k j q hq=> ?_) (λn q=> ?_) fuel 0 l qj qc (by simp at U⊢;omega)
  ·obtain⟨z,e2,hz⟩:=this;exact⟨z,e2,by simp at U hz;omega⟩
  ·have C:=hf _ (qG j);have hw2:=J _ (qG j);obtain⟨a,ea,ha⟩:=Ea (r:=q) (b:=cO r.Y4[k].Name) qc (by rw[aP];omega);rw[aP]at ha;have hn:=A5 r.Y4[k].Name.size qc;obtain⟨b,I,hb⟩:=vX (r:=a) (n:=r.Y4[k].N.toNat) qc qc;rw[Int.toNat_of_nonneg C.2.1]at I;refine⟨b,by unfold uQ;omega,?_⟩;simp only[bZ];rw[if_pos (aY j),aN j,qA,ea,qA,I,qA,bN qc]
  ·simp only[bZ];rw[if_neg ql]
 ·rw[if_pos (by simp[h]),if_neg h];exact⟨_,rfl,rfl⟩
theorem D4{r b:List Int}(C:r.length<=1000)(j:b.length<=1000):∃l,rC r b=some l/\l.length=r.length+((uv b.length).length+b.length):=by obtain⟨l,e,J⟩:=vU (r:=r) (n:=b.length) qc qc;have I:=A5 b.length qc;refine⟨l++b,?_,qd⟩;unfold rC;rw[e,qA,eJ qc,qA]
theorem Dp{r:M.aC}(hr:r.ok):∃l,oO r=some l/\l.length=Dm r:=by
 unfold oO Dm
 rw[B9 hr,qA]
 by_cases h:bO r=true
 ·obtain⟨h6,hf⟩:=rA h
  have J:∀x∈r.Y4,uQ x<=26:=by intro x C;have:=hf x C;have h1:=A5 x.Name.size qc;have h2:=A5 x.N.toNat qc;unfold uQ;omega
  have hsum:=jW J
  obtain⟨l,e,U⟩:=vU (r:=[]) (n:=r.Y4.length) qe qc
  have h9:=A5 r.Y4.length qc
  rw[if_neg (by simp[h]),if_pos h,e,qA]
  have:=Lw (xs:=r.Y4) (w:=uQ) (B:=900) (L:=fL r) (λn k j q hq=> ?_) (λn q=> ?_) fuel 0 l qj qc (by simp at U⊢;omega)
  ·obtain⟨z,e2,hz⟩:=this;exact⟨z,e2,by simp at U hz;omega⟩
  ·have C:=hf _ (qG j);have hw2:=J _ (qG j);obtain⟨a,ea,ha⟩:=D4 (r:=q) (b:=cO r.Y4[k].Name) qc (by rw[aP];omega);rw[aP]at ha;have hn:=A5 r.Y4[k].Name.size qc;obtain⟨b,I,hb⟩:=vU (r:=a) (n:=r.Y4[k].N.toNat) qc qc;rw[Int.toNat_of_nonneg C.2.1]at I;refine⟨b,by unfold uQ;omega,?_⟩;simp only[fL];rw[if_pos (aY j),aN j,qA,ea,qA,I,qA,bN qc]
  ·simp only[fL];rw[if_neg ql]
 ·rw[if_pos (by simp[h]),if_neg h];exact⟨_,rfl,rfl⟩
def B1(v:Int)(x:M.Zd):Int:=i64.wrap (v+((Dc x.Key:Int)+(Dm x.aC:Int)))
def sO(s:M.aA):Int:=s.Y3.foldl B1 0
def nR(d:M.YY):Int:=d.Y5.foldl (λv s=>i64.wrap (v+sO s)) 0
def Bd(b:M.aK):Int:=i64.wrap ((i64.wrap ((i64.wrap (tA b.Y1+i64.wrap (nR b.bG.Zf+(List.length b.bG.ZD:Int))))+sO b.aD.Zf))+(i64.wrap (40*(List.length b.aD.Ze.aF.Y9:Int))))
theorem BR{s:M.aA}(C:s.ok):pO s=some (sO s):=by have hm:=le_max C.Y3.1;unfold pO sO;refine C9 (L:=iS s) (E:=some) C.Y3.1 (λn v k j=> ?_) (λn v=> ?_) 0;(have I:=C.Y3.2 _ (qG j);obtain⟨a,ea,ha⟩:=F5 I.Key;obtain⟨b,J,U⟩:=Dj I.aC;simp only[iS];rw[if_pos (aY j),aN j,qA,ea,qA,J,qA,bN qc,ha,U];unfold B1;rw[wrap_add,Int.add_assoc]);·simp only[iS];rw[if_neg ql]
theorem Dx{d:M.YY}(C:d.ok):oT d=some (nR d):=by have J:=le_max C.Y5.1;unfold oT nR;refine C9 (L:=fJ d) (E:=some) C.Y5.1 (λn v k j=> ?_) (λn v=> ?_) 0;(have I:=C.Y5.2 _ (qG j);simp only[fJ];rw[if_pos (aY j),aN j,qA,BR I,qA,bN qc]);·simp only[fJ];rw[if_neg ql]
theorem HH{b:M.aK}(j:b.ok):wK b=some (Bd b):=by unfold wK xS Bd;rw[E5 j.Y1,qA,Dx j.bG.Zf,qA,qA,BR j.aD.Zf,qA]
theorem BJ{s:M.aA}(C:s.ok):pK s=some (sO s):=by have hm:=le_max C.Y3.1;unfold pK sO;refine C9 (L:=iK s) (E:=some) C.Y3.1 (λn v k j=> ?_) (λn v=> ?_) 0;(have I:=C.Y3.2 _ (qG j);obtain⟨a,ea,ha⟩:=FP I.Key;obtain⟨b,J,U⟩:=Dp I.aC;simp only[iK];rw[if_pos (aY j),aN j,qA,ea,qA,J,qA,bN qc,ha,U];unfold B1;rw[PB]);·simp only[iK];rw[if_neg ql]
theorem De{d:M.YY}(C:d.ok):oN d=some (nR d):=by have J:=le_max C.Y5.1;unfold oN nR;refine C9 (L:=fH d) (E:=some) C.Y5.1 (λn v k j=> ?_) (λn v=> ?_) 0;(have I:=C.Y5.2 _ (qG j);simp only[fH];rw[if_pos (aY j),aN j,qA,BJ I,qA,bN qc]);·simp only[fH];rw[if_neg ql]
theorem Da{b:M.aK}(j:b.ok):tY b=some (Bd b):=by unfold tY xK Bd;rw[EC j.Y1,qA,De j.bG.Zf,qA,qA,BJ j.aD.Zf,qA]
def Mz(s:M.aH):Int:=s.Y0.foldl (λv b=>i64.wrap (v+Bd b)) 0
theorem Bm{s:M.aH}(C:s.ok):jB s=some (Mz s):=by have J:=le_max C.Y0.1;unfold jB Mz;refine C9 (L:=gQ s) (E:=some) C.Y0.1 (λn v k j=> ?_) (λn v=> ?_) 0;(have I:=C.Y0.2 _ (qG j);simp only[gQ];rw[if_pos (aY j),aN j,qA,Da I,qA,bN qc]);·simp only[gQ];rw[if_neg ql]
def cG(x y:M.Key):Int:=if zQ x=true/\zQ y=true then if x.Zi=y.Zi then if x.N=y.N then if Op.bytesLess x.Zp.toList y.Zp.toList=true then -1 else if(x.Zp.toList==y.Zp.toList)=true then 0 else 1 else if x.N<y.N then -1 else 1 else if x.Zi<y.Zi then -1 else 1 else 0
theorem rE{x y:M.Key}(C:x.ok)(j:y.ok):bB x y=some (cG x y):=by
 unfold bB vD cG
 rw[jN C,jN j]
 simp only[qA]
 cases h1:zQ x
 ·simp
 cases h2:zQ y
 ·simp
 simp only[qB,qD,if_false,if_true,and_self,bne_iff_ne,ne_eq,qL,Bool.not_eq_true',Bool.or_eq_false_iff,ite_not,qA]
 repeat' split
 all_goals first|rfl|(exfalso;omega)|(simp_all;done)|(simp_all;omega)
theorem AD{x y:M.Key}(j:x.ok)(C:y.ok):mN x y=some (cG x y):=by
 have key:Lib.compareBytes x.Zp.data.toList y.Zp.data.toList=if Op.bytesLess x.Zp.toList y.Zp.toList=true then -1 else if(x.Zp.toList==y.Zp.toList)=true then 0 else 1:=by rw[BY,<-ByteArray.toList_eq,<-ByteArray.toList_eq]
 unfold mN pT vE lA cG
 rw[zB j,zB C]
 simp only[qA,key]
 cases h1:zQ x
 ·simp
 cases h2:zQ y
 ·simp
 simp only[qB,qD,if_false,if_true,and_self,bne_iff_ne,ne_eq,qL,Bool.not_eq_true',Bool.or_eq_false_iff,ite_not,qA]
 repeat' split
 all_goals first|rfl|(exfalso;omega)|(simp_all;done)|(simp_all;omega)
theorem DW{p:M.aK->Option Bool}{f:M.aK->Bool}{xs:List M.aK}(C:xs.length<=maxLen)(I:∀x∈xs,p x=some (f x)):hH xs p=some (pU f xs):=by
 have J:=le_max C
 unfold hH
 rw[findAll (L:=cJ xs p) (f:=f) (A:=λi=>some (i:Int)) (E:=some (-1)) C (λn k j=>by
  simp only[cJ]
  rw[if_pos (aY j),aN j,qA,I _ (qG j),qA,bN qc]) (λn=>by
  simp only[cJ]
  rw[if_neg ql]),uU]
theorem Gi{p:M.fS->Option Bool}{f:M.fS->Bool}{xs:List M.fS}(C:xs.length<=maxLen)(I:∀x∈xs,p x=some (f x)):kL xs p=some (pU f xs):=by
 have J:=le_max C
 unfold kL
 rw[findAll (L:=dD xs p) (f:=f) (A:=λi=>some (i:Int)) (E:=some (-1)) C (λn k j=>by
  simp only[dD]
  rw[if_pos (aY j),aN j,qA,I _ (qG j),qA,bN qc]) (λn=>by
  simp only[dD]
  rw[if_neg ql]),uU]
theorem DC{p:M.fS->Option Bool}{f:M.fS->Bool}{xs:List M.fS}(C:xs.length<=maxLen)(j:∀x∈xs,p x=some (f x)):dC xs p=some (xs.any f):=by unfold dC;rw[Gi C j,qA,Gq]
theorem DY{p:M.Zb->Option Bool}{f:M.Zb->Bool}{xs:List M.Zb}(C:xs.length<=maxLen)(I:∀x∈xs,p x=some (f x)):iA xs p=some (pU f xs):=by
 have J:=le_max C
 unfold iA
 rw[findAll (L:=cK xs p) (f:=f) (A:=λi=>some (i:Int)) (E:=some (-1)) C (λn k j=>by
  simp only[cK]
  rw[if_pos (aY j),aN j,qA,I _ (qG j),qA,bN qc]) (λn=>by
  simp only[cK]
  rw[if_neg ql]),uU]
theorem EX{p:M.aA->Option Bool}{f:M.aA->Bool}{xs:List M.aA}(C:xs.length<=maxLen)(I:∀x∈xs,p x=some (f x)):jG xs p=some (pU f xs):=by
 have J:=le_max C
 unfold jG
 rw[findAll (L:=cR xs p) (f:=f) (A:=λi=>some (i:Int)) (E:=some (-1)) C (λn k j=>by
  simp only[cR]
  rw[if_pos (aY j),aN j,qA,I _ (qG j),qA,bN qc]) (λn=>by
  simp only[cR]
  rw[if_neg ql]),uU]
theorem ER{p:M.Field->Option Bool}{f:M.Field->Bool}{xs:List M.Field}(C:xs.length<=maxLen)(I:∀x∈xs,p x=some (f x)):jJ xs p=some (pU f xs):=by
 have J:=le_max C
 unfold jJ
 rw[findAll (L:=cQ xs p) (f:=f) (A:=λi=>some (i:Int)) (E:=some (-1)) C (λn k j=>by
  simp only[cQ]
  rw[if_pos (aY j),aN j,qA,I _ (qG j),qA,bN qc]) (λn=>by
  simp only[cQ]
  rw[if_neg ql]),uU]
def Ty(n:Int):Int:=if n< -1000000000000 then n else i64.wrap (n-30)
def QW(b:M.aK)(x:M.fS):Bool:=(x.Zh.toList==b.Zh.toList)&&(x.Zw.toList==b.Zw.toList)
def fQ(b:M.aK)(l:List M.fS)(n:Int):Bool:= !(l.any (QW b))&&(decide (b.Zo<Ty n)&&(!b.Zl&&((b.aD.Ze.aF.Y9.length:Int)==0)))
theorem AH{b:M.aK}{l:List M.fS}{n:Int}(I:l.length<=maxLen):mR b l n=some (fQ b l n):=by
 have C:dC l (λj=>fF j b)=some (l.any (QW b)):=
  DC I (λx _=>by simp only[fF,aW];rfl)
 have key:∀L:Int,(if(decide (b.Zo>=L))=true then some false else if b.Zl=true then some false else if(decide ((List.length b.aD.Ze.aF.Y9:Int)>0))=true then some false else some (!(l.any (QW b))))=some (!(l.any (QW b))&&(decide (b.Zo<L)&&(!b.Zl&&((b.aD.Ze.aF.Y9.length:Int)==0)))):=by
  intro L
  by_cases h1:b.Zo<L
  ·rw[if_neg qd]
   cases b.Zl with
   |true=>simp
   |false=>
    by_cases h2:b.aD.Ze.aF.Y9.length=0
    ·rw[if_neg qe,if_neg (by simp[h2])];simp[h1,h2]
    ·rw[if_neg qe,if_pos qd];simp[h2]
  ·rw[if_pos qd];simp[h1]
 unfold mR
 rw[C]
 simp only[qA,key]
 unfold fQ Ty
 by_cases h:n< -1000000000000
 ·rw[if_neg qd,if_pos h]
 ·rw[if_pos qd,if_neg h]
def nAt(a b:ByteArray)(x:M.aK):Bool:=(x.Zh.toList==a.toList)&&(x.Zw.toList==b.toList)
theorem Ep{s:M.aH}{a b:ByteArray}(C:s.ok):sR s a b=some (pU (nAt a b) s.Y0):=by have I:=le_max C.Y0.1;unfold sR;rw[findAll (L:=fE s a b) (f:=nAt a b) (A:=λi=>some (i:Int)) (E:=some (-1)) C.Y0.1 (λm k j=> ?_) (λm=> ?_),uU];(simp only[fE];rw[if_pos (aY j),aN j,qA,bN qc,OJ];rfl);·simp only[fE];rw[if_neg ql]
theorem Bk{s:M.aH}{a b:ByteArray}(j:s.ok):nY s a b=some (pU (nAt a b) s.Y0):=by unfold nY;rw[DW (f:=nAt a b) j.Y0.1 (λx _=>by simp only[oL,aW];rfl),qA]
def yI(l:List M.Zd)(k:Nat):Bool:=(l[k]?).any (λx=>zQ x.Key&&bO x.aC)&&(decide (k=0)||(l[k-1]?).any λy=>(l[k]?).any λx=>decide (cG y.Key x.Key<0))
def gC(s:M.aA):Bool:=(List.range s.Y3.length).all (yI s.Y3)&&(nS s.Name&&(decide (s.Y3.length<=16)&&inR s.Zn 0 1000000))
def AR(x:M.aV):Bool:=inR x.Zg 1 1000000&&(inR x.ZI 1 1000000&&(zQ x.Key&&(nS x.Field&&inR x.N 0 1000000000)))
def AL(o:M.aF)(k:Nat):Bool:=(o.Y9[k]?).any λx=>AR x&&((x.Zg==o.Zg)&&(x.ZI==i64.wrap ((i64.wrap (o.Zr-(List.length o.Y9:Int)))+(k:Int))))
def oI(o:M.aF):Bool:=(List.range o.Y9.length).all (AL o)&&(inR o.Zg 1 1000000&&(inR o.Zr 1 1000000&&decide (o.Y9.length<=20)))
theorem uE{s:M.aA}(C:s.ok):jU s=some (gC s):=by
 have hm:=le_max C.Y3.1
 unfold jU gC
 rw[uG (L:=gG s) (g:=yI s.Y3) (F:=some false) (E:=some (nS s.Name&&(decide (s.Y3.length<=16)&&inR s.Zn 0 1000000))) C.Y3.1 (λn k I=> ?_) (λn=> ?_),aW]
 ·have J:=C.Y3.2 _ (qG I)
  simp only[gG]
  rw[if_pos (aY I),aN I,qA,bN qc,jN J.Key,qA,mK J.aC,qA]
  unfold yI
  rw[qF I]
  generalize gG s n ((k+1:Nat):Int)=Z
  by_cases h0:k=0
  ·subst h0;simp only[Option.any_some];generalize zQ s.Y3[0].Key=a;generalize bO s.Y3[0].aC=b;cases a<;>cases b<;>simp
  ·have e:i64.wrap ((k:Int)-1)=((k-1:Nat):Int):=by rw[bT qc qc];omega
   have j:k-1<s.Y3.length:=by omega
   have U:=C.Y3.2 _ (qG j)
   rw[if_pos (c:=(decide ((k:Int)>0))=true) qd,e,aN j,qA,rE U.Key J.Key,qA,qF j]
   simp only[Option.any_some,h0,decide_false,Bool.false_or]
   generalize zQ s.Y3[k].Key=a
   generalize bO s.Y3[k].aC=b
   by_cases hc:cG s.Y3[k-1].Key s.Y3[k].Key<0
   ·rw[if_neg (c:=(decide (cG s.Y3[k-1].Key s.Y3[k].Key>=0))=true) qd];cases a<;>cases b<;>simp[hc]
   ·rw[if_pos (c:=(decide (cG s.Y3[k-1].Key s.Y3[k].Key>=0))=true) qd];cases a<;>cases b<;>simp[hc]
 ·simp only[gG];rw[if_neg ql,dG C.Name,qA,dB,qA,aW,aW];congr 3;simp;omega
theorem vV{x:M.aV}(j:x.ok):gR x=some (AR x):=by unfold gR AR;simp only[dB,jN j.Key,dG j.Field,qA,aW]
theorem CX{s:M.aA}(C:s.ok):uC s=some (gC s):=by
 have hm:=le_max C.Y3.1
 unfold uC gC
 rw[uG (L:=gH s) (g:=yI s.Y3) (F:=some false) (E:=some (nS s.Name&&(decide (s.Y3.length<=16)&&inR s.Zn 0 1000000))) C.Y3.1 (λn k I=> ?_) (λn=> ?_),aW]
 ·have J:=C.Y3.2 _ (qG I)
  simp only[gH]
  rw[if_pos (aY I),aN I,qA,bN qc,zB J.Key,qA,B9 J.aC,qA]
  unfold yI
  rw[qF I]
  generalize gH s n ((k+1:Nat):Int)=Z
  by_cases h0:k=0
  ·subst h0;simp only[Option.any_some];generalize zQ s.Y3[0].Key=a;generalize bO s.Y3[0].aC=b;cases a<;>cases b<;>simp
  ·have e:i64.wrap ((k:Int)-1)=((k-1:Nat):Int):=by rw[bT qc qc];omega
   have j:k-1<s.Y3.length:=by omega
   have U:=C.Y3.2 _ (qG j)
   rw[if_pos (c:=(decide ((k:Int)>0))=true) qd,e,aN j,qA,AD U.Key J.Key,qA,qF j]
   simp only[Option.any_some,h0,decide_false,Bool.false_or]
   generalize zQ s.Y3[k].Key=a
   generalize bO s.Y3[k].aC=b
   by_cases hc:cG s.Y3[k-1].Key s.Y3[k].Key<0
   ·rw[if_neg (c:=(decide (cG s.Y3[k-1].Key s.Y3[k].Key>=0))=true) qd];cases a<;>cases b<;>simp[hc]
   ·rw[if_pos (c:=(decide (cG s.Y3[k-1].Key s.Y3[k].Key>=0))=true) qd];cases a<;>cases b<;>simp[hc]
 ·simp only[gH];rw[if_neg ql,iF C.Name,qA,eY,qA,aW,aW];congr 3;simp;omega
theorem CN{x:M.aV}(j:x.ok):nI x=some (AR x):=by unfold nI AR;simp only[eY,zB j.Key,iF j.Field,qA,aW]
theorem mJ{o:M.aF}(C:o.ok):fX o=some (oI o):=by have J:=le_max C.Y9.1;unfold fX oI;rw[uG (L:=kB o) (g:=AL o) (F:=some false) (E:=some true) C.Y9.1 (λn k j=> ?_) (λn=> ?_)];(simp only[dB,qA];by_cases h:o.Y9.length<=20;(rw[if_neg (c:=(decide ((List.length o.Y9:Int)>20))=true) qd];cases (List.range o.Y9.length).all (AL o)<;>cases inR o.Zg 1 1000000<;>cases inR o.Zr 1 1000000<;>simp[h]);·rw[if_pos (c:=(decide ((List.length o.Y9:Int)>20))=true) qd];cases inR o.Zg 1 1000000<;>cases inR o.Zr 1 1000000<;>simp[h]);(have I:=C.Y9.2 _ (qG j);simp only[kB];rw[if_pos (aY j),aN j,qA,bN qc,vV I,qA];unfold AL;rw[qF j,Option.any_some];simp only[yX,iG,OJ]);·simp only[kB];rw[if_neg ql]
theorem G9{o:M.aF}(C:o.ok):uM o=some (oI o):=by have J:=le_max C.Y9.1;unfold uM oI;rw[uG (L:=kC o) (g:=AL o) (F:=some false) (E:=some (inR o.Zg 1 1000000&&(inR o.Zr 1 1000000&&decide (o.Y9.length<=20)))) C.Y9.1 (λn k j=> ?_) (λn=> ?_),aW];(have I:=C.Y9.2 _ (qG j);simp only[kC];rw[if_pos (aY j),aN j,qA,bN qc,CN I,qA];unfold AL;rw[qF j,Option.any_some];simp only[yX,iG,OJ]);·simp only[kC];rw[if_neg ql];simp only[eY,qA,aW];congr 3;simp;omega
def yS(r:M.aD):Bool:=gC r.Zf&&((r.Zf.Name.toList==(⟨#[110,111,116,101,115]⟩:ByteArray).toList)&&(inR r.Zx 0 1000000000000&&oI r.Ze.aF))
theorem wN{r:M.aD}(j:r.ok):kT r=some (yS r):=by unfold kT yS;simp only[uE j.Zf,dB,mJ j.Ze.aF,qA,aW]
theorem FR{r:M.aD}(j:r.ok):tQ r=some (yS r):=by unfold tQ yS;simp only[CX j.Zf,eY,G9 j.Ze.aF,qA,aW]
theorem Ip{α:Type}{f:α->Bool}{xs:List α}{k:Nat}(J:k<xs.length)(I:f xs[k]=true):(pU f xs==(k:Int))=(List.range k).all (λj=> !((xs[j]?).any f)):=by
 rw[Bool.eq_iff_iff]
 simp only[beq_iff_eq,qQ,qR]
 constructor
 ·intro h j C
  unfold pU at h
  cases e:xs.findIdx? f with
  |none=>rw[e]at h;simp only at h;omega
  |some i=>
   rw[e]at h
   simp only at h
   have:i=k:=by omega
   subst this
   have:=(List.findIdx?_eq_some_iff_getElem.1 e).2.2 j C
   rw[qF qc]
   simpa using this
 ·intro h;have e:xs.findIdx? f=some k:=List.findIdx?_eq_some_iff_getElem.2 ⟨J,I,λj C=>by have:=h j C;rw[qF qc]at this;simpa using this⟩;unfold pU;rw[e]
def BX(a b:ByteArray)(x:M.Zb):Bool:=(x.Zh.toList==a.toList)&&(x.Zy.toList==b.toList)
theorem Cl{c:M.Y6}{a b:ByteArray}(j:c.ok):tZ c a b=some (pU (BX a b) c.Y8):=by unfold tZ;rw[DY (f:=BX a b) j.Y8.1 (λx _=>by simp only[tK,aW];rfl),qA]
def BV(r:M.Y7):Bool:=inR r.ZC 1 4&&(inR r.ZA 0 999&&(inR r.Y2 0 1000000000000&&decide ((List.length r.ZE:Int)<=60)))
theorem Er(r:M.Y7):sL r=some (BV r):=by unfold sL BV;simp only[dB,qA,aW]
theorem Bf(r:M.Y7):nZ r=some (BV r):=by unfold nZ BV;simp only[eY,qA,aW]
def Q3(l:List M.Zb)(k:Nat)(x:M.Zb):Bool:=(List.range k).all λj=> !((l[j]?).any (BX x.Zh x.Zy))
def yO(l:List M.Zb)(k:Nat):Bool:=(l[k]?).any λx=>nS x.Zh&&(nS x.Zy&&(BV x.Y7&&Q3 l k x))
def Bv(l:List M.Zb):Bool:=(List.range l.length).all (yO l)&&decide (l.length<=12)
theorem EE{l:List M.Zb}(J:l.length<=maxLen/\∀x∈l,M.Zb.ok x):oA l=some (Bv l):=by
 have hm:=le_max J.1
 unfold oA Bv
 rw[uG (L:=dS l) (g:=yO l) (F:=some false) (E:=some (decide (l.length<=12))) J.1 (λn k I=> ?_) (λn=> ?_),aW]
 ·have U:=J.2 _ (qG I)
  simp only[dS]
  rw[if_pos (aY I),aN I,qA,bN qc,dG U.Zh,qA,dG U.Zy,qA,Er,qA]
  rw[uG (N:=k) (L:=fD l (k:Int) l[k] (λ_=>dS l n ((k+1:Nat):Int))) (g:=λj=> !((l[j]?).any (BX l[k].Zh l[k].Zy))) (F:=some false) (E:=dS l n ((k+1:Nat):Int)) (by have:=J.1;omega) (λn j hj=> ?_) (λn=> ?_)]
  ·unfold yO Q3;rw[qF I,Option.any_some];simp only[iG,OJ]
  ·have C:j<l.length:=by omega
   simp only[fD]
   rw[if_pos (aY hj),aN C,qA,bN qc,OJ,qF C,Option.any_some,iG]
   rfl
  ·simp only[fD];rw[if_neg ql]
 ·simp only[dS];rw[if_neg ql];simp;omega
theorem FW{c:M.Y6}{Z:Option Bool}(I:c.ok):eB c (λ_=>Z) fuel 0=if(List.range c.Y8.length).all (yO c.Y8)=true then Z else some false:=by have U:=le_max I.Y8.1;refine uG (L:=eB c (λ_=>Z)) I.Y8.1 (λn k C=> ?_) (λn=> ?_);(have J:=I.Y8.2 _ (qG C);simp only[eB];rw[if_pos (aY C),aN C,qA,bN qc,iF J.Zh,qA,iF J.Zy,qA,Cl I,qA,Bf,qA,yX,Ip C (by simp[BX])];unfold yO Q3;rw[qF C,Option.any_some];generalize eB c (λ_=>Z) n ((k+1:Nat):Int)=Y;generalize nS c.Y8[k].Zh=a;generalize nS c.Y8[k].Zy=b;generalize BV c.Y8[k].Y7=d;generalize (List.range k).all (λj=> !((c.Y8[j]?).any (BX c.Y8[k].Zh c.Y8[k].Zy)))=e;cases a<;>cases b<;>cases d<;>cases e<;>rfl);·simp only[eB];rw[if_neg ql]
theorem FY{c:M.Y6}{Z:Option Bool}(I:c.ok):dP c (λ_=>Z) fuel 0=if(List.range c.Y8.length).all (yO c.Y8)=true then Z else some false:=by have U:=le_max I.Y8.1;refine uG (L:=dP c (λ_=>Z)) I.Y8.1 (λn k C=> ?_) (λn=> ?_);(have J:=I.Y8.2 _ (qG C);simp only[dP];rw[if_pos (aY C),aN C,qA,bN qc,iF J.Zh,qA,iF J.Zy,qA,Cl I,qA,Bf,qA,yX,Ip C (by simp[BX])];unfold yO Q3;rw[qF C,Option.any_some];generalize dP c (λ_=>Z) n ((k+1:Nat):Int)=Y;generalize nS c.Y8[k].Zh=a;generalize nS c.Y8[k].Zy=b;generalize BV c.Y8[k].Y7=d;generalize (List.range k).all (λj=> !((c.Y8[j]?).any (BX c.Y8[k].Zh c.Y8[k].Zy)))=e;cases a<;>cases b<;>cases d<;>cases e<;>rfl);·simp only[dP];rw[if_neg ql]
def CA(l:List M.Y6)(k:Nat):Bool:=(l[k]?).any (λc=>inR c.Y2 1 1000000000000&&Bv c.Y8)&&(decide (k=0)||(l[k-1]?).any λd=>(l[k]?).any λc=>decide (d.Y2<c.Y2))
def iB(s:M.aE):Bool:=(List.range s.Y1.length).all (CA s.Y1)&&decide (s.Y1.length<=4)
theorem lS{s:M.aE}(I:s.ok):bS s=some (iB s):=by
 have U:=le_max I.Y1.1
 unfold bS iB
 rw[uG (L:=dQ s) (g:=CA s.Y1) (F:=some false) (E:=some (decide (s.Y1.length<=4))) I.Y1.1 (λn k C=> ?_) (λn=> ?_),aW]
 ·have J:=I.Y1.2 _ (qG C)
  simp only[dQ]
  rw[if_pos (aY C),aN C,qA,bN qc,dB,qA,EE J.Y8]
  simp only[qA]
  unfold CA
  rw[qF C]
  generalize dQ s n ((k+1:Nat):Int)=Z
  by_cases h0:k=0
  ·subst h0;simp only[Option.any_some];generalize inR s.Y1[0].Y2 1 1000000000000=a;generalize Bv s.Y1[0].Y8=b;cases a<;>cases b<;>simp
  ·have e:i64.wrap ((k:Int)-1)=((k-1:Nat):Int):=by rw[bT qc qc];omega
   have j:k-1<s.Y1.length:=by omega
   rw[if_pos (c:=(decide ((k:Int)>0))=true) qd,e,aN j,qA,qF j]
   simp only[Option.any_some,h0,decide_false,Bool.false_or]
   generalize inR s.Y1[k].Y2 1 1000000000000=a
   generalize Bv s.Y1[k].Y8=b
   by_cases hc:s.Y1[k-1].Y2<s.Y1[k].Y2
   ·rw[if_neg (c:=(decide (s.Y1[k-1].Y2>=s.Y1[k].Y2))=true) qd];cases a<;>cases b<;>simp[hc]
   ·rw[if_pos (c:=(decide (s.Y1[k-1].Y2>=s.Y1[k].Y2))=true) qd];cases a<;>cases b<;>simp[hc]
 ·simp only[dQ];rw[if_neg ql];simp;omega
theorem Et{s:M.aE}(I:s.ok):rV s=some (iB s):=by
 have hm:=le_max I.Y1.1
 unfold rV iB
 rw[uG (L:=dZ s) (g:=CA s.Y1) (F:=some false) (E:=some (decide (s.Y1.length<=4))) I.Y1.1 (λn k C=> ?_) (λn=> ?_),aW]
 ·have J:=I.Y1.2 _ (qG C)
  simp only[dZ]
  rw[if_pos (aY C),aN C,qA,bN qc,eY,qA,FW J,FY J]
  unfold CA Bv
  rw[qF C]
  generalize dZ s n ((k+1:Nat):Int)=Z
  have U:(decide ((List.length s.Y1[k].Y8:Int)>12))= !decide (s.Y1[k].Y8.length<=12):=by by_cases h:s.Y1[k].Y8.length<=12;(simp[h];omega);·simp[h];omega
  rw[U]
  by_cases h0:k=0
  ·subst h0;simp only[Option.any_some];generalize inR s.Y1[0].Y2 1 1000000000000=a;generalize (List.range s.Y1[0].Y8.length).all (yO s.Y1[0].Y8)=b;generalize decide (s.Y1[0].Y8.length<=12)=d;cases a<;>cases b<;>cases d<;>simp
  ·have e:i64.wrap ((k:Int)-1)=((k-1:Nat):Int):=by rw[bT qc qc];omega
   have j:k-1<s.Y1.length:=by omega
   rw[if_pos (c:=(decide ((k:Int)>0))=true) qd,e,aN j,qA,qF j]
   simp only[Option.any_some,h0,decide_false,Bool.false_or]
   generalize inR s.Y1[k].Y2 1 1000000000000=a
   generalize (List.range s.Y1[k].Y8.length).all (yO s.Y1[k].Y8)=b
   generalize decide (s.Y1[k].Y8.length<=12)=d
   by_cases hc:s.Y1[k-1].Y2<s.Y1[k].Y2
   ·rw[if_neg (c:=(decide (s.Y1[k].Y2<=s.Y1[k-1].Y2))=true) qd];cases a<;>cases b<;>cases d<;>simp[hc]
   ·rw[if_pos (c:=(decide (s.Y1[k].Y2<=s.Y1[k-1].Y2))=true) qd];cases a<;>cases b<;>cases d<;>simp[hc]
 ·simp only[dZ];rw[if_neg ql];simp;omega
theorem Jd{p:M.YZ}(j:p.Zh.size<=maxLen):∀(n k:Nat) (v:Int),k<=3->3-k<n->∃r,bP p n v (k:Int)=some r
 |0,k,v,_,h=>by omega
 |n+1,k,v,I,h=>by
  simp only[bP]
  have C:(List.length ([p.Zv,p.Zs,p.Zm]))=3:=rfl
  by_cases hk:k<3
  ·rw[if_pos qd,aN (by rw[C];exact hk),qA,dB,qA,bN qc]
   obtain⟨U,e1⟩:=Jd j n (k+1) ([p.Zv,p.Zs,p.Zm][k]'(by rw[C];exact hk)) qc qc
   obtain⟨J,e2⟩:=Jd j n (k+1) v qc qc
   rw[e1,e2]
   repeat' split
   all_goals exact⟨_,rfl⟩
  ·have:k=3:=by omega
   subst this
   rw[if_neg qe,dG j]
   exact⟨_,rfl⟩
theorem Jc{p:M.YZ}(j:p.Zh.size<=maxLen):∀(n:Nat) (v k:Int),0<=v->cX p n v k=bP p n v k
 |0,_,_,_=>rfl
 |n+1,v,k,I=>by
  simp only[cX,bP]
  rw[dG j,iF j]
  cases hx:idx ([p.Zv,p.Zs,p.Zm]) k with
  |none=>rfl
  |some x=>
   simp only[qA,dB,eY]
   cases hi:inR x 0 1000000000000 with
   |false=>rfl
   |true=>
    have C:0<=x:=by unfold inR at hi;simp at hi;exact hi.1
    by_cases e0:x=0
    ·subst e0
     have:(if(0:Int)>v then(0:Int)else v)=v:=by rw[if_neg qc]
     rw[this,Jc j n v _ I]
     rfl
    ·by_cases e1:x<=v
     ·have e2:(decide (x<=v))=true:=by simpa using e1
      simp[e0,e1]
     ·have:(if x>v then x else v)=x:=by rw[if_pos qc]
      rw[this,Jc j n x _ C]
      simp[e0,e1]
def T0(p:M.YZ):Bool:=(jK p).getD false
theorem zE{p:M.YZ}(j:p.ok):jK p=some (T0 p):=by obtain⟨r,e⟩:=Jd j.Zh fuel 0 0 qc qj;have e2:jK p=some r:=e;unfold T0;rw[e2];rfl
theorem Cs{p:M.YZ}(j:p.ok):rF p=some (T0 p):=by rw[<-zE j];exact Jc j.Zh fuel 0 0 qc
def zI(a:ByteArray)(x:M.aA):Bool:=x.Name.toList==a.toList
end Go.Proofs.YtipmihbgjolaaaaGreat.gen
