/-
  Helper text. No conditions.
-/
import Derived.Test.YtjlnkcoeghonfaaGreatStepPagePm
set_option linter.all false
namespace Go.Proofs.YtjlnkcoeghonfaaGreat.gen
open Go Go.Sh
open Go.IntKind (i64)
theorem cG(x a b:Int):bB x a b=some (inR x a b):=by unfold bB inR;by_cases h:a<=x;(rw[if_pos (by simpa using h)];simp[h]);·rw[if_neg (by simpa using h)];simp[h]
theorem bR(x a b:Int):aV x a b=some (inR x a b):=by unfold aV inR;by_cases h:a<=x;(rw[if_pos (by simpa using h)];simp[h]);·rw[if_neg (by simpa using h)];simp[h]
def Nc(r:M.aJg)(b:Bool):Int:=if b=true then 76 else i64.wrap (16+(List.length r.aKS:Int))
theorem LB(r:M.aJg)(b:Bool):xK r b=some (Nc r b):=by unfold xK Nc;cases b<;>rfl
theorem K7(r:M.aJg)(b:Bool):yI r b=some (Nc r b):=by unfold yI Nc;cases b<;>rfl
def UO(v:Int)(x:M.aJo):Int:=i64.wrap (v+Nc x.aJg (x.aJg.aKU==3))
def FV(s:M.aO):Int:=s.aJk.foldl (λv c=>c.aJt.foldl UO v) 0
theorem LF{s:M.aO}(C:s.ok):xA s=some (FV s):=by have hm:=le_max C.aJk.1;unfold xA FV;refine Jr (L:=eR s) (E:=some) C.aJk.1 (λn v k hk=> ?_) (λn v=> ?_) 0;(have hc:=C.aJk.2 _ (qG hk);have U:=le_max hc.aJt.1;simp only[eR];rw[if_pos (bE hk),bG jD];refine Jr (xs:=s.aJk[k].aJt) (L:=iZ s (k:Int) (λI _=>eR s n I ((k+1:Nat):Int))) (E:=λI=>eR s n I ((k+1:Nat):Int)) hc.aJt.1 (λn v j J=> ?_) (λn v=> ?_) v;(simp only[iZ];rw[aH hk,qA,if_pos (bE J),aH J,qA,LB,qA,bG jD];rfl);·simp only[iZ];rw[aH hk,qA,if_neg jK]);·simp only[eR];rw[if_neg jK]
theorem Lf{s:M.aO}(C:s.ok):xZ s=some (FV s):=by have hm:=le_max C.aJk.1;unfold xZ FV;refine Jr (L:=eY s) (E:=some) C.aJk.1 (λn v k hk=> ?_) (λn v=> ?_) 0;(have hc:=C.aJk.2 _ (qG hk);have U:=le_max hc.aJt.1;simp only[eY];rw[if_pos (bE hk),bG jD,aH hk,qA];refine Jr (xs:=s.aJk[k].aJt) (L:=iW s.aJk[k] (λI _=>eY s n I ((k+1:Nat):Int))) (E:=λI=>eY s n I ((k+1:Nat):Int)) hc.aJt.1 (λn v j J=> ?_) (λn v=> ?_) v;(simp only[iW];rw[if_pos (bE J),aH J,qA,K7,qA,bG jD];rfl);·simp only[iW];rw[if_neg jK]);·simp only[eY];rw[if_neg jK]
def RG(b:UInt8):Bool:=(decide (97<=b.toNat)&&decide (b.toNat<=122))||(decide (48<=b.toNat)&&decide (b.toNat<=57))
def QM(s:ByteArray):Bool:=Xg s RG&&decide (s.size<=12)
theorem PE{s:ByteArray}(j:s.size<=maxLen):BJ s=some (QM s):=by
 have C:=le_max j
 unfold BJ QM
 rw[KK (L:=iE s) (g:=RG) (F:=some false) (E:=some (decide (s.size<=12))) j (λn k hk=> ?_) (λn=> ?_),bY]
 ·simp only[iE]
  rw[if_pos (bE hk),J4 hk,qA,bG jD]
  generalize s[k]=b
  unfold RG
  generalize iE s n ((k+1:Nat):Int)=Z
  simp only[Bool.or_eq_true,qM,qL,Bool.not_eq_true',decide_eq_false_iff_not]
  repeat' split
  all_goals first|rfl|(exfalso;omega)
 ·simp only[iE];rw[if_neg jK];simp;omega
theorem Mh{s:ByteArray}(j:s.size<=maxLen):zP s=some (QM s):=by
 have C:=le_max j
 unfold zP QM
 rw[KK (L:=eJ s) (g:=RG) (F:=some false) (E:=some (decide (s.size<=12))) j (λn k hk=> ?_) (λn=> ?_),bY]
 ·simp only[eJ]
  rw[if_pos (bE hk),J4 hk,qA,bG jD]
  generalize s[k]=b
  unfold RG
  generalize eJ s n ((k+1:Nat):Int)=Z
  simp only[Bool.or_eq_true,qM,qL,Bool.not_eq_true',decide_eq_false_iff_not]
  repeat' split
  all_goals first|rfl|(exfalso;omega)
 ·simp only[eJ];rw[if_neg jK];simp;omega
def Dp(k:M.Key):Bool:=inR k.aJr 1 3&&(inR k.N (-1000000000000) 1000000000000&&(QM k.aJ2&&((k.aJr !=2||k.N==0)&&(k.aJr !=1||(k.aJ2.toList==(⟨#[]⟩:ByteArray).toList)))))
theorem mB{k:M.Key}(hk:k.ok):fL k=some (Dp k):=by have j:=PE hk.aJ2;unfold fL Dp;simp only[cG,j,qA];generalize inR k.aJr 1 3=a;generalize inR k.N (-1000000000000) 1000000000000=b;generalize QM k.aJ2=c;generalize (k.aJ2.toList==(⟨#[]⟩:ByteArray).toList)=g;by_cases h1:k.aJr=2<;>by_cases h2:k.aJr=1<;>by_cases h3:k.N=0<;>cases a<;>cases b<;>cases c<;>cases g<;>simp[h1,h2,h3]<;>omega
theorem oS{k:M.Key}(hk:k.ok):gW k=some (Dp k):=by have j:=Mh hk.aJ2;unfold gW Dp;simp only[bR,j,qA];generalize inR k.aJr 1 3=a;generalize inR k.N (-1000000000000) 1000000000000=b;generalize QM k.aJ2=c;generalize (k.aJ2.toList==(⟨#[]⟩:ByteArray).toList)=g;by_cases h1:k.aJr=2<;>by_cases h2:k.aJr=1<;>by_cases h3:k.N=0<;>cases a<;>cases b<;>cases c<;>cases g<;>simp[h1,h2,h3]<;>omega
theorem GW{k:M.Key}(h:Dp k=true):k.aJ2.size<=12:=by unfold Dp QM at h;simp only[qM,qL]at h;omega
def M1(k:M.Key):Nat:=if Dp k=true then if(k.aJr==2)=true then 1+k.aJ2.size else 7+k.aJ2.size else 0
theorem My{k:M.Key}(hk:k.ok):∃l,kM k=some l/\l.length=M1 k:=by
 unfold kM M1
 rw[mB hk,qA]
 by_cases h:Dp k=true
 ·have J:=GW h
  have I:=aR k.aJ2
  rw[if_neg (by simp[h]),if_pos h,V3]
  by_cases h2:(k.aJr==2)=true
  ·have h3:¬(k.aJr !=2)=true:=by simp[bne,h2]
   rw[if_pos h2]
   have C:∀n r,r.length<=7->bN k (n+1) 5 r=some (r++bC k.aJ2):=by intro n r j;simp only[bN];rw[if_pos jG,if_neg h3,eH jD,qA]
   exact⟨_,C (18446744073709551609+6) _ jF,jE⟩
  ·have h3:(k.aJr !=2)=true:=by simp[bne,h2]
   rw[if_neg h2]
   have st:∀n (v:Nat) r,r.length<=7->v<=5->∃x:Int,bN k (n+1) (v:Int) r=bN k n ((v:Int)-1) (r++[x]):=by intro n v r j U;apply Exists.intro;simp only[bN];rw[if_pos jF,if_pos h3,if_pos (by rw[bK jD jD];simp;omega),eH jE,qA,bK (n:=(v:Int)-1) jD jD]
   obtain⟨x1,e1⟩:=st (18446744073709551609+6) 5 ([IntKind.u8.wrap k.aJr]) jF jF
   obtain⟨x2,e2⟩:=st (18446744073709551609+5) 4 ([IntKind.u8.wrap k.aJr]++[x1]) jF jF
   obtain⟨x3,e3⟩:=st (18446744073709551609+4) 3 ([IntKind.u8.wrap k.aJr]++[x1]++[x2]) jF jF
   obtain⟨x4,e4⟩:=st (18446744073709551609+3) 2 ([IntKind.u8.wrap k.aJr]++[x1]++[x2]++[x3]) jF jF
   obtain⟨x5,e5⟩:=st (18446744073709551609+2) 1 ([IntKind.u8.wrap k.aJr]++[x1]++[x2]++[x3]++[x4]) jF jF
   obtain⟨x6,e6⟩:=st (18446744073709551609+1) 0 ([IntKind.u8.wrap k.aJr]++[x1]++[x2]++[x3]++[x4]++[x5]) jF jF
   have e7:∀n r,r.length<=7->bN k (n+1) (-1) r=some (r++bC k.aJ2):=by intro n r j;simp only[bN];rw[if_neg jG,eH jD,qA]
   exact⟨_,e1.trans (e2.trans (e3.trans (e4.trans (e5.trans (e6.trans (e7 _ _ jF)))))),jE⟩
 ·rw[if_pos (by simp[h]),if_neg h];exact⟨_,rfl,rfl⟩
theorem Mm{k:M.Key}(hk:k.ok):∃l,iF k=some l/\l.length=M1 k:=by
 unfold iF M1
 rw[oS hk,qA]
 by_cases h:Dp k=true
 ·have I:=GW h
  have C:=aR k.aJ2
  rw[if_neg (by simp[h]),if_pos h,V3]
  by_cases h2:(k.aJr==2)=true
  ·have h3:¬(k.aJr !=2)=true:=by simp[bne,h2]
   rw[if_pos h2,if_neg h3,eH jE,qA]
   exact⟨_,rfl,jE⟩
  ·have h3:(k.aJr !=2)=true:=by simp[bne,h2]
   rw[if_neg h2,if_pos h3]
   have st:∀n (v:Nat) r,r.length<=7->v<=5->∃x:Int,cC k (n+1) (v:Int) r=cC k n ((v:Int)-1) (r++[x]):=by intro n v r j J;apply Exists.intro;simp only[cC];rw[if_pos jF,if_pos (by rw[bK jD jD];simp;omega),eH jE,qA,bK (n:=(v:Int)-1) jD jD]
   obtain⟨x1,e1⟩:=st (18446744073709551609+6) 5 ([IntKind.u8.wrap k.aJr]) jF jF
   obtain⟨x2,e2⟩:=st (18446744073709551609+5) 4 ([IntKind.u8.wrap k.aJr]++[x1]) jF jF
   obtain⟨x3,e3⟩:=st (18446744073709551609+4) 3 ([IntKind.u8.wrap k.aJr]++[x1]++[x2]) jF jF
   obtain⟨x4,e4⟩:=st (18446744073709551609+3) 2 ([IntKind.u8.wrap k.aJr]++[x1]++[x2]++[x3]) jF jF
   obtain⟨x5,e5⟩:=st (18446744073709551609+2) 1 ([IntKind.u8.wrap k.aJr]++[x1]++[x2]++[x3]++[x4]) jF jF
   obtain⟨x6,e6⟩:=st (18446744073709551609+1) 0 ([IntKind.u8.wrap k.aJr]++[x1]++[x2]++[x3]++[x4]++[x5]) jF jF
   have e7:∀n r,r.length<=7->cC k (n+1) (-1) r=some (r++bC k.aJ2):=by intro n r j;simp only[cC];rw[if_neg jG,eH jD,qA]
   exact⟨_,e1.trans (e2.trans (e3.trans (e4.trans (e5.trans (e6.trans (e7 _ _ jF)))))),jE⟩
 ·rw[if_pos (by simp[h]),if_neg h];exact⟨_,rfl,rfl⟩
def L6(sl:Bool)(b:UInt8):Bool:=(decide (97<=b.toNat)&&decide (b.toNat<=122))||(sl&&decide (b.toNat=47))
def Re(s:ByteArray)(n:Int)(sl:Bool):Bool:=Xg s (L6 sl)&&inR (s.size:Int) 1 n
def mL(s:ByteArray):Bool:=Xg s (L6 false)&&inR (s.size:Int) 1 8
theorem dF{s:ByteArray}(j:s.size<=maxLen):cE s=some (mL s):=by
 have C:=le_max j
 unfold cE mL
 rw[KK (L:=nI s) (g:=L6 false) (F:=some false) (E:=some (inR (s.size:Int) 1 8)) j (λn k hk=> ?_) (λn=> ?_),bY]
 ·simp only[nI]
  rw[if_pos (bE hk),J4 hk,qA,bG jD]
  generalize s[k]=b
  unfold L6
  generalize nI s n ((k+1:Nat):Int)=Z
  simp only[Bool.or_eq_true,qM,qL,Bool.not_eq_true',decide_eq_false_iff_not,Bool.false_and,Bool.or_false]
  repeat' split
  all_goals first|rfl|(exfalso;omega)
 ·simp only[nI];rw[if_neg jK,cG,qA]
theorem J9{s:ByteArray}{m:Int}{sl:Bool}(j:s.size<=maxLen):BL s m sl=some (Re s m sl):=by
 have C:=le_max j
 unfold BL Re
 rw[KK (L:=iG s m sl) (g:=L6 sl) (F:=some false) (E:=some (inR (s.size:Int) 1 m)) j (λn k hk=> ?_) (λn=> ?_),bY]
 ·simp only[iG]
  rw[if_pos (bE hk),J4 hk,qA,bG jD]
  generalize s[k]=b
  unfold L6
  generalize iG s m sl n ((k+1:Nat):Int)=Z
  cases sl<;>simp only[Bool.or_eq_true,qM,qL,Bool.not_eq_true',decide_eq_false_iff_not,Bool.false_and,Bool.or_false,Bool.true_and,beq_eq_false_iff_ne,ne_eq,qD,if_true,if_false]
  all_goals repeat' split
  all_goals first|rfl|(exfalso;omega)
 ·simp only[iG];rw[if_neg jK,bR,qA]
theorem cT{s:ByteArray}(j:s.size<=maxLen):bV s=some (mL s):=by unfold bV;rw[J9 j,qA];rfl
def Ta(x:M.Field):Bool:=mL x.Name&&inR x.N 0 1000000000
def Ho(l:List M.Field)(k:Nat):Bool:=(l[k]?).any Ta&&(decide (k=0)||(l[k-1]?).any λy=>(l[k]?).any λx=>Op.bytesLess y.Name.toList x.Name.toList)
def bU(r:M.aA):Bool:=(List.range r.aJi.length).all (Ho r.aJi)&&decide (r.aJi.length<=6)
theorem pD{r:M.aA}(C:r.ok):bS r=some (bU r):=by
 have J:=le_max C.aJi.1
 unfold bS bU
 rw[oO (L:=gM r) (g:=Ho r.aJi) (F:=some false) (E:=some (decide (r.aJi.length<=6))) C.aJi.1 (λn k hk=> ?_) (λn=> ?_),bY]
 ·have I:=C.aJi.2 _ (qG hk)
  simp only[gM]
  rw[if_pos (bE hk),aH hk,qA,bG jD,dF I.Name,qA,cG,qA]
  unfold Ho Ta
  rw[qF hk]
  generalize gM r n ((k+1:Nat):Int)=Z
  by_cases h0:k=0
  ·subst h0;simp only[qe];generalize mL r.aJi[0].Name=a;generalize inR r.aJi[0].N 0 1000000000=b;cases a<;>cases b<;>simp
  ·have e:i64.wrap ((k:Int)-1)=((k-1:Nat):Int):=by rw[bK jD jD];omega
   have j:k-1<r.aJi.length:=by omega
   rw[if_pos (c:=(decide ((k:Int)>0))=true) jE,e,aH j,qA,qF j]
   simp only[qe,h0,decide_false,Bool.false_or]
   generalize mL r.aJi[k].Name=a
   generalize inR r.aJi[k].N 0 1000000000=b
   generalize Op.bytesLess r.aJi[k-1].Name.toList r.aJi[k].Name.toList=c
   cases a<;>cases b<;>cases c<;>simp
 ·simp only[gM];rw[if_neg jK];simp;omega
theorem wX{r:M.aA}(C:r.ok):cM r=some (bU r):=by
 have J:=le_max C.aJi.1
 unfold cM bU
 rw[oO (L:=gR r) (g:=Ho r.aJi) (F:=some false) (E:=some (decide (r.aJi.length<=6))) C.aJi.1 (λn k hk=> ?_) (λn=> ?_),bY]
 ·have I:=C.aJi.2 _ (qG hk)
  simp only[gR]
  rw[if_pos (bE hk),aH hk,qA,bG jD,cT I.Name,qA,bR,qA]
  unfold Ho Ta
  rw[qF hk]
  generalize gR r n ((k+1:Nat):Int)=Z
  by_cases h0:k=0
  ·subst h0;simp only[qe];generalize mL r.aJi[0].Name=a;generalize inR r.aJi[0].N 0 1000000000=b;cases a<;>cases b<;>simp
  ·have e:i64.wrap ((k:Int)-1)=((k-1:Nat):Int):=by rw[bK jD jD];omega
   have j:k-1<r.aJi.length:=by omega
   rw[if_pos (c:=(decide ((k:Int)>0))=true) jE,e,aH j,qA,qF j]
   simp only[qe,h0,decide_false,Bool.false_or]
   rw[Cd r.aJi[k-1].Name.toList r.aJi[k].Name.toList]
   generalize mL r.aJi[k].Name=a
   generalize inR r.aJi[k].N 0 1000000000=b
   generalize (Op.bytesLess r.aJi[k].Name.toList r.aJi[k-1].Name.toList||r.aJi[k].Name.toList==r.aJi[k-1].Name.toList)=c
   cases a<;>cases b<;>cases c<;>simp
 ·simp only[gR];rw[if_neg jK];simp;omega
theorem vK{r:M.aA}(h:bU r=true):r.aJi.length<=6/\∀x∈r.aJi,x.Name.size<=8/\0<=x.N/\x.N<=1000000000:=by unfold bU at h;simp only[qM,qL,qR,qS]at h;refine⟨h.2,λx j=> ?_⟩;obtain⟨k,hk,rfl⟩:=List.getElem_of_mem j;have:=h.1 k hk;unfold Ho Ta mL inR at this;rw[qF hk]at this;simp only[qe,qM,qL]at this;omega
theorem Cn{r:List Int}{n:Nat}(I:r.length<=1048576)(C:n<=1000000000000):∃l,bX r (n:Int)=some l/\l.length=r.length+(uv n).length:=by
 have j:inR (n:Int) 0 1000000000000=true:=by unfold inR;simp;omega
 unfold bX
 rw[eH jE,qA,cG,qA,j,if_neg jF]
 refine Vy (L:=cV) (b:=λv=>IntKind.u8.wrap (i64.wrap (BitVec.ofInt (IntKind.i64.bits) (i64.wrap (BitVec.ofInt (IntKind.i64.bits) v&&&BitVec.ofInt (IntKind.i64.bits) 127).toNat)|||BitVec.ofInt (IntKind.i64.bits) 128).toNat)) (c:=λv=>IntKind.u8.wrap v) (λm n r h1 h2=> ?_) (λm n r h1=> ?_) 8 fuel n r jD jD jI jD
 ·simp only[cV];rw[if_pos jE,uvf]
 ·simp only[cV];rw[if_neg jE]
theorem Cl{r:List Int}{n:Nat}(I:r.length<=1048576)(C:n<=1000000000000):∃l,cF r (n:Int)=some l/\l.length=r.length+(uv n).length:=by
 have j:inR (n:Int) 0 1000000000000=true:=by unfold inR;simp;omega
 unfold cF dK
 rw[eH jE,qA,qA,bR,qA,j,if_neg jF]
 refine Vy (L:=cU) (b:=λv=>IntKind.u8.wrap (i64.wrap ((Int.tmod v 128)+128))) (c:=λv=>IntKind.u8.wrap v) (λm n r h1 h2=> ?_) (λm n r h1=> ?_) 8 fuel n r jD jD jI jD
 ·simp only[cU];rw[if_pos jE,uvt h2]
 ·simp only[cU];rw[if_neg jE]
def DO(x:M.Field):Nat:=(uv x.Name.size).length+x.Name.size+(uv x.N.toNat).length
def Nm(r:M.aA):Nat:=if bU r=true then(uv r.aJi.length).length+bA DO r.aJi else 0
theorem Ky{r b:List Int}(C:r.length<=1000)(hb:b.length<=1000):∃l,bW r b=some l/\l.length=r.length+((uv b.length).length+b.length):=by obtain⟨l,e,j⟩:=Cn (r:=r) (n:=b.length) jD jD;have h9:=Jh b.length jD;refine⟨l++b,?_,jE⟩;unfold bW;rw[e,qA,eH jD,qA]
theorem JB{r:M.aA}(hr:r.ok):∃l,fZ r=some l/\l.length=Nm r:=by
 unfold fZ Nm
 rw[pD hr,qA]
 by_cases h:bU r=true
 ·obtain⟨h6,I⟩:=vK h
  have U:∀x∈r.aJi,DO x<=26:=by intro x j;have:=I x j;have h1:=Jh x.Name.size jD;have h2:=Jh x.N.toNat jD;unfold DO;omega
  have hsum:=A9 U
  obtain⟨l,e,J⟩:=Cn (r:=[]) (n:=r.aJi.length) jF jD
  have h9:=Jh r.aJi.length jD
  rw[if_neg (by simp[h]),if_pos h,e,qA]
  have:=SU (xs:=r.aJi) (w:=DO) (B:=900) (L:=cY r) (λn k hk q hq=> ?_) (λn q=> ?_) fuel 0 l jI jD (by simp at J⊢;omega)
  ·obtain⟨z,e2,hz⟩:=this;exact⟨z,e2,by simp at J hz;omega⟩
  ·have j:=I _ (qG hk);have hw2:=U _ (qG hk);obtain⟨a,ea,ha⟩:=Ky (r:=q) (b:=bC r.aJi[k].Name) jD (by rw[aR];omega);rw[aR]at ha;have hn:=Jh r.aJi[k].Name.size jD;obtain⟨b,C,hb⟩:=Cn (r:=a) (n:=r.aJi[k].N.toNat) jD jD;rw[Int.toNat_of_nonneg j.2.1]at C;refine⟨b,by unfold DO;omega,?_⟩;simp only[cY];rw[if_pos (bE hk),aH hk,qA,ea,qA,C,qA,bG jD]
  ·simp only[cY];rw[if_neg jK]
 ·rw[if_pos (by simp[h]),if_neg h];exact⟨_,rfl,rfl⟩
theorem Kp{r b:List Int}(C:r.length<=1000)(hb:b.length<=1000):∃l,gP r b=some l/\l.length=r.length+((uv b.length).length+b.length):=by obtain⟨l,e,j⟩:=Cl (r:=r) (n:=b.length) jD jD;have h9:=Jh b.length jD;refine⟨l++b,?_,jE⟩;unfold gP;rw[e,qA,eH jD,qA]
theorem JH{r:M.aA}(hr:r.ok):∃l,fT r=some l/\l.length=Nm r:=by
 unfold fT Nm
 rw[wX hr,qA]
 by_cases h:bU r=true
 ·obtain⟨h6,I⟩:=vK h
  have U:∀x∈r.aJi,DO x<=26:=by intro x j;have:=I x j;have h1:=Jh x.Name.size jD;have h2:=Jh x.N.toNat jD;unfold DO;omega
  have hsum:=A9 U
  obtain⟨l,e,J⟩:=Cl (r:=[]) (n:=r.aJi.length) jF jD
  have h9:=Jh r.aJi.length jD
  rw[if_neg (by simp[h]),if_pos h,e,qA]
  have:=SU (xs:=r.aJi) (w:=DO) (B:=900) (L:=cZ r) (λn k hk q hq=> ?_) (λn q=> ?_) fuel 0 l jI jD (by simp at J⊢;omega)
  ·obtain⟨z,e2,hz⟩:=this;exact⟨z,e2,by simp at J hz;omega⟩
  ·have j:=I _ (qG hk);have hw2:=U _ (qG hk);obtain⟨a,ea,ha⟩:=Kp (r:=q) (b:=bC r.aJi[k].Name) jD (by rw[aR];omega);rw[aR]at ha;have hn:=Jh r.aJi[k].Name.size jD;obtain⟨b,C,hb⟩:=Cl (r:=a) (n:=r.aJi[k].N.toNat) jD jD;rw[Int.toNat_of_nonneg j.2.1]at C;refine⟨b,by unfold DO;omega,?_⟩;simp only[cZ];rw[if_pos (bE hk),aH hk,qA,ea,qA,C,qA,bG jD]
  ·simp only[cZ];rw[if_neg jK]
 ·rw[if_pos (by simp[h]),if_neg h];exact⟨_,rfl,rfl⟩
def M5(v:Int)(x:M.aJl):Int:=i64.wrap (v+((M1 x.Key:Int)+(Nm x.aA:Int)))
def FG(s:M.aD):Int:=s.aJe.foldl M5 0
def DF(d:M.aJb):Int:=d.aJm.foldl (λv s=>i64.wrap (v+FG s)) 0
def Q9(b:M.aJa):Int:=i64.wrap ((i64.wrap ((i64.wrap (FV b.aJk+i64.wrap (DF b.bL.aJz+(List.length b.bL.Log:Int))))+FG b.aE.aJz))+(i64.wrap (40*(List.length b.aE.aJx.aM.aJ1:Int))))
theorem HX{s:M.aD}(j:s.ok):uF s=some (FG s):=by have hm:=le_max j.aJe.1;unfold uF FG;refine Jr (L:=kV s) (E:=some) j.aJe.1 (λn v k hk=> ?_) (λn v=> ?_) 0;(have C:=j.aJe.2 _ (qG hk);obtain⟨a,I,U⟩:=My C.Key;obtain⟨b,J,hb⟩:=JB C.aA;simp only[kV];rw[if_pos (bE hk),aH hk,qA,I,qA,J,qA,bG jD,U,hb];unfold M5;rw[wrap_add,Int.add_assoc]);·simp only[kV];rw[if_neg jK]
theorem JQ{d:M.aJb}(j:d.ok):sW d=some (DF d):=by have I:=le_max j.aJm.1;unfold sW DF;refine Jr (L:=gK d) (E:=some) j.aJm.1 (λn v k hk=> ?_) (λn v=> ?_) 0;(have C:=j.aJm.2 _ (qG hk);simp only[gK];rw[if_pos (bE hk),aH hk,qA,HX C,qA,bG jD]);·simp only[gK];rw[if_neg jK]
theorem OC{b:M.aJa}(hb:b.ok):CK b=some (Q9 b):=by unfold CK D2 Q9;rw[LF hb.aJk,qA,JQ hb.bL.aJz,qA,qA,HX hb.aE.aJz,qA]
theorem HO{s:M.aD}(j:s.ok):tY s=some (FG s):=by have hm:=le_max j.aJe.1;unfold tY FG;refine Jr (L:=kP s) (E:=some) j.aJe.1 (λn v k hk=> ?_) (λn v=> ?_) 0;(have C:=j.aJe.2 _ (qG hk);obtain⟨a,I,U⟩:=Mm C.Key;obtain⟨b,J,hb⟩:=JH C.aA;simp only[kP];rw[if_pos (bE hk),aH hk,qA,I,qA,J,qA,bG jD,U,hb];unfold M5;rw[WK]);·simp only[kP];rw[if_neg jK]
theorem Ju{d:M.aJb}(j:d.ok):sN d=some (DF d):=by have I:=le_max j.aJm.1;unfold sN DF;refine Jr (L:=gH d) (E:=some) j.aJm.1 (λn v k hk=> ?_) (λn v=> ?_) 0;(have C:=j.aJm.2 _ (qG hk);simp only[gH];rw[if_pos (bE hk),aH hk,qA,HO C,qA,bG jD]);·simp only[gH];rw[if_neg jK]
theorem ON{b:M.aJa}(hb:b.ok):Cs b=some (Q9 b):=by unfold Cs DJ Q9;rw[Lf hb.aJk,qA,Ju hb.bL.aJz,qA,qA,HO hb.aE.aJz,qA]
