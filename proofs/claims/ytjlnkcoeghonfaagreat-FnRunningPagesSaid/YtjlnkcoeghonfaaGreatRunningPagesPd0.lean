/-
  Helper text. No conditions.
-/
import Derived.Test.YtjlnkcoeghonfaaGreatRunningPagesPz
set_option linter.all false
namespace Go.Proofs.YtjlnkcoeghonfaaGreat.gen
open Go Go.Sh
open Go.IntKind (i64)
theorem cK(x a b:Int):bG x a b=some (inR x a b):=by unfold bG inR;by_cases h:a<=x;(rw[jE wN];simp[h]);·rw[jF wN];simp[h]
theorem bY(x a b:Int):bB x a b=some (inR x a b):=by unfold bB inR;by_cases h:a<=x;(rw[jE wN];simp[h]);·rw[jF wN];simp[h]
def Ox(r:M.aLb)(b:Bool):Int:=if b=true then 76 else i64.wrap (16+(List.length r.aMN:Int))
theorem MV(r:M.aLb)(b:Bool):BE r b=some (Ox r b):=by unfold BE Ox;cases b<;>rfl
theorem Ms(r:M.aLb)(b:Bool):BS r b=some (Ox r b):=by unfold BS Ox;cases b<;>rfl
def W7(v:Int)(x:M.aLr):Int:=i64.wrap (v+Ox x.aLb (x.aLb.aMM==3))
def GK(s:M.aJ):Int:=s.aLW.foldl (λv c=>c.aLg.foldl W7 v) 0
theorem MY{s:M.aJ}(C:s.ok):Bt s=some (GK s):=by have hm:=aY C.aLW.1;unfold Bt GK;refine Ku (L:=fV s) (E:=some) C.aLW.1 (λn v k hk=> ?_) (λn v=> ?_) 0;(have hc:=C.aLW.2 _ (qG hk);have U:=aY hc.aLg.1;simp only[fV];rw[jE (bE hk),bL wi];refine Ku (xs:=s.aLW[k].aLg) (L:=mI s (k:Int) (λI _=>fV s n I ((k+1:Nat):Int))) (E:=λI=>fV s n I ((k+1:Nat):Int)) hc.aLg.1 (λn v j J=> ?_) (λn v=> ?_) v;(simp only[mI];rw[aM hk,qA,jE (bE J),aM J,qA,MV,qA,bL wi];rfl);·simp only[mI];rw[aM hk,qA,jF wG]);·simp only[fV];rw[jF wG]
theorem My{s:M.aJ}(C:s.ok):BL s=some (GK s):=by have hm:=aY C.aLW.1;unfold BL GK;refine Ku (L:=gF s) (E:=some) C.aLW.1 (λn v k hk=> ?_) (λn v=> ?_) 0;(have hc:=C.aLW.2 _ (qG hk);have U:=aY hc.aLg.1;simp only[gF];rw[jE (bE hk),bL wi,aM hk,qA];refine Ku (xs:=s.aLW[k].aLg) (L:=mH s.aLW[k] (λI _=>gF s n I ((k+1:Nat):Int))) (E:=λI=>gF s n I ((k+1:Nat):Int)) hc.aLg.1 (λn v j J=> ?_) (λn v=> ?_) v;(simp only[mH];rw[jE (bE J),aM J,qA,Ms,qA,bL wi];rfl);·simp only[mH];rw[jF wG]);·simp only[gF];rw[jF wG]
def TF(b:UInt8):Bool:=(decide (97<=b.toNat)&&decide (b.toNat<=122))||(decide (48<=b.toNat)&&decide (b.toNat<=57))
def PQ(s:ByteArray):Bool:=ZO s TF&&decide (s.size<=12)
theorem Q8{s:ByteArray}(j:s.size<=maxLen):Dc s=some (PQ s):=by
 have C:=aY j
 unfold Dc PQ
 rw[L7 (L:=lM s) (g:=TF) (F:=some false) (E:=some (decide (s.size<=12))) j (λn k hk=> ?_) (λn=> ?_),bF]
 ·simp only[lM]
  rw[jE (bE hk),Lf hk,qA,bL wi]
  generalize s[k]=b
  unfold TF
  generalize lM s n ((k+1:Nat):Int)=Z
  simp only[jX,qM,qL,Bool.not_eq_true',decide_eq_false_iff_not]
  repeat' split
  all_goals first|rfl|(exfalso;omega)
 ·simp only[lM];rw[jF wG];simp;omega
theorem Ny{s:ByteArray}(j:s.size<=maxLen):Ce s=some (PQ s):=by
 have C:=aY j
 unfold Ce PQ
 rw[L7 (L:=fH s) (g:=TF) (F:=some false) (E:=some (decide (s.size<=12))) j (λn k hk=> ?_) (λn=> ?_),bF]
 ·simp only[fH]
  rw[jE (bE hk),Lf hk,qA,bL wi]
  generalize s[k]=b
  unfold TF
  generalize fH s n ((k+1:Nat):Int)=Z
  simp only[jX,qM,qL,Bool.not_eq_true',decide_eq_false_iff_not]
  repeat' split
  all_goals first|rfl|(exfalso;omega)
 ·simp only[fH];rw[jF wG];simp;omega
def EZ(k:M.bD):Bool:=inR k.aLn 1 3&&(inR k.N (-1000000000000) 1000000000000&&(PQ k.aLu&&((k.aLn !=2||k.N==0)&&(k.aLn !=1||(k.aLu.toList==(⟨#[]⟩:ByteArray).toList)))))
theorem pF{k:M.bD}(hk:k.ok):gZ k=some (EZ k):=by have j:=Q8 hk.aLu;unfold gZ EZ;simp only[cK,j,qA];generalize inR k.aLn 1 3=a;generalize inR k.N (-1000000000000) 1000000000000=b;generalize PQ k.aLu=c;generalize (k.aLu.toList==(⟨#[]⟩:ByteArray).toList)=g;by_cases h1:k.aLn=2<;>by_cases h2:k.aLn=1<;>by_cases h3:k.N=0<;>cases a<;>cases b<;>cases c<;>cases g<;>simp[h1,h2,h3]<;>omega
theorem uE{k:M.bD}(hk:k.ok):kX k=some (EZ k):=by have j:=Ny hk.aLu;unfold kX EZ;simp only[bY,j,qA];generalize inR k.aLn 1 3=a;generalize inR k.N (-1000000000000) 1000000000000=b;generalize PQ k.aLu=c;generalize (k.aLu.toList==(⟨#[]⟩:ByteArray).toList)=g;by_cases h1:k.aLn=2<;>by_cases h2:k.aLn=1<;>by_cases h3:k.N=0<;>cases a<;>cases b<;>cases c<;>cases g<;>simp[h1,h2,h3]<;>omega
theorem HJ{k:M.bD}(h:EZ k=true):k.aLu.size<=12:=by unfold EZ PQ at h;simp only[qM,qL]at h;omega
def Oh(k:M.bD):Nat:=if EZ k=true then if(k.aLn==2)=true then 1+k.aLu.size else 7+k.aLu.size else 0
theorem NN{k:M.bD}(hk:k.ok):∃l,nG k=some l/\l.length=Oh k:=by
 unfold nG Oh
 rw[pF hk,qA]
 by_cases h:EZ k=true
 ·have J:=HJ h
  have I:=aP k.aLu
  rw[jF wa,jE h,Yt]
  by_cases h2:(k.aLn==2)=true
  ·have h3:¬(k.aLn !=2)=true:=by simp[bne,h2]
   rw[jE h2]
   have C:∀n r,r.length<=7->bU k (n+1) 5 r=some (r++bJ k.aLu):=by intro n r j;simp only[bU];rw[jE wh,jF h3,dN wi,qA]
   exact⟨_,C (18446744073709551609+6) _ we,wX⟩
  ·have h3:(k.aLn !=2)=true:=by simp[bne,h2]
   rw[jF h2]
   have st:∀n (v:Nat) r,r.length<=7->v<=5->∃x:Int,bU k (n+1) (v:Int) r=bU k n ((v:Int)-1) (r++[x]):=by intro n v r j U;apply Exists.intro;simp only[bU];rw[jE we,jE h3,jE jm,dN wX,qA,bQ (n:=(v:Int)-1) wi wi]
   obtain⟨x1,e1⟩:=st (18446744073709551609+6) 5 ([IntKind.u8.wrap k.aLn]) we we
   obtain⟨x2,e2⟩:=st (18446744073709551609+5) 4 ([IntKind.u8.wrap k.aLn]++[x1]) we we
   obtain⟨x3,e3⟩:=st (18446744073709551609+4) 3 ([IntKind.u8.wrap k.aLn]++[x1]++[x2]) we we
   obtain⟨x4,e4⟩:=st (18446744073709551609+3) 2 ([IntKind.u8.wrap k.aLn]++[x1]++[x2]++[x3]) we we
   obtain⟨x5,e5⟩:=st (18446744073709551609+2) 1 ([IntKind.u8.wrap k.aLn]++[x1]++[x2]++[x3]++[x4]) we we
   obtain⟨x6,e6⟩:=st (18446744073709551609+1) 0 ([IntKind.u8.wrap k.aLn]++[x1]++[x2]++[x3]++[x4]++[x5]) we we
   have e7:∀n r,r.length<=7->bU k (n+1) (-1) r=some (r++bJ k.aLu):=by intro n r j;simp only[bU];rw[jF wh,dN wi,qA]
   exact⟨_,e1.trans (e2.trans (e3.trans (e4.trans (e5.trans (e6.trans (e7 _ _ we)))))),wX⟩
 ·rw[jE wa,jF h];exact⟨_,rfl,rfl⟩
theorem ND{k:M.bD}(hk:k.ok):∃l,lO k=some l/\l.length=Oh k:=by
 unfold lO Oh
 rw[uE hk,qA]
 by_cases h:EZ k=true
 ·have I:=HJ h
  have C:=aP k.aLu
  rw[jF wa,jE h,Yt]
  by_cases h2:(k.aLn==2)=true
  ·have h3:¬(k.aLn !=2)=true:=by simp[bne,h2]
   rw[jE h2,jF h3,dN wX,qA]
   exact⟨_,rfl,wX⟩
  ·have h3:(k.aLn !=2)=true:=by simp[bne,h2]
   rw[jF h2,jE h3]
   have st:∀n (v:Nat) r,r.length<=7->v<=5->∃x:Int,cN k (n+1) (v:Int) r=cN k n ((v:Int)-1) (r++[x]):=by intro n v r j J;apply Exists.intro;simp only[cN];rw[jE we,jE jm,dN wX,qA,bQ (n:=(v:Int)-1) wi wi]
   obtain⟨x1,e1⟩:=st (18446744073709551609+6) 5 ([IntKind.u8.wrap k.aLn]) we we
   obtain⟨x2,e2⟩:=st (18446744073709551609+5) 4 ([IntKind.u8.wrap k.aLn]++[x1]) we we
   obtain⟨x3,e3⟩:=st (18446744073709551609+4) 3 ([IntKind.u8.wrap k.aLn]++[x1]++[x2]) we we
   obtain⟨x4,e4⟩:=st (18446744073709551609+3) 2 ([IntKind.u8.wrap k.aLn]++[x1]++[x2]++[x3]) we we
   obtain⟨x5,e5⟩:=st (18446744073709551609+2) 1 ([IntKind.u8.wrap k.aLn]++[x1]++[x2]++[x3]++[x4]) we we
   obtain⟨x6,e6⟩:=st (18446744073709551609+1) 0 ([IntKind.u8.wrap k.aLn]++[x1]++[x2]++[x3]++[x4]++[x5]) we we
   have e7:∀n r,r.length<=7->cN k (n+1) (-1) r=some (r++bJ k.aLu):=by intro n r j;simp only[cN];rw[jF wh,dN wi,qA]
   exact⟨_,e1.trans (e2.trans (e3.trans (e4.trans (e5.trans (e6.trans (e7 _ _ we)))))),wX⟩
 ·rw[jE wa,jF h];exact⟨_,rfl,rfl⟩
def Nk(sl:Bool)(b:UInt8):Bool:=(decide (97<=b.toNat)&&decide (b.toNat<=122))||(sl&&decide (b.toNat=47))
def Td(s:ByteArray)(n:Int)(sl:Bool):Bool:=ZO s (Nk sl)&&inR (s.size:Int) 1 n
def pS(s:ByteArray):Bool:=ZO s (Nk false)&&inR (s.size:Int) 1 8
theorem eB{s:ByteArray}(j:s.size<=maxLen):cP s=some (pS s):=by
 have C:=aY j
 unfold cP pS
 rw[L7 (L:=sB s) (g:=Nk false) (F:=some false) (E:=some (inR (s.size:Int) 1 8)) j (λn k hk=> ?_) (λn=> ?_),bF]
 ·simp only[sB]
  rw[jE (bE hk),Lf hk,qA,bL wi]
  generalize s[k]=b
  unfold Nk
  generalize sB s n ((k+1:Nat):Int)=Z
  simp only[jX,qM,qL,Bool.not_eq_true',decide_eq_false_iff_not,Bool.false_and,Bool.or_false]
  repeat' split
  all_goals first|rfl|(exfalso;omega)
 ·simp only[sB];rw[jF wG,cK,qA]
theorem Lj{s:ByteArray}{m:Int}{sl:Bool}(j:s.size<=maxLen):De s m sl=some (Td s m sl):=by
 have C:=aY j
 unfold De Td
 rw[L7 (L:=lP s m sl) (g:=Nk sl) (F:=some false) (E:=some (inR (s.size:Int) 1 m)) j (λn k hk=> ?_) (λn=> ?_),bF]
 ·simp only[lP]
  rw[jE (bE hk),Lf hk,qA,bL wi]
  generalize s[k]=b
  unfold Nk
  generalize lP s m sl n ((k+1:Nat):Int)=Z
  cases sl<;>simp only[jX,qM,qL,Bool.not_eq_true',decide_eq_false_iff_not,Bool.false_and,Bool.or_false,Bool.true_and,beq_eq_false_iff_ne,ne_eq,qD,jH,jG]
  all_goals repeat' split
  all_goals first|rfl|(exfalso;omega)
 ·simp only[lP];rw[jF wG,bY,qA]
theorem dG{s:ByteArray}(j:s.size<=maxLen):cE s=some (pS s):=by unfold cE;rw[Lj j,qA];rfl
def Ve(x:M.aR):Bool:=pS x.Name&&inR x.N 0 1000000000
def H0(l:List M.aR)(k:Nat):Bool:=(l[k]?).any Ve&&(decide (k=0)||(l[k-1]?).any λy=>(l[k]?).any λx=>Op.bytesLess y.Name.toList x.Name.toList)
def cT(r:M.aF):Bool:=(List.range r.aLY.length).all (H0 r.aLY)&&decide (r.aLY.length<=6)
theorem uW{r:M.aF}(C:r.ok):cA r=some (cT r):=by
 have J:=aY C.aLY.1
 unfold cA cT
 rw[sM (L:=kK r) (g:=H0 r.aLY) (F:=some false) (E:=some (decide (r.aLY.length<=6))) C.aLY.1 (λn k hk=> ?_) (λn=> ?_),bF]
 ·have I:=C.aLY.2 _ (qG hk)
  simp only[kK]
  rw[jE (bE hk),aM hk,qA,bL wi,eB I.Name,qA,cK,qA]
  unfold H0 Ve
  rw[qF hk]
  generalize kK r n ((k+1:Nat):Int)=Z
  by_cases h0:k=0
  ·subst h0;simp only[qf];generalize pS r.aLY[0].Name=a;generalize inR r.aLY[0].N 0 1000000000=b;cases a<;>cases b<;>simp
  ·have e:i64.wrap ((k:Int)-1)=((k-1:Nat):Int):=by rw[bQ wi wi];omega
   have j:k-1<r.aLY.length:=by omega
   rw[jE (c:=(decide ((k:Int)>0))=true) wX,e,aM j,qA,qF j]
   simp only[qf,h0,jc,jZ]
   generalize pS r.aLY[k].Name=a
   generalize inR r.aLY[k].N 0 1000000000=b
   generalize Op.bytesLess r.aLY[k-1].Name.toList r.aLY[k].Name.toList=c
   cases a<;>cases b<;>cases c<;>simp
 ·simp only[kK];rw[jF wG];simp;omega
theorem Br{r:M.aF}(C:r.ok):cW r=some (cT r):=by
 have J:=aY C.aLY.1
 unfold cW cT
 rw[sM (L:=kO r) (g:=H0 r.aLY) (F:=some false) (E:=some (decide (r.aLY.length<=6))) C.aLY.1 (λn k hk=> ?_) (λn=> ?_),bF]
 ·have I:=C.aLY.2 _ (qG hk)
  simp only[kO]
  rw[jE (bE hk),aM hk,qA,bL wi,dG I.Name,qA,bY,qA]
  unfold H0 Ve
  rw[qF hk]
  generalize kO r n ((k+1:Nat):Int)=Z
  by_cases h0:k=0
  ·subst h0;simp only[qf];generalize pS r.aLY[0].Name=a;generalize inR r.aLY[0].N 0 1000000000=b;cases a<;>cases b<;>simp
  ·have e:i64.wrap ((k:Int)-1)=((k-1:Nat):Int):=by rw[bQ wi wi];omega
   have j:k-1<r.aLY.length:=by omega
   rw[jE (c:=(decide ((k:Int)>0))=true) wX,e,aM j,qA,qF j]
   simp only[qf,h0,jc,jZ]
   rw[EP r.aLY[k-1].Name.toList r.aLY[k].Name.toList]
   generalize pS r.aLY[k].Name=a
   generalize inR r.aLY[k].N 0 1000000000=b
   generalize (Op.bytesLess r.aLY[k].Name.toList r.aLY[k-1].Name.toList||r.aLY[k].Name.toList==r.aLY[k-1].Name.toList)=c
   cases a<;>cases b<;>cases c<;>simp
 ·simp only[kO];rw[jF wG];simp;omega
theorem AY{r:M.aF}(h:cT r=true):r.aLY.length<=6/\∀x∈r.aLY,x.Name.size<=8/\0<=x.N/\x.N<=1000000000:=by unfold cT at h;simp only[qM,qL,qR,qS]at h;refine⟨h.2,λx j=> ?_⟩;obtain⟨k,hk,rfl⟩:=List.getElem_of_mem j;have:=h.1 k hk;unfold H0 Ve pS inR at this;rw[qF hk]at this;simp only[qf,qM,qL]at this;omega
theorem DD{r:List Int}{n:Nat}(I:r.length<=1500000)(C:n<=1000000000000):∃l,cG r (n:Int)=some l/\l.length=r.length+(uv n).length:=by
 have j:inR (n:Int) 0 1000000000000=true:=by unfold inR;simp;omega
 unfold cG
 rw[dN wX,qA,cK,qA,j,jF we]
 refine X0 (L:=dI) (b:=λv=>IntKind.u8.wrap (i64.wrap (BitVec.ofInt (IntKind.i64.bits) (i64.wrap (BitVec.ofInt (IntKind.i64.bits) v&&&BitVec.ofInt (IntKind.i64.bits) 127).toNat)|||BitVec.ofInt (IntKind.i64.bits) 128).toNat)) (c:=λv=>IntKind.u8.wrap v) (λm n r h1 h2=> ?_) (λm n r h1=> ?_) 8 aH n r wi wi wH wi
 ·simp only[dI];rw[jE wX,uvf]
 ·simp only[dI];rw[jF wX]
theorem DB{r:List Int}{n:Nat}(I:r.length<=1500000)(C:n<=1000000000000):∃l,cQ r (n:Int)=some l/\l.length=r.length+(uv n).length:=by
 have j:inR (n:Int) 0 1000000000000=true:=by unfold inR;simp;omega
 unfold cQ eD
 rw[dN wX,qA,qA,bY,qA,j,jF we]
 refine X0 (L:=dH) (b:=λv=>IntKind.u8.wrap (i64.wrap ((Int.tmod v 128)+128))) (c:=λv=>IntKind.u8.wrap v) (λm n r h1 h2=> ?_) (λm n r h1=> ?_) 8 aH n r wi wi wH wi
 ·simp only[dH];rw[jE wX,uvt h2]
 ·simp only[dH];rw[jF wX]
def EA(x:M.aR):Nat:=(uv x.Name.size).length+x.Name.size+(uv x.N.toNat).length
def OE(r:M.aF):Nat:=if cT r=true then(uv r.aLY.length).length+dV EA r.aLY else 0
theorem LW{r b:List Int}(C:r.length<=1000)(hb:b.length<=1000):∃l,cF r b=some l/\l.length=r.length+((uv b.length).length+b.length):=by obtain⟨l,e,j⟩:=DD (r:=r) (n:=b.length) wi wi;have h9:=Kj b.length wi;refine⟨l++b,?_,wX⟩;unfold cF;rw[e,qA,dN wi,qA]
theorem KE{r:M.aF}(hr:r.ok):∃l,iL r=some l/\l.length=OE r:=by
 unfold iL OE
 rw[uW hr,qA]
 by_cases h:cT r=true
 ·obtain⟨h6,I⟩:=AY h
  have U:∀x∈r.aLY,EA x<=26:=by intro x j;have:=I x j;have h1:=Kj x.Name.size wi;have h2:=Kj x.N.toNat wi;unfold EA;omega
  have hsum:=eU U
  obtain⟨l,e,J⟩:=DD (r:=[]) (n:=r.aLY.length) we wi
  have h9:=Kj r.aLY.length wi
  rw[jF wa,jE h,e,qA]
  have:=UU (xs:=r.aLY) (w:=EA) (B:=900) (L:=dP r) (λn k hk q hq=> ?_) (λn q=> ?_) aH 0 l wH wi (by simp at J⊢;omega)
  ·obtain⟨z,e2,hz⟩:=this;exact⟨z,e2,by simp at J hz;omega⟩
  ·have j:=I _ (qG hk);have hw2:=U _ (qG hk);obtain⟨a,ea,ha⟩:=LW (r:=q) (b:=bJ r.aLY[k].Name) wi (by rw[aP];omega);rw[aP]at ha;have hn:=Kj r.aLY[k].Name.size wi;obtain⟨b,C,hb⟩:=DD (r:=a) (n:=r.aLY[k].N.toNat) wi wi;rw[jS j.2.1]at C;refine⟨b,by unfold EA;omega,?_⟩;simp only[dP];rw[jE (bE hk),aM hk,qA,ea,qA,C,qA,bL wi]
  ·simp only[dP];rw[jF wG]
 ·rw[jE wa,jF h];exact⟨_,rfl,rfl⟩
theorem LM{r b:List Int}(C:r.length<=1000)(hb:b.length<=1000):∃l,kM r b=some l/\l.length=r.length+((uv b.length).length+b.length):=by obtain⟨l,e,j⟩:=DB (r:=r) (n:=b.length) wi wi;have h9:=Kj b.length wi;refine⟨l++b,?_,wX⟩;unfold kM;rw[e,qA,dN wi,qA]
theorem KK{r:M.aF}(hr:r.ok):∃l,iD r=some l/\l.length=OE r:=by
 unfold iD OE
 rw[Br hr,qA]
 by_cases h:cT r=true
 ·obtain⟨h6,I⟩:=AY h
  have U:∀x∈r.aLY,EA x<=26:=by intro x j;have:=I x j;have h1:=Kj x.Name.size wi;have h2:=Kj x.N.toNat wi;unfold EA;omega
  have hsum:=eU U
  obtain⟨l,e,J⟩:=DB (r:=[]) (n:=r.aLY.length) we wi
  have h9:=Kj r.aLY.length wi
  rw[jF wa,jE h,e,qA]
  have:=UU (xs:=r.aLY) (w:=EA) (B:=900) (L:=dQ r) (λn k hk q hq=> ?_) (λn q=> ?_) aH 0 l wH wi (by simp at J⊢;omega)
  ·obtain⟨z,e2,hz⟩:=this;exact⟨z,e2,by simp at J hz;omega⟩
  ·have j:=I _ (qG hk);have hw2:=U _ (qG hk);obtain⟨a,ea,ha⟩:=LM (r:=q) (b:=bJ r.aLY[k].Name) wi (by rw[aP];omega);rw[aP]at ha;have hn:=Kj r.aLY[k].Name.size wi;obtain⟨b,C,hb⟩:=DB (r:=a) (n:=r.aLY[k].N.toNat) wi wi;rw[jS j.2.1]at C;refine⟨b,by unfold EA;omega,?_⟩;simp only[dQ];rw[jE (bE hk),aM hk,qA,ea,qA,C,qA,bL wi]
  ·simp only[dQ];rw[jF wG]
 ·rw[jE wa,jF h];exact⟨_,rfl,rfl⟩
def Ol(v:Int)(x:M.aLo):Int:=i64.wrap (v+((Oh x.Key:Int)+(OE x.aF:Int)))
def Gs(s:M.aE):Int:=s.aLV.foldl Ol 0
def Es(d:M.aLS):Int:=d.aLc.foldl (λv s=>i64.wrap (v+Gs s)) 0
def S9(b:M.Bucket):Int:=i64.wrap ((i64.wrap ((i64.wrap (GK b.aLW+i64.wrap (Es b.bP.aLq+(List.length b.bP.Log:Int))))+Gs b.aG.aLq))+(i64.wrap (40*(List.length b.aG.aLs.aN.aLl:Int))))
theorem IK{s:M.aE}(j:s.ok):Au s=some (Gs s):=by have hm:=aY j.aLV.1;unfold Au Gs;refine Ku (L:=nU s) (E:=some) j.aLV.1 (λn v k hk=> ?_) (λn v=> ?_) 0;(have C:=j.aLV.2 _ (qG hk);obtain⟨a,I,U⟩:=NN C.Key;obtain⟨b,J,hb⟩:=KE C.aF;simp only[nU];rw[jE (bE hk),aM hk,qA,I,qA,J,qA,bL wi,U,hb];unfold Ol;rw[wrap_add,Int.add_assoc]);·simp only[nU];rw[jF wG]
theorem KU{d:M.aLS}(j:d.ok):zO d=some (Es d):=by have I:=aY j.aLc.1;unfold zO Es;refine Ku (L:=kI d) (E:=some) j.aLc.1 (λn v k hk=> ?_) (λn v=> ?_) 0;(have C:=j.aLc.2 _ (qG hk);simp only[kI];rw[jE (bE hk),aM hk,qA,IK C,qA,bL wi]);·simp only[kI];rw[jF wG]
theorem P0{b:M.Bucket}(hb:b.ok):DZ b=some (S9 b):=by unfold DZ EK S9;rw[MY hb.aLW,qA,KU hb.bP.aLq,qA,qA,IK hb.aG.aLq,qA]
theorem Iw{s:M.aE}(j:s.ok):Am s=some (Gs s):=by have hm:=aY j.aLV.1;unfold Am Gs;refine Ku (L:=nM s) (E:=some) j.aLV.1 (λn v k hk=> ?_) (λn v=> ?_) 0;(have C:=j.aLV.2 _ (qG hk);obtain⟨a,I,U⟩:=ND C.Key;obtain⟨b,J,hb⟩:=KK C.aF;simp only[nM];rw[jE (bE hk),aM hk,qA,I,qA,J,qA,bL wi,U,hb];unfold Ol;rw[Zk]);·simp only[nM];rw[jF wG]
theorem Ky{d:M.aLS}(j:d.ok):zF d=some (Es d):=by have I:=aY j.aLc.1;unfold zF Es;refine Ku (L:=kF d) (E:=some) j.aLc.1 (λn v k hk=> ?_) (λn v=> ?_) 0;(have C:=j.aLc.2 _ (qG hk);simp only[kF];rw[jE (bE hk),aM hk,qA,Iw C,qA,bL wi]);·simp only[kF];rw[jF wG]
theorem P7{b:M.Bucket}(hb:b.ok):DG b=some (S9 b):=by unfold DG Ev S9;rw[My hb.aLW,qA,Ky hb.bP.aLq,qA,qA,Iw hb.aG.aLq,qA]
def bZ(x y:M.bD):Int:=if EZ x=true/\EZ y=true then if x.aLn=y.aLn then if x.N=y.N then if Op.bytesLess x.aLu.toList y.aLu.toList=true then -1 else if(x.aLu.toList==y.aLu.toList)=true then 0 else 1 else if x.N<y.N then -1 else 1 else if x.aLn<y.aLn then -1 else 1 else 0
theorem A5{x y:M.bD}(j:x.ok)(C:y.ok):bW x y=some (bZ x y):=by
 unfold bW Df bZ
 rw[pF j,pF C]
 simp only[qA]
 cases h1:EZ x
 ·simp
 cases h2:EZ y
 ·simp
 simp only[qB,qD,jG,jH,and_self,bne_iff_ne,ne_eq,qL,Bool.not_eq_true',Bool.or_eq_false_iff,ite_not,qA]
 repeat' split
 all_goals first|rfl|(exfalso;omega)|(simp_all;done)|(simp_all;omega)
theorem AV{x y:M.bD}(j:x.ok)(C:y.ok):fC x y=some (bZ x y):=by
 have key:Lib.compareBytes x.aLu.data.toList y.aLu.data.toList=if Op.bytesLess x.aLu.toList y.aLu.toList=true then -1 else if(x.aLu.toList==y.aLu.toList)=true then 0 else 1:=by rw[I7,<-ByteArray.toList_eq,<-ByteArray.toList_eq]
 unfold fC AM Dg sE bZ
 rw[uE j,uE C]
 simp only[qA,key]
 cases h1:EZ x
 ·simp
 cases h2:EZ y
 ·simp
 simp only[qB,qD,jG,jH,and_self,bne_iff_ne,ne_eq,qL,Bool.not_eq_true',Bool.or_eq_false_iff,ite_not,qA]
 repeat' split
 all_goals first|rfl|(exfalso;omega)|(simp_all;done)|(simp_all;omega)
theorem Ls{p:M.Bucket->Option Bool}{f:M.Bucket->Bool}{xs:List M.Bucket}(j:xs.length<=maxLen)(C:∀x∈xs,p x=some (f x)):mV xs p=some (kP f xs):=by
 have I:=aY j
 unfold mV
 rw[pI (L:=dY xs p) (f:=f) (A:=λi=>some (i:Int)) (E:=some (-1)) j (λn k hk=>by
  simp only[dY]
  rw[jE (bE hk),aM hk,qA,C _ (qG hk),qA,bL wi]) (λn=>by
  simp only[dY]
  rw[jF wG]),uQ]
theorem N3{p:M.bO->Option Bool}{f:M.bO->Bool}{xs:List M.bO}(j:xs.length<=maxLen)(C:∀x∈xs,p x=some (f x)):rE xs p=some (kP f xs):=by
 have I:=aY j
 unfold rE
 rw[pI (L:=eX xs p) (f:=f) (A:=λi=>some (i:Int)) (E:=some (-1)) j (λn k hk=>by
  simp only[eX]
  rw[jE (bE hk),aM hk,qA,C _ (qG hk),qA,bL wi]) (λn=>by
  simp only[eX]
  rw[jF wG]),uQ]
theorem MR{p:M.aLi->Option Bool}{f:M.aLi->Bool}{xs:List M.aLi}(j:xs.length<=maxLen)(C:∀x∈xs,p x=some (f x)):oQ xs p=some (kP f xs):=by
 have I:=aY j
 unfold oQ
 rw[pI (L:=eF xs p) (f:=f) (A:=λi=>some (i:Int)) (E:=some (-1)) j (λn k hk=>by
  simp only[eF]
  rw[jE (bE hk),aM hk,qA,C _ (qG hk),qA,bL wi]) (λn=>by
  simp only[eF]
  rw[jF wG]),uQ]
theorem Hc{p:M.aLr->Option Bool}{f:M.aLr->Bool}{xs:List M.aLr}(j:xs.length<=maxLen)(C:∀x∈xs,p x=some (f x)):nC xs p=some (kP f xs):=by
 have I:=aY j
 unfold nC
 rw[pI (L:=dZ xs p) (f:=f) (A:=λi=>some (i:Int)) (E:=some (-1)) j (λn k hk=>by
  simp only[dZ]
  rw[jE (bE hk),aM hk,qA,C _ (qG hk),qA,bL wi]) (λn=>by
  simp only[dZ]
  rw[jF wG]),uQ]
theorem MS{p:M.aE->Option Bool}{f:M.aE->Bool}{xs:List M.aE}(j:xs.length<=maxLen)(C:∀x∈xs,p x=some (f x)):oT xs p=some (kP f xs):=by
 have I:=aY j
 unfold oT
 rw[pI (L:=eH xs p) (f:=f) (A:=λi=>some (i:Int)) (E:=some (-1)) j (λn k hk=>by
  simp only[eH]
  rw[jE (bE hk),aM hk,qA,C _ (qG hk),qA,bL wi]) (λn=>by
  simp only[eH]
  rw[jF wG]),uQ]
theorem IA{p:M.aLo->Option Bool}{f:M.aLo->Bool}{xs:List M.aLo}(j:xs.length<=maxLen)(C:∀x∈xs,p x=some (f x)):lY xs p=some (kP f xs):=by
 have I:=aY j
 unfold lY
 rw[pI (L:=eW xs p) (f:=f) (A:=λi=>some (i:Int)) (E:=some (-1)) j (λn k hk=>by
  simp only[eW]
  rw[jE (bE hk),aM hk,qA,C _ (qG hk),qA,bL wi]) (λn=>by
  simp only[eW]
  rw[jF wG]),uQ]
theorem HK{p:M.aR->Option Bool}{f:M.aR->Bool}{xs:List M.aR}(j:xs.length<=maxLen)(C:∀x∈xs,p x=some (f x)):pA xs p=some (kP f xs):=by
 have I:=aY j
 unfold pA
 rw[pI (L:=eE xs p) (f:=f) (A:=λi=>some (i:Int)) (E:=some (-1)) j (λn k hk=>by
  simp only[eE]
  rw[jE (bE hk),aM hk,qA,C _ (qG hk),qA,bL wi]) (λn=>by
  simp only[eE]
  rw[jF wG]),uQ]
def nAt(a b:ByteArray)(x:M.Bucket):Bool:=(x.aLa.toList==a.toList)&&(x.Top.toList==b.toList)
theorem oH{s:M.aC}{a b:ByteArray}(j:s.ok):fB s a b=some (kP (nAt a b) s.Buckets):=by have C:=aY j.Buckets.1;unfold fB;rw[pI (L:=kC s a b) (f:=nAt a b) (A:=λi=>some (i:Int)) (E:=some (-1)) j.Buckets.1 (λm k hk=> ?_) (λm=> ?_),uQ];(simp only[kC];rw[jE (bE hk),aM hk,qA,bL wi,Xf];rfl);·simp only[kC];rw[jF wG]
theorem yT{s:M.aC}{a b:ByteArray}(j:s.ok):oL s a b=some (kP (nAt a b) s.Buckets):=by unfold oL;rw[Ls (f:=nAt a b) j.Buckets.1 (λx _=>by simp only[zA,bF];rfl),qA]
def Fk(l:List M.aLo)(k:Nat):Bool:=(l[k]?).any (λx=>EZ x.Key&&cT x.aF)&&(decide (k=0)||(l[k-1]?).any λy=>(l[k]?).any λx=>decide (bZ y.Key x.Key<0))
def kB(s:M.aE):Bool:=(List.range s.aLV.length).all (Fk s.aLV)&&(pS s.Name&&(decide (s.aLV.length<=16)&&inR s.aLx 0 1000000))
def Hq(x:M.bR):Bool:=inR x.aLZ 1 1000000&&(inR x.Seq 1 1000000&&(EZ x.Key&&(pS x.Field&&inR x.N 0 1000000000)))
def Hl(o:M.aN)(k:Nat):Bool:=(o.aLl[k]?).any λx=>Hq x&&((x.aLZ==o.aLZ)&&(x.Seq==i64.wrap ((i64.wrap (o.aL2-(List.length o.aLl:Int)))+(k:Int))))
def xA(o:M.aN):Bool:=(List.range o.aLl.length).all (Hl o)&&(inR o.aLZ 1 1000000&&(inR o.aL2 1 1000000&&decide (o.aLl.length<=20)))
theorem CE{s:M.aE}(C:s.ok):pH s=some (kB s):=by
 have U:=aY C.aLV.1
 unfold pH kB
 rw[sM (L:=mA s) (g:=Fk s.aLV) (F:=some false) (E:=some (pS s.Name&&(decide (s.aLV.length<=16)&&inR s.aLx 0 1000000))) C.aLV.1 (λn k hk=> ?_) (λn=> ?_),bF]
 ·have I:=C.aLV.2 _ (qG hk)
  simp only[mA]
  rw[jE (bE hk),aM hk,qA,bL wi,pF I.Key,qA,uW I.aF,qA]
  unfold Fk
  rw[qF hk]
  generalize mA s n ((k+1:Nat):Int)=Z
  by_cases h0:k=0
  ·subst h0;simp only[qf];generalize EZ s.aLV[0].Key=a;generalize cT s.aLV[0].aF=b;cases a<;>cases b<;>simp
  ·have e:i64.wrap ((k:Int)-1)=((k-1:Nat):Int):=by rw[bQ wi wi];omega
   have j:k-1<s.aLV.length:=by omega
   have J:=C.aLV.2 _ (qG j)
   rw[jE (c:=(decide ((k:Int)>0))=true) wX,e,aM j,qA,A5 J.Key I.Key,qA,qF j]
   simp only[qf,h0,jc,jZ]
   generalize EZ s.aLV[k].Key=a
   generalize cT s.aLV[k].aF=b
   by_cases hc:bZ s.aLV[k-1].Key s.aLV[k].Key<0
   ·rw[jF (c:=(decide (bZ s.aLV[k-1].Key s.aLV[k].Key>=0))=true) wX];cases a<;>cases b<;>simp[hc]
   ·rw[jE (c:=(decide (bZ s.aLV[k-1].Key s.aLV[k].Key>=0))=true) wX];cases a<;>cases b<;>simp[hc]
 ·simp only[mA];rw[jF wG,eB C.Name,qA,cK,qA,bF,bF];congr 3;simp;omega
theorem DC{x:M.bR}(j:x.ok):mJ x=some (Hq x):=by unfold mJ Hq;simp only[cK,pF j.Key,eB j.Field,qA,bF]
theorem Cv{s:M.aE}(C:s.ok):cC s=some (kB s):=by
 have U:=aY C.aLV.1
 unfold cC kB
 rw[sM (L:=mB s) (g:=Fk s.aLV) (F:=some false) (E:=some (pS s.Name&&(decide (s.aLV.length<=16)&&inR s.aLx 0 1000000))) C.aLV.1 (λn k hk=> ?_) (λn=> ?_),bF]
 ·have I:=C.aLV.2 _ (qG hk)
  simp only[mB]
  rw[jE (bE hk),aM hk,qA,bL wi,uE I.Key,qA,Br I.aF,qA]
  unfold Fk
  rw[qF hk]
  generalize mB s n ((k+1:Nat):Int)=Z
  by_cases h0:k=0
  ·subst h0;simp only[qf];generalize EZ s.aLV[0].Key=a;generalize cT s.aLV[0].aF=b;cases a<;>cases b<;>simp
  ·have e:i64.wrap ((k:Int)-1)=((k-1:Nat):Int):=by rw[bQ wi wi];omega
   have j:k-1<s.aLV.length:=by omega
   have J:=C.aLV.2 _ (qG j)
   rw[jE (c:=(decide ((k:Int)>0))=true) wX,e,aM j,qA,AV J.Key I.Key,qA,qF j]
   simp only[qf,h0,jc,jZ]
   generalize EZ s.aLV[k].Key=a
   generalize cT s.aLV[k].aF=b
   by_cases hc:bZ s.aLV[k-1].Key s.aLV[k].Key<0
   ·rw[jF (c:=(decide (bZ s.aLV[k-1].Key s.aLV[k].Key>=0))=true) wX];cases a<;>cases b<;>simp[hc]
   ·rw[jE (c:=(decide (bZ s.aLV[k-1].Key s.aLV[k].Key>=0))=true) wX];cases a<;>cases b<;>simp[hc]
 ·simp only[mB];rw[jF wG,dG C.Name,qA,bY,qA,bF,bF];congr 3;simp;omega
theorem F4{x:M.bR}(j:x.ok):rJ x=some (Hq x):=by unfold rJ Hq;simp only[bY,uE j.Key,dG j.Field,qA,bF]
theorem uV{o:M.aN}(j:o.ok):lF o=some (xA o):=by have I:=aY j.aLl.1;unfold lF xA;rw[sM (L:=pO o) (g:=Hl o) (F:=some false) (E:=some true) j.aLl.1 (λn k hk=> ?_) (λn=> ?_)];(simp only[cK,qA];by_cases h:o.aLl.length<=20;(rw[jF (c:=(decide ((List.length o.aLl:Int)>20))=true) wX];cases (List.range o.aLl.length).all (Hl o)<;>cases inR o.aLZ 1 1000000<;>cases inR o.aL2 1 1000000<;>simp[h]);·rw[jE (c:=(decide ((List.length o.aLl:Int)>20))=true) wX];cases inR o.aLZ 1 1000000<;>cases inR o.aL2 1 1000000<;>simp[h]);(have C:=j.aLl.2 _ (qG hk);simp only[pO];rw[jE (bE hk),aM hk,qA,bL wi,DC C,qA];unfold Hl;rw[qF hk,qf];simp only[xY,eJ,Xf]);·simp only[pO];rw[jF wG]
theorem GP{o:M.aN}(j:o.ok):zH o=some (xA o):=by have I:=aY j.aLl.1;unfold zH xA;rw[sM (L:=pP o) (g:=Hl o) (F:=some false) (E:=some (inR o.aLZ 1 1000000&&(inR o.aL2 1 1000000&&decide (o.aLl.length<=20)))) j.aLl.1 (λn k hk=> ?_) (λn=> ?_),bF];(have C:=j.aLl.2 _ (qG hk);simp only[pP];rw[jE (bE hk),aM hk,qA,bL wi,F4 C,qA];unfold Hl;rw[qF hk,qf];simp only[xY,eJ,Xf]);·simp only[pP];rw[jF wG];simp only[bY,qA,bF];congr 3;simp;omega
def EC(r:M.aG):Bool:=kB r.aLq&&((r.aLq.Name.toList==(⟨#[110,111,116,101,115]⟩:ByteArray).toList)&&(inR r.aMG 0 1000000000000&&xA r.aLs.aN))
theorem D2{r:M.aG}(j:r.ok):rU r=some (EC r):=by unfold rU EC;simp only[CE j.aLq,cK,uV j.aLs.aN,qA,bF]
theorem It{r:M.aG}(j:r.ok):Az r=some (EC r):=by unfold Az EC;simp only[Cv j.aLq,bY,GP j.aLs.aN,qA,bF]
theorem HW{α:Type}{f:α->Bool}{xs:List α}{k:Nat}(hk:k<xs.length)(I:f xs[k]=true):(kP f xs==(k:Int))=(List.range k).all (λj=> !((xs[j]?).any f)):=by
 rw[jQ]
 simp only[beq_iff_eq,qR,qS]
 constructor
 ·intro h j C
  unfold kP at h
  cases e:xs.findIdx? f with
  |none=>rw[e]at h;simp only at h;omega
  |some i=>
   rw[e]at h
   simp only at h
   have:i=k:=by omega
   subst this
   have:=(List.findIdx?_eq_some_iff_getElem.1 e).2.2 j C
   rw[qF wi]
   simpa using this
 ·intro h;have e:xs.findIdx? f=some k:=List.findIdx?_eq_some_iff_getElem.2 ⟨hk,I,λj C=>by have:=h j C;rw[qF wi]at this;simpa using this⟩;unfold kP;rw[e]
def I6(a b:ByteArray)(x:M.aLr):Bool:=(x.aLa.toList==a.toList)&&(x.aMF.toList==b.toList)
theorem Jy{c:M.aLi}{a b:ByteArray}(hc:c.ok):uA c a b=some (kP (I6 a b) c.aLg):=by unfold uA;rw[Hc (f:=I6 a b) hc.aLg.1 (λx _=>by simp only[Aj,bF];rfl),qA]
def IX(r:M.aLb):Bool:=inR r.aMM 1 4&&(inR r.aMD 0 999&&(inR r.aLT 0 1000000000000&&decide ((List.length r.aMN:Int)<=60)))
theorem Mk(r:M.aLb):BK r=some (IX r):=by unfold BK IX;simp only[cK,qA,bF]
theorem HN(r:M.aLb):yH r=some (IX r):=by unfold yH IX;simp only[bY,qA,bF]
def aA4(l:List M.aLr)(k:Nat)(x:M.aLr):Bool:=(List.range k).all λj=> !((l[j]?).any (I6 x.aLa x.aMF))
def Fq(l:List M.aLr)(k:Nat):Bool:=(l[k]?).any λx=>pS x.aLa&&(pS x.aMF&&(IX x.aLb&&aA4 l k x))
def H4(l:List M.aLr):Bool:=(List.range l.length).all (Fq l)&&decide (l.length<=12)
theorem MB{l:List M.aLr}(I:l.length<=maxLen/\∀x∈l,M.aLr.ok x):yI l=some (H4 l):=by
 have hm:=aY I.1
 unfold yI H4
 rw[sM (L:=fZ l) (g:=Fq l) (F:=some false) (E:=some (decide (l.length<=12))) I.1 (λn k hk=> ?_) (λn=> ?_),bF]
 ·have J:=I.2 _ (qG hk)
  simp only[fZ]
  rw[jE (bE hk),aM hk,qA,bL wi,eB J.aLa,qA,eB J.aMF,qA,Mk,qA]
  rw[sM (N:=k) (L:=kA l (k:Int) l[k] (λ_=>fZ l n ((k+1:Nat):Int))) (g:=λj=> !((l[j]?).any (I6 l[k].aLa l[k].aMF))) (F:=some false) (E:=fZ l n ((k+1:Nat):Int)) (by have:=I.1;omega) (λn j U=> ?_) (λn=> ?_)]
  ·unfold Fq aA4;rw[qF hk,qf];simp only[eJ,Xf]
  ·have C:j<l.length:=by omega
   simp only[kA]
   rw[jE (bE U),aM C,qA,bL wi,Xf,qF C,qf,eJ]
   rfl
  ·simp only[kA];rw[jF wG]
 ·simp only[fZ];rw[jF wG];simp;omega
theorem NH{c:M.aLi}{Z:Option Bool}(hc:c.ok):gI c (λ_=>Z) aH 0=if(List.range c.aLg.length).all (Fq c.aLg)=true then Z else some false:=by have I:=aY hc.aLg.1;refine sM (L:=gI c (λ_=>Z)) hc.aLg.1 (λn k hk=> ?_) (λn=> ?_);(have C:=hc.aLg.2 _ (qG hk);simp only[gI];rw[jE (bE hk),aM hk,qA,bL wi,dG C.aLa,qA,dG C.aMF,qA,Jy hc,qA,HN,qA,xY,HW hk (by simp[I6])];unfold Fq aA4;rw[qF hk,qf];generalize gI c (λ_=>Z) n ((k+1:Nat):Int)=Y;generalize pS c.aLg[k].aLa=a;generalize pS c.aLg[k].aMF=b;generalize IX c.aLg[k].aLb=d;generalize (List.range k).all (λj=> !((c.aLg[j]?).any (I6 c.aLg[k].aLa c.aLg[k].aMF)))=e;cases a<;>cases b<;>cases d<;>cases e<;>rfl);·simp only[gI];rw[jF wG]
theorem NI{c:M.aLi}{Z:Option Bool}(hc:c.ok):fW c (λ_=>Z) aH 0=if(List.range c.aLg.length).all (Fq c.aLg)=true then Z else some false:=by have I:=aY hc.aLg.1;refine sM (L:=fW c (λ_=>Z)) hc.aLg.1 (λn k hk=> ?_) (λn=> ?_);(have C:=hc.aLg.2 _ (qG hk);simp only[fW];rw[jE (bE hk),aM hk,qA,bL wi,dG C.aLa,qA,dG C.aMF,qA,Jy hc,qA,HN,qA,xY,HW hk (by simp[I6])];unfold Fq aA4;rw[qF hk,qf];generalize fW c (λ_=>Z) n ((k+1:Nat):Int)=Y;generalize pS c.aLg[k].aLa=a;generalize pS c.aLg[k].aMF=b;generalize IX c.aLg[k].aLb=d;generalize (List.range k).all (λj=> !((c.aLg[j]?).any (I6 c.aLg[k].aLa c.aLg[k].aMF)))=e;cases a<;>cases b<;>cases d<;>cases e<;>rfl);·simp only[fW];rw[jF wG]
def JV(l:List M.aLi)(k:Nat):Bool:=(l[k]?).any (λc=>inR c.aLT 1 1000000000000&&H4 c.aLg)&&(decide (k=0)||(l[k-1]?).any λd=>(l[k]?).any λc=>decide (d.aLT<c.aLT))
def nE(s:M.aJ):Bool:=(List.range s.aLW.length).all (JV s.aLW)&&decide (s.aLW.length<=4)
theorem tR{s:M.aJ}(C:s.ok):dA s=some (nE s):=by
 have J:=aY C.aLW.1
 unfold dA nE
 rw[sM (L:=fX s) (g:=JV s.aLW) (F:=some false) (E:=some (decide (s.aLW.length<=4))) C.aLW.1 (λn k hk=> ?_) (λn=> ?_),bF]
 ·have I:=C.aLW.2 _ (qG hk)
  simp only[fX]
  rw[jE (bE hk),aM hk,qA,bL wi,cK,qA,MB I.aLg]
  simp only[qA]
  unfold JV
  rw[qF hk]
  generalize fX s n ((k+1:Nat):Int)=Z
  by_cases h0:k=0
  ·subst h0;simp only[qf];generalize inR s.aLW[0].aLT 1 1000000000000=a;generalize H4 s.aLW[0].aLg=b;cases a<;>cases b<;>simp
  ·have e:i64.wrap ((k:Int)-1)=((k-1:Nat):Int):=by rw[bQ wi wi];omega
   have j:k-1<s.aLW.length:=by omega
   rw[jE (c:=(decide ((k:Int)>0))=true) wX,e,aM j,qA,qF j]
   simp only[qf,h0,jc,jZ]
   generalize inR s.aLW[k].aLT 1 1000000000000=a
   generalize H4 s.aLW[k].aLg=b
   by_cases hc:s.aLW[k-1].aLT<s.aLW[k].aLT
   ·rw[jF (c:=(decide (s.aLW[k-1].aLT>=s.aLW[k].aLT))=true) wX];cases a<;>cases b<;>simp[hc]
   ·rw[jE (c:=(decide (s.aLW[k-1].aLT>=s.aLW[k].aLT))=true) wX];cases a<;>cases b<;>simp[hc]
 ·simp only[fX];rw[jF wG];simp;omega
theorem Mm{s:M.aJ}(C:s.ok):Bp s=some (nE s):=by
 have U:=aY C.aLW.1
 unfold Bp nE
 rw[sM (L:=gH s) (g:=JV s.aLW) (F:=some false) (E:=some (decide (s.aLW.length<=4))) C.aLW.1 (λn k hk=> ?_) (λn=> ?_),bF]
 ·have I:=C.aLW.2 _ (qG hk)
  simp only[gH]
  rw[jE (bE hk),aM hk,qA,bL wi,bY,qA,NH I,NI I]
  unfold JV H4
  rw[qF hk]
  generalize gH s n ((k+1:Nat):Int)=Z
  have J:(decide ((List.length s.aLW[k].aLg:Int)>12))= !decide (s.aLW[k].aLg.length<=12):=by by_cases h:s.aLW[k].aLg.length<=12;(simp[h];omega);·simp[h];omega
  rw[J]
  by_cases h0:k=0
  ·subst h0;simp only[qf];generalize inR s.aLW[0].aLT 1 1000000000000=a;generalize (List.range s.aLW[0].aLg.length).all (Fq s.aLW[0].aLg)=b;generalize decide (s.aLW[0].aLg.length<=12)=d;cases a<;>cases b<;>cases d<;>simp
  ·have e:i64.wrap ((k:Int)-1)=((k-1:Nat):Int):=by rw[bQ wi wi];omega
   have j:k-1<s.aLW.length:=by omega
   rw[jE (c:=(decide ((k:Int)>0))=true) wX,e,aM j,qA,qF j]
   simp only[qf,h0,jc,jZ]
   generalize inR s.aLW[k].aLT 1 1000000000000=a
   generalize (List.range s.aLW[k].aLg.length).all (Fq s.aLW[k].aLg)=b
   generalize decide (s.aLW[k].aLg.length<=12)=d
   by_cases hc:s.aLW[k-1].aLT<s.aLW[k].aLT
   ·rw[jF (c:=(decide (s.aLW[k].aLT<=s.aLW[k-1].aLT))=true) wX];cases a<;>cases b<;>cases d<;>simp[hc]
   ·rw[jE (c:=(decide (s.aLW[k].aLT<=s.aLW[k-1].aLT))=true) wX];cases a<;>cases b<;>cases d<;>simp[hc]
 ·simp only[gH];rw[jF wG];simp;omega
theorem RI{p:M.aLU}(j:p.aLa.size<=maxLen):∀(n k:Nat) (v:Int),k<=3->3-k<n->∃r,cV p n v (k:Int)=some r
 |0,k,v,_,h=>by omega
 |n+1,k,v,h3,h=>by
  simp only[cV]
  have C:(List.length ([p.aMA,p.aL6,p.aL0]))=3:=rfl
  by_cases hk:k<3
  ·rw[jE wX,aM (by rw[C];exact hk),qA,cK,qA,bL wi]
   obtain⟨I,e1⟩:=RI j n (k+1) ([p.aMA,p.aL6,p.aL0][k]'(by rw[C];exact hk)) wi wi
   obtain⟨J,e2⟩:=RI j n (k+1) v wi wi
   rw[e1,e2]
   repeat' split
   all_goals exact⟨_,rfl⟩
  ·have:k=3:=by omega
   subst this
   rw[jF we,eB j]
   exact⟨_,rfl⟩
theorem RH{p:M.aLU}(j:p.aLa.size<=maxLen):∀(n:Nat) (v k:Int),0<=v->eO p n v k=cV p n v k
 |0,_,_,_=>rfl
 |n+1,v,k,I=>by
  simp only[eO,cV]
  rw[eB j,dG j]
  cases hx:idx ([p.aMA,p.aL6,p.aL0]) k with
  |none=>rfl
  |some x=>
   simp only[qA,cK,bY]
   cases hi:inR x 0 1000000000000 with
   |false=>rfl
   |true=>
    have C:0<=x:=by unfold inR at hi;simp at hi;exact hi.1
    by_cases e0:x=0
    ·subst e0
     have:(if(0:Int)>v then(0:Int)else v)=v:=by rw[jF wi]
     rw[this,RH j n v _ I]
     rfl
    ·by_cases e1:x<=v
     ·have e2:(decide (x<=v))=true:=by simpa using e1
      simp[e0,e1]
     ·have:(if x>v then x else v)=x:=by rw[jE wi]
      rw[this,RH j n x _ C]
      simp[e0,e1]
def aEd(p:M.aLU):Bool:=(pB p).getD false
theorem FH{p:M.aLU}(j:p.ok):pB p=some (aEd p):=by obtain⟨r,e⟩:=RI j.aLa aH 0 0 wi wH;have e2:pB p=some r:=e;unfold aEd;rw[e2];rfl
theorem JI{p:M.aLU}(j:p.ok):A6 p=some (aEd p):=by rw[<-FH j];exact RH j.aLa aH 0 0 wi
def C6(a:ByteArray)(x:M.aE):Bool:=x.Name.toList==a.toList
theorem D4{d:M.aLS}{a:ByteArray}(j:d.ok):nF d a=some (kP (C6 a) d.aLc):=by have C:=aY j.aLc.1;unfold nF;rw[pI (L:=oE d a) (f:=C6 a) (A:=λi=>some (i:Int)) (E:=some (-1)) j.aLc.1 (λm k hk=> ?_) (λm=> ?_),uQ];(simp only[oE];rw[jE (bE hk),aM hk,qA,bL wi];rfl);·simp only[oE];rw[jF wG]
theorem FP{d:M.aLS}{a:ByteArray}(j:d.ok):rT d a=some (kP (C6 a) d.aLc):=by unfold rT;rw[MS (f:=C6 a) j.aLc.1 (λx _=>by simp only[AO];rfl),qA]
def sI(a:ByteArray)(x:M.aR):Bool:=x.Name.toList==a.toList
def eS(r:M.aF)(a:ByteArray):Int×Bool:=match r.aLY.find? (sI a)with|some x=>(x.N,true)|none=>(0,false)
