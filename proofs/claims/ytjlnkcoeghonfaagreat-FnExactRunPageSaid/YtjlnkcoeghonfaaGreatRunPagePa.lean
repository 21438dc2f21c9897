/-
  Helper text. No conditions.
-/
import Derived.Test.YtjlnkcoeghonfaaGreatRunPagePm
set_option linter.all false
namespace Go.Proofs.YtjlnkcoeghonfaaGreat.gen
open Go Go.Sh
open Go.IntKind (i64)
theorem cG(x a b:Int):bB x a b=some (inR x a b):=by unfold bB inR;by_cases h:a<=x;(rw[if_pos (by simpa using h)];simp[h]);·rw[if_neg (by simpa using h)];simp[h]
theorem bR(x a b:Int):aV x a b=some (inR x a b):=by unfold aV inR;by_cases h:a<=x;(rw[if_pos (by simpa using h)];simp[h]);·rw[if_neg (by simpa using h)];simp[h]
def Nj(r:M.aJo)(b:Bool):Int:=if b=true then 76 else i64.wrap (16+(List.length r.aKa:Int))
theorem LL(r:M.aJo)(b:Bool):xM r b=some (Nj r b):=by unfold xM Nj;cases b<;>rfl
theorem Le(r:M.aJo)(b:Bool):yK r b=some (Nj r b):=by unfold yK Nj;cases b<;>rfl
def UU(v:Int)(x:M.aJx):Int:=i64.wrap (v+Nj x.aJo (x.aJo.aKc==3))
def F5(s:M.aO):Int:=s.aJs.foldl (λv c=>c.aJ1.foldl UU v) 0
theorem LO{s:M.aO}(C:s.ok):xC s=some (F5 s):=by have hm:=le_max C.aJs.1;unfold xC F5;refine Jx (L:=eS s) (E:=some) C.aJs.1 (λn v k hk=> ?_) (λn v=> ?_) 0;(have hc:=C.aJs.2 _ (qG hk);have U:=le_max hc.aJ1.1;simp only[eS];rw[if_pos (bE hk),bG jD];refine Jx (xs:=s.aJs[k].aJ1) (L:=jU s (k:Int) (λI _=>eS s n I ((k+1:Nat):Int))) (E:=λI=>eS s n I ((k+1:Nat):Int)) hc.aJ1.1 (λn v j J=> ?_) (λn v=> ?_) v;(simp only[jU];rw[aH hk,qA,if_pos (bE J),aH J,qA,LL,qA,bG jD];rfl);·simp only[jU];rw[aH hk,qA,if_neg jK]);·simp only[eS];rw[if_neg jK]
theorem Ll{s:M.aO}(C:s.ok):yB s=some (F5 s):=by have hm:=le_max C.aJs.1;unfold yB F5;refine Jx (L:=eZ s) (E:=some) C.aJs.1 (λn v k hk=> ?_) (λn v=> ?_) 0;(have hc:=C.aJs.2 _ (qG hk);have U:=le_max hc.aJ1.1;simp only[eZ];rw[if_pos (bE hk),bG jD,aH hk,qA];refine Jx (xs:=s.aJs[k].aJ1) (L:=iZ s.aJs[k] (λI _=>eZ s n I ((k+1:Nat):Int))) (E:=λI=>eZ s n I ((k+1:Nat):Int)) hc.aJ1.1 (λn v j J=> ?_) (λn v=> ?_) v;(simp only[iZ];rw[if_pos (bE J),aH J,qA,Le,qA,bG jD];rfl);·simp only[iZ];rw[if_neg jK]);·simp only[eZ];rw[if_neg jK]
def RK(b:UInt8):Bool:=(decide (97<=b.toNat)&&decide (b.toNat<=122))||(decide (48<=b.toNat)&&decide (b.toNat<=57))
def QQ(s:ByteArray):Bool:=Xm s RK&&decide (s.size<=12)
theorem PI{s:ByteArray}(j:s.size<=maxLen):BN s=some (QQ s):=by
 have C:=le_max j
 unfold BN QQ
 rw[KQ (L:=iG s) (g:=RK) (F:=some false) (E:=some (decide (s.size<=12))) j (λn k hk=> ?_) (λn=> ?_),bY]
 ·simp only[iG]
  rw[if_pos (bE hk),Ka hk,qA,bG jD]
  generalize s[k]=b
  unfold RK
  generalize iG s n ((k+1:Nat):Int)=Z
  simp only[Bool.or_eq_true,qM,qL,Bool.not_eq_true',decide_eq_false_iff_not]
  repeat' split
  all_goals first|rfl|(exfalso;omega)
 ·simp only[iG];rw[if_neg jK];simp;omega
theorem Mn{s:ByteArray}(j:s.size<=maxLen):zR s=some (QQ s):=by
 have C:=le_max j
 unfold zR QQ
 rw[KQ (L:=eJ s) (g:=RK) (F:=some false) (E:=some (decide (s.size<=12))) j (λn k hk=> ?_) (λn=> ?_),bY]
 ·simp only[eJ]
  rw[if_pos (bE hk),Ka hk,qA,bG jD]
  generalize s[k]=b
  unfold RK
  generalize eJ s n ((k+1:Nat):Int)=Z
  simp only[Bool.or_eq_true,qM,qL,Bool.not_eq_true',decide_eq_false_iff_not]
  repeat' split
  all_goals first|rfl|(exfalso;omega)
 ·simp only[eJ];rw[if_neg jK];simp;omega
def Dv(k:M.Key):Bool:=inR k.aJz 1 3&&(inR k.N (-1000000000000) 1000000000000&&(QQ k.aKA&&((k.aJz !=2||k.N==0)&&(k.aJz !=1||(k.aKA.toList==(⟨#[]⟩:ByteArray).toList)))))
theorem mD{k:M.Key}(hk:k.ok):fL k=some (Dv k):=by have j:=PI hk.aKA;unfold fL Dv;simp only[cG,j,qA];generalize inR k.aJz 1 3=a;generalize inR k.N (-1000000000000) 1000000000000=b;generalize QQ k.aKA=c;generalize (k.aKA.toList==(⟨#[]⟩:ByteArray).toList)=g;by_cases h1:k.aJz=2<;>by_cases h2:k.aJz=1<;>by_cases h3:k.N=0<;>cases a<;>cases b<;>cases c<;>cases g<;>simp[h1,h2,h3]<;>omega
theorem oZ{k:M.Key}(hk:k.ok):gX k=some (Dv k):=by have j:=Mn hk.aKA;unfold gX Dv;simp only[bR,j,qA];generalize inR k.aJz 1 3=a;generalize inR k.N (-1000000000000) 1000000000000=b;generalize QQ k.aKA=c;generalize (k.aKA.toList==(⟨#[]⟩:ByteArray).toList)=g;by_cases h1:k.aJz=2<;>by_cases h2:k.aJz=1<;>by_cases h3:k.N=0<;>cases a<;>cases b<;>cases c<;>cases g<;>simp[h1,h2,h3]<;>omega
theorem G6{k:M.Key}(h:Dv k=true):k.aKA.size<=12:=by unfold Dv QQ at h;simp only[qM,qL]at h;omega
def M8(k:M.Key):Nat:=if Dv k=true then if(k.aJz==2)=true then 1+k.aKA.size else 7+k.aKA.size else 0
theorem MG{k:M.Key}(hk:k.ok):∃l,kO k=some l/\l.length=M8 k:=by
 unfold kO M8
 rw[mD hk,qA]
 by_cases h:Dv k=true
 ·have J:=G6 h
  have I:=aR k.aKA
  rw[if_neg (by simp[h]),if_pos h,V8]
  by_cases h2:(k.aJz==2)=true
  ·have h3:¬(k.aJz !=2)=true:=by simp[bne,h2]
   rw[if_pos h2]
   have C:∀n r,r.length<=7->bN k (n+1) 5 r=some (r++bC k.aKA):=by intro n r j;simp only[bN];rw[if_pos jG,if_neg h3,eH jD,qA]
   exact⟨_,C (18446744073709551609+6) _ jF,jE⟩
  ·have h3:(k.aJz !=2)=true:=by simp[bne,h2]
   rw[if_neg h2]
   have st:∀n (v:Nat) r,r.length<=7->v<=5->∃x:Int,bN k (n+1) (v:Int) r=bN k n ((v:Int)-1) (r++[x]):=by intro n v r j U;apply Exists.intro;simp only[bN];rw[if_pos jF,if_pos h3,if_pos (by rw[bI jD jD];simp;omega),eH jE,qA,bI (n:=(v:Int)-1) jD jD]
   obtain⟨x1,e1⟩:=st (18446744073709551609+6) 5 ([IntKind.u8.wrap k.aJz]) jF jF
   obtain⟨x2,e2⟩:=st (18446744073709551609+5) 4 ([IntKind.u8.wrap k.aJz]++[x1]) jF jF
   obtain⟨x3,e3⟩:=st (18446744073709551609+4) 3 ([IntKind.u8.wrap k.aJz]++[x1]++[x2]) jF jF
   obtain⟨x4,e4⟩:=st (18446744073709551609+3) 2 ([IntKind.u8.wrap k.aJz]++[x1]++[x2]++[x3]) jF jF
   obtain⟨x5,e5⟩:=st (18446744073709551609+2) 1 ([IntKind.u8.wrap k.aJz]++[x1]++[x2]++[x3]++[x4]) jF jF
   obtain⟨x6,e6⟩:=st (18446744073709551609+1) 0 ([IntKind.u8.wrap k.aJz]++[x1]++[x2]++[x3]++[x4]++[x5]) jF jF
   have e7:∀n r,r.length<=7->bN k (n+1) (-1) r=some (r++bC k.aKA):=by intro n r j;simp only[bN];rw[if_neg jG,eH jD,qA]
   exact⟨_,e1.trans (e2.trans (e3.trans (e4.trans (e5.trans (e6.trans (e7 _ _ jF)))))),jE⟩
 ·rw[if_pos (by simp[h]),if_neg h];exact⟨_,rfl,rfl⟩
theorem Ms{k:M.Key}(hk:k.ok):∃l,iH k=some l/\l.length=M8 k:=by
 unfold iH M8
 rw[oZ hk,qA]
 by_cases h:Dv k=true
 ·have I:=G6 h
  have C:=aR k.aKA
  rw[if_neg (by simp[h]),if_pos h,V8]
  by_cases h2:(k.aJz==2)=true
  ·have h3:¬(k.aJz !=2)=true:=by simp[bne,h2]
   rw[if_pos h2,if_neg h3,eH jE,qA]
   exact⟨_,rfl,jE⟩
  ·have h3:(k.aJz !=2)=true:=by simp[bne,h2]
   rw[if_neg h2,if_pos h3]
   have st:∀n (v:Nat) r,r.length<=7->v<=5->∃x:Int,cC k (n+1) (v:Int) r=cC k n ((v:Int)-1) (r++[x]):=by intro n v r j J;apply Exists.intro;simp only[cC];rw[if_pos jF,if_pos (by rw[bI jD jD];simp;omega),eH jE,qA,bI (n:=(v:Int)-1) jD jD]
   obtain⟨x1,e1⟩:=st (18446744073709551609+6) 5 ([IntKind.u8.wrap k.aJz]) jF jF
   obtain⟨x2,e2⟩:=st (18446744073709551609+5) 4 ([IntKind.u8.wrap k.aJz]++[x1]) jF jF
   obtain⟨x3,e3⟩:=st (18446744073709551609+4) 3 ([IntKind.u8.wrap k.aJz]++[x1]++[x2]) jF jF
   obtain⟨x4,e4⟩:=st (18446744073709551609+3) 2 ([IntKind.u8.wrap k.aJz]++[x1]++[x2]++[x3]) jF jF
   obtain⟨x5,e5⟩:=st (18446744073709551609+2) 1 ([IntKind.u8.wrap k.aJz]++[x1]++[x2]++[x3]++[x4]) jF jF
   obtain⟨x6,e6⟩:=st (18446744073709551609+1) 0 ([IntKind.u8.wrap k.aJz]++[x1]++[x2]++[x3]++[x4]++[x5]) jF jF
   have e7:∀n r,r.length<=7->cC k (n+1) (-1) r=some (r++bC k.aKA):=by intro n r j;simp only[cC];rw[if_neg jG,eH jD,qA]
   exact⟨_,e1.trans (e2.trans (e3.trans (e4.trans (e5.trans (e6.trans (e7 _ _ jF)))))),jE⟩
 ·rw[if_pos (by simp[h]),if_neg h];exact⟨_,rfl,rfl⟩
def Mc(sl:Bool)(b:UInt8):Bool:=(decide (97<=b.toNat)&&decide (b.toNat<=122))||(sl&&decide (b.toNat=47))
def Ri(s:ByteArray)(n:Int)(sl:Bool):Bool:=Xm s (Mc sl)&&inR (s.size:Int) 1 n
def mN(s:ByteArray):Bool:=Xm s (Mc false)&&inR (s.size:Int) 1 8
theorem dG{s:ByteArray}(j:s.size<=maxLen):cE s=some (mN s):=by
 have C:=le_max j
 unfold cE mN
 rw[KQ (L:=nL s) (g:=Mc false) (F:=some false) (E:=some (inR (s.size:Int) 1 8)) j (λn k hk=> ?_) (λn=> ?_),bY]
 ·simp only[nL]
  rw[if_pos (bE hk),Ka hk,qA,bG jD]
  generalize s[k]=b
  unfold Mc
  generalize nL s n ((k+1:Nat):Int)=Z
  simp only[Bool.or_eq_true,qM,qL,Bool.not_eq_true',decide_eq_false_iff_not,Bool.false_and,Bool.or_false]
  repeat' split
  all_goals first|rfl|(exfalso;omega)
 ·simp only[nL];rw[if_neg jK,cG,qA]
theorem Kf{s:ByteArray}{m:Int}{sl:Bool}(j:s.size<=maxLen):BP s m sl=some (Ri s m sl):=by
 have C:=le_max j
 unfold BP Ri
 rw[KQ (L:=iI s m sl) (g:=Mc sl) (F:=some false) (E:=some (inR (s.size:Int) 1 m)) j (λn k hk=> ?_) (λn=> ?_),bY]
 ·simp only[iI]
  rw[if_pos (bE hk),Ka hk,qA,bG jD]
  generalize s[k]=b
  unfold Mc
  generalize iI s m sl n ((k+1:Nat):Int)=Z
  cases sl<;>simp only[Bool.or_eq_true,qM,qL,Bool.not_eq_true',decide_eq_false_iff_not,Bool.false_and,Bool.or_false,Bool.true_and,beq_eq_false_iff_ne,ne_eq,qD,if_true,if_false]
  all_goals repeat' split
  all_goals first|rfl|(exfalso;omega)
 ·simp only[iI];rw[if_neg jK,bR,qA]
theorem cT{s:ByteArray}(j:s.size<=maxLen):bV s=some (mN s):=by unfold bV;rw[Kf j,qA];rfl
def Tg(x:M.Field):Bool:=mN x.Name&&inR x.N 0 1000000000
def Hu(l:List M.Field)(k:Nat):Bool:=(l[k]?).any Tg&&(decide (k=0)||(l[k-1]?).any λy=>(l[k]?).any λx=>Op.bytesLess y.Name.toList x.Name.toList)
def bU(r:M.aC):Bool:=(List.range r.aJq.length).all (Hu r.aJq)&&decide (r.aJq.length<=6)
theorem pI{r:M.aC}(C:r.ok):bS r=some (bU r):=by
 have J:=le_max C.aJq.1
 unfold bS bU
 rw[oS (L:=gN r) (g:=Hu r.aJq) (F:=some false) (E:=some (decide (r.aJq.length<=6))) C.aJq.1 (λn k hk=> ?_) (λn=> ?_),bY]
 ·have I:=C.aJq.2 _ (qG hk)
  simp only[gN]
  rw[if_pos (bE hk),aH hk,qA,bG jD,dG I.Name,qA,cG,qA]
  unfold Hu Tg
  rw[qF hk]
  generalize gN r n ((k+1:Nat):Int)=Z
  by_cases h0:k=0
  ·subst h0;simp only[qe];generalize mN r.aJq[0].Name=a;generalize inR r.aJq[0].N 0 1000000000=b;cases a<;>cases b<;>simp
  ·have e:i64.wrap ((k:Int)-1)=((k-1:Nat):Int):=by rw[bI jD jD];omega
   have j:k-1<r.aJq.length:=by omega
   rw[if_pos (c:=(decide ((k:Int)>0))=true) jE,e,aH j,qA,qF j]
   simp only[qe,h0,decide_false,Bool.false_or]
   generalize mN r.aJq[k].Name=a
   generalize inR r.aJq[k].N 0 1000000000=b
   generalize Op.bytesLess r.aJq[k-1].Name.toList r.aJq[k].Name.toList=c
   cases a<;>cases b<;>cases c<;>simp
 ·simp only[gN];rw[if_neg jK];simp;omega
theorem wZ{r:M.aC}(C:r.ok):cK r=some (bU r):=by
 have J:=le_max C.aJq.1
 unfold cK bU
 rw[oS (L:=gS r) (g:=Hu r.aJq) (F:=some false) (E:=some (decide (r.aJq.length<=6))) C.aJq.1 (λn k hk=> ?_) (λn=> ?_),bY]
 ·have I:=C.aJq.2 _ (qG hk)
  simp only[gS]
  rw[if_pos (bE hk),aH hk,qA,bG jD,cT I.Name,qA,bR,qA]
  unfold Hu Tg
  rw[qF hk]
  generalize gS r n ((k+1:Nat):Int)=Z
  by_cases h0:k=0
  ·subst h0;simp only[qe];generalize mN r.aJq[0].Name=a;generalize inR r.aJq[0].N 0 1000000000=b;cases a<;>cases b<;>simp
  ·have e:i64.wrap ((k:Int)-1)=((k-1:Nat):Int):=by rw[bI jD jD];omega
   have j:k-1<r.aJq.length:=by omega
   rw[if_pos (c:=(decide ((k:Int)>0))=true) jE,e,aH j,qA,qF j]
   simp only[qe,h0,decide_false,Bool.false_or]
   rw[Ch r.aJq[k-1].Name.toList r.aJq[k].Name.toList]
   generalize mN r.aJq[k].Name=a
   generalize inR r.aJq[k].N 0 1000000000=b
   generalize (Op.bytesLess r.aJq[k].Name.toList r.aJq[k-1].Name.toList||r.aJq[k].Name.toList==r.aJq[k-1].Name.toList)=c
   cases a<;>cases b<;>cases c<;>simp
 ·simp only[gS];rw[if_neg jK];simp;omega
theorem vO{r:M.aC}(h:bU r=true):r.aJq.length<=6/\∀x∈r.aJq,x.Name.size<=8/\0<=x.N/\x.N<=1000000000:=by unfold bU at h;simp only[qM,qL,qR,qS]at h;refine⟨h.2,λx j=> ?_⟩;obtain⟨k,hk,rfl⟩:=List.getElem_of_mem j;have:=h.1 k hk;unfold Hu Tg mN inR at this;rw[qF hk]at this;simp only[qe,qM,qL]at this;omega
theorem Cr{r:List Int}{n:Nat}(I:r.length<=1500000)(C:n<=1000000000000):∃l,bX r (n:Int)=some l/\l.length=r.length+(uv n).length:=by
 have j:inR (n:Int) 0 1000000000000=true:=by unfold inR;simp;omega
 unfold bX
 rw[eH jE,qA,cG,qA,j,if_neg jF]
 refine VE (L:=cV) (b:=λv=>IntKind.u8.wrap (i64.wrap (BitVec.ofInt (IntKind.i64.bits) (i64.wrap (BitVec.ofInt (IntKind.i64.bits) v&&&BitVec.ofInt (IntKind.i64.bits) 127).toNat)|||BitVec.ofInt (IntKind.i64.bits) 128).toNat)) (c:=λv=>IntKind.u8.wrap v) (λm n r h1 h2=> ?_) (λm n r h1=> ?_) 8 fuel n r jD jD jI jD
 ·simp only[cV];rw[if_pos jE,uvf]
 ·simp only[cV];rw[if_neg jE]
theorem Cp{r:List Int}{n:Nat}(I:r.length<=1500000)(C:n<=1000000000000):∃l,cF r (n:Int)=some l/\l.length=r.length+(uv n).length:=by
 have j:inR (n:Int) 0 1000000000000=true:=by unfold inR;simp;omega
 unfold cF dL
 rw[eH jE,qA,qA,bR,qA,j,if_neg jF]
 refine VE (L:=cU) (b:=λv=>IntKind.u8.wrap (i64.wrap ((Int.tmod v 128)+128))) (c:=λv=>IntKind.u8.wrap v) (λm n r h1 h2=> ?_) (λm n r h1=> ?_) 8 fuel n r jD jD jI jD
 ·simp only[cU];rw[if_pos jE,uvt h2]
 ·simp only[cU];rw[if_neg jE]
def DU(x:M.Field):Nat:=(uv x.Name.size).length+x.Name.size+(uv x.N.toNat).length
def Ns(r:M.aC):Nat:=if bU r=true then(uv r.aJq.length).length+bA DU r.aJq else 0
theorem KF{r b:List Int}(C:r.length<=1000)(hb:b.length<=1000):∃l,bW r b=some l/\l.length=r.length+((uv b.length).length+b.length):=by obtain⟨l,e,j⟩:=Cr (r:=r) (n:=b.length) jD jD;have h9:=Jo b.length jD;refine⟨l++b,?_,jE⟩;unfold bW;rw[e,qA,eH jD,qA]
theorem JH{r:M.aC}(hr:r.ok):∃l,fZ r=some l/\l.length=Ns r:=by
 unfold fZ Ns
 rw[pI hr,qA]
 by_cases h:bU r=true
 ·obtain⟨h6,I⟩:=vO h
  have U:∀x∈r.aJq,DU x<=26:=by intro x j;have:=I x j;have h1:=Jo x.Name.size jD;have h2:=Jo x.N.toNat jD;unfold DU;omega
  have hsum:=Bc U
  obtain⟨l,e,J⟩:=Cr (r:=[]) (n:=r.aJq.length) jF jD
  have h9:=Jo r.aJq.length jD
  rw[if_neg (by simp[h]),if_pos h,e,qA]
  have:=S1 (xs:=r.aJq) (w:=DU) (B:=900) (L:=cZ r) (λn k hk q hq=> ?_) (λn q=> ?_) fuel 0 l jI jD (by simp at J⊢;omega)
  ·obtain⟨z,e2,hz⟩:=this;exact⟨z,e2,by simp at J hz;omega⟩
  ·have j:=I _ (qG hk);have hw2:=U _ (qG hk);obtain⟨a,ea,ha⟩:=KF (r:=q) (b:=bC r.aJq[k].Name) jD (by rw[aR];omega);rw[aR]at ha;have hn:=Jo r.aJq[k].Name.size jD;obtain⟨b,C,hb⟩:=Cr (r:=a) (n:=r.aJq[k].N.toNat) jD jD;rw[Int.toNat_of_nonneg j.2.1]at C;refine⟨b,by unfold DU;omega,?_⟩;simp only[cZ];rw[if_pos (bE hk),aH hk,qA,ea,qA,C,qA,bG jD]
  ·simp only[cZ];rw[if_neg jK]
 ·rw[if_pos (by simp[h]),if_neg h];exact⟨_,rfl,rfl⟩
theorem Kv{r b:List Int}(C:r.length<=1000)(hb:b.length<=1000):∃l,gQ r b=some l/\l.length=r.length+((uv b.length).length+b.length):=by obtain⟨l,e,j⟩:=Cp (r:=r) (n:=b.length) jD jD;have h9:=Jo b.length jD;refine⟨l++b,?_,jE⟩;unfold gQ;rw[e,qA,eH jD,qA]
theorem JN{r:M.aC}(hr:r.ok):∃l,fT r=some l/\l.length=Ns r:=by
 unfold fT Ns
 rw[wZ hr,qA]
 by_cases h:bU r=true
 ·obtain⟨h6,I⟩:=vO h
  have U:∀x∈r.aJq,DU x<=26:=by intro x j;have:=I x j;have h1:=Jo x.Name.size jD;have h2:=Jo x.N.toNat jD;unfold DU;omega
  have hsum:=Bc U
  obtain⟨l,e,J⟩:=Cp (r:=[]) (n:=r.aJq.length) jF jD
  have h9:=Jo r.aJq.length jD
  rw[if_neg (by simp[h]),if_pos h,e,qA]
  have:=S1 (xs:=r.aJq) (w:=DU) (B:=900) (L:=dA r) (λn k hk q hq=> ?_) (λn q=> ?_) fuel 0 l jI jD (by simp at J⊢;omega)
  ·obtain⟨z,e2,hz⟩:=this;exact⟨z,e2,by simp at J hz;omega⟩
  ·have j:=I _ (qG hk);have hw2:=U _ (qG hk);obtain⟨a,ea,ha⟩:=Kv (r:=q) (b:=bC r.aJq[k].Name) jD (by rw[aR];omega);rw[aR]at ha;have hn:=Jo r.aJq[k].Name.size jD;obtain⟨b,C,hb⟩:=Cp (r:=a) (n:=r.aJq[k].N.toNat) jD jD;rw[Int.toNat_of_nonneg j.2.1]at C;refine⟨b,by unfold DU;omega,?_⟩;simp only[dA];rw[if_pos (bE hk),aH hk,qA,ea,qA,C,qA,bG jD]
  ·simp only[dA];rw[if_neg jK]
 ·rw[if_pos (by simp[h]),if_neg h];exact⟨_,rfl,rfl⟩
def Nb(v:Int)(x:M.aJt):Int:=i64.wrap (v+((M8 x.Key:Int)+(Ns x.aC:Int)))
def FM(s:M.aD):Int:=s.aJm.foldl Nb 0
def DL(d:M.aJj):Int:=d.aJw.foldl (λv s=>i64.wrap (v+FM s)) 0
def Rd(b:M.aJi):Int:=i64.wrap ((i64.wrap ((i64.wrap (F5 b.aJs+i64.wrap (DL b.bL.aJ8+(List.length b.bL.Log:Int))))+FM b.aE.aJ8))+(i64.wrap (40*(List.length b.aE.aJ7.aM.aJ9:Int))))
theorem H6{s:M.aD}(j:s.ok):uG s=some (FM s):=by have hm:=le_max j.aJm.1;unfold uG FM;refine Jx (L:=kX s) (E:=some) j.aJm.1 (λn v k hk=> ?_) (λn v=> ?_) 0;(have C:=j.aJm.2 _ (qG hk);obtain⟨a,I,U⟩:=MG C.Key;obtain⟨b,J,hb⟩:=JH C.aC;simp only[kX];rw[if_pos (bE hk),aH hk,qA,I,qA,J,qA,bG jD,U,hb];unfold Nb;rw[wrap_add,Int.add_assoc]);·simp only[kX];rw[if_neg jK]
theorem JW{d:M.aJj}(j:d.ok):sY d=some (DL d):=by have I:=le_max j.aJw.1;unfold sY DL;refine Jx (L:=gL d) (E:=some) j.aJw.1 (λn v k hk=> ?_) (λn v=> ?_) 0;(have C:=j.aJw.2 _ (qG hk);simp only[gL];rw[if_pos (bE hk),aH hk,qA,H6 C,qA,bG jD]);·simp only[gL];rw[if_neg jK]
theorem OI{b:M.aJi}(hb:b.ok):CQ b=some (Rd b):=by unfold CQ D9 Rd;rw[LO hb.aJs,qA,JW hb.bL.aJ8,qA,qA,H6 hb.aE.aJ8,qA]
theorem HU{s:M.aD}(j:s.ok):tZ s=some (FM s):=by have hm:=le_max j.aJm.1;unfold tZ FM;refine Jx (L:=kR s) (E:=some) j.aJm.1 (λn v k hk=> ?_) (λn v=> ?_) 0;(have C:=j.aJm.2 _ (qG hk);obtain⟨a,I,U⟩:=Ms C.Key;obtain⟨b,J,hb⟩:=JN C.aC;simp only[kR];rw[if_pos (bE hk),aH hk,qA,I,qA,J,qA,bG jD,U,hb];unfold Nb;rw[WQ]);·simp only[kR];rw[if_neg jK]
theorem JA{d:M.aJj}(j:d.ok):sQ d=some (DL d):=by have I:=le_max j.aJw.1;unfold sQ DL;refine Jx (L:=gI d) (E:=some) j.aJw.1 (λn v k hk=> ?_) (λn v=> ?_) 0;(have C:=j.aJw.2 _ (qG hk);simp only[gI];rw[if_pos (bE hk),aH hk,qA,HU C,qA,bG jD]);·simp only[gI];rw[if_neg jK]
theorem OR{b:M.aJi}(hb:b.ok):Cx b=some (Rd b):=by unfold Cx DP Rd;rw[Ll hb.aJs,qA,JA hb.bL.aJ8,qA,qA,HU hb.aE.aJ8,qA]
