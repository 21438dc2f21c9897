/-
  Helper text. No conditions.
-/
import Derived.Test.YtbpbocchokbggaaGreatOpenedPz
set_option linter.all false
namespace Go.Proofs.YtbpbocchokbggaaGreat.gen
open Go Go.Sh
open Go.IntKind (i64)
theorem cK(x a b:Int):aZ x a b=some (inR x a b):=by unfold aZ inR;by_cases h:a<=x;(rw[if_pos (by simpa using h)];simp[h]);·rw[if_neg (by simpa using h)];simp[h]
theorem bU(x a b:Int):aV x a b=some (inR x a b):=by unfold aV inR;by_cases h:a<=x;(rw[if_pos (by simpa using h)];simp[h]);·rw[if_neg (by simpa using h)];simp[h]
def Lo(r:M.aHH)(b:Bool):Int:=if b=true then 76 else i64.wrap (16+(List.length r.aH3:Int))
theorem JJ(r:M.aHH)(b:Bool):yM r b=some (Lo r b):=by unfold yM Lo;cases b<;>rfl
theorem Jh(r:M.aHH)(b:Bool):zE r b=some (Lo r b):=by unfold zE Lo;cases b<;>rfl
def Tm(v:Int)(x:M.aHU):Int:=i64.wrap (v+Lo x.aHH (x.aHH.aH2==3))
def DQ(s:M.aF):Int:=s.aHC.foldl (λv c=>c.aHS.foldl Tm v) 0
theorem JM{s:M.aF}(C:s.ok):yC s=some (DQ s):=by have hm:=le_max C.aHC.1;unfold yC DQ;refine Hl (L:=eO s) (E:=some) C.aHC.1 (λn v k hk=> ?_) (λn v=> ?_) 0;(have hc:=C.aHC.2 _ (qG hk);have U:=le_max hc.aHS.1;simp only[eO];rw[if_pos (aY hk),bD jF];refine Hl (xs:=s.aHC[k].aHS) (L:=kQ s (k:Int) (λI _=>eO s n I ((k+1:Nat):Int))) (E:=λI=>eO s n I ((k+1:Nat):Int)) hc.aHS.1 (λn v j J=> ?_) (λn v=> ?_) v;(simp only[kQ];rw[aK hk,qA,if_pos (aY J),aK J,qA,JJ,qA,bD jF];rfl);·simp only[kQ];rw[aK hk,qA,if_neg jO]);·simp only[eO];rw[if_neg jO]
theorem Jl{s:M.aF}(C:s.ok):yV s=some (DQ s):=by have hm:=le_max C.aHC.1;unfold yV DQ;refine Hl (L:=fD s) (E:=some) C.aHC.1 (λn v k hk=> ?_) (λn v=> ?_) 0;(have hc:=C.aHC.2 _ (qG hk);have U:=le_max hc.aHS.1;simp only[fD];rw[if_pos (aY hk),bD jF,aK hk,qA];refine Hl (xs:=s.aHC[k].aHS) (L:=kP s.aHC[k] (λI _=>fD s n I ((k+1:Nat):Int))) (E:=λI=>fD s n I ((k+1:Nat):Int)) hc.aHS.1 (λn v j J=> ?_) (λn v=> ?_) v;(simp only[kP];rw[if_pos (aY J),aK J,qA,Jh,qA,bD jF];rfl);·simp only[kP];rw[if_neg jO]);·simp only[fD];rw[if_neg jO]
def P9(b:UInt8):Bool:=(decide (97<=b.toNat)&&decide (b.toNat<=122))||(decide (48<=b.toNat)&&decide (b.toNat<=57))
def MG(s:ByteArray):Bool:=V3 s P9&&decide (s.size<=12)
theorem NT{s:ByteArray}(j:s.size<=maxLen):A5 s=some (MG s):=by
 have C:=le_max j
 unfold A5 MG
 rw[IM (L:=iV s) (g:=P9) (F:=some false) (E:=some (decide (s.size<=12))) j (λn k hk=> ?_) (λn=> ?_),bA]
 ·simp only[iV]
  rw[if_pos (aY hk),HZ hk,qA,bD jF]
  generalize s[k]=b
  unfold P9
  generalize iV s n ((k+1:Nat):Int)=Z
  simp only[Bool.or_eq_true,qM,qL,Bool.not_eq_true',decide_eq_false_iff_not]
  repeat' split
  all_goals first|rfl|(exfalso;omega)
 ·simp only[iV];rw[if_neg jO];simp;omega
theorem Kp{s:ByteArray}(j:s.size<=maxLen):zS s=some (MG s):=by
 have C:=le_max j
 unfold zS MG
 rw[IM (L:=eG s) (g:=P9) (F:=some false) (E:=some (decide (s.size<=12))) j (λn k hk=> ?_) (λn=> ?_),bA]
 ·simp only[eG]
  rw[if_pos (aY hk),HZ hk,qA,bD jF]
  generalize s[k]=b
  unfold P9
  generalize eG s n ((k+1:Nat):Int)=Z
  simp only[Bool.or_eq_true,qM,qL,Bool.not_eq_true',decide_eq_false_iff_not]
  repeat' split
  all_goals first|rfl|(exfalso;omega)
 ·simp only[eG];rw[if_neg jO];simp;omega
def Dq(k:M.Key):Bool:=inR k.aHb 1 3&&(inR k.N (-1000000000000) 1000000000000&&(MG k.aHi&&((k.aHb !=2||k.N==0)&&(k.aHb !=1||(k.aHi.toList==(⟨#[]⟩:ByteArray).toList)))))
theorem nH{k:M.Key}(hk:k.ok):fV k=some (Dq k):=by have j:=NT hk.aHi;unfold fV Dq;simp only[cK,j,qA];generalize inR k.aHb 1 3=a;generalize inR k.N (-1000000000000) 1000000000000=b;generalize MG k.aHi=c;generalize (k.aHi.toList==(⟨#[]⟩:ByteArray).toList)=g;by_cases h1:k.aHb=2<;>by_cases h2:k.aHb=1<;>by_cases h3:k.N=0<;>cases a<;>cases b<;>cases c<;>cases g<;>simp[h1,h2,h3]<;>omega
theorem C6{k:M.Key}(hk:k.ok):wW k=some (Dq k):=by have j:=Kp hk.aHi;unfold wW Dq;simp only[bU,j,qA];generalize inR k.aHb 1 3=a;generalize inR k.N (-1000000000000) 1000000000000=b;generalize MG k.aHi=c;generalize (k.aHi.toList==(⟨#[]⟩:ByteArray).toList)=g;by_cases h1:k.aHb=2<;>by_cases h2:k.aHb=1<;>by_cases h3:k.N=0<;>cases a<;>cases b<;>cases c<;>cases g<;>simp[h1,h2,h3]<;>omega
theorem Gd{k:M.Key}(h:Dq k=true):k.aHi.size<=12:=by unfold Dq MG at h;simp only[qM,qL]at h;omega
def La(k:M.Key):Nat:=if Dq k=true then if(k.aHb==2)=true then 1+k.aHi.size else 7+k.aHi.size else 0
theorem KE{k:M.Key}(hk:k.ok):∃l,lM k=some l/\l.length=La k:=by
 unfold lM La
 rw[nH hk,qA]
 by_cases h:Dq k=true
 ·have J:=Gd h
  have I:=aP k.aHi
  rw[if_neg (by simp[h]),if_pos h,WR]
  by_cases h2:(k.aHb==2)=true
  ·have h3:¬(k.aHb !=2)=true:=by simp[bne,h2]
   rw[if_pos h2]
   have C:∀n r,r.length<=7->bH k (n+1) 5 r=some (r++bR k.aHi):=by intro n r j;simp only[bH];rw[if_pos jI,if_neg h3,dY jF,qA]
   exact⟨_,C (18446744073709551609+6) _ jH,jG⟩
  ·have h3:(k.aHb !=2)=true:=by simp[bne,h2]
   rw[if_neg h2]
   have st:∀n (v:Nat) r,r.length<=7->v<=5->∃x:Int,bH k (n+1) (v:Int) r=bH k n ((v:Int)-1) (r++[x]):=by intro n v r j U;apply Exists.intro;simp only[bH];rw[if_pos jH,if_pos h3,if_pos (by rw[bO jF jF];simp;omega),dY jG,qA,bO (n:=(v:Int)-1) jF jF]
   obtain⟨x1,e1⟩:=st (18446744073709551609+6) 5 ([IntKind.u8.wrap k.aHb]) jH jH
   obtain⟨x2,e2⟩:=st (18446744073709551609+5) 4 ([IntKind.u8.wrap k.aHb]++[x1]) jH jH
   obtain⟨x3,e3⟩:=st (18446744073709551609+4) 3 ([IntKind.u8.wrap k.aHb]++[x1]++[x2]) jH jH
   obtain⟨x4,e4⟩:=st (18446744073709551609+3) 2 ([IntKind.u8.wrap k.aHb]++[x1]++[x2]++[x3]) jH jH
   obtain⟨x5,e5⟩:=st (18446744073709551609+2) 1 ([IntKind.u8.wrap k.aHb]++[x1]++[x2]++[x3]++[x4]) jH jH
   obtain⟨x6,e6⟩:=st (18446744073709551609+1) 0 ([IntKind.u8.wrap k.aHb]++[x1]++[x2]++[x3]++[x4]++[x5]) jH jH
   have e7:∀n r,r.length<=7->bH k (n+1) (-1) r=some (r++bR k.aHi):=by intro n r j;simp only[bH];rw[if_neg jI,dY jF,qA]
   exact⟨_,e1.trans (e2.trans (e3.trans (e4.trans (e5.trans (e6.trans (e7 _ _ jH)))))),jG⟩
 ·rw[if_pos (by simp[h]),if_neg h];exact⟨_,rfl,rfl⟩
theorem Kt{k:M.Key}(hk:k.ok):∃l,Ad k=some l/\l.length=La k:=by
 unfold Ad La
 rw[C6 hk,qA]
 by_cases h:Dq k=true
 ·have I:=Gd h
  have C:=aP k.aHi
  rw[if_neg (by simp[h]),if_pos h,WR]
  by_cases h2:(k.aHb==2)=true
  ·have h3:¬(k.aHb !=2)=true:=by simp[bne,h2]
   rw[if_pos h2,if_neg h3,dY jG,qA]
   exact⟨_,rfl,jG⟩
  ·have h3:(k.aHb !=2)=true:=by simp[bne,h2]
   rw[if_neg h2,if_pos h3]
   have st:∀n (v:Nat) r,r.length<=7->v<=5->∃x:Int,gF k (n+1) (v:Int) r=gF k n ((v:Int)-1) (r++[x]):=by intro n v r j J;apply Exists.intro;simp only[gF];rw[if_pos jH,if_pos (by rw[bO jF jF];simp;omega),dY jG,qA,bO (n:=(v:Int)-1) jF jF]
   obtain⟨x1,e1⟩:=st (18446744073709551609+6) 5 ([IntKind.u8.wrap k.aHb]) jH jH
   obtain⟨x2,e2⟩:=st (18446744073709551609+5) 4 ([IntKind.u8.wrap k.aHb]++[x1]) jH jH
   obtain⟨x3,e3⟩:=st (18446744073709551609+4) 3 ([IntKind.u8.wrap k.aHb]++[x1]++[x2]) jH jH
   obtain⟨x4,e4⟩:=st (18446744073709551609+3) 2 ([IntKind.u8.wrap k.aHb]++[x1]++[x2]++[x3]) jH jH
   obtain⟨x5,e5⟩:=st (18446744073709551609+2) 1 ([IntKind.u8.wrap k.aHb]++[x1]++[x2]++[x3]++[x4]) jH jH
   obtain⟨x6,e6⟩:=st (18446744073709551609+1) 0 ([IntKind.u8.wrap k.aHb]++[x1]++[x2]++[x3]++[x4]++[x5]) jH jH
   have e7:∀n r,r.length<=7->gF k (n+1) (-1) r=some (r++bR k.aHi):=by intro n r j;simp only[gF];rw[if_neg jI,dY jF,qA]
   exact⟨_,e1.trans (e2.trans (e3.trans (e4.trans (e5.trans (e6.trans (e7 _ _ jH)))))),jG⟩
 ·rw[if_pos (by simp[h]),if_neg h];exact⟨_,rfl,rfl⟩
def Kc(sl:Bool)(b:UInt8):Bool:=(decide (97<=b.toNat)&&decide (b.toNat<=122))||(sl&&decide (b.toNat=47))
def PF(s:ByteArray)(n:Int)(sl:Bool):Bool:=V3 s (Kc sl)&&inR (s.size:Int) 1 n
def nY(s:ByteArray):Bool:=V3 s (Kc false)&&inR (s.size:Int) 1 8
theorem dB{s:ByteArray}(j:s.size<=maxLen):bZ s=some (nY s):=by
 have C:=le_max j
 unfold bZ nY
 rw[IM (L:=pD s) (g:=Kc false) (F:=some false) (E:=some (inR (s.size:Int) 1 8)) j (λn k hk=> ?_) (λn=> ?_),bA]
 ·simp only[pD]
  rw[if_pos (aY hk),HZ hk,qA,bD jF]
  generalize s[k]=b
  unfold Kc
  generalize pD s n ((k+1:Nat):Int)=Z
  simp only[Bool.or_eq_true,qM,qL,Bool.not_eq_true',decide_eq_false_iff_not,Bool.false_and,Bool.or_false]
  repeat' split
  all_goals first|rfl|(exfalso;omega)
 ·simp only[pD];rw[if_neg jO,cK,qA]
theorem H3{s:ByteArray}{m:Int}{sl:Bool}(j:s.size<=maxLen):A6 s m sl=some (PF s m sl):=by
 have C:=le_max j
 unfold A6 PF
 rw[IM (L:=iX s m sl) (g:=Kc sl) (F:=some false) (E:=some (inR (s.size:Int) 1 m)) j (λn k hk=> ?_) (λn=> ?_),bA]
 ·simp only[iX]
  rw[if_pos (aY hk),HZ hk,qA,bD jF]
  generalize s[k]=b
  unfold Kc
  generalize iX s m sl n ((k+1:Nat):Int)=Z
  cases sl<;>simp only[Bool.or_eq_true,qM,qL,Bool.not_eq_true',decide_eq_false_iff_not,Bool.false_and,Bool.or_false,Bool.true_and,beq_eq_false_iff_ne,ne_eq,qD,if_true,if_false]
  all_goals repeat' split
  all_goals first|rfl|(exfalso;omega)
 ·simp only[iX];rw[if_neg jO,bU,qA]
theorem dJ{s:ByteArray}(j:s.size<=maxLen):cH s=some (nY s):=by unfold cH;rw[H3 j,qA];rfl
def Rv(x:M.Field):Bool:=nY x.Name&&inR x.N 0 1000000000
def EY(l:List M.Field)(k:Nat):Bool:=(l[k]?).any Rv&&(decide (k=0)||(l[k-1]?).any λy=>(l[k]?).any λx=>Op.bytesLess y.Name.toList x.Name.toList)
def cC(r:M.aD):Bool:=(List.range r.aHG.length).all (EY r.aHG)&&decide (r.aHG.length<=6)
theorem sG{r:M.aD}(C:r.ok):bL r=some (cC r):=by
 have J:=le_max C.aHG.1
 unfold bL cC
 rw[oZ (L:=hU r) (g:=EY r.aHG) (F:=some false) (E:=some (decide (r.aHG.length<=6))) C.aHG.1 (λn k hk=> ?_) (λn=> ?_),bA]
 ·have I:=C.aHG.2 _ (qG hk)
  simp only[hU]
  rw[if_pos (aY hk),aK hk,qA,bD jF,dB I.Name,qA,cK,qA]
  unfold EY Rv
  rw[qF hk]
  generalize hU r n ((k+1:Nat):Int)=Z
  by_cases h0:k=0
  ·subst h0;simp only[qf];generalize nY r.aHG[0].Name=a;generalize inR r.aHG[0].N 0 1000000000=b;cases a<;>cases b<;>simp
  ·have e:i64.wrap ((k:Int)-1)=((k-1:Nat):Int):=by rw[bO jF jF];omega
   have j:k-1<r.aHG.length:=by omega
   rw[if_pos (c:=(decide ((k:Int)>0))=true) jG,e,aK j,qA,qF j]
   simp only[qf,h0,decide_false,Bool.false_or]
   generalize nY r.aHG[k].Name=a
   generalize inR r.aHG[k].N 0 1000000000=b
   generalize Op.bytesLess r.aHG[k-1].Name.toList r.aHG[k].Name.toList=c
   cases a<;>cases b<;>cases c<;>simp
 ·simp only[hU];rw[if_neg jO];simp;omega
theorem FX{r:M.aD}(C:r.ok):yG r=some (cC r):=by
 have J:=le_max C.aHG.1
 unfold yG cC
 rw[oZ (L:=iB r) (g:=EY r.aHG) (F:=some false) (E:=some (decide (r.aHG.length<=6))) C.aHG.1 (λn k hk=> ?_) (λn=> ?_),bA]
 ·have I:=C.aHG.2 _ (qG hk)
  simp only[iB]
  rw[if_pos (aY hk),aK hk,qA,bD jF,dJ I.Name,qA,bU,qA]
  unfold EY Rv
  rw[qF hk]
  generalize iB r n ((k+1:Nat):Int)=Z
  by_cases h0:k=0
  ·subst h0;simp only[qf];generalize nY r.aHG[0].Name=a;generalize inR r.aHG[0].N 0 1000000000=b;cases a<;>cases b<;>simp
  ·have e:i64.wrap ((k:Int)-1)=((k-1:Nat):Int):=by rw[bO jF jF];omega
   have j:k-1<r.aHG.length:=by omega
   rw[if_pos (c:=(decide ((k:Int)>0))=true) jG,e,aK j,qA,qF j]
   simp only[qf,h0,decide_false,Bool.false_or]
   rw[DC r.aHG[k-1].Name.toList r.aHG[k].Name.toList]
   generalize nY r.aHG[k].Name=a
   generalize inR r.aHG[k].N 0 1000000000=b
   generalize (Op.bytesLess r.aHG[k].Name.toList r.aHG[k-1].Name.toList||r.aHG[k].Name.toList==r.aHG[k-1].Name.toList)=c
   cases a<;>cases b<;>cases c<;>simp
 ·simp only[iB];rw[if_neg jO];simp;omega
theorem zM{r:M.aD}(h:cC r=true):r.aHG.length<=6/\∀x∈r.aHG,x.Name.size<=8/\0<=x.N/\x.N<=1000000000:=by unfold cC at h;simp only[qM,qL,qR,qS]at h;refine⟨h.2,λx j=> ?_⟩;obtain⟨k,hk,rfl⟩:=List.getElem_of_mem j;have:=h.1 k hk;unfold EY Rv nY inR at this;rw[qF hk]at this;simp only[qf,qM,qL]at this;omega
theorem Bn{r:List Int}{n:Nat}(I:r.length<=1048576)(C:n<=1000000000000):∃l,bS r (n:Int)=some l/\l.length=r.length+(uv n).length:=by
 have j:inR (n:Int) 0 1000000000000=true:=by unfold inR;simp;omega
 unfold bS
 rw[dY jG,qA,cK,qA,j,if_neg jH]
 refine Ur (L:=cP) (b:=λv=>IntKind.u8.wrap (i64.wrap (BitVec.ofInt (IntKind.i64.bits) (i64.wrap (BitVec.ofInt (IntKind.i64.bits) v&&&BitVec.ofInt (IntKind.i64.bits) 127).toNat)|||BitVec.ofInt (IntKind.i64.bits) 128).toNat)) (c:=λv=>IntKind.u8.wrap v) (λm n r h1 h2=> ?_) (λm n r h1=> ?_) 8 fuel n r jF jF jM jF
 ·simp only[cP];rw[if_pos jG,uvf]
 ·simp only[cP];rw[if_neg jG]
theorem Bl{r:List Int}{n:Nat}(I:r.length<=1048576)(C:n<=1000000000000):∃l,kO r (n:Int)=some l/\l.length=r.length+(uv n).length:=by
 have j:inR (n:Int) 0 1000000000000=true:=by unfold inR;simp;omega
 unfold kO lQ
 rw[dY jG,qA,qA,bU,qA,j,if_neg jH]
 refine Ur (L:=gH) (b:=λv=>IntKind.u8.wrap (i64.wrap ((Int.tmod v 128)+128))) (c:=λv=>IntKind.u8.wrap v) (λm n r h1 h2=> ?_) (λm n r h1=> ?_) 8 fuel n r jF jF jM jF
 ·simp only[gH];rw[if_pos jG,uvt h2]
 ·simp only[gH];rw[if_neg jG]
def Cg(x:M.Field):Nat:=(uv x.Name.size).length+x.Name.size+(uv x.N.toNat).length
def Lt(r:M.aD):Nat:=if cC r=true then(uv r.aHG.length).length+dG Cg r.aHG else 0
theorem IF{r b:List Int}(C:r.length<=1000)(hb:b.length<=1000):∃l,bQ r b=some l/\l.length=r.length+((uv b.length).length+b.length):=by obtain⟨l,e,j⟩:=Bn (r:=r) (n:=b.length) jF jF;have h9:=G0 b.length jF;refine⟨l++b,?_,jG⟩;unfold bQ;rw[e,qA,dY jF,qA]
theorem Hu{r:M.aD}(hr:r.ok):∃l,gJ r=some l/\l.length=Lt r:=by
 unfold gJ Lt
 rw[sG hr,qA]
 by_cases h:cC r=true
 ·obtain⟨h6,I⟩:=zM h
  have U:∀x∈r.aHG,Cg x<=26:=by intro x j;have:=I x j;have h1:=G0 x.Name.size jF;have h2:=G0 x.N.toNat jF;unfold Cg;omega
  have hsum:=dR U
  obtain⟨l,e,J⟩:=Bn (r:=[]) (n:=r.aHG.length) jH jF
  have h9:=G0 r.aHG.length jF
  rw[if_neg (by simp[h]),if_pos h,e,qA]
  have:=Rd (xs:=r.aHG) (w:=Cg) (B:=900) (L:=cU r) (λn k hk q hq=> ?_) (λn q=> ?_) fuel 0 l jM jF (by simp at J⊢;omega)
  ·obtain⟨z,e2,hz⟩:=this;exact⟨z,e2,by simp at J hz;omega⟩
  ·have j:=I _ (qG hk);have hw2:=U _ (qG hk);obtain⟨a,ea,ha⟩:=IF (r:=q) (b:=bR r.aHG[k].Name) jF (by rw[aP];omega);rw[aP]at ha;have hn:=G0 r.aHG[k].Name.size jF;obtain⟨b,C,hb⟩:=Bn (r:=a) (n:=r.aHG[k].N.toNat) jF jF;rw[Int.toNat_of_nonneg j.2.1]at C;refine⟨b,by unfold Cg;omega,?_⟩;simp only[cU];rw[if_pos (aY hk),aK hk,qA,ea,qA,C,qA,bD jF]
  ·simp only[cU];rw[if_neg jO]
 ·rw[if_pos (by simp[h]),if_neg h];exact⟨_,rfl,rfl⟩
theorem Iw{r b:List Int}(C:r.length<=1000)(hb:b.length<=1000):∃l,xD r b=some l/\l.length=r.length+((uv b.length).length+b.length):=by obtain⟨l,e,j⟩:=Bl (r:=r) (n:=b.length) jF jF;have h9:=G0 b.length jF;refine⟨l++b,?_,jG⟩;unfold xD;rw[e,qA,dY jF,qA]
theorem HB{r:M.aD}(hr:r.ok):∃l,vD r=some l/\l.length=Lt r:=by
 unfold vD Lt
 rw[FX hr,qA]
 by_cases h:cC r=true
 ·obtain⟨h6,I⟩:=zM h
  have U:∀x∈r.aHG,Cg x<=26:=by intro x j;have:=I x j;have h1:=G0 x.Name.size jF;have h2:=G0 x.N.toNat jF;unfold Cg;omega
  have hsum:=dR U
  obtain⟨l,e,J⟩:=Bl (r:=[]) (n:=r.aHG.length) jH jF
  have h9:=G0 r.aHG.length jF
  rw[if_neg (by simp[h]),if_pos h,e,qA]
  have:=Rd (xs:=r.aHG) (w:=Cg) (B:=900) (L:=hH r) (λn k hk q hq=> ?_) (λn q=> ?_) fuel 0 l jM jF (by simp at J⊢;omega)
  ·obtain⟨z,e2,hz⟩:=this;exact⟨z,e2,by simp at J hz;omega⟩
  ·have j:=I _ (qG hk);have hw2:=U _ (qG hk);obtain⟨a,ea,ha⟩:=Iw (r:=q) (b:=bR r.aHG[k].Name) jF (by rw[aP];omega);rw[aP]at ha;have hn:=G0 r.aHG[k].Name.size jF;obtain⟨b,C,hb⟩:=Bl (r:=a) (n:=r.aHG[k].N.toNat) jF jF;rw[Int.toNat_of_nonneg j.2.1]at C;refine⟨b,by unfold Cg;omega,?_⟩;simp only[hH];rw[if_pos (aY hk),aK hk,qA,ea,qA,C,qA,bD jF]
  ·simp only[hH];rw[if_neg jO]
 ·rw[if_pos (by simp[h]),if_neg h];exact⟨_,rfl,rfl⟩
def Lf(v:Int)(x:M.aHV):Int:=i64.wrap (v+((La x.Key:Int)+(Lt x.aD:Int)))
def DI(s:M.aC):Int:=s.aHF.foldl Lf 0
def B9(d:M.aHB):Int:=d.aHP.foldl (λv s=>i64.wrap (v+DI s)) 0
def PD(b:M.aHD):Int:=i64.wrap ((i64.wrap ((i64.wrap (DQ b.aHC+i64.wrap (B9 b.bP.aHa+(List.length b.bP.Log:Int))))+DI b.aE.aHa))+(i64.wrap (40*(List.length b.aE.aHY.aJ.aHW:Int))))
theorem FE{s:M.aC}(j:s.ok):wM s=some (DI s):=by have hm:=le_max j.aHF.1;unfold wM DI;refine Hl (L:=mB s) (E:=some) j.aHF.1 (λn v k hk=> ?_) (λn v=> ?_) 0;(have C:=j.aHF.2 _ (qG hk);obtain⟨a,I,U⟩:=KE C.Key;obtain⟨b,J,hb⟩:=Hu C.aD;simp only[mB];rw[if_pos (aY hk),aK hk,qA,I,qA,J,qA,bD jF,U,hb];unfold Lf;rw[wrap_add,Int.add_assoc]);·simp only[mB];rw[if_neg jO]
theorem HJ{d:M.aHB}(j:d.ok):vH d=some (B9 d):=by have I:=le_max j.aHP.1;unfold vH B9;refine Hl (L:=gZ d) (E:=some) j.aHP.1 (λn v k hk=> ?_) (λn v=> ?_) 0;(have C:=j.aHP.2 _ (qG hk);simp only[gZ];rw[if_pos (aY hk),aK hk,qA,FE C,qA,bD jF]);·simp only[gZ];rw[if_neg jO]
theorem MP{b:M.aHD}(hb:b.ok):BG b=some (PD b):=by unfold BG Co PD;rw[JM hb.aHC,qA,HJ hb.bP.aHa,qA,qA,FE hb.aE.aHa,qA]
theorem Fs{s:M.aC}(j:s.ok):wG s=some (DI s):=by have hm:=le_max j.aHF.1;unfold wG DI;refine Hl (L:=lU s) (E:=some) j.aHF.1 (λn v k hk=> ?_) (λn v=> ?_) 0;(have C:=j.aHF.2 _ (qG hk);obtain⟨a,I,U⟩:=Kt C.Key;obtain⟨b,J,hb⟩:=HB C.aD;simp only[lU];rw[if_pos (aY hk),aK hk,qA,I,qA,J,qA,bD jF,U,hb];unfold Lf;rw[VE]);·simp only[lU];rw[if_neg jO]
theorem Hp{d:M.aHB}(j:d.ok):uZ d=some (B9 d):=by have I:=le_max j.aHP.1;unfold uZ B9;refine Hl (L:=gX d) (E:=some) j.aHP.1 (λn v k hk=> ?_) (λn v=> ?_) 0;(have C:=j.aHP.2 _ (qG hk);simp only[gX];rw[if_pos (aY hk),aK hk,qA,Fs C,qA,bD jF]);·simp only[gX];rw[if_neg jO]
theorem MW{b:M.aHD}(hb:b.ok):Br b=some (PD b):=by unfold Br Cd PD;rw[Jl hb.aHC,qA,Hp hb.bP.aHa,qA,qA,Fs hb.aE.aHa,qA]
def cX(x y:M.Key):Int:=if Dq x=true/\Dq y=true then if x.aHb=y.aHb then if x.N=y.N then if Op.bytesLess x.aHi.toList y.aHi.toList=true then -1 else if(x.aHi.toList==y.aHi.toList)=true then 0 else 1 else if x.N<y.N then -1 else 1 else if x.aHb<y.aHb then -1 else 1 else 0
theorem xH{x y:M.Key}(j:x.ok)(C:y.ok):bI x y=some (cX x y):=by
 unfold bI A7 cX
 rw[nH j,nH C]
 simp only[qA]
 cases h1:Dq x
 ·simp
 cases h2:Dq y
 ·simp
 simp only[qB,qD,if_false,if_true,and_self,bne_iff_ne,ne_eq,qL,Bool.not_eq_true',Bool.or_eq_false_iff,ite_not,qA]
 repeat' split
 all_goals first|rfl|(exfalso;omega)|(simp_all;done)|(simp_all;omega)
theorem Ea{x y:M.Key}(j:x.ok)(C:y.ok):sM x y=some (cX x y):=by
 have key:Lib.compareBytes x.aHi.data.toList y.aHi.data.toList=if Op.bytesLess x.aHi.toList y.aHi.toList=true then -1 else if(x.aHi.toList==y.aHi.toList)=true then 0 else 1:=by rw[FP,<-ByteArray.toList_eq,<-ByteArray.toList_eq]
 unfold sM wV A8 pH cX
 rw[C6 j,C6 C]
 simp only[qA,key]
 cases h1:Dq x
 ·simp
 cases h2:Dq y
 ·simp
 simp only[qB,qD,if_false,if_true,and_self,bne_iff_ne,ne_eq,qL,Bool.not_eq_true',Bool.or_eq_false_iff,ite_not,qA]
 repeat' split
 all_goals first|rfl|(exfalso;omega)|(simp_all;done)|(simp_all;omega)
theorem Ig{p:M.aHD->Option Bool}{f:M.aHD->Bool}{xs:List M.aHD}(j:xs.length<=maxLen)(C:∀x∈xs,p x=some (f x)):lC xs p=some (mM f xs):=by
 have I:=le_max j
 unfold lC
 rw[findAll (L:=cZ xs p) (f:=f) (A:=λi=>some (i:Int)) (E:=some (-1)) j (λn k hk=>by
  simp only[cZ]
  rw[if_pos (aY hk),aK hk,qA,C _ (qG hk),qA,bD jF]) (λn=>by
  simp only[cZ]
  rw[if_neg jO]),pM]
theorem KW{p:M.bC->Option Bool}{f:M.bC->Bool}{xs:List M.bC}(j:xs.length<=maxLen)(C:∀x∈xs,p x=some (f x)):oL xs p=some (mM f xs):=by
 have I:=le_max j
 unfold oL
 rw[findAll (L:=dX xs p) (f:=f) (A:=λi=>some (i:Int)) (E:=some (-1)) j (λn k hk=>by
  simp only[dX]
  rw[if_pos (aY hk),aK hk,qA,C _ (qG hk),qA,bD jF]) (λn=>by
  simp only[dX]
  rw[if_neg jO]),pM]
theorem JD{p:M.aHM->Option Bool}{f:M.aHM->Bool}{xs:List M.aHM}(j:xs.length<=maxLen)(C:∀x∈xs,p x=some (f x)):mR xs p=some (mM f xs):=by
 have I:=le_max j
 unfold mR
 rw[findAll (L:=dH xs p) (f:=f) (A:=λi=>some (i:Int)) (E:=some (-1)) j (λn k hk=>by
  simp only[dH]
  rw[if_pos (aY hk),aK hk,qA,C _ (qG hk),qA,bD jF]) (λn=>by
  simp only[dH]
  rw[if_neg jO]),pM]
theorem D5{p:M.aHU->Option Bool}{f:M.aHU->Bool}{xs:List M.aHU}(j:xs.length<=maxLen)(C:∀x∈xs,p x=some (f x)):lK xs p=some (mM f xs):=by
 have I:=le_max j
 unfold lK
 rw[findAll (L:=dA xs p) (f:=f) (A:=λi=>some (i:Int)) (E:=some (-1)) j (λn k hk=>by
  simp only[dA]
  rw[if_pos (aY hk),aK hk,qA,C _ (qG hk),qA,bD jF]) (λn=>by
  simp only[dA]
  rw[if_neg jO]),pM]
theorem JE{p:M.aC->Option Bool}{f:M.aC->Bool}{xs:List M.aC}(j:xs.length<=maxLen)(C:∀x∈xs,p x=some (f x)):mT xs p=some (mM f xs):=by
 have I:=le_max j
 unfold mT
 rw[findAll (L:=dI xs p) (f:=f) (A:=λi=>some (i:Int)) (E:=some (-1)) j (λn k hk=>by
  simp only[dI]
  rw[if_pos (aY hk),aK hk,qA,C _ (qG hk),qA,bD jF]) (λn=>by
  simp only[dI]
  rw[if_neg jO]),pM]
theorem Jy{p:M.Field->Option Bool}{f:M.Field->Bool}{xs:List M.Field}(j:xs.length<=maxLen)(C:∀x∈xs,p x=some (f x)):nB xs p=some (mM f xs):=by
 have I:=le_max j
 unfold nB
 rw[findAll (L:=dF xs p) (f:=f) (A:=λi=>some (i:Int)) (E:=some (-1)) j (λn k hk=>by
  simp only[dF]
  rw[if_pos (aY hk),aK hk,qA,C _ (qG hk),qA,bD jF]) (λn=>by
  simp only[dF]
  rw[if_neg jO]),pM]
theorem KR{p:M.mI->Option Bool}{f:M.mI->Bool}{xs:List M.mI}(j:xs.length<=maxLen)(C:∀x∈xs,p x=some (f x)):oF xs p=some (mM f xs):=by
 have I:=le_max j
 unfold oF
 rw[findAll (L:=dS xs p) (f:=f) (A:=λi=>some (i:Int)) (E:=some (-1)) j (λn k hk=>by
  simp only[dS]
  rw[if_pos (aY hk),aK hk,qA,C _ (qG hk),qA,bD jF]) (λn=>by
  simp only[dS]
  rw[if_neg jO]),pM]
theorem KF{p:M.dO->Option Bool}{f:M.dO->Bool}{xs:List M.dO}(j:xs.length<=maxLen)(C:∀x∈xs,p x=some (f x)):oO xs p=some (mM f xs):=by
 have I:=le_max j
 unfold oO
 rw[findAll (L:=dW xs p) (f:=f) (A:=λi=>some (i:Int)) (E:=some (-1)) j (λn k hk=>by
  simp only[dW]
  rw[if_pos (aY hk),aK hk,qA,C _ (qG hk),qA,bD jF]) (λn=>by
  simp only[dW]
  rw[if_neg jO]),pM]
def nAt(a b:ByteArray)(x:M.aHD):Bool:=(x.aHL.toList==a.toList)&&(x.Top.toList==b.toList)
theorem xX{s:M.aA}{a b:ByteArray}(j:s.ok):gR s a b=some (mM (nAt a b) s.aHE):=by have C:=le_max j.aHE.1;unfold gR;rw[findAll (L:=gU s a b) (f:=nAt a b) (A:=λi=>some (i:Int)) (E:=some (-1)) j.aHE.1 (λm k hk=> ?_) (λm=> ?_),pM];(simp only[gU];rw[if_pos (aY hk),aK hk,qA,bD jF,WT];rfl);·simp only[gU];rw[if_neg jO]
theorem CP{s:M.aA}{a b:ByteArray}(j:s.ok):iZ s a b=some (mM (nAt a b) s.aHE):=by unfold iZ;rw[Ig (f:=nAt a b) j.aHE.1 (λx _=>by simp only[uX,bA];rfl),qA]
def CL(l:List M.aHV)(k:Nat):Bool:=(l[k]?).any (λx=>Dq x.Key&&cC x.aD)&&(decide (k=0)||(l[k-1]?).any λy=>(l[k]?).any λx=>decide (cX y.Key x.Key<0))
def iJ(s:M.aC):Bool:=(List.range s.aHF.length).all (CL s.aHF)&&(nY s.Name&&(decide (s.aHF.length<=16)&&inR s.aHg 0 1000000))
def El(x:M.bB):Bool:=inR x.aHI 1 1000000&&(inR x.Seq 1 1000000&&(Dq x.Key&&(nY x.Field&&inR x.N 0 1000000000)))
def Eg(o:M.aJ)(k:Nat):Bool:=(o.aHW[k]?).any λx=>El x&&((x.aHI==o.aHI)&&(x.Seq==i64.wrap ((i64.wrap (o.aHj-(List.length o.aHW:Int)))+(k:Int))))
def uC(o:M.aJ):Bool:=(List.range o.aHW.length).all (Eg o)&&(inR o.aHI 1 1000000&&(inR o.aHj 1 1000000&&decide (o.aHW.length<=20)))
theorem Au{s:M.aC}(C:s.ok):nO s=some (iJ s):=by
 have U:=le_max C.aHF.1
 unfold nO iJ
 rw[oZ (L:=kH s) (g:=CL s.aHF) (F:=some false) (E:=some (nY s.Name&&(decide (s.aHF.length<=16)&&inR s.aHg 0 1000000))) C.aHF.1 (λn k hk=> ?_) (λn=> ?_),bA]
 ·have I:=C.aHF.2 _ (qG hk)
  simp only[kH]
  rw[if_pos (aY hk),aK hk,qA,bD jF,nH I.Key,qA,sG I.aD,qA]
  unfold CL
  rw[qF hk]
  generalize kH s n ((k+1:Nat):Int)=Z
  by_cases h0:k=0
  ·subst h0;simp only[qf];generalize Dq s.aHF[0].Key=a;generalize cC s.aHF[0].aD=b;cases a<;>cases b<;>simp
  ·have e:i64.wrap ((k:Int)-1)=((k-1:Nat):Int):=by rw[bO jF jF];omega
   have j:k-1<s.aHF.length:=by omega
   have J:=C.aHF.2 _ (qG j)
   rw[if_pos (c:=(decide ((k:Int)>0))=true) jG,e,aK j,qA,xH J.Key I.Key,qA,qF j]
   simp only[qf,h0,decide_false,Bool.false_or]
   generalize Dq s.aHF[k].Key=a
   generalize cC s.aHF[k].aD=b
   by_cases hc:cX s.aHF[k-1].Key s.aHF[k].Key<0
   ·rw[if_neg (c:=(decide (cX s.aHF[k-1].Key s.aHF[k].Key>=0))=true) jG];cases a<;>cases b<;>simp[hc]
   ·rw[if_pos (c:=(decide (cX s.aHF[k-1].Key s.aHF[k].Key>=0))=true) jG];cases a<;>cases b<;>simp[hc]
 ·simp only[kH];rw[if_neg jO,dB C.Name,qA,cK,qA,bA,bA];congr 3;simp;omega
theorem Bm{x:M.bB}(j:x.ok):kS x=some (El x):=by unfold kS El;simp only[cK,nH j.Key,dB j.Field,qA,bA]
theorem Eh{s:M.aC}(C:s.ok):xR s=some (iJ s):=by
 have U:=le_max C.aHF.1
 unfold xR iJ
 rw[oZ (L:=kI s) (g:=CL s.aHF) (F:=some false) (E:=some (nY s.Name&&(decide (s.aHF.length<=16)&&inR s.aHg 0 1000000))) C.aHF.1 (λn k hk=> ?_) (λn=> ?_),bA]
 ·have I:=C.aHF.2 _ (qG hk)
  simp only[kI]
  rw[if_pos (aY hk),aK hk,qA,bD jF,C6 I.Key,qA,FX I.aD,qA]
  unfold CL
  rw[qF hk]
  generalize kI s n ((k+1:Nat):Int)=Z
  by_cases h0:k=0
  ·subst h0;simp only[qf];generalize Dq s.aHF[0].Key=a;generalize cC s.aHF[0].aD=b;cases a<;>cases b<;>simp
  ·have e:i64.wrap ((k:Int)-1)=((k-1:Nat):Int):=by rw[bO jF jF];omega
   have j:k-1<s.aHF.length:=by omega
   have J:=C.aHF.2 _ (qG j)
   rw[if_pos (c:=(decide ((k:Int)>0))=true) jG,e,aK j,qA,Ea J.Key I.Key,qA,qF j]
   simp only[qf,h0,decide_false,Bool.false_or]
   generalize Dq s.aHF[k].Key=a
   generalize cC s.aHF[k].aD=b
   by_cases hc:cX s.aHF[k-1].Key s.aHF[k].Key<0
   ·rw[if_neg (c:=(decide (cX s.aHF[k-1].Key s.aHF[k].Key>=0))=true) jG];cases a<;>cases b<;>simp[hc]
   ·rw[if_pos (c:=(decide (cX s.aHF[k-1].Key s.aHF[k].Key>=0))=true) jG];cases a<;>cases b<;>simp[hc]
 ·simp only[kI];rw[if_neg jO,dJ C.Name,qA,bU,qA,bA,bA];congr 3;simp;omega
theorem Dp{x:M.bB}(j:x.ok):oQ x=some (El x):=by unfold oQ El;simp only[bU,C6 j.Key,dJ j.Field,qA,bA]
theorem sE{o:M.aJ}(j:o.ok):iO o=some (uC o):=by have I:=le_max j.aHW.1;unfold iO uC;rw[oZ (L:=nV o) (g:=Eg o) (F:=some false) (E:=some true) j.aHW.1 (λn k hk=> ?_) (λn=> ?_)];(simp only[cK,qA];by_cases h:o.aHW.length<=20;(rw[if_neg (c:=(decide ((List.length o.aHW:Int)>20))=true) jG];cases (List.range o.aHW.length).all (Eg o)<;>cases inR o.aHI 1 1000000<;>cases inR o.aHj 1 1000000<;>simp[h]);·rw[if_pos (c:=(decide ((List.length o.aHW:Int)>20))=true) jG];cases inR o.aHI 1 1000000<;>cases inR o.aHj 1 1000000<;>simp[h]);(have C:=j.aHW.2 _ (qG hk);simp only[nV];rw[if_pos (aY hk),aK hk,qA,bD jF,Bm C,qA];unfold Eg;rw[qF hk,qf];simp only[vV,fR,WT]);·simp only[nV];rw[if_neg jO]
theorem Gn{o:M.aJ}(j:o.ok):yL o=some (uC o):=by have I:=le_max j.aHW.1;unfold yL uC;rw[oZ (L:=nW o) (g:=Eg o) (F:=some false) (E:=some (inR o.aHI 1 1000000&&(inR o.aHj 1 1000000&&decide (o.aHW.length<=20)))) j.aHW.1 (λn k hk=> ?_) (λn=> ?_),bA];(have C:=j.aHW.2 _ (qG hk);simp only[nW];rw[if_pos (aY hk),aK hk,qA,bD jF,Dp C,qA];unfold Eg;rw[qF hk,qf];simp only[vV,fR,WT]);·simp only[nW];rw[if_neg jO];simp only[bU,qA,bA];congr 3;simp;omega
def CX(r:M.aE):Bool:=iJ r.aHa&&((r.aHa.Name.toList==(⟨#[110,111,116,101,115]⟩:ByteArray).toList)&&(inR r.aHw 0 1000000000000&&uC r.aHY.aJ))
theorem BJ{r:M.aE}(j:r.ok):oY r=some (CX r):=by unfold oY CX;simp only[Au j.aHa,cK,sE j.aHY.aJ,qA,bA]
theorem Kv{r:M.aE}(j:r.ok):Ag r=some (CX r):=by unfold Ag CX;simp only[Eh j.aHa,bU,Gn j.aHY.aJ,qA,bA]
theorem ER{α:Type}{f:α->Bool}{xs:List α}{k:Nat}(hk:k<xs.length)(I:f xs[k]=true):(mM f xs==(k:Int))=(List.range k).all (λj=> !((xs[j]?).any f)):=by
 rw[Bool.eq_iff_iff]
 simp only[beq_iff_eq,qR,qS]
 constructor
 ·intro h j C
  unfold mM at h
  cases e:xs.findIdx? f with
  |none=>rw[e]at h;simp only at h;omega
  |some i=>
   rw[e]at h
   simp only at h
   have:i=k:=by omega
   subst this
   have:=(List.findIdx?_eq_some_iff_getElem.1 e).2.2 j C
   rw[qF jF]
   simpa using this
 ·intro h;have e:xs.findIdx? f=some k:=List.findIdx?_eq_some_iff_getElem.2 ⟨hk,I,λj C=>by have:=h j C;rw[qF jF]at this;simpa using this⟩;unfold mM;rw[e]
def FO(a b:ByteArray)(x:M.aHU):Bool:=(x.aHL.toList==a.toList)&&(x.aHv.toList==b.toList)
theorem Gj{c:M.aHM}{a b:ByteArray}(hc:c.ok):rQ c a b=some (mM (FO a b) c.aHS):=by unfold rQ;rw[D5 (f:=FO a b) hc.aHS.1 (λx _=>by simp only[wD,bA];rfl),qA]
def FJ(r:M.aHH):Bool:=inR r.aH2 1 4&&(inR r.aHx 0 999&&(inR r.aHA 0 1000000000000&&decide ((List.length r.aH3:Int)<=60)))
theorem I9(r:M.aHH):yU r=some (FJ r):=by unfold yU FJ;simp only[cK,qA,bA]
theorem EH(r:M.aHH):uL r=some (FJ r):=by unfold uL FJ;simp only[bU,qA,bA]
def Xn(l:List M.aHU)(k:Nat)(x:M.aHU):Bool:=(List.range k).all λj=> !((l[j]?).any (FO x.aHL x.aHv))
def CS(l:List M.aHU)(k:Nat):Bool:=(l[k]?).any λx=>nY x.aHL&&(nY x.aHv&&(FJ x.aHH&&Xn l k x))
def E2(l:List M.aHU):Bool:=(List.range l.length).all (CS l)&&decide (l.length<=12)
theorem Jn{l:List M.aHU}(I:l.length<=maxLen/\∀x∈l,M.aHU.ok x):uM l=some (E2 l):=by
 have hm:=le_max I.1
 unfold uM E2
 rw[oZ (L:=eY l) (g:=CS l) (F:=some false) (E:=some (decide (l.length<=12))) I.1 (λn k hk=> ?_) (λn=> ?_),bA]
 ·have J:=I.2 _ (qG hk)
  simp only[eY]
  rw[if_pos (aY hk),aK hk,qA,bD jF,dB J.aHL,qA,dB J.aHv,qA,I9,qA]
  rw[oZ (N:=k) (L:=gT l (k:Int) l[k] (λ_=>eY l n ((k+1:Nat):Int))) (g:=λj=> !((l[j]?).any (FO l[k].aHL l[k].aHv))) (F:=some false) (E:=eY l n ((k+1:Nat):Int)) (by have:=I.1;omega) (λn j U=> ?_) (λn=> ?_)]
  ·unfold CS Xn;rw[qF hk,qf];simp only[fR,WT]
  ·have C:j<l.length:=by omega
   simp only[gT]
   rw[if_pos (aY U),aK C,qA,bD jF,WT,qF C,qf,fR]
   rfl
  ·simp only[gT];rw[if_neg jO]
 ·simp only[eY];rw[if_neg jO];simp;omega
theorem Kz{c:M.aHM}{Z:Option Bool}(hc:c.ok):fG c (λ_=>Z) fuel 0=if(List.range c.aHS.length).all (CS c.aHS)=true then Z else some false:=by have I:=le_max hc.aHS.1;refine oZ (L:=fG c (λ_=>Z)) hc.aHS.1 (λn k hk=> ?_) (λn=> ?_);(have C:=hc.aHS.2 _ (qG hk);simp only[fG];rw[if_pos (aY hk),aK hk,qA,bD jF,dJ C.aHL,qA,dJ C.aHv,qA,Gj hc,qA,EH,qA,vV,ER hk (by simp[FO])];unfold CS Xn;rw[qF hk,qf];generalize fG c (λ_=>Z) n ((k+1:Nat):Int)=Y;generalize nY c.aHS[k].aHL=a;generalize nY c.aHS[k].aHv=b;generalize FJ c.aHS[k].aHH=d;generalize (List.range k).all (λj=> !((c.aHS[j]?).any (FO c.aHS[k].aHL c.aHS[k].aHv)))=e;cases a<;>cases b<;>cases d<;>cases e<;>rfl);·simp only[fG];rw[if_neg jO]
theorem KA{c:M.aHM}{Z:Option Bool}(hc:c.ok):eQ c (λ_=>Z) fuel 0=if(List.range c.aHS.length).all (CS c.aHS)=true then Z else some false:=by have I:=le_max hc.aHS.1;refine oZ (L:=eQ c (λ_=>Z)) hc.aHS.1 (λn k hk=> ?_) (λn=> ?_);(have C:=hc.aHS.2 _ (qG hk);simp only[eQ];rw[if_pos (aY hk),aK hk,qA,bD jF,dJ C.aHL,qA,dJ C.aHv,qA,Gj hc,qA,EH,qA,vV,ER hk (by simp[FO])];unfold CS Xn;rw[qF hk,qf];generalize eQ c (λ_=>Z) n ((k+1:Nat):Int)=Y;generalize nY c.aHS[k].aHL=a;generalize nY c.aHS[k].aHv=b;generalize FJ c.aHS[k].aHH=d;generalize (List.range k).all (λj=> !((c.aHS[j]?).any (FO c.aHS[k].aHL c.aHS[k].aHv)))=e;cases a<;>cases b<;>cases d<;>cases e<;>rfl);·simp only[eQ];rw[if_neg jO]
def GD(l:List M.aHM)(k:Nat):Bool:=(l[k]?).any (λc=>inR c.aHA 1 1000000000000&&E2 c.aHS)&&(decide (k=0)||(l[k-1]?).any λd=>(l[k]?).any λc=>decide (d.aHA<c.aHA))
def lL(s:M.aF):Bool:=(List.range s.aHC.length).all (GD s.aHC)&&decide (s.aHC.length<=4)
theorem rH{s:M.aF}(C:s.ok):cM s=some (lL s):=by
 have J:=le_max C.aHC.1
 unfold cM lL
 rw[oZ (L:=eS s) (g:=GD s.aHC) (F:=some false) (E:=some (decide (s.aHC.length<=4))) C.aHC.1 (λn k hk=> ?_) (λn=> ?_),bA]
 ·have I:=C.aHC.2 _ (qG hk)
  simp only[eS]
  rw[if_pos (aY hk),aK hk,qA,bD jF,cK,qA,Jn I.aHS]
  simp only[qA]
  unfold GD
  rw[qF hk]
  generalize eS s n ((k+1:Nat):Int)=Z
  by_cases h0:k=0
  ·subst h0;simp only[qf];generalize inR s.aHC[0].aHA 1 1000000000000=a;generalize E2 s.aHC[0].aHS=b;cases a<;>cases b<;>simp
  ·have e:i64.wrap ((k:Int)-1)=((k-1:Nat):Int):=by rw[bO jF jF];omega
   have j:k-1<s.aHC.length:=by omega
   rw[if_pos (c:=(decide ((k:Int)>0))=true) jG,e,aK j,qA,qF j]
   simp only[qf,h0,decide_false,Bool.false_or]
   generalize inR s.aHC[k].aHA 1 1000000000000=a
   generalize E2 s.aHC[k].aHS=b
   by_cases hc:s.aHC[k-1].aHA<s.aHC[k].aHA
   ·rw[if_neg (c:=(decide (s.aHC[k-1].aHA>=s.aHC[k].aHA))=true) jG];cases a<;>cases b<;>simp[hc]
   ·rw[if_pos (c:=(decide (s.aHC[k-1].aHA>=s.aHC[k].aHA))=true) jG];cases a<;>cases b<;>simp[hc]
 ·simp only[eS];rw[if_neg jO];simp;omega
theorem Jb{s:M.aF}(C:s.ok):xZ s=some (lL s):=by
 have U:=le_max C.aHC.1
 unfold xZ lL
 rw[oZ (L:=fF s) (g:=GD s.aHC) (F:=some false) (E:=some (decide (s.aHC.length<=4))) C.aHC.1 (λn k hk=> ?_) (λn=> ?_),bA]
 ·have I:=C.aHC.2 _ (qG hk)
  simp only[fF]
  rw[if_pos (aY hk),aK hk,qA,bD jF,bU,qA,Kz I,KA I]
  unfold GD E2
  rw[qF hk]
  generalize fF s n ((k+1:Nat):Int)=Z
  have J:(decide ((List.length s.aHC[k].aHS:Int)>12))= !decide (s.aHC[k].aHS.length<=12):=by by_cases h:s.aHC[k].aHS.length<=12;(simp[h];omega);·simp[h];omega
  rw[J]
  by_cases h0:k=0
  ·subst h0;simp only[qf];generalize inR s.aHC[0].aHA 1 1000000000000=a;generalize (List.range s.aHC[0].aHS.length).all (CS s.aHC[0].aHS)=b;generalize decide (s.aHC[0].aHS.length<=12)=d;cases a<;>cases b<;>cases d<;>simp
  ·have e:i64.wrap ((k:Int)-1)=((k-1:Nat):Int):=by rw[bO jF jF];omega
   have j:k-1<s.aHC.length:=by omega
   rw[if_pos (c:=(decide ((k:Int)>0))=true) jG,e,aK j,qA,qF j]
   simp only[qf,h0,decide_false,Bool.false_or]
   generalize inR s.aHC[k].aHA 1 1000000000000=a
   generalize (List.range s.aHC[k].aHS.length).all (CS s.aHC[k].aHS)=b
   generalize decide (s.aHC[k].aHS.length<=12)=d
   by_cases hc:s.aHC[k-1].aHA<s.aHC[k].aHA
   ·rw[if_neg (c:=(decide (s.aHC[k].aHA<=s.aHC[k-1].aHA))=true) jG];cases a<;>cases b<;>cases d<;>simp[hc]
   ·rw[if_pos (c:=(decide (s.aHC[k].aHA<=s.aHC[k-1].aHA))=true) jG];cases a<;>cases b<;>cases d<;>simp[hc]
 ·simp only[fF];rw[if_neg jO];simp;omega
theorem Oi{p:M.aG9}(j:p.aHL.size<=maxLen):∀(n k:Nat) (v:Int),k<=3->3-k<n->∃r,cE p n v (k:Int)=some r
 |0,k,v,_,h=>by omega
 |n+1,k,v,h3,h=>by
  simp only[cE]
  have C:(List.length ([p.aHp,p.aHm,p.aHf]))=3:=rfl
  by_cases hk:k<3
  ·rw[if_pos jG,aK (by rw[C];exact hk),qA,cK,qA,bD jF]
   obtain⟨I,e1⟩:=Oi j n (k+1) ([p.aHp,p.aHm,p.aHf][k]'(by rw[C];exact hk)) jF jF
   obtain⟨J,e2⟩:=Oi j n (k+1) v jF jF
   rw[e1,e2]
   repeat' split
   all_goals exact⟨_,rfl⟩
  ·have:k=3:=by omega
   subst this
   rw[if_neg jH,dB j]
   exact⟨_,rfl⟩
theorem Og{p:M.aG9}(j:p.aHL.size<=maxLen):∀(n:Nat) (v k:Int),0<=v->dK p n v k=cE p n v k
 |0,_,_,_=>rfl
 |n+1,v,k,I=>by
  simp only[dK,cE]
  rw[dB j,dJ j]
  cases hx:idx ([p.aHp,p.aHm,p.aHf]) k with
  |none=>rfl
  |some x=>
   simp only[qA,cK,bU]
   cases hi:inR x 0 1000000000000 with
   |false=>rfl
   |true=>
    have C:0<=x:=by unfold inR at hi;simp at hi;exact hi.1
    by_cases e0:x=0
    ·subst e0
     have:(if(0:Int)>v then(0:Int)else v)=v:=by rw[if_neg jF]
     rw[this,Og j n v _ I]
     rfl
    ·by_cases e1:x<=v
     ·have e2:(decide (x<=v))=true:=by simpa using e1
      simp[e0,e1]
     ·have:(if x>v then x else v)=x:=by rw[if_pos jF]
      rw[this,Og j n x _ C]
      simp[e0,e1]
def aAe(p:M.aG9):Bool:=(nC p).getD false
theorem C9{p:M.aG9}(j:p.ok):nC p=some (aAe p):=by obtain⟨r,e⟩:=Oi j.aHL fuel 0 0 jF jM;have e2:nC p=some r:=e;unfold aAe;rw[e2];rfl
theorem Gt{p:M.aG9}(j:p.ok):xI p=some (aAe p):=by rw[<-C9 j];exact Og j.aHL fuel 0 0 jF
def De(a:ByteArray)(x:M.aC):Bool:=x.Name.toList==a.toList
theorem Dh{d:M.aHB}{a:ByteArray}(j:d.ok):tD d a=some (mM (De a) d.aHP):=by have C:=le_max j.aHP.1;unfold tD;rw[findAll (L:=mK d a) (f:=De a) (A:=λi=>some (i:Int)) (E:=some (-1)) j.aHP.1 (λm k hk=> ?_) (λm=> ?_),pM];(simp only[mK];rw[if_pos (aY hk),aK hk,qA,bD jF];rfl);·simp only[mK];rw[if_neg jO]
theorem Kx{d:M.aHB}{a:ByteArray}(j:d.ok):zU d a=some (mM (De a) d.aHP):=by unfold zU;rw[JE (f:=De a) j.aHP.1 (λx _=>by simp only[wX];rfl),qA]
def sP(a:ByteArray)(x:M.Field):Bool:=x.Name.toList==a.toList
