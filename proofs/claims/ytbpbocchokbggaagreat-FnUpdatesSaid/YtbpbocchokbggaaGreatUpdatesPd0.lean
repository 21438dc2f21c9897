/-
  Helper text. No conditions.
-/
import Derived.Test.YtbpbocchokbggaaGreatUpdatesPz
set_option linter.all false
namespace Go.Proofs.YtbpbocchokbggaaGreat.gen
open Go Go.Sh
open Go.IntKind (i64)
def EX(j:M.aI7):Option (M.aI7×Bool):=
 (sE j).bind λx1=>(uK j).bind λx3=>if(!x3)=true then(sE j).bind λx6=>some (x6,false)else(uK (⟨x1.Name,i64.wrap (x1.aI0+1),x1.aJW,x1.aJf⟩:M.aI7)).bind λx8=>if(!x8)=true then(sE j).bind λC=>some (C,false)else some ((⟨x1.Name,i64.wrap (x1.aI0+1),x1.aJW,x1.aJf⟩:M.aI7),true)
def CH(j:M.World)(I:ByteArray):Option (M.World×Bool):=
 (pJ j).bind λx1=>(pZ I).bind λx3=>(uP j).bind λx5=>if(!x5)=true then some (x1,false)else if(decide (x3<0))=true then some (x1,false)else(idx j.aJL x3).bind λx9=>(EX x9).bind λC=>if(!C.2)=true then some (x1,false)else(idx x1.aJL x3).bind λJ=>some ((⟨x1.Now,x1.aJV,x1.aJA,x1.aA,x1.aJI,x1.aJG,x1.aJJ,x1.aJD,List.set x1.aJL x3.toNat C.1,x1.aJK⟩:M.World),true)
theorem cH(x a b:Int):aY x a b=some (inR x a b):=by unfold aY inR;by_cases h:a<=x;(rw[if_pos (by simpa using h)];simp[h]);·rw[if_neg (by simpa using h)];simp[h]
theorem cK(x a b:Int):aZ x a b=some (inR x a b):=by unfold aZ inR;by_cases h:a<=x;(rw[if_pos (by simpa using h)];simp[h]);·rw[if_neg (by simpa using h)];simp[h]
def Md(r:M.aI8)(b:Bool):Int:=if b=true then 76 else i64.wrap (16+(List.length r.aJr:Int))
theorem Kr(r:M.aI8)(b:Bool):zI r b=some (Md r b):=by unfold zI Md;cases b<;>rfl
theorem J1(r:M.aI8)(b:Bool):zW r b=some (Md r b):=by unfold zW Md;cases b<;>rfl
def UA(v:Int)(x:M.aJE):Int:=i64.wrap (v+Md x.aI8 (x.aI8.aJq==3))
def Ep(s:M.aC):Int:=s.aI1.foldl (λv c=>c.aJB.foldl UA v) 0
theorem Ku{s:M.aC}(C:s.ok):yY s=some (Ep s):=by have hm:=le_max C.aI1.1;unfold yY Ep;refine H3 (L:=eV s) (E:=some) C.aI1.1 (λn v k hk=> ?_) (λn v=> ?_) 0;(have hc:=C.aI1.2 _ (qG hk);have U:=le_max hc.aJB.1;simp only[eV];rw[if_pos (aW hk),bF jB];refine H3 (xs:=s.aI1[k].aJB) (L:=kX s (k:Int) (λI _=>eV s n I ((k+1:Nat):Int))) (E:=λI=>eV s n I ((k+1:Nat):Int)) hc.aJB.1 (λn v j J=> ?_) (λn v=> ?_) v;(simp only[kX];rw[aJ hk,qA,if_pos (aW J),aJ J,qA,Kr,qA,bF jB];rfl);·simp only[kX];rw[aJ hk,qA,if_neg jK]);·simp only[eV];rw[if_neg jK]
theorem J5{s:M.aC}(C:s.ok):zQ s=some (Ep s):=by have hm:=le_max C.aI1.1;unfold zQ Ep;refine H3 (L:=fE s) (E:=some) C.aI1.1 (λn v k hk=> ?_) (λn v=> ?_) 0;(have hc:=C.aI1.2 _ (qG hk);have U:=le_max hc.aJB.1;simp only[fE];rw[if_pos (aW hk),bF jB,aJ hk,qA];refine H3 (xs:=s.aI1[k].aJB) (L:=kV s.aI1[k] (λI _=>fE s n I ((k+1:Nat):Int))) (E:=λI=>fE s n I ((k+1:Nat):Int)) hc.aJB.1 (λn v j J=> ?_) (λn v=> ?_) v;(simp only[kV];rw[if_pos (aW J),aJ J,qA,J1,qA,bF jB];rfl);·simp only[kV];rw[if_neg jK]);·simp only[fE];rw[if_neg jK]
def Q0(b:UInt8):Bool:=(decide (97<=b.toNat)&&decide (b.toNat<=122))||(decide (48<=b.toNat)&&decide (b.toNat<=57))
def Nq(s:ByteArray):Bool:=Xn s Q0&&decide (s.size<=12)
theorem OM{s:ByteArray}(j:s.size<=maxLen):Bp s=some (Nq s):=by
 have C:=le_max j
 unfold Bp Nq
 rw[JD (L:=jX s) (g:=Q0) (F:=some false) (E:=some (decide (s.size<=12))) j (λn k hk=> ?_) (λn=> ?_),bA]
 ·simp only[jX]
  rw[if_pos (aW hk),IP hk,qA,bF jB]
  generalize s[k]=b
  unfold Q0
  generalize jX s n ((k+1:Nat):Int)=Z
  simp only[Bool.or_eq_true,qM,qL,Bool.not_eq_true',decide_eq_false_iff_not]
  repeat' split
  all_goals first|rfl|(exfalso;omega)
 ·simp only[jX];rw[if_neg jK];simp;omega
theorem K5{s:ByteArray}(j:s.size<=maxLen):An s=some (Nq s):=by
 have C:=le_max j
 unfold An Nq
 rw[JD (L:=eM s) (g:=Q0) (F:=some false) (E:=some (decide (s.size<=12))) j (λn k hk=> ?_) (λn=> ?_),bA]
 ·simp only[eM]
  rw[if_pos (aW hk),IP hk,qA,bF jB]
  generalize s[k]=b
  unfold Q0
  generalize eM s n ((k+1:Nat):Int)=Z
  simp only[Bool.or_eq_true,qM,qL,Bool.not_eq_true',decide_eq_false_iff_not]
  repeat' split
  all_goals first|rfl|(exfalso;omega)
 ·simp only[eM];rw[if_neg jK];simp;omega
def DX(k:M.Key):Bool:=inR k.aJS 1 3&&(inR k.N (-1000000000000) 1000000000000&&(Nq k.aJb&&((k.aJS !=2||k.N==0)&&(k.aJS !=1||(k.aJb.toList==(⟨#[]⟩:ByteArray).toList)))))
theorem nT{k:M.Key}(hk:k.ok):fU k=some (DX k):=by have j:=OM hk.aJb;unfold fU DX;simp only[cH,j,qA];generalize inR k.aJS 1 3=a;generalize inR k.N (-1000000000000) 1000000000000=b;generalize Nq k.aJb=c;generalize (k.aJb.toList==(⟨#[]⟩:ByteArray).toList)=g;by_cases h1:k.aJS=2<;>by_cases h2:k.aJS=1<;>by_cases h3:k.N=0<;>cases a<;>cases b<;>cases c<;>cases g<;>simp[h1,h2,h3]<;>omega
theorem Dv{k:M.Key}(hk:k.ok):xR k=some (DX k):=by have j:=K5 hk.aJb;unfold xR DX;simp only[cK,j,qA];generalize inR k.aJS 1 3=a;generalize inR k.N (-1000000000000) 1000000000000=b;generalize Nq k.aJb=c;generalize (k.aJb.toList==(⟨#[]⟩:ByteArray).toList)=g;by_cases h1:k.aJS=2<;>by_cases h2:k.aJS=1<;>by_cases h3:k.N=0<;>cases a<;>cases b<;>cases c<;>cases g<;>simp[h1,h2,h3]<;>omega
theorem GW{k:M.Key}(h:DX k=true):k.aJb.size<=12:=by unfold DX Nq at h;simp only[qM,qL]at h;omega
def LY(k:M.Key):Nat:=if DX k=true then if(k.aJS==2)=true then 1+k.aJb.size else 7+k.aJb.size else 0
theorem Ln{k:M.Key}(hk:k.ok):∃l,lY k=some l/\l.length=LY k:=by
 unfold lY LY
 rw[nT hk,qA]
 by_cases h:DX k=true
 ·have J:=GW h
  have I:=aO k.aJb
  rw[if_neg (by simp[h]),if_pos h,VU]
  by_cases h2:(k.aJS==2)=true
  ·have h3:¬(k.aJS !=2)=true:=by simp[bne,h2]
   rw[if_pos h2]
   have C:∀n r,r.length<=7->bH k (n+1) 5 r=some (r++bT k.aJb):=by intro n r j;simp only[bH];rw[if_pos jE,if_neg h3,dS jB,qA]
   exact⟨_,C (18446744073709551609+6) _ jD,jC⟩
  ·have h3:(k.aJS !=2)=true:=by simp[bne,h2]
   rw[if_neg h2]
   have st:∀n (v:Nat) r,r.length<=7->v<=5->∃x:Int,bH k (n+1) (v:Int) r=bH k n ((v:Int)-1) (r++[x]):=by intro n v r j U;apply Exists.intro;simp only[bH];rw[if_pos jD,if_pos h3,if_pos (by rw[bN jB jB];simp;omega),dS jC,qA,bN (n:=(v:Int)-1) jB jB]
   obtain⟨x1,e1⟩:=st (18446744073709551609+6) 5 ([IntKind.u8.wrap k.aJS]) jD jD
   obtain⟨x2,e2⟩:=st (18446744073709551609+5) 4 ([IntKind.u8.wrap k.aJS]++[x1]) jD jD
   obtain⟨x3,e3⟩:=st (18446744073709551609+4) 3 ([IntKind.u8.wrap k.aJS]++[x1]++[x2]) jD jD
   obtain⟨x4,e4⟩:=st (18446744073709551609+3) 2 ([IntKind.u8.wrap k.aJS]++[x1]++[x2]++[x3]) jD jD
   obtain⟨x5,e5⟩:=st (18446744073709551609+2) 1 ([IntKind.u8.wrap k.aJS]++[x1]++[x2]++[x3]++[x4]) jD jD
   obtain⟨x6,e6⟩:=st (18446744073709551609+1) 0 ([IntKind.u8.wrap k.aJS]++[x1]++[x2]++[x3]++[x4]++[x5]) jD jD
   have e7:∀n r,r.length<=7->bH k (n+1) (-1) r=some (r++bT k.aJb):=by intro n r j;simp only[bH];rw[if_neg jE,dS jB,qA]
   exact⟨_,e1.trans (e2.trans (e3.trans (e4.trans (e5.trans (e6.trans (e7 _ _ jD)))))),jC⟩
 ·rw[if_pos (by simp[h]),if_neg h];exact⟨_,rfl,rfl⟩
theorem K9{k:M.Key}(hk:k.ok):∃l,Ax k=some l/\l.length=LY k:=by
 unfold Ax LY
 rw[Dv hk,qA]
 by_cases h:DX k=true
 ·have I:=GW h
  have C:=aO k.aJb
  rw[if_neg (by simp[h]),if_pos h,VU]
  by_cases h2:(k.aJS==2)=true
  ·have h3:¬(k.aJS !=2)=true:=by simp[bne,h2]
   rw[if_pos h2,if_neg h3,dS jC,qA]
   exact⟨_,rfl,jC⟩
  ·have h3:(k.aJS !=2)=true:=by simp[bne,h2]
   rw[if_neg h2,if_pos h3]
   have st:∀n (v:Nat) r,r.length<=7->v<=5->∃x:Int,gH k (n+1) (v:Int) r=gH k n ((v:Int)-1) (r++[x]):=by intro n v r j J;apply Exists.intro;simp only[gH];rw[if_pos jD,if_pos (by rw[bN jB jB];simp;omega),dS jC,qA,bN (n:=(v:Int)-1) jB jB]
   obtain⟨x1,e1⟩:=st (18446744073709551609+6) 5 ([IntKind.u8.wrap k.aJS]) jD jD
   obtain⟨x2,e2⟩:=st (18446744073709551609+5) 4 ([IntKind.u8.wrap k.aJS]++[x1]) jD jD
   obtain⟨x3,e3⟩:=st (18446744073709551609+4) 3 ([IntKind.u8.wrap k.aJS]++[x1]++[x2]) jD jD
   obtain⟨x4,e4⟩:=st (18446744073709551609+3) 2 ([IntKind.u8.wrap k.aJS]++[x1]++[x2]++[x3]) jD jD
   obtain⟨x5,e5⟩:=st (18446744073709551609+2) 1 ([IntKind.u8.wrap k.aJS]++[x1]++[x2]++[x3]++[x4]) jD jD
   obtain⟨x6,e6⟩:=st (18446744073709551609+1) 0 ([IntKind.u8.wrap k.aJS]++[x1]++[x2]++[x3]++[x4]++[x5]) jD jD
   have e7:∀n r,r.length<=7->gH k (n+1) (-1) r=some (r++bT k.aJb):=by intro n r j;simp only[gH];rw[if_neg jE,dS jB,qA]
   exact⟨_,e1.trans (e2.trans (e3.trans (e4.trans (e5.trans (e6.trans (e7 _ _ jD)))))),jC⟩
 ·rw[if_pos (by simp[h]),if_neg h];exact⟨_,rfl,rfl⟩
def KT(sl:Bool)(b:UInt8):Bool:=(decide (97<=b.toNat)&&decide (b.toNat<=122))||(sl&&decide (b.toNat=47))
def Qx(s:ByteArray)(n:Int)(sl:Bool):Bool:=Xn s (KT sl)&&inR (s.size:Int) 1 n
def oJ(s:ByteArray):Bool:=Xn s (KT false)&&inR (s.size:Int) 1 8
theorem dM{s:ByteArray}(j:s.size<=maxLen):cE s=some (oJ s):=by
 have C:=le_max j
 unfold cE oJ
 rw[JD (L:=pL s) (g:=KT false) (F:=some false) (E:=some (inR (s.size:Int) 1 8)) j (λn k hk=> ?_) (λn=> ?_),bA]
 ·simp only[pL]
  rw[if_pos (aW hk),IP hk,qA,bF jB]
  generalize s[k]=b
  unfold KT
  generalize pL s n ((k+1:Nat):Int)=Z
  simp only[Bool.or_eq_true,qM,qL,Bool.not_eq_true',decide_eq_false_iff_not,Bool.false_and,Bool.or_false]
  repeat' split
  all_goals first|rfl|(exfalso;omega)
 ·simp only[pL];rw[if_neg jK,cH,qA]
theorem IW{s:ByteArray}{m:Int}{sl:Bool}(j:s.size<=maxLen):Bq s m sl=some (Qx s m sl):=by
 have C:=le_max j
 unfold Bq Qx
 rw[JD (L:=kC s m sl) (g:=KT sl) (F:=some false) (E:=some (inR (s.size:Int) 1 m)) j (λn k hk=> ?_) (λn=> ?_),bA]
 ·simp only[kC]
  rw[if_pos (aW hk),IP hk,qA,bF jB]
  generalize s[k]=b
  unfold KT
  generalize kC s m sl n ((k+1:Nat):Int)=Z
  cases sl<;>simp only[Bool.or_eq_true,qM,qL,Bool.not_eq_true',decide_eq_false_iff_not,Bool.false_and,Bool.or_false,Bool.true_and,beq_eq_false_iff_ne,ne_eq,qD,if_true,if_false]
  all_goals repeat' split
  all_goals first|rfl|(exfalso;omega)
 ·simp only[kC];rw[if_neg jK,cK,qA]
theorem eH{s:ByteArray}(j:s.size<=maxLen):cX s=some (oJ s):=by unfold cX;rw[IW j,qA];rfl
def SF(x:M.Field):Bool:=oJ x.Name&&inR x.N 0 1000000000
def FM(l:List M.Field)(k:Nat):Bool:=(l[k]?).any SF&&(decide (k=0)||(l[k-1]?).any λy=>(l[k]?).any λx=>Op.bytesLess y.Name.toList x.Name.toList)
def cJ(r:M.aE):Bool:=(List.range r.aI9.length).all (FM r.aI9)&&decide (r.aI9.length<=6)
theorem sM{r:M.aE}(C:r.ok):bL r=some (cJ r):=by
 have J:=le_max C.aI9.1
 unfold bL cJ
 rw[pR (L:=iF r) (g:=FM r.aI9) (F:=some false) (E:=some (decide (r.aI9.length<=6))) C.aI9.1 (λn k hk=> ?_) (λn=> ?_),bA]
 ·have I:=C.aI9.2 _ (qG hk)
  simp only[iF]
  rw[if_pos (aW hk),aJ hk,qA,bF jB,dM I.Name,qA,cH,qA]
  unfold FM SF
  rw[qF hk]
  generalize iF r n ((k+1:Nat):Int)=Z
  by_cases h0:k=0
  ·subst h0;simp only[qd];generalize oJ r.aI9[0].Name=a;generalize inR r.aI9[0].N 0 1000000000=b;cases a<;>cases b<;>simp
  ·have e:i64.wrap ((k:Int)-1)=((k-1:Nat):Int):=by rw[bN jB jB];omega
   have j:k-1<r.aI9.length:=by omega
   rw[if_pos (c:=(decide ((k:Int)>0))=true) jC,e,aJ j,qA,qF j]
   simp only[qd,h0,decide_false,Bool.false_or]
   generalize oJ r.aI9[k].Name=a
   generalize inR r.aI9[k].N 0 1000000000=b
   generalize Op.bytesLess r.aI9[k-1].Name.toList r.aI9[k].Name.toList=c
   cases a<;>cases b<;>cases c<;>simp
 ·simp only[iF];rw[if_neg jK];simp;omega
theorem GL{r:M.aE}(C:r.ok):zE r=some (cJ r):=by
 have J:=le_max C.aI9.1
 unfold zE cJ
 rw[pR (L:=iI r) (g:=FM r.aI9) (F:=some false) (E:=some (decide (r.aI9.length<=6))) C.aI9.1 (λn k hk=> ?_) (λn=> ?_),bA]
 ·have I:=C.aI9.2 _ (qG hk)
  simp only[iI]
  rw[if_pos (aW hk),aJ hk,qA,bF jB,eH I.Name,qA,cK,qA]
  unfold FM SF
  rw[qF hk]
  generalize iI r n ((k+1:Nat):Int)=Z
  by_cases h0:k=0
  ·subst h0;simp only[qd];generalize oJ r.aI9[0].Name=a;generalize inR r.aI9[0].N 0 1000000000=b;cases a<;>cases b<;>simp
  ·have e:i64.wrap ((k:Int)-1)=((k-1:Nat):Int):=by rw[bN jB jB];omega
   have j:k-1<r.aI9.length:=by omega
   rw[if_pos (c:=(decide ((k:Int)>0))=true) jC,e,aJ j,qA,qF j]
   simp only[qd,h0,decide_false,Bool.false_or]
   rw[Ea r.aI9[k-1].Name.toList r.aI9[k].Name.toList]
   generalize oJ r.aI9[k].Name=a
   generalize inR r.aI9[k].N 0 1000000000=b
   generalize (Op.bytesLess r.aI9[k].Name.toList r.aI9[k-1].Name.toList||r.aI9[k].Name.toList==r.aI9[k-1].Name.toList)=c
   cases a<;>cases b<;>cases c<;>simp
 ·simp only[iI];rw[if_neg jK];simp;omega
theorem Ai{r:M.aE}(h:cJ r=true):r.aI9.length<=6/\∀x∈r.aI9,x.Name.size<=8/\0<=x.N/\x.N<=1000000000:=by unfold cJ at h;simp only[qM,qL,qR,qS]at h;refine⟨h.2,λx j=> ?_⟩;obtain⟨k,hk,rfl⟩:=List.getElem_of_mem j;have:=h.1 k hk;unfold FM SF oJ inR at this;rw[qF hk]at this;simp only[qd,qM,qL]at this;omega
theorem BL{r:List Int}{n:Nat}(I:r.length<=1048576)(C:n<=1000000000000):∃l,bU r (n:Int)=some l/\l.length=r.length+(uv n).length:=by
 have j:inR (n:Int) 0 1000000000000=true:=by unfold inR;simp;omega
 unfold bU
 rw[dS jC,qA,cH,qA,j,if_neg jD]
 refine Vv (L:=cY) (b:=λv=>IntKind.u8.wrap (i64.wrap (BitVec.ofInt (IntKind.i64.bits) (i64.wrap (BitVec.ofInt (IntKind.i64.bits) v&&&BitVec.ofInt (IntKind.i64.bits) 127).toNat)|||BitVec.ofInt (IntKind.i64.bits) 128).toNat)) (c:=λv=>IntKind.u8.wrap v) (λm n r h1 h2=> ?_) (λm n r h1=> ?_) 8 fuel n r jB jB jI jB
 ·simp only[cY];rw[if_pos jC,uvf]
 ·simp only[cY];rw[if_neg jC]
theorem BJ{r:List Int}{n:Nat}(I:r.length<=1048576)(C:n<=1000000000000):∃l,kU r (n:Int)=some l/\l.length=r.length+(uv n).length:=by
 have j:inR (n:Int) 0 1000000000000=true:=by unfold inR;simp;omega
 unfold kU mB
 rw[dS jC,qA,qA,cK,qA,j,if_neg jD]
 refine Vv (L:=gK) (b:=λv=>IntKind.u8.wrap (i64.wrap ((Int.tmod v 128)+128))) (c:=λv=>IntKind.u8.wrap v) (λm n r h1 h2=> ?_) (λm n r h1=> ?_) 8 fuel n r jB jB jI jB
 ·simp only[gK];rw[if_pos jC,uvt h2]
 ·simp only[gK];rw[if_neg jC]
def CG(x:M.Field):Nat:=(uv x.Name.size).length+x.Name.size+(uv x.N.toNat).length
def Mi(r:M.aE):Nat:=if cJ r=true then(uv r.aI9.length).length+dH CG r.aI9 else 0
theorem Jw{r b:List Int}(C:r.length<=1000)(hb:b.length<=1000):∃l,bS r b=some l/\l.length=r.length+((uv b.length).length+b.length):=by obtain⟨l,e,j⟩:=BL (r:=r) (n:=b.length) jB jB;have h9:=HP b.length jB;refine⟨l++b,?_,jC⟩;unfold bS;rw[e,qA,dS jB,qA]
theorem Ib{r:M.aE}(hr:r.ok):∃l,gN r=some l/\l.length=Mi r:=by
 unfold gN Mi
 rw[sM hr,qA]
 by_cases h:cJ r=true
 ·obtain⟨h6,I⟩:=Ai h
  have U:∀x∈r.aI9,CG x<=26:=by intro x j;have:=I x j;have h1:=HP x.Name.size jB;have h2:=HP x.N.toNat jB;unfold CG;omega
  have hsum:=eB U
  obtain⟨l,e,J⟩:=BL (r:=[]) (n:=r.aI9.length) jD jB
  have h9:=HP r.aI9.length jB
  rw[if_neg (by simp[h]),if_pos h,e,qA]
  have:=Si (xs:=r.aI9) (w:=CG) (B:=900) (L:=dB r) (λn k hk q hq=> ?_) (λn q=> ?_) fuel 0 l jI jB (by simp at J⊢;omega)
  ·obtain⟨z,e2,hz⟩:=this;exact⟨z,e2,by simp at J hz;omega⟩
  ·have j:=I _ (qG hk);have hw2:=U _ (qG hk);obtain⟨a,ea,ha⟩:=Jw (r:=q) (b:=bT r.aI9[k].Name) jB (by rw[aO];omega);rw[aO]at ha;have hn:=HP r.aI9[k].Name.size jB;obtain⟨b,C,hb⟩:=BL (r:=a) (n:=r.aI9[k].N.toNat) jB jB;rw[Int.toNat_of_nonneg j.2.1]at C;refine⟨b,by unfold CG;omega,?_⟩;simp only[dB];rw[if_pos (aW hk),aJ hk,qA,ea,qA,C,qA,bF jB]
  ·simp only[dB];rw[if_neg jK]
 ·rw[if_pos (by simp[h]),if_neg h];exact⟨_,rfl,rfl⟩
theorem Jo{r b:List Int}(C:r.length<=1000)(hb:b.length<=1000):∃l,yA r b=some l/\l.length=r.length+((uv b.length).length+b.length):=by obtain⟨l,e,j⟩:=BJ (r:=r) (n:=b.length) jB jB;have h9:=HP b.length jB;refine⟨l++b,?_,jC⟩;unfold yA;rw[e,qA,dS jB,qA]
theorem Il{r:M.aE}(hr:r.ok):∃l,vY r=some l/\l.length=Mi r:=by
 unfold vY Mi
 rw[GL hr,qA]
 by_cases h:cJ r=true
 ·obtain⟨h6,I⟩:=Ai h
  have U:∀x∈r.aI9,CG x<=26:=by intro x j;have:=I x j;have h1:=HP x.Name.size jB;have h2:=HP x.N.toNat jB;unfold CG;omega
  have hsum:=eB U
  obtain⟨l,e,J⟩:=BJ (r:=[]) (n:=r.aI9.length) jD jB
  have h9:=HP r.aI9.length jB
  rw[if_neg (by simp[h]),if_pos h,e,qA]
  have:=Si (xs:=r.aI9) (w:=CG) (B:=900) (L:=iD r) (λn k hk q hq=> ?_) (λn q=> ?_) fuel 0 l jI jB (by simp at J⊢;omega)
  ·obtain⟨z,e2,hz⟩:=this;exact⟨z,e2,by simp at J hz;omega⟩
  ·have j:=I _ (qG hk);have hw2:=U _ (qG hk);obtain⟨a,ea,ha⟩:=Jo (r:=q) (b:=bT r.aI9[k].Name) jB (by rw[aO];omega);rw[aO]at ha;have hn:=HP r.aI9[k].Name.size jB;obtain⟨b,C,hb⟩:=BJ (r:=a) (n:=r.aI9[k].N.toNat) jB jB;rw[Int.toNat_of_nonneg j.2.1]at C;refine⟨b,by unfold CG;omega,?_⟩;simp only[iD];rw[if_pos (aW hk),aJ hk,qA,ea,qA,C,qA,bF jB]
  ·simp only[iD];rw[if_neg jK]
 ·rw[if_pos (by simp[h]),if_neg h];exact⟨_,rfl,rfl⟩
def L2(v:Int)(x:M.aJN):Int:=i64.wrap (v+((LY x.Key:Int)+(Mi x.aE:Int)))
def Ei(s:M.aD):Int:=s.aI6.foldl L2 0
def Cz(d:M.aI2):Int:=d.aJF.foldl (λv s=>i64.wrap (v+Ei s)) 0
def Qu(b:M.aI3):Int:=i64.wrap ((i64.wrap ((i64.wrap (Ep b.aI1+i64.wrap (Cz b.bR.aJQ+(List.length b.bR.Log:Int))))+Ei b.aG.aJQ))+(i64.wrap (40*(List.length b.aG.aJR.aK.aJM:Int))))
theorem Gs{s:M.aD}(j:s.ok):xH s=some (Ei s):=by have hm:=le_max j.aI6.1;unfold xH Ei;refine H3 (L:=mQ s) (E:=some) j.aI6.1 (λn v k hk=> ?_) (λn v=> ?_) 0;(have C:=j.aI6.2 _ (qG hk);obtain⟨a,I,U⟩:=Ln C.Key;obtain⟨b,J,hb⟩:=Ib C.aE;simp only[mQ];rw[if_pos (aW hk),aJ hk,qA,I,qA,J,qA,bF jB,U,hb];unfold L2;rw[wrap_add,Int.add_assoc]);·simp only[mQ];rw[if_neg jK]
theorem Iw{d:M.aI2}(j:d.ok):wE d=some (Cz d):=by have I:=le_max j.aJF.1;unfold wE Cz;refine H3 (L:=iC d) (E:=some) j.aJF.1 (λn v k hk=> ?_) (λn v=> ?_) 0;(have C:=j.aJF.2 _ (qG hk);simp only[iC];rw[if_pos (aW hk),aJ hk,qA,Gs C,qA,bF jB]);·simp only[iC];rw[if_neg jK]
theorem Nz{b:M.aI3}(hb:b.ok):B8 b=some (Qu b):=by unfold B8 CS Qu;rw[Ku hb.aI1,qA,Iw hb.bR.aJQ,qA,qA,Gs hb.aG.aJQ,qA]
theorem Ge{s:M.aD}(j:s.ok):wZ s=some (Ei s):=by have hm:=le_max j.aI6.1;unfold wZ Ei;refine H3 (L:=mH s) (E:=some) j.aI6.1 (λn v k hk=> ?_) (λn v=> ?_) 0;(have C:=j.aI6.2 _ (qG hk);obtain⟨a,I,U⟩:=K9 C.Key;obtain⟨b,J,hb⟩:=Il C.aE;simp only[mH];rw[if_pos (aW hk),aJ hk,qA,I,qA,J,qA,bF jB,U,hb];unfold L2;rw[WU]);·simp only[mH];rw[if_neg jK]
theorem H7{d:M.aI2}(j:d.ok):vV d=some (Cz d):=by have I:=le_max j.aJF.1;unfold vV Cz;refine H3 (L:=iA d) (E:=some) j.aJF.1 (λn v k hk=> ?_) (λn v=> ?_) 0;(have C:=j.aJF.2 _ (qG hk);simp only[iA];rw[if_pos (aW hk),aJ hk,qA,Ge C,qA,bF jB]);·simp only[iA];rw[if_neg jK]
theorem NI{b:M.aI3}(hb:b.ok):BP b=some (Qu b):=by unfold BP CD Qu;rw[J5 hb.aI1,qA,H7 hb.bR.aJQ,qA,qA,Ge hb.aG.aJQ,qA]
def dG(x y:M.Key):Int:=if DX x=true/\DX y=true then if x.aJS=y.aJS then if x.N=y.N then if Op.bytesLess x.aJb.toList y.aJb.toList=true then -1 else if(x.aJb.toList==y.aJb.toList)=true then 0 else 1 else if x.N<y.N then -1 else 1 else if x.aJS<y.aJS then -1 else 1 else 0
theorem yE{x y:M.Key}(j:x.ok)(C:y.ok):bI x y=some (dG x y):=by
 unfold bI Br dG
 rw[nT j,nT C]
 simp only[qA]
 cases h1:DX x
 ·simp
 cases h2:DX y
 ·simp
 simp only[qB,qD,if_false,if_true,and_self,bne_iff_ne,ne_eq,qL,Bool.not_eq_true',Bool.or_eq_false_iff,ite_not,qA]
 repeat' split
 all_goals first|rfl|(exfalso;omega)|(simp_all;done)|(simp_all;omega)
theorem EJ{x y:M.Key}(j:x.ok)(C:y.ok):sS x y=some (dG x y):=by
 have key:Lib.compareBytes x.aJb.data.toList y.aJb.data.toList=if Op.bytesLess x.aJb.toList y.aJb.toList=true then -1 else if(x.aJb.toList==y.aJb.toList)=true then 0 else 1:=by rw[GC,<-ByteArray.toList_eq,<-ByteArray.toList_eq]
 unfold sS xQ Bs pN dG
 rw[Dv j,Dv C]
 simp only[qA,key]
 cases h1:DX x
 ·simp
 cases h2:DX y
 ·simp
 simp only[qB,qD,if_false,if_true,and_self,bne_iff_ne,ne_eq,qL,Bool.not_eq_true',Bool.or_eq_false_iff,ite_not,qA]
 repeat' split
 all_goals first|rfl|(exfalso;omega)|(simp_all;done)|(simp_all;omega)
theorem Ja{p:M.aI3->Option Bool}{f:M.aI3->Bool}{xs:List M.aI3}(j:xs.length<=maxLen)(C:∀x∈xs,p x=some (f x)):lN xs p=some (iJ f xs):=by
 have I:=le_max j
 unfold lN
 rw[findAll (L:=dI xs p) (f:=f) (A:=λi=>some (i:Int)) (E:=some (-1)) j (λn k hk=>by
  simp only[dI]
  rw[if_pos (aW hk),aJ hk,qA,C _ (qG hk),qA,bF jB]) (λn=>by
  simp only[dI]
  rw[if_neg jK]),uH]
theorem Kn{p:M.aI5->Option Bool}{f:M.aI5->Bool}{xs:List M.aI5}(j:xs.length<=maxLen)(C:∀x∈xs,p x=some (f x)):nG xs p=some (iJ f xs):=by
 have I:=le_max j
 unfold nG
 rw[findAll (L:=dU xs p) (f:=f) (A:=λi=>some (i:Int)) (E:=some (-1)) j (λn k hk=>by
  simp only[dU]
  rw[if_pos (aW hk),aJ hk,qA,C _ (qG hk),qA,bF jB]) (λn=>by
  simp only[dU]
  rw[if_neg jK]),uH]
theorem EF{p:M.aJE->Option Bool}{f:M.aJE->Bool}{xs:List M.aJE}(j:xs.length<=maxLen)(C:∀x∈xs,p x=some (f x)):lW xs p=some (iJ f xs):=by
 have I:=le_max j
 unfold lW
 rw[findAll (L:=dJ xs p) (f:=f) (A:=λi=>some (i:Int)) (E:=some (-1)) j (λn k hk=>by
  simp only[dJ]
  rw[if_pos (aW hk),aJ hk,qA,C _ (qG hk),qA,bF jB]) (λn=>by
  simp only[dJ]
  rw[if_neg jK]),uH]
theorem Ko{p:M.aD->Option Bool}{f:M.aD->Bool}{xs:List M.aD}(j:xs.length<=maxLen)(C:∀x∈xs,p x=some (f x)):nI xs p=some (iJ f xs):=by
 have I:=le_max j
 unfold nI
 rw[findAll (L:=dV xs p) (f:=f) (A:=λi=>some (i:Int)) (E:=some (-1)) j (λn k hk=>by
  simp only[dV]
  rw[if_pos (aW hk),aJ hk,qA,C _ (qG hk),qA,bF jB]) (λn=>by
  simp only[dV]
  rw[if_neg jK]),uH]
theorem Kh{p:M.Field->Option Bool}{f:M.Field->Bool}{xs:List M.Field}(j:xs.length<=maxLen)(C:∀x∈xs,p x=some (f x)):nP xs p=some (iJ f xs):=by
 have I:=le_max j
 unfold nP
 rw[findAll (L:=dP xs p) (f:=f) (A:=λi=>some (i:Int)) (E:=some (-1)) j (λn k hk=>by
  simp only[dP]
  rw[if_pos (aW hk),aJ hk,qA,C _ (qG hk),qA,bF jB]) (λn=>by
  simp only[dP]
  rw[if_neg jK]),uH]
def nAt(a b:ByteArray)(x:M.aI3):Bool:=(x.aI7.toList==a.toList)&&(x.Top.toList==b.toList)
theorem uV{s:M.aA}{a b:ByteArray}(j:s.ok):fL s a b=some (iJ (nAt a b) s.aI4):=by have C:=le_max j.aI4.1;unfold fL;rw[findAll (L:=hU s a b) (f:=nAt a b) (A:=λi=>some (i:Int)) (E:=some (-1)) j.aI4.1 (λm k hk=> ?_) (λm=> ?_),uH];(simp only[hU];rw[if_pos (aW hk),aJ hk,qA,bF jB,Yf];rfl);·simp only[hU];rw[if_neg jK]
theorem vH{s:M.aA}{a b:ByteArray}(j:s.ok):nD s a b=some (iJ (nAt a b) s.aI4):=by unfold nD;rw[Ja (f:=nAt a b) j.aI4.1 (λx _=>by simp only[vQ,bA];rfl),qA]
def Df(l:List M.aJN)(k:Nat):Bool:=(l[k]?).any (λx=>DX x.Key&&cJ x.aE)&&(decide (k=0)||(l[k-1]?).any λy=>(l[k]?).any λx=>decide (dG y.Key x.Key<0))
def iR(s:M.aD):Bool:=(List.range s.aI6.length).all (Df s.aI6)&&(oJ s.Name&&(decide (s.aI6.length<=16)&&inR s.aJa 0 1000000))
def EY(x:M.bC):Bool:=inR x.aJA 1 1000000&&(inR x.Seq 1 1000000&&(DX x.Key&&(oJ x.Field&&inR x.N 0 1000000000)))
def EP(o:M.aK)(k:Nat):Bool:=(o.aJM[k]?).any λx=>EY x&&((x.aJA==o.aJA)&&(x.Seq==i64.wrap ((i64.wrap (o.aJd-(List.length o.aJM:Int)))+(k:Int))))
def vM(o:M.aK):Bool:=(List.range o.aJM.length).all (EP o)&&(inR o.aJA 1 1000000&&(inR o.aJd 1 1000000&&decide (o.aJM.length<=20)))
theorem AS{s:M.aD}(C:s.ok):nX s=some (iR s):=by
 have U:=le_max C.aI6.1
 unfold nX iR
 rw[pR (L:=kN s) (g:=Df s.aI6) (F:=some false) (E:=some (oJ s.Name&&(decide (s.aI6.length<=16)&&inR s.aJa 0 1000000))) C.aI6.1 (λn k hk=> ?_) (λn=> ?_),bA]
 ·have I:=C.aI6.2 _ (qG hk)
  simp only[kN]
  rw[if_pos (aW hk),aJ hk,qA,bF jB,nT I.Key,qA,sM I.aE,qA]
  unfold Df
  rw[qF hk]
  generalize kN s n ((k+1:Nat):Int)=Z
  by_cases h0:k=0
  ·subst h0;simp only[qd];generalize DX s.aI6[0].Key=a;generalize cJ s.aI6[0].aE=b;cases a<;>cases b<;>simp
  ·have e:i64.wrap ((k:Int)-1)=((k-1:Nat):Int):=by rw[bN jB jB];omega
   have j:k-1<s.aI6.length:=by omega
   have J:=C.aI6.2 _ (qG j)
   rw[if_pos (c:=(decide ((k:Int)>0))=true) jC,e,aJ j,qA,yE J.Key I.Key,qA,qF j]
   simp only[qd,h0,decide_false,Bool.false_or]
   generalize DX s.aI6[k].Key=a
   generalize cJ s.aI6[k].aE=b
   by_cases hc:dG s.aI6[k-1].Key s.aI6[k].Key<0
   ·rw[if_neg (c:=(decide (dG s.aI6[k-1].Key s.aI6[k].Key>=0))=true) jC];cases a<;>cases b<;>simp[hc]
   ·rw[if_pos (c:=(decide (dG s.aI6[k-1].Key s.aI6[k].Key>=0))=true) jC];cases a<;>cases b<;>simp[hc]
 ·simp only[kN];rw[if_neg jK,dM C.Name,qA,cH,qA,bA,bA];congr 3;simp;omega
theorem BK{x:M.bC}(j:x.ok):lA x=some (EY x):=by unfold lA EY;simp only[cH,nT j.Key,dM j.Field,qA,bA]
theorem ES{s:M.aD}(C:s.ok):yN s=some (iR s):=by
 have U:=le_max C.aI6.1
 unfold yN iR
 rw[pR (L:=kO s) (g:=Df s.aI6) (F:=some false) (E:=some (oJ s.Name&&(decide (s.aI6.length<=16)&&inR s.aJa 0 1000000))) C.aI6.1 (λn k hk=> ?_) (λn=> ?_),bA]
 ·have I:=C.aI6.2 _ (qG hk)
  simp only[kO]
  rw[if_pos (aW hk),aJ hk,qA,bF jB,Dv I.Key,qA,GL I.aE,qA]
  unfold Df
  rw[qF hk]
  generalize kO s n ((k+1:Nat):Int)=Z
  by_cases h0:k=0
  ·subst h0;simp only[qd];generalize DX s.aI6[0].Key=a;generalize cJ s.aI6[0].aE=b;cases a<;>cases b<;>simp
  ·have e:i64.wrap ((k:Int)-1)=((k-1:Nat):Int):=by rw[bN jB jB];omega
   have j:k-1<s.aI6.length:=by omega
   have J:=C.aI6.2 _ (qG j)
   rw[if_pos (c:=(decide ((k:Int)>0))=true) jC,e,aJ j,qA,EJ J.Key I.Key,qA,qF j]
   simp only[qd,h0,decide_false,Bool.false_or]
   generalize DX s.aI6[k].Key=a
   generalize cJ s.aI6[k].aE=b
   by_cases hc:dG s.aI6[k-1].Key s.aI6[k].Key<0
   ·rw[if_neg (c:=(decide (dG s.aI6[k-1].Key s.aI6[k].Key>=0))=true) jC];cases a<;>cases b<;>simp[hc]
   ·rw[if_pos (c:=(decide (dG s.aI6[k-1].Key s.aI6[k].Key>=0))=true) jC];cases a<;>cases b<;>simp[hc]
 ·simp only[kO];rw[if_neg jK,eH C.Name,qA,cK,qA,bA,bA];congr 3;simp;omega
theorem DT{x:M.bC}(j:x.ok):oZ x=some (EY x):=by unfold oZ EY;simp only[cK,Dv j.Key,eH j.Field,qA,bA]
theorem sL{o:M.aK}(j:o.ok):iY o=some (vM o):=by have I:=le_max j.aJM.1;unfold iY vM;rw[pR (L:=oF o) (g:=EP o) (F:=some false) (E:=some true) j.aJM.1 (λn k hk=> ?_) (λn=> ?_)];(simp only[cH,qA];by_cases h:o.aJM.length<=20;(rw[if_neg (c:=(decide ((List.length o.aJM:Int)>20))=true) jC];cases (List.range o.aJM.length).all (EP o)<;>cases inR o.aJA 1 1000000<;>cases inR o.aJd 1 1000000<;>simp[h]);·rw[if_pos (c:=(decide ((List.length o.aJM:Int)>20))=true) jC];cases inR o.aJA 1 1000000<;>cases inR o.aJd 1 1000000<;>simp[h]);(have C:=j.aJM.2 _ (qG hk);simp only[oF];rw[if_pos (aW hk),aJ hk,qA,bF jB,BK C,qA];unfold EP;rw[qF hk,qd];simp only[wN,gM,Yf]);·simp only[oF];rw[if_neg jK]
theorem MR{o:M.aK}(j:o.ok):A8 o=some (vM o):=by have I:=le_max j.aJM.1;unfold A8 vM;rw[pR (L:=oG o) (g:=EP o) (F:=some false) (E:=some (inR o.aJA 1 1000000&&(inR o.aJd 1 1000000&&decide (o.aJM.length<=20)))) j.aJM.1 (λn k hk=> ?_) (λn=> ?_),bA];(have C:=j.aJM.2 _ (qG hk);simp only[oG];rw[if_pos (aW hk),aJ hk,qA,bF jB,DT C,qA];unfold EP;rw[qF hk,qd];simp only[wN,gM,Yf]);·simp only[oG];rw[if_neg jK];simp only[cK,qA,bA];congr 3;simp;omega
def Dm(r:M.aG):Bool:=iR r.aJQ&&((r.aJQ.Name.toList==(⟨#[110,111,116,101,115]⟩:ByteArray).toList)&&(inR r.aJm 0 1000000000000&&vM r.aJR.aK))
theorem Cc{r:M.aG}(j:r.ok):pG r=some (Dm r):=by unfold pG Dm;simp only[AS j.aJQ,cH,sL j.aJR.aK,qA,bA]
theorem Lc{r:M.aG}(j:r.ok):Az r=some (Dm r):=by unfold Az Dm;simp only[ES j.aJQ,cK,MR j.aJR.aK,qA,bA]
theorem FD{α:Type}{f:α->Bool}{xs:List α}{k:Nat}(hk:k<xs.length)(I:f xs[k]=true):(iJ f xs==(k:Int))=(List.range k).all (λj=> !((xs[j]?).any f)):=by
 rw[Bool.eq_iff_iff]
 simp only[beq_iff_eq,qR,qS]
 constructor
 ·intro h j C
  unfold iJ at h
  cases e:xs.findIdx? f with
  |none=>rw[e]at h;simp only at h;omega
  |some i=>
   rw[e]at h
   simp only at h
   have:i=k:=by omega
   subst this
   have:=(List.findIdx?_eq_some_iff_getElem.1 e).2.2 j C
   rw[qF jB]
   simpa using this
 ·intro h;have e:xs.findIdx? f=some k:=List.findIdx?_eq_some_iff_getElem.2 ⟨hk,I,λj C=>by have:=h j C;rw[qF jB]at this;simpa using this⟩;unfold iJ;rw[e]
def GB(a b:ByteArray)(x:M.aJE):Bool:=(x.aI7.toList==a.toList)&&(x.aJk.toList==b.toList)
theorem G5{c:M.aI5}{a b:ByteArray}(hc:c.ok):nW c a b=some (iJ (GB a b) c.aJB):=by unfold nW;rw[EF (f:=GB a b) hc.aJB.1 (λx _=>by simp only[wV,bA];rfl),qA]
def Gw(r:M.aI8):Bool:=inR r.aJq 1 4&&(inR r.aJn 0 999&&(inR r.aI0 0 1000000000000&&decide ((List.length r.aJr:Int)<=60)))
theorem JV(r:M.aI8):zP r=some (Gw r):=by unfold zP Gw;simp only[cH,qA,bA]
theorem Fv(r:M.aI8):uX r=some (Gw r):=by unfold uX Gw;simp only[cK,qA,bA]
def YI(l:List M.aJE)(k:Nat)(x:M.aJE):Bool:=(List.range k).all λj=> !((l[j]?).any (GB x.aI7 x.aJk))
def Dj(l:List M.aJE)(k:Nat):Bool:=(l[k]?).any λx=>oJ x.aI7&&(oJ x.aJk&&(Gw x.aI8&&YI l k x))
def FQ(l:List M.aJE):Bool:=(List.range l.length).all (Dj l)&&decide (l.length<=12)
theorem J7{l:List M.aJE}(I:l.length<=maxLen/\∀x∈l,M.aJE.ok x):uY l=some (FQ l):=by
 have hm:=le_max I.1
 unfold uY FQ
 rw[pR (L:=eZ l) (g:=Dj l) (F:=some false) (E:=some (decide (l.length<=12))) I.1 (λn k hk=> ?_) (λn=> ?_),bA]
 ·have J:=I.2 _ (qG hk)
  simp only[eZ]
  rw[if_pos (aW hk),aJ hk,qA,bF jB,dM J.aI7,qA,dM J.aJk,qA,JV,qA]
  rw[pR (N:=k) (L:=hJ l (k:Int) l[k] (λ_=>eZ l n ((k+1:Nat):Int))) (g:=λj=> !((l[j]?).any (GB l[k].aI7 l[k].aJk))) (F:=some false) (E:=eZ l n ((k+1:Nat):Int)) (by have:=I.1;omega) (λn j U=> ?_) (λn=> ?_)]
  ·unfold Dj YI;rw[qF hk,qd];simp only[gM,Yf]
  ·have C:j<l.length:=by omega
   simp only[hJ]
   rw[if_pos (aW U),aJ C,qA,bF jB,Yf,qF C,qd,gM]
   rfl
  ·simp only[hJ];rw[if_neg jK]
 ·simp only[eZ];rw[if_neg jK];simp;omega
theorem Lh{c:M.aI5}{Z:Option Bool}(hc:c.ok):fH c (λ_=>Z) fuel 0=if(List.range c.aJB.length).all (Dj c.aJB)=true then Z else some false:=by have I:=le_max hc.aJB.1;refine pR (L:=fH c (λ_=>Z)) hc.aJB.1 (λn k hk=> ?_) (λn=> ?_);(have C:=hc.aJB.2 _ (qG hk);simp only[fH];rw[if_pos (aW hk),aJ hk,qA,bF jB,eH C.aI7,qA,eH C.aJk,qA,G5 hc,qA,Fv,qA,wN,FD hk (by simp[GB])];unfold Dj YI;rw[qF hk,qd];generalize fH c (λ_=>Z) n ((k+1:Nat):Int)=Y;generalize oJ c.aJB[k].aI7=a;generalize oJ c.aJB[k].aJk=b;generalize Gw c.aJB[k].aI8=d;generalize (List.range k).all (λj=> !((c.aJB[j]?).any (GB c.aJB[k].aI7 c.aJB[k].aJk)))=e;cases a<;>cases b<;>cases d<;>cases e<;>rfl);·simp only[fH];rw[if_neg jK]
theorem Li{c:M.aI5}{Z:Option Bool}(hc:c.ok):eW c (λ_=>Z) fuel 0=if(List.range c.aJB.length).all (Dj c.aJB)=true then Z else some false:=by have I:=le_max hc.aJB.1;refine pR (L:=eW c (λ_=>Z)) hc.aJB.1 (λn k hk=> ?_) (λn=> ?_);(have C:=hc.aJB.2 _ (qG hk);simp only[eW];rw[if_pos (aW hk),aJ hk,qA,bF jB,eH C.aI7,qA,eH C.aJk,qA,G5 hc,qA,Fv,qA,wN,FD hk (by simp[GB])];unfold Dj YI;rw[qF hk,qd];generalize eW c (λ_=>Z) n ((k+1:Nat):Int)=Y;generalize oJ c.aJB[k].aI7=a;generalize oJ c.aJB[k].aJk=b;generalize Gw c.aJB[k].aI8=d;generalize (List.range k).all (λj=> !((c.aJB[j]?).any (GB c.aJB[k].aI7 c.aJB[k].aJk)))=e;cases a<;>cases b<;>cases d<;>cases e<;>rfl);·simp only[eW];rw[if_neg jK]
def FF(l:List M.aI5)(k:Nat):Bool:=(l[k]?).any (λc=>inR c.aI0 1 1000000000000&&FQ c.aJB)&&(decide (k=0)||(l[k-1]?).any λd=>(l[k]?).any λc=>decide (d.aI0<c.aI0))
def cP(s:M.aC):Bool:=(List.range s.aI1.length).all (FF s.aI1)&&decide (s.aI1.length<=4)
theorem rQ{s:M.aC}(C:s.ok):cT s=some (cP s):=by
 have J:=le_max C.aI1.1
 unfold cT cP
 rw[pR (L:=eX s) (g:=FF s.aI1) (F:=some false) (E:=some (decide (s.aI1.length<=4))) C.aI1.1 (λn k hk=> ?_) (λn=> ?_),bA]
 ·have I:=C.aI1.2 _ (qG hk)
  simp only[eX]
  rw[if_pos (aW hk),aJ hk,qA,bF jB,cH,qA,J7 I.aJB]
  simp only[qA]
  unfold FF
  rw[qF hk]
  generalize eX s n ((k+1:Nat):Int)=Z
  by_cases h0:k=0
  ·subst h0;simp only[qd];generalize inR s.aI1[0].aI0 1 1000000000000=a;generalize FQ s.aI1[0].aJB=b;cases a<;>cases b<;>simp
  ·have e:i64.wrap ((k:Int)-1)=((k-1:Nat):Int):=by rw[bN jB jB];omega
   have j:k-1<s.aI1.length:=by omega
   rw[if_pos (c:=(decide ((k:Int)>0))=true) jC,e,aJ j,qA,qF j]
   simp only[qd,h0,decide_false,Bool.false_or]
   generalize inR s.aI1[k].aI0 1 1000000000000=a
   generalize FQ s.aI1[k].aJB=b
   by_cases hc:s.aI1[k-1].aI0<s.aI1[k].aI0
   ·rw[if_neg (c:=(decide (s.aI1[k-1].aI0>=s.aI1[k].aI0))=true) jC];cases a<;>cases b<;>simp[hc]
   ·rw[if_pos (c:=(decide (s.aI1[k-1].aI0>=s.aI1[k].aI0))=true) jC];cases a<;>cases b<;>simp[hc]
 ·simp only[eX];rw[if_neg jK];simp;omega
theorem pX{s:M.aC}(C:s.ok):cR s=some (cP s):=by
 have U:=le_max C.aI1.1
 unfold cR cP
 rw[pR (L:=fG s) (g:=FF s.aI1) (F:=some false) (E:=some (decide (s.aI1.length<=4))) C.aI1.1 (λn k hk=> ?_) (λn=> ?_),bA]
 ·have I:=C.aI1.2 _ (qG hk)
  simp only[fG]
  rw[if_pos (aW hk),aJ hk,qA,bF jB,cK,qA,Lh I,Li I]
  unfold FF FQ
  rw[qF hk]
  generalize fG s n ((k+1:Nat):Int)=Z
  have J:(decide ((List.length s.aI1[k].aJB:Int)>12))= !decide (s.aI1[k].aJB.length<=12):=by by_cases h:s.aI1[k].aJB.length<=12;(simp[h];omega);·simp[h];omega
  rw[J]
  by_cases h0:k=0
  ·subst h0;simp only[qd];generalize inR s.aI1[0].aI0 1 1000000000000=a;generalize (List.range s.aI1[0].aJB.length).all (Dj s.aI1[0].aJB)=b;generalize decide (s.aI1[0].aJB.length<=12)=d;cases a<;>cases b<;>cases d<;>simp
  ·have e:i64.wrap ((k:Int)-1)=((k-1:Nat):Int):=by rw[bN jB jB];omega
   have j:k-1<s.aI1.length:=by omega
   rw[if_pos (c:=(decide ((k:Int)>0))=true) jC,e,aJ j,qA,qF j]
   simp only[qd,h0,decide_false,Bool.false_or]
   generalize inR s.aI1[k].aI0 1 1000000000000=a
   generalize (List.range s.aI1[k].aJB.length).all (Dj s.aI1[k].aJB)=b
   generalize decide (s.aI1[k].aJB.length<=12)=d
   by_cases hc:s.aI1[k-1].aI0<s.aI1[k].aI0
   ·rw[if_neg (c:=(decide (s.aI1[k].aI0<=s.aI1[k-1].aI0))=true) jC];cases a<;>cases b<;>cases d<;>simp[hc]
   ·rw[if_pos (c:=(decide (s.aI1[k].aI0<=s.aI1[k-1].aI0))=true) jC];cases a<;>cases b<;>cases d<;>simp[hc]
 ·simp only[fG];rw[if_neg jK];simp;omega
theorem Pf{p:M.aIz}(j:p.aI7.size<=maxLen):∀(n k:Nat) (v:Int),k<=3->3-k<n->∃r,bW p n v (k:Int)=some r
 |0,k,v,_,h=>by omega
 |n+1,k,v,h3,h=>by
  simp only[bW]
  have C:(List.length ([p.aJX,p.aJT,p.aJP]))=3:=rfl
  by_cases hk:k<3
  ·rw[if_pos jC,aJ (by rw[C];exact hk),qA,cH,qA,bF jB]
   obtain⟨I,e1⟩:=Pf j n (k+1) ([p.aJX,p.aJT,p.aJP][k]'(by rw[C];exact hk)) jB jB
   obtain⟨J,e2⟩:=Pf j n (k+1) v jB jB
   rw[e1,e2]
   repeat' split
   all_goals exact⟨_,rfl⟩
  ·have:k=3:=by omega
   subst this
   rw[if_neg jD,dM j]
   exact⟨_,rfl⟩
theorem Pd{p:M.aIz}(j:p.aI7.size<=maxLen):∀(n:Nat) (v k:Int),0<=v->dX p n v k=bW p n v k
 |0,_,_,_=>rfl
 |n+1,v,k,I=>by
  simp only[dX,bW]
  rw[dM j,eH j]
  cases hx:idx ([p.aJX,p.aJT,p.aJP]) k with
  |none=>rfl
  |some x=>
   simp only[qA,cH,cK]
   cases hi:inR x 0 1000000000000 with
   |false=>rfl
   |true=>
    have C:0<=x:=by unfold inR at hi;simp at hi;exact hi.1
    by_cases e0:x=0
    ·subst e0
     have:(if(0:Int)>v then(0:Int)else v)=v:=by rw[if_neg jB]
     rw[this,Pd j n v _ I]
     rfl
    ·by_cases e1:x<=v
     ·have e2:(decide (x<=v))=true:=by simpa using e1
      simp[e0,e1]
     ·have:(if x>v then x else v)=x:=by rw[if_pos jB]
      rw[this,Pd j n x _ C]
      simp[e0,e1]
def PB(p:M.aIz):Bool:=(cG p).getD false
theorem nN{p:M.aIz}(j:p.ok):cG p=some (PB p):=by obtain⟨r,e⟩:=Pf j.aI7 fuel 0 0 jB jI;have e2:cG p=some r:=e;unfold PB;rw[e2];rfl
theorem sK{p:M.aIz}(j:p.ok):gA p=some (PB p):=by rw[<-nN j];exact Pd j.aI7 fuel 0 0 jB
def DC(a:ByteArray)(x:M.aD):Bool:=x.Name.toList==a.toList
theorem DI{d:M.aI2}{a:ByteArray}(j:d.ok):tH d a=some (iJ (DC a) d.aJF):=by have C:=le_max j.aJF.1;unfold tH;rw[findAll (L:=nA d a) (f:=DC a) (A:=λi=>some (i:Int)) (E:=some (-1)) j.aJF.1 (λm k hk=> ?_) (λm=> ?_),uH];(simp only[nA];rw[if_pos (aW hk),aJ hk,qA,bF jB];rfl);·simp only[nA];rw[if_neg jK]
theorem Lf{d:M.aI2}{a:ByteArray}(j:d.ok):Aq d a=some (iJ (DC a) d.aJF):=by unfold Aq;rw[Ko (f:=DC a) j.aJF.1 (λx _=>by simp only[xS];rfl),qA]
def sW(a:ByteArray)(x:M.Field):Bool:=x.Name.toList==a.toList
def kR(r:M.aE)(a:ByteArray):Int×Bool:=match r.aI9.find? (sW a)with|some x=>(x.N,true)|none=>(0,false)
