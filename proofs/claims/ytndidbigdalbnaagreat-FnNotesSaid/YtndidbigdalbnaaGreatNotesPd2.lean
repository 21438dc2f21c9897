/-
  Helper text. No conditions.
-/
import Derived.Test.YtndidbigdalbnaaGreatNotesPd1
set_option linter.all false
namespace Go.Proofs.YtndidbigdalbnaaGreat.gen
open Go Go.Sh
open Go.IntKind (i64)
theorem Cy{d:M.aKc}(C:d.ok)(hz:M.aKc.sz d<=1500000):nS d=some (nDb d):=by
 have hm:=aZ C.aKm.1
 have hm2:=aZ C.aKz.1
 unfold nS nDb
 rw[rO (L:=iO d) (g:=H2 d.aKm) (F:=some false) (E:=iP d aJ 0) C.aKm.1 (λn k hk=> ?_) (λn=> ?_),
  rO (L:=iP d) (g:=II d) (F:=some false) (E:=some true) C.aKz.1 (λn k hk=> ?_) (λn=> ?_)]
 ·simp only[dG C.Name,bX]
  have e1:decide ((d.aKm.length:Int)>4)= !decide (d.aKm.length<=4):=by rw[jR];simp;omega
  have e2:decide ((d.aKz.length:Int)>4)= !decide (d.aKz.length<=4):=by rw[jR];simp;omega
  rw[e1,e2]
  cases oO d.Name<;>cases inR d.aKb 0 1000<;>cases decide (d.aKm.length<=4)<;>cases decide (d.aKz.length<=4)<;>cases (List.range d.aKm.length).all (H2 d.aKm)<;>cases (List.range d.aKz.length).all (II d)<;>rfl
 ·have U:=C.aKz.2 _ (qG hk);simp only[iP];rw[jF (bE hk),aK hk,qA,E6 C,qA,bM wg];unfold II;rw[qF hk,qf,dG U.Field,qA,Ew wg,qA,qH,PC (qh (by rw[qV];exact Nat.min_le_right _ _) C.aKz.1),qA,ZX wg];by_cases h:gJ (BL d.aKz[k].aD) d.aKm<0;(rw[jF wM,decide_eq_false wg];simp);·obtain⟨j,e,J⟩:=cT h;have hs:=C.aKm.2 _ (qG J);rw[jG wM,e,aK J,qA,GJ hs (N8 hz _ (qG J)),qA,qH,qF J,qf];cases oO d.aKz[k].Field<;>cases (P8 d.aKm[j] d.aKz[k].Field).2.2<;>cases Qk d.aKz k d.aKz[k]<;>simp
 ·simp only[iP];rw[jG wb]
 ·have U:=C.aKm.2 _ (qG hk)
  simp only[iO]
  rw[jF (bE hk),aK hk,qA,bM wg,BR U,qA]
  unfold H2
  rw[qF hk]
  by_cases h0:k=0
  ·subst h0;simp only[qf];cases iM d.aKm[0]<;>simp
  ·have e:i64.wrap (k-1)=((k-1:Nat)):=by rw[bO wg wg];omega
   have I:k-1<d.aKm.length:=by omega
   rw[jF (c:=(decide ((k:Int)>0))=true) wV,e,aK I,qA,qF I,VJ]
   simp only[qf,h0,jd]
   cases iM d.aKm[k]<;>cases Op.bytesLess d.aKm[k-1].Name.toList d.aKm[k].Name.toList<;>simp
 ·simp only[iO];rw[jG wb]
def xW(b:M.aKe):Bool:=oO b.aKl&&(oO b.Top&&(aEt b.aKd&&((b.aKd.aKl.toList==b.aKl.toList)&&(mR b.aKi&&(nDb b.bJ.aK1&&(DU b.aH&&(inR b.aLC 0 1000000000000&&decide (Tb b<=2500))))))))
theorem AW{b:M.aKe}(j:M.aKe.sz b<=1500000):M.aKc.sz b.bJ.aK1<=1500000:=by simp only[M.aKe.sz,M.bJ.sz]at j;omega
theorem Dl{b:M.aKe}(hb:b.ok)(j:M.aKc.sz b.bJ.aK1<=1500000):pJ b=some (xW b):=by unfold pJ xW;simp only[dX hb.aKl,dX hb.Top,EZ hb.aKd,sP hb.aKi,xH hb.bJ.aK1 j,Dg hb.aH,cO,PS hb,qA,bI]
theorem Ps{b:M.aKe}(hb:b.ok)(j:M.aKe.sz b<=1500000):pJ b=some (xW b):=Dl hb (AW j)
theorem Fg{b:M.aKe}(hb:b.ok)(j:M.aKc.sz b.bJ.aK1<=1500000):tG b=some (xW b):=by unfold tG xW;simp only[dG hb.aKl,dG hb.Top,Jt hb.aKd,Mi hb.aKi,Cy hb.bJ.aK1 j,H9 hb.aH,bX,P1 hb,qA,bI]
theorem Oh{b:M.aKe}(hb:b.ok)(j:M.aKe.sz b<=1500000):tG b=some (xW b):=Fg hb (AW j)
def GQ(x y:M.aKe):Bool:=Op.bytesLess x.aKl.toList y.aKl.toList||((x.aKl.toList==y.aKl.toList)&&Op.bytesLess x.Top.toList y.Top.toList)
theorem Kg(x y:M.aKe):BU x y.aKl y.Top=some (GQ x y):=by unfold BU GQ;cases Op.bytesLess x.aKl.toList y.aKl.toList<;>cases (x.aKl.toList==y.aKl.toList)<;>simp
theorem F5(x y:M.aKe):sQ x y=some (GQ x y):=by unfold sQ GQ;cases Op.bytesLess x.aKl.toList y.aKl.toList<;>cases (x.aKl.toList==y.aKl.toList)<;>simp
def G9(l:List M.aKe)(k:Nat):Bool:=(l[k]?).any xW&&(decide (k=0)||(l[k-1]?).any λy=>(l[k]?).any λx=>GQ y x)
def uA(s:M.aC):Bool:=(List.range s.aKf.length).all (G9 s.aKf)&&decide ((s.aKf.length:Int)<=9)
theorem El{s:M.aC}(C:s.ok)(U:∀b∈s.aKf,M.aKc.sz b.bJ.aK1<=1500000):dE s=some (uA s):=by
 have hm:=aZ C.aKf.1
 unfold dE uA
 rw[rO (L:=kX s) (g:=G9 s.aKf) (F:=some false) (E:=some (decide ((s.aKf.length:Int)<=9))) C.aKf.1 (λn k hk=> ?_) (λn=> ?_),bI]
 ·have J:=C.aKf.2 _ (qG hk)
  have I:M.aKc.sz s.aKf[k].bJ.aK1<=1500000:=U _ (qG hk)
  simp only[kX]
  rw[jF (bE hk),aK hk,qA,bM wg,Dl J I,qA]
  unfold G9
  rw[qF hk]
  by_cases h0:k=0
  ·subst h0;simp only[qf];cases xW s.aKf[0]<;>simp
  ·have e:i64.wrap (k-1)=((k-1:Nat)):=by rw[bO wg wg];omega
   have j:k-1<s.aKf.length:=by omega
   rw[jF (c:=(decide ((k:Int)>0))=true) wV,e,aK j,qA,Kg,qA,qF j]
   simp only[qf,h0,jd]
   cases xW s.aKf[k]<;>cases GQ s.aKf[k-1] s.aKf[k]<;>simp
 ·simp only[kX];rw[jG wb]
theorem NR{s:M.aC}(j:s.ok)(C:M.aC.sz s<=1500000):dE s=some (uA s):=El j (λb hb=>AW (by have:=dW (f:=M.aKe.sz) hb;simp only[M.aC.sz]at C;omega))
theorem Ez{s:M.aC}(C:s.ok)(U:∀b∈s.aKf,M.aKc.sz b.bJ.aK1<=1500000):dF s=some (uA s):=by
 have hm:=aZ C.aKf.1
 unfold dF uA
 rw[rO (L:=kQ s) (g:=G9 s.aKf) (F:=some false) (E:=some (decide ((s.aKf.length:Int)<=9))) C.aKf.1 (λn k hk=> ?_) (λn=> ?_),bI]
 ·have J:=C.aKf.2 _ (qG hk)
  have I:M.aKc.sz s.aKf[k].bJ.aK1<=1500000:=U _ (qG hk)
  simp only[kQ]
  rw[jF (bE hk),aK hk,qA,bM wg,Fg J I,qA]
  unfold G9
  rw[qF hk]
  by_cases h0:k=0
  ·grind
  ·have e:i64.wrap (k-1)=((k-1:Nat)):=by rw[bO wg wg];omega
   have j:k-1<s.aKf.length:=by omega
   rw[jF (c:=(decide ((k:Int)>0))=true) wV,e,aK j,qA,F5,qA,qF j]
   simp only[qf,h0,jd]
   cases xW s.aKf[k]<;>cases GQ s.aKf[k-1] s.aKf[k]<;>simp
 ·simp only[kQ];rw[jG wb]
theorem Ny{s:M.aC}(j:s.ok)(C:M.aC.sz s<=1500000):dF s=some (uA s):=Ez j (λb hb=>AW (by have:=dW (f:=M.aKe.sz) hb;simp only[M.aC.sz]at C;omega))
def Mb(b o:M.aKe):M.aKe×Bool:=if xW b=true then if xW o=true then(o,true)else(b,false)else(b,false)
theorem Y8{b o:M.aKe}(hb:b.ok)(j:o.ok):M.aKe.ok (Mb b o).1:=by unfold Mb;grind
theorem ZP(b o:M.aKe):M.aKe.sz (Mb b o).1<=M.aKe.sz b+M.aKe.sz o:=by unfold Mb;split;(split<;>simp only<;>omega);·simp only;omega
theorem Ia{b o:M.aKe}(hb:b.ok)(j:o.ok)(C:M.aKe.sz b<=1500000)(J:M.aKe.sz o<=1073741824)(I:M.aKc.sz o.bJ.aK1<=1500000):rG b o=some (Mb b o):=by unfold rG Mb;rw[Ps hb C,qA,Aw b wg,Dl j I];cases xW b;(simp);·cases xW o<;>simp
theorem Sn(b o:M.aKe):((some (Mb b o)).bind λx=>if x.2=true then some (o,true)else some (x.1,false))=some (Mb b o):=by unfold Mb;cases xW b<;>cases xW o<;>rfl
theorem Fq{b o:M.aKe}(hb:b.ok)(j:o.ok)(C:M.aKe.sz b<=1500000)(J:M.aKe.sz o<=1073741824)(I:M.aKc.sz o.bJ.aK1<=1500000):pX b o=some (Mb b o):=by unfold pX Mb;rw[Oh hb C,qA,Bd b wg,Fg j I,Bd o wg];cases xW b;(simp);·cases xW o<;>simp
def oK(b:M.aKe)(k:M.bJ):M.aKe:=⟨b.aKl,b.Top,b.aKd,b.aKi,k,b.aH,b.aLC,b.aK9⟩
theorem IZ{b:M.aKe}{k:M.bJ}(hb:b.ok)(hk:k.ok):(oK b k).ok:=⟨hb.aKl,hb.Top,hb.aKd,hb.aKi,hk,hb.aH,hb.aLC⟩
theorem I6(b:M.aKe)(k:M.bJ):M.aKe.sz (oK b k)<=M.aKe.sz b+M.bJ.sz k:=by simp only[oK,M.aKe.sz];omega
theorem Lw{b:M.aKe}{k:M.bJ}(hb:b.ok)(hk:k.ok)(j:M.aKe.sz b<=1500000)(zs:M.bJ.sz k<=536870912)(C:M.aKc.sz (oK b k).bJ.aK1<=1500000):Aj b k=some (Mb b (oK b k)):=by have I:=I6 b k;unfold Aj;rw[Aw b wg,qA,GW k wg,qA];have e:=Ia hb (IZ hb hk) j (show M.aKe.sz (oK b k)<=1073741824 by omega) C;have e2:=Sn b (oK b k);unfold oK at e e2⊢;rw[e];exact e2
theorem K8{b:M.aKe}{k:M.bJ}(hb:b.ok)(hk:k.ok)(j:M.aKe.sz b<=1500000)(zs:M.bJ.sz k<=536870912)(C:M.aKc.sz (oK b k).bJ.aK1<=1500000):zZ b k=some (Mb b (oK b k)):=by have I:=I6 b k;unfold zZ;have e:=Fq hb (IZ hb hk) j (show M.aKe.sz (oK b k)<=1073741824 by omega) C;unfold oK at e;rw[e];rfl
def eV(b:M.aKe)(r:M.aH):M.aKe:=⟨b.aKl,b.Top,b.aKd,b.aKi,b.bJ,r,b.aLC,b.aK9⟩
theorem FX{b:M.aKe}{r:M.aH}(hb:b.ok)(j:r.ok):(eV b r).ok:=⟨hb.aKl,hb.Top,hb.aKd,hb.aKi,hb.bJ,j,hb.aLC⟩
theorem Gk(b:M.aKe)(r:M.aH):M.aKe.sz (eV b r)<=M.aKe.sz b+M.aH.sz r:=by simp only[eV,M.aKe.sz];omega
theorem JC{b:M.aKe}{r:M.aH}(hb:b.ok)(j:r.ok)(C:M.aKe.sz b<=1500000)(zs:M.aH.sz r<=536870912)(I:M.aKc.sz (eV b r).bJ.aK1<=1500000):tJ b r=some (Mb b (eV b r)):=by have J:=Gk b r;unfold tJ;rw[Aw b wg,qA,EP r wg,qA];have e:=Ia hb (FX hb j) C (show M.aKe.sz (eV b r)<=1073741824 by omega) I;have e2:=Sn b (eV b r);unfold eV at e e2⊢;rw[e];exact e2
theorem Jx{b:M.aKe}{r:M.aH}(hb:b.ok)(j:r.ok)(C:M.aKe.sz b<=1500000)(zs:M.aH.sz r<=536870912)(I:M.aKc.sz (eV b r).bJ.aK1<=1500000):Cd b r=some (Mb b (eV b r)):=by have J:=Gk b r;unfold Cd;have e:=Fq hb (FX hb j) C (show M.aKe.sz (eV b r)<=1073741824 by omega) I;unfold eV at e;rw[e];rfl
def Hk:M.aKe:=⟨⟨#[]⟩,⟨#[]⟩,⟨⟨#[]⟩,0,0,0⟩,⟨[]⟩,⟨⟨⟨#[]⟩,0,[],[]⟩,[],0⟩,⟨⟨⟨#[]⟩,[],0⟩,0,⟨⟨0,0,[]⟩,0,0⟩⟩,0,false⟩
def Lt(a b:ByteArray)(d:Int):M.aKe:=⟨a,b,⟨a,0,0,0⟩,⟨[]⟩,⟨⟨⟨#[97,112,112]⟩,1,[⟨⟨#[110,111,116,101,115]⟩,[],0⟩],[]⟩,[],0⟩,⟨⟨⟨#[110,111,116,101,115]⟩,[],0⟩,0,⟨⟨d,1,[]⟩,0,0⟩⟩,0,false⟩
theorem yH:inI 0:=by unfold inI;omega
theorem WA:inI 1:=by unfold inI;omega
theorem UZ(n:Nat)(h:n<=1500000):n<=maxLen:=by unfold maxLen;omega
theorem sz0:((⟨#[]⟩:ByteArray)).size<=maxLen:=UZ _ we
theorem sz5:((⟨#[110,111,116,101,115]⟩:ByteArray)).size<=maxLen:=UZ _ we
theorem sz3:((⟨#[97,112,112]⟩:ByteArray)).size<=maxLen:=UZ _ we
theorem aBZ{d:Int}(n:Int)(j:inI d)(C:inI n):M.aO.ok ⟨d,n,[]⟩:=⟨j,C,⟨wb,wb⟩⟩
theorem Oj:Hk.ok:=⟨sz0,sz0,⟨sz0,yH,yH,yH⟩,⟨⟨wN,wN⟩⟩,⟨⟨sz0,yH,⟨wN,wN⟩,⟨wN,wN⟩⟩,⟨wN,wN⟩,yH⟩,⟨⟨sz0,⟨wN,wN⟩,yH⟩,yH,⟨⟨yH,yH,⟨wN,wN⟩⟩,yH,yH⟩⟩,yH⟩
theorem YG:M.aD.ok ⟨⟨#[110,111,116,101,115]⟩,[],0⟩:=⟨sz5,⟨wb,wb⟩,yH⟩
theorem Q4{a b:ByteArray}{d:Int}(j:a.size<=maxLen)(hb:b.size<=maxLen)(I:inI d):(Lt a b d).ok:=
 ⟨j,hb,⟨j,yH,yH,yH⟩,⟨⟨wT,wT⟩⟩,⟨⟨sz3,WA,⟨UZ _ wT,λy C=>by simp only[Lt,qq,qO,or_false]at C;subst C;exact YG⟩,⟨wT,wT⟩⟩,⟨wT,wT⟩,yH⟩,⟨YG,yH,⟨aBZ 1 I WA,yH,yH⟩⟩,yH⟩
theorem U4(a b:ByteArray)(d:Int):M.aKc.sz (Lt a b d).bJ.aK1<=1500000:=by simp only[Lt];decide
def FL(a b:ByteArray)(d:Int):M.aKe×Bool:=if uO ⟨d,1,[]⟩=true then if xW (Lt a b d)=true then(Lt a b d,true)else(Hk,false)else(Hk,false)
theorem Ir{a b:ByteArray}{d:Int}(I:a.size<=maxLen)(hb:b.size<=maxLen)(C:inI d):uP a b d=some (FL a b d):=by
 unfold uP rF FL
 rw[tO (aBZ 1 C WA),qA]
 cases hn:uO ⟨d,1,[]⟩with
 |false=>simp[Hk]
 |true=>
  have j:=Dl (Q4 I hb C) (U4 a b d)
  unfold Lt at j
  simp only[qB,qD,jH,qA,j,jI]
  unfold Lt
  generalize xW _=c
  cases c<;>simp[Hk]
theorem Vw{a b:ByteArray}{d:Int}(j:a.size<=maxLen)(hb:b.size<=maxLen)(C:inI d):(FL a b d).1.ok:=by unfold FL;split;(split;(exact Q4 j hb C);·exact Oj);·exact Oj
theorem bS(x:Int):inI (i64.wrap x):=by unfold inI;rw[IntKind.wrap_i64];omega
def yK(x y:Int):Bool:=x==y
theorem Tn{xs ys:List Int}(C:xs.length<=maxLen):yE xs ys=some (eqL yK xs ys):=by
 have I:=aZ C
 unfold yE
 rw[HL (f:=yK) C (E:=some true) (λn k hk j=>by
  simp only[mD]
  rw[jF (bE hk),aK hk,aK j,qA,qA,bM wg]
  first|rw[iD];rfl|rw[yJ];rfl) (λn=>by
  simp only[mD]
  rw[jG wF]),bI,jM]
def Sf(x y:Int):Bool:=x==y
theorem Ud{xs ys:List Int}(C:xs.length<=maxLen):Ad xs ys=some (eqL Sf xs ys):=by
 have I:=aZ C
 unfold Ad
 rw[HL (f:=Sf) C (E:=some true) (λn k hk j=>by
  simp only[oC]
  rw[jF (bE hk),aK hk,aK j,qA,qA,bM wg]
  first|rw[iD];rfl|rw[yJ];rfl) (λn=>by
  simp only[oC]
  rw[jG wF]),bI,jM]
def Jq(x y:ByteArray):Bool:=x.toList==y.toList
theorem PY{xs ys:List ByteArray}(C:xs.length<=maxLen):tD xs ys=some (eqL Jq xs ys):=by
 have I:=aZ C
 unfold tD
 rw[HL (f:=Jq) C (E:=some true) (λn k hk j=>by
  simp only[kC]
  rw[jF (bE hk),aK hk,aK j,qA,qA,bM wg]
  first|rw[iD];rfl|rw[yJ];rfl) (λn=>by
  simp only[kC]
  rw[jG wF]),bI,jM]
def N6(x y:M.aR):Bool:=(x.Name.toList==y.Name.toList)&&(x.N==y.N)
theorem RP{xs ys:List M.aR}(C:xs.length<=maxLen):vN xs ys=some (eqL N6 xs ys):=by
 have I:=aZ C
 unfold vN
 rw[HL (f:=N6) C (E:=some true) (λn k hk j=>by
  simp only[lP]
  rw[jF (bE hk),aK hk,aK j,qA,qA,bM wg]
  first|rw[iD];rfl|rw[yJ];rfl) (λn=>by
  simp only[lP]
  rw[jG wF]),bI,jM]
def Gi(x y:M.aV):Bool:=(x.aD.toList==y.aD.toList)&&(x.Field.toList==y.Field.toList)
theorem Ns{xs ys:List M.aV}(C:xs.length<=maxLen):pH xs ys=some (eqL Gi xs ys):=by
 have I:=aZ C
 unfold pH
 rw[HL (f:=Gi) C (E:=some true) (λn k hk j=>by
  simp only[gT]
  rw[jF (bE hk),aK hk,aK j,qA,qA,bM wg]
  first|rw[iD];rfl|rw[yJ];rfl) (λn=>by
  simp only[gT]
  rw[jG wF]),bI,jM]
def GG(x y:M.cH):Bool:=(x.aKk==y.aKk)&&((x.Seq==y.Seq)&&((x.Key.aKx==y.Key.aKx)&&((x.Key.N==y.Key.N)&&((x.Key.aK5.toList==y.Key.aK5.toList)&&((x.Field.toList==y.Field.toList)&&(x.N==y.N))))))
theorem K7{xs ys:List M.cH}(C:xs.length<=maxLen):pW xs ys=some (eqL GG xs ys):=by
 have I:=aZ C
 unfold pW
 rw[HL (f:=GG) C (E:=some true) (λn k hk j=>by
  simp only[lG]
  rw[jF (bE hk),aK hk,aK j,qA,qA,bM wg]
  first|rw[iD];rfl|rw[yJ];rfl) (λn=>by
  simp only[lG]
  rw[jG wF]),bI,jM]
def L9(x y:M.aY):Bool:=(x.aKx==y.aKx)&&((x.R==y.R)&&((x.N==y.N)&&(x.aK5.toList==y.aK5.toList)))
theorem R8{xs ys:List M.aY}(C:xs.length<=maxLen):vJ xs ys=some (eqL L9 xs ys):=by
 have I:=aZ C
 unfold vJ
 rw[HL (f:=L9) C (E:=some true) (λn k hk j=>by
  simp only[lK]
  rw[jF (bE hk),aK hk,aK j,qA,qA,bM wg]
  first|rw[iD];rfl|rw[yJ];rfl) (λn=>by
  simp only[lK]
  rw[jG wF]),bI,jM]
def IC(x y:M.aT):Bool:=(x.aLQ.toList==y.aLQ.toList)&&(x.aKb==y.aKb)
theorem PG{xs ys:List M.aT}(C:xs.length<=maxLen):tA xs ys=some (eqL IC xs ys):=by
 have I:=aZ C
 unfold tA
 rw[HL (f:=IC) C (E:=some true) (λn k hk j=>by
  simp only[kD]
  rw[jF (bE hk),aK hk,aK j,qA,qA,bM wg]
  first|rw[iD];rfl|rw[yJ];rfl) (λn=>by
  simp only[kD]
  rw[jG wF]),bI,jM]
def Pv(x y:M.vE):Bool:=(x.Name.toList==y.Name.toList)&&((x.bK==y.bK)&&((x.aLK==y.aLK)&&(x.aLb==y.aLb)))
theorem SM{xs ys:List M.vE}(C:xs.length<=maxLen):yD xs ys=some (eqL Pv xs ys):=by
 have I:=aZ C
 unfold yD
 rw[HL (f:=Pv) C (E:=some true) (λn k hk j=>by
  simp only[mF]
  rw[jF (bE hk),aK hk,aK j,qA,qA,bM wg]
  first|rw[iD];rfl|rw[yJ];rfl) (λn=>by
  simp only[mF]
  rw[jG wF]),bI,jM]
def OL(x y:M.Eb):Bool:=(x.To==y.To)&&((x.aLf==y.aLf)&&(x.N==y.N))
theorem SA{xs ys:List M.Eb}(C:xs.length<=maxLen):yG xs ys=some (eqL OL xs ys):=by
 have I:=aZ C
 unfold yG
 rw[HL (f:=OL) C (E:=some true) (λn k hk j=>by
  simp only[mE]
  rw[jF (bE hk),aK hk,aK j,qA,qA,bM wg]
  first|rw[iD];rfl|rw[yJ];rfl) (λn=>by
  simp only[mE]
  rw[jG wF]),bI,jM]
def Hi(x y:M.aQ):Bool:=(x.aKk==y.aKk)&&(x.Seq==y.Seq)
theorem OX{xs ys:List M.aQ}(C:xs.length<=maxLen):rM xs ys=some (eqL Hi xs ys):=by
 have I:=aZ C
 unfold rM
 rw[HL (f:=Hi) C (E:=some true) (λn k hk j=>by
  simp only[iF]
  rw[jF (bE hk),aK hk,aK j,qA,qA,bM wg]
  first|rw[iD];rfl|rw[yJ];rfl) (λn=>by
  simp only[iF]
  rw[jG wF]),bI,jM]
theorem Lf{p:M.aK2->M.aK2->Option Bool}{f:M.aK2->M.aK2->Bool}{xs ys:List M.aK2}(C:xs.length<=maxLen)(I:∀x∈xs,∀y∈ys,p x y=some (f x y)):mK xs ys p=some (eqL f xs ys):=by
 have J:=aZ C
 unfold mK
 rw[HL (f:=f) C (E:=some true) (λn k hk j=>by
  simp only[fI]
  rw[jF (bE hk),aK hk,aK j,qA,qA,bM wg]
  rw[I _ (qG hk) _ (qG j),qA,iD]) (λn=>by
  simp only[fI]
  rw[jG wF]),bI,jM]
theorem MG{p:M.aKv->M.aKv->Option Bool}{f:M.aKv->M.aKv->Bool}{xs ys:List M.aKv}(C:xs.length<=maxLen)(I:∀x∈xs,∀y∈ys,p x y=some (f x y)):nX xs ys p=some (eqL f xs ys):=by
 have J:=aZ C
 unfold nX
 rw[HL (f:=f) C (E:=some true) (λn k hk j=>by
  simp only[gI]
  rw[jF (bE hk),aK hk,aK j,qA,qA,bM wg]
  rw[I _ (qG hk) _ (qG j),qA,iD]) (λn=>by
  simp only[gI]
  rw[jG wF]),bI,jM]
theorem NF{p:M.aKy->M.aKy->Option Bool}{f:M.aKy->M.aKy->Bool}{xs ys:List M.aKy}(C:xs.length<=maxLen)(I:∀x∈xs,∀y∈ys,p x y=some (f x y)):oV xs ys p=some (eqL f xs ys):=by
 have J:=aZ C
 unfold oV
 rw[HL (f:=f) C (E:=some true) (λn k hk j=>by
  simp only[gU]
  rw[jF (bE hk),aK hk,aK j,qA,qA,bM wg]
  rw[I _ (qG hk) _ (qG j),qA,iD]) (λn=>by
  simp only[gU]
  rw[jG wF]),bI,jM]
theorem Mq{p:M.aD->M.aD->Option Bool}{f:M.aD->M.aD->Bool}{xs ys:List M.aD}(C:xs.length<=maxLen)(I:∀x∈xs,∀y∈ys,p x y=some (f x y)):oL xs ys p=some (eqL f xs ys):=by
 have J:=aZ C
 unfold oL
 rw[HL (f:=f) C (E:=some true) (λn k hk j=>by
  simp only[gG]
  rw[jF (bE hk),aK hk,aK j,qA,qA,bM wg]
  rw[I _ (qG hk) _ (qG j),qA,iD]) (λn=>by
  simp only[gG]
  rw[jG wF]),bI,jM]
theorem Lo{p:M.aKe->M.aKe->Option Bool}{f:M.aKe->M.aKe->Bool}{xs ys:List M.aKe}(C:xs.length<=maxLen)(I:∀x∈xs,∀y∈ys,p x y=some (f x y)):mM xs ys p=some (eqL f xs ys):=by
 have J:=aZ C
 unfold mM
 rw[HL (f:=f) C (E:=some true) (λn k hk j=>by
  simp only[fH]
  rw[jF (bE hk),aK hk,aK j,qA,qA,bM wg]
  rw[I _ (qG hk) _ (qG j),qA,iD]) (λn=>by
  simp only[fH]
  rw[jG wF]),bI,jM]
theorem NB{p:M.bK->M.bK->Option Bool}{f:M.bK->M.bK->Bool}{xs ys:List M.bK}(C:xs.length<=maxLen)(I:∀x∈xs,∀y∈ys,p x y=some (f x y)):oU xs ys p=some (eqL f xs ys):=by
 have J:=aZ C
 unfold oU
 rw[HL (f:=f) C (E:=some true) (λn k hk j=>by
  simp only[gW]
  rw[jF (bE hk),aK hk,aK j,qA,qA,bM wg]
  rw[I _ (qG hk) _ (qG j),qA,iD]) (λn=>by
  simp only[gW]
  rw[jG wF]),bI,jM]
theorem NJ{p:M.aKl->M.aKl->Option Bool}{f:M.aKl->M.aKl->Bool}{xs ys:List M.aKl}(C:xs.length<=maxLen)(I:∀x∈xs,∀y∈ys,p x y=some (f x y)):pG xs ys p=some (eqL f xs ys):=by
 have J:=aZ C
 unfold pG
 rw[HL (f:=f) C (E:=some true) (λn k hk j=>by
  simp only[gV]
  rw[jF (bE hk),aK hk,aK j,qA,qA,bM wg]
  rw[I _ (qG hk) _ (qG j),qA,iD]) (λn=>by
  simp only[gV]
  rw[jG wF]),bI,jM]
theorem Li{p:M.aKt->M.aKt->Option Bool}{f:M.aKt->M.aKt->Bool}{xs ys:List M.aKt}(C:xs.length<=maxLen)(I:∀x∈xs,∀y∈ys,p x y=some (f x y)):mN xs ys p=some (eqL f xs ys):=by
 have J:=aZ C
 unfold mN
 rw[HL (f:=f) C (E:=some true) (λn k hk j=>by
  simp only[fG]
  rw[jF (bE hk),aK hk,aK j,qA,qA,bM wg]
  rw[I _ (qG hk) _ (qG j),qA,iD]) (λn=>by
  simp only[fG]
  rw[jG wF]),bI,jM]
theorem Me{a b:List Int}(j:okB a)(hb:okB b):AV a b=some (eqL yK a b):=by unfold AV;rw[Dk j.2,Dk hb.2,qA,qA,TZ j.2 hb.2];rfl
theorem xE{a b:List Int}(j:okB a):iH a b=some (eqL yK a b):=by unfold iH;rw[Tn j.1,qA]
def Ji(x y:M.aKo):Bool:=(x.aLX==y.aLX)&&((x.aLV==y.aLV)&&((x.aKb==y.aKb)&&((x.aLc==y.aLc)&&eqL yK x.aLZ y.aLZ)))
theorem IM{a b:M.aKo}(j:a.ok):tL a b=some (Ji a b):=by simp only[tL,xE j.aLZ,qA,bI,Ei,B4,Ji];ac_rfl
def Mc(x y:M.aK2):Bool:=(x.aKl.toList==y.aKl.toList)&&((x.aLQ.toList==y.aLQ.toList)&&Ji x.aKo y.aKo)
def SS(x y:M.aKv):Bool:=(x.aKb==y.aKb)&&eqL Mc x.aKs y.aKs
def Lk(x y:M.aN):Bool:=eqL SS x.aKi y.aKi
theorem L7{a b:M.aK2}(j:a.ok):tW a b=some (Mc a b):=by simp only[tW,IM j.aKo,qA,bI,Ei,B4,Mc]
theorem Ll{a b:M.aKv}(j:a.ok):uK a b=some (SS a b):=by simp only[uK,Lf (f:=Mc) j.aKs.1 (λx C y I=>L7 (j.aKs.2 x C)),qA,bI,Ei,B4,SS]
theorem IK{a b:M.aN}(j:a.ok):sY a b=some (Lk a b):=by simp only[sY,MG (f:=SS) j.aKi.1 (λx C y I=>Ll (j.aKi.2 x C)),qA,bI,Ei,B4,Lk]
def QY(x y:M.aF):Bool:=eqL N6 x.aKj y.aKj
theorem KO{a b:M.aF}(j:a.ok):xX a b=some (QY a b):=by simp only[xX,RP j.aKj.1,qA,QY]
def aF3(x y:M.bD):Bool:=(x.aKx==y.aKx)&&((x.N==y.N)&&(x.aK5.toList==y.aK5.toList))
def Xc(x y:M.aKy):Bool:=aF3 x.Key y.Key&&QY x.aF y.aF
def Lh(x y:M.aD):Bool:=(x.Name.toList==y.Name.toList)&&((x.aK7==y.aK7)&&eqL Xc x.aKg y.aKg)
theorem MM{a b:M.aKy}(j:a.ok):xJ a b=some (Xc a b):=by simp only[xJ,KO j.aF,qA,bI,Ei,B4,Xc,aF3]
theorem DV{a b:M.aD}(j:a.ok):iY a b=some (Lh a b):=by simp only[iY,NF (f:=Xc) j.aKg.1 (λx C y I=>MM (j.aKg.2 x C)),qA,bI,Ei,B4,Lh]
def IW(x y:M.aKc):Bool:=(x.Name.toList==y.Name.toList)&&((x.aKb==y.aKb)&&(eqL Lh x.aKm y.aKm&&eqL Gi x.aKz y.aKz))
theorem Jw{a b:M.aKc}(j:a.ok):tH a b=some (IW a b):=by simp only[tH,Mq (f:=Lh) j.aKm.1 (λx C y I=>DV (j.aKm.2 x C)),Ns j.aKz.1,qA,bI,Ei,B4,IW]
def YE(x y:M.bJ):Bool:=IW x.aK1 y.aK1&&(eqL yK x.Log y.Log&&(x.aLF==y.aLF))
theorem MA{a b:M.bJ}(j:a.ok):AO a b=some (YE a b):=by simp only[AO,Jw j.aK1,xE j.Log,qA,bI,Ei,B4,YE]
def O0(x y:M.aO):Bool:=(x.aKk==y.aKk)&&((x.aLE==y.aLE)&&eqL GG x.aKw y.aKw)
theorem JV{a b:M.aO}(j:a.ok):vQ a b=some (O0 a b):=by simp only[vQ,K7 j.aKw.1,qA,bI,Ei,B4,O0]
def aAs(x y:M.aK3):Bool:=O0 x.aO y.aO&&((x.aLI==y.aLI)&&(x.aK8==y.aK8))
theorem Mx{a b:M.aK3}(j:a.ok):A8 a b=some (aAs a b):=by simp only[A8,JV j.aO,qA,bI,Ei,B4,aAs]
def LQ(x y:M.aH):Bool:=Lh x.aK1 y.aK1&&((x.aLT==y.aLT)&&aAs x.aK3 y.aK3)
theorem JW{a b:M.aH}(j:a.ok):vG a b=some (LQ a b):=by simp only[vG,DV j.aK1,Mx j.aK3,qA,bI,Ei,B4,LQ]
def aFy(x y:M.aKd):Bool:=(x.aKl.toList==y.aKl.toList)&&((x.aLB==y.aLB)&&((x.aLH==y.aLH)&&(x.aLL==y.aLL)))
def MP(x y:M.aKe):Bool:=(x.aKl.toList==y.aKl.toList)&&((x.Top.toList==y.Top.toList)&&(aFy x.aKd y.aKd&&(Lk x.aKi y.aKi&&(YE x.bJ y.bJ&&(LQ x.aH y.aH&&((x.aLC==y.aLC)&&(x.aK9==y.aK9)))))))
theorem KB{a b:M.aKe}(j:a.ok):sE a b=some (MP a b):=by simp only[sE,IK j.aKi,MA j.bJ,JW j.aH,qA,bI,Ei,B4,MP,aFy]
def N2(x y:M.aC):Bool:=eqL MP x.aKf y.aKf
theorem J1{a b:M.aC}(j:a.ok):vM a b=some (N2 a b):=by simp only[vM,Lo (f:=MP) j.aKf.1 (λx C y I=>KB (j.aKf.2 x C)),qA,bI,Ei,B4,N2]
def NY(x y:M.aKh):Bool:=eqL L9 x.aLA y.aLA&&((x.Pc==y.Pc)&&(eqL Sf x.aLN y.aLN&&((x.aLM==y.aLM)&&((x.aLU==y.aLU)&&(x.aLR==y.aLR)))))
theorem JU{a b:M.aKh}(j:a.ok):vF a b=some (NY a b):=by simp only[vF,R8 j.aLA.1,Ud j.aLN.1,qA,bI,Ei,B4,NY]
def T0(x y:M.bK):Bool:=(x.Id==y.Id)&&((x.aKl.toList==y.aKl.toList)&&((x.Top.toList==y.Top.toList)&&((x.aKb==y.aKb)&&(eqL IC x.aT y.aT&&NY x.aKh y.aKh))))
theorem Nu{a b:M.bK}(j:a.ok):iB a b=some (T0 a b):=by simp only[iB,PG j.aT.1,JU j.aKh,qA,bI,Ei,B4,T0]
def KM(x y:M.aKt):Bool:=Lh x.aD y.aD&&(eqL Hi x.aQ y.aQ&&eqL GG x.aK6 y.aK6)
theorem Kv{a b:M.aKt}(j:a.ok):sO a b=some (KM a b):=by simp only[sO,DV j.aD,OX j.aQ.1,K7 j.aK6.1,qA,bI,Ei,B4,KM]
def UN(x y:M.aKl):Bool:=(x.Name.toList==y.Name.toList)&&((x.aKb==y.aKb)&&(eqL Jq x.aLG y.aLG&&(x.aLK==y.aLK)))
theorem MR{a b:M.aKl}(j:a.ok):rX a b=some (UN a b):=by simp only[rX,PY j.aLG.1,qA,bI,Ei,B4,UN]
def Wc(x y:M.aE):Bool:=(x.Now==y.Now)&&((x.aK4==y.aK4)&&((x.aKk==y.aKk)&&(N2 x.aC y.aC&&(eqL T0 x.aKq y.aKq&&((x.aKn==y.aKn)&&(eqL Pv x.aKu.aKu y.aKu.aKu&&(eqL OL x.aKp.aLJ y.aKp.aLJ&&(eqL UN x.aK0 y.aK0&&eqL KM x.aKr y.aKr))))))))
theorem GM{a b:M.aE}(j:a.ok):uD a b=some (Wc a b):=by simp only[uD,J1 j.aC,NB (f:=T0) j.aKq.1 (λx C y I=>Nu (j.aKq.2 x C)),SM j.aKu.aKu.1,SA j.aKp.aLJ.1,NJ (f:=UN) j.aK0.1 (λx C y I=>MR (j.aK0.2 x C)),Li (f:=KM) j.aKr.1 (λx C y I=>Kv (j.aKr.2 x C)),qA,bI,Ei,B4,Wc]
theorem Gy{l:List Int}(j:l.length<=1500000):uL l=some ([(l.length:Int)]++l.map i64.wrap):=by unfold uL;have:=UB (b:=8) (xs:=l) (f:=i64.wrap) (L:=kF l) (λn k hk r=> ?_) (λn r=> ?_) aJ 0 ([l.length]) wG wg wV;(simpa using this);(simp only[kF];rw[jF (bE hk),aK hk,qA,bM wg]);·simp only[kF];rw[jG wF]
theorem GD{l:List Int}(j:l.length<=1500000):uG l=some ([(l.length:Int)]++l.map i64.wrap):=by unfold uG;have:=UB (b:=8) (xs:=l) (f:=i64.wrap) (L:=kP l) (λn k hk r=> ?_) (λn r=> ?_) aJ 0 ([l.length]) wG wg wV;(simpa using this);(simp only[kP];rw[jF (bE hk),aK hk,qA,bM wg]);·simp only[kP];rw[jG wF]
theorem Ws(x:Int):G7 x 2147483647=some (TR x):=by
 have e:bG 2147483647 1 1000000000000=some true:=by decide
 unfold G7
 rw[e,qA,jG wb,jG wb,Z4]
theorem WU(x:Int):Hz x 2147483647=some (TR x):=by
 have e:bA 2147483647 1 1000000000000=some true:=by decide
 unfold Hz
 rw[e,qA,jG wb,jG wb,aBK]
theorem OQ{l:List Int}(j:l.length<=maxLen):Eu l=some (J0 l):=by have C:=aZ j;unfold Eu J0;refine Ki (L:=Ar l) (E:=some) j (λn v k hk=> ?_) (λn v=> ?_) 11;(simp only[Ar];rw[jF (bE hk),aK hk,qA,Ws,qA,bM wg];rfl);·simp only[Ar];rw[jG wF]
theorem H7{k:Int}{l:List Int}(j:l.length<=2000000):zF k l=some (J0 (([k]++l)++[k])):=by unfold zF;rw[dK wV,qA,dK wV,qA,OQ wE,qA]
theorem Oz{l:List Int}(j:l.length<=maxLen):EB l=some (J0 l):=by have C:=aZ j;unfold EB J0;refine Ki (L:=Av l) (E:=some) j (λn v k hk=> ?_) (λn v=> ?_) 11;(simp only[Av];rw[jF (bE hk),aK hk,qA,WU,qA,bM wg];rfl);·simp only[Av];rw[jG wF]
theorem Io{k:Int}{l:List Int}(j:l.length<=2000000):Di k l=some (J0 (([k]++l)++[k])):=by unfold Di;rw[dK wV,qA,dK wV,qA,Oz wE,qA]
def IY(k:Int)(s:ByteArray):Int:=if J0 (([k]++([(List.length (bF s):Int)]++(bF s).map i64.wrap))++[k])=0 then 1 else J0 (([k]++([(List.length (bF s):Int)]++(bF s).map i64.wrap))++[k])
theorem K1{k:Int}{s:ByteArray}(C:s.size<=1500000):lH k s=some (IY k s):=by have j:=aP s;unfold lH zO IY;rw[Gy wg,qA,H7 wV,qA];have:=Um (([k]++([(List.length (bF s):Int)]++(bF s).map i64.wrap))++[k]);generalize J0 (([k]++([(List.length (bF s):Int)]++(bF s).map i64.wrap))++[k])=h at*;by_cases h0:h=0;(rw[jG wV,jF h0];rfl);·rw[jG h0];by_cases h1:h=1;(rw[jG wV,h1];rfl);·rw[jF wV];rfl
theorem LJ{k:Int}{s:ByteArray}(C:s.size<=1500000):vV k s=some (IY k s):=by have j:=aP s;unfold vV IY;rw[GD wg,qA,Io wV,qA];generalize J0 (([k]++([(List.length (bF s):Int)]++(bF s).map i64.wrap))++[k])=h;by_cases h0:h=0;(rw[jF (by simp[h0]),jF h0]);·rw[jG (by simp[h0]),jG h0]
theorem S3{x:Int}(j:0<=x)(h1:x<2147483647):∀(n:Nat) (v:Int) (r:List Int),zA x n v r=lC x n v r
 |0,_,_=>rfl
 |n+1,v,r=>by simp only[zA,lC,aCq j h1,S3 j h1 n]
theorem aDQ(x:Int):∃l,lC x aJ 5 []=some l/\okB l:=by
 have st:∀n (v:Nat) r,r.length<=7->(∀y∈r,0<=y/\y<=255)->v<=5->∃y:Int,(0<=y/\y<=255)/\lC x (n+1) v r=lC x n (v-1) (r++[y]):=by intro n v r hr hy hv;refine⟨IntKind.u8.wrap (Int.fdiv x (2^(min (i64.wrap (8*v)).toNat i64.bits))),by rw[wrap_u8];omega,?_⟩;simp only[lC];rw[jF wb,jF jo,dK wV,qA,bO (n:=v-1) wg wg]
 have e7:∀n r,lC x (n+1) (-1) r=some r:=by intro n r;simp only[lC];rw[jG we]
 rw[YC]
 obtain⟨x1,j,e1⟩:=st (18446744073709551609+6) 5 [] wb wb wb
 obtain⟨x2,C,e2⟩:=st (18446744073709551609+5) 4 ([]++[x1]) wb (by simpa using j) wb
 obtain⟨x3,I,e3⟩:=st (18446744073709551609+4) 3 ([]++[x1]++[x2]) wb (by simpa using⟨j,C⟩) wb
 obtain⟨x4,J,e4⟩:=st (18446744073709551609+3) 2 ([]++[x1]++[x2]++[x3]) wb (by simpa using⟨j,C,I⟩) wb
 obtain⟨x5,U,e5⟩:=st (18446744073709551609+2) 1 ([]++[x1]++[x2]++[x3]++[x4]) wb (by simpa using⟨j,C,I,J⟩) wb
 obtain⟨x6,b6,e6⟩:=st (18446744073709551609+1) 0 ([]++[x1]++[x2]++[x3]++[x4]++[x5]) wb (by simpa using⟨j,C,I,J,U⟩) wb
 exact⟨_,e1.trans (e2.trans (e3.trans (e4.trans (e5.trans (e6.trans (e7 _ _)))))),by simp[maxLen],by simpa using⟨j,C,I,J,U,b6⟩⟩
theorem aAQ{t:M.aKl}{f:ByteArray}{v:Int}(h1:t.Name.size<=1500000)(h2:f.size<=1500000):∃l,DS t f v=some l/\HW t f v=some l/\okB l:=by unfold DS HW;rw[K1 h1,LJ h1,qA,qA,K1 h2,LJ h2,qA,qA,H7 wb,Io wb,qA,qA];have hb:=Um (([i64.wrap (1+v)]++[103,IY 107 t.Name,IY 109 f])++[i64.wrap (1+v)]);rw[S3 hb.1 hb.2];obtain⟨l,e,j⟩:=aDQ (J0 (([i64.wrap (1+v)]++[103,IY 107 t.Name,IY 109 f])++[i64.wrap (1+v)]));exact⟨l,e,e,j⟩
theorem KI{α R:Type}{l:List α}{f:α->Bool}{L:Nat->Int->Option R}{S:Nat->Option R}(j:l.length<=maxLen)
  (h1:∀n (k:Nat) (hk:k<l.length),L (n+1) k=if f l[k]=true then L n ((k+1:Nat))else S k)(h2:∀n,L (n+1) l.length=S l.length):L aJ 0=S (l.takeWhile f).length:=by
 have I:=aZ j
 have key:∀(n k:Nat),l.length-k<n->k<=l.length->L n k=S (k+((l.drop k).takeWhile f).length):=by
  intro n
  induction n with
  |zero=>intro k h _;omega
  |succ n C=>
   intro k J hk
   rcases jS k l.length with h|h
   ·rw[h1 n k h,qX h,List.takeWhile_cons];by_cases hf:f l[k]=true;(rw[jF hf,jF hf,C (k+1) wg h,qJ];congr 1;omega);·rw[jG hf,jG hf];simp
   ·have:k=l.length:=by omega
    subst this
    rw[h2 n]
    simp
 have:=key aJ 0 wG wg
 simpa using this
def Xn(s:M.aC)(b:M.aKe):Nat:=(s.aKf.takeWhile (λx=>GQ x b)).length
theorem RN(s:M.aC)(b:M.aKe):Xn s b<=s.aKf.length:=(List.takeWhile_prefix _).length_le
def Ef(s:M.aC)(b:M.aKe):List M.aKe:=if gJ (nAt b.aKl b.Top) s.aKf>=0 then s.aKf.set (gJ (nAt b.aKl b.Top) s.aKf).toNat b else s.aKf.take (Xn s b)++([b]++s.aKf.drop (Xn s b))
def Kr(s:M.aC)(l:List M.aKe):M.aC×Bool:=if uA s=true then if uA ⟨l⟩=true then(⟨l⟩,true)else(s,false)else(s,false)
def Ij(s:M.aC)(b:M.aKe):M.aC×Bool:=Kr s (Ef s b)
theorem L4{s:M.aC}{b x:M.aKe}(h:x∈Ef s b):x=b\/x∈s.aKf:=by unfold Ef at h;split at h;(rcases jE h with h|h;(exact .inr h);·exact .inl h);·simp only[qP,qq,qO,or_false]at h;rcases h with h|h|h;(exact .inr (qk h));(exact .inl h);·exact .inr (qv h)
theorem Of(s:M.aC)(b:M.aKe):(Ef s b).length<=s.aKf.length+1:=by have:=RN s b;unfold Ef;split;(simp);·simp only[qE,qV,qJ,qK,qW];omega
theorem Jz{α:Type}{f:α->Nat}{x:α}:∀{l:List α} {i:Nat},dO f (l.set i x)<=dO f l+f x
 |[],_=>by simp[dO]
 |y::l,0=>by simp only[List.set_cons_zero,dO];omega
 |y::l,i+1=>by have:=Jz (f:=f) (x:=x) (l:=l) (i:=i);simp only[List.set_cons_succ,dO];omega
theorem xT{α:Type}{f:α->Nat}:∀(l r:List α),dO f (l++r)=dO f l+dO f r
 |[],r=>by simp[dO]
 |y::l,r=>by simp only[jQ,dO,xT l r];omega
theorem aBX(s:M.aC)(b:M.aKe):dO M.aKe.sz (Ef s b)<=dO M.aKe.sz s.aKf+M.aKe.sz b:=by unfold Ef;split;(exact Jz);·rw[xT,xT];have:=xT (f:=M.aKe.sz) (s.aKf.take (Xn s b)) (s.aKf.drop (Xn s b));rw[qo]at this;simp only[dO];omega
theorem XW{s:M.aC}(C:M.aC.sz s<=1500000):∀x∈s.aKf,M.aKe.sz x<=1500000:=λx j=>by have:=dW (f:=M.aKe.sz) j;simp only[M.aC.sz]at C;omega
theorem Q1{s:M.aC}{b:M.aKe}(j:s.ok)(hb:b.ok)(I:M.aC.sz s<=1500000):M.aC.ok ⟨Ef s b⟩:=
 ⟨⟨by show(Ef s b).length<=maxLen;have:=Of s b;simp only[M.aC.sz]at I;unfold maxLen;omega,λx C=>by rcases L4 C with rfl|h;(exact hb);·exact j.aKf.2 x h⟩⟩
theorem Pr{s:M.aC}{b:M.aKe}(C:M.aC.sz s<=1500000)(I:M.aKc.sz b.bJ.aK1<=1500000):∀x∈Ef s b,M.aKc.sz x.bJ.aK1<=1500000:=λx j=>by rcases L4 j with rfl|h;(exact I);·exact AW (XW C x h)
theorem TY{s:M.aC}{b:M.aKe}(j:s.ok)(hb:b.ok)(C:M.aC.sz s<=1500000):M.aC.ok (Ij s b).1:=by unfold Ij Kr;split;(split;(exact Q1 j hb C);·exact j);·exact j
theorem U8{s:M.aC}{l:List M.aKe}(hs:s.ok)(hz:M.aC.sz s<=1500000)(U:M.aC.ok ⟨l⟩)(zl:∀x∈l,M.aKc.sz x.bJ.aK1<=1500000):
  ((dE s).bind λC=>if(!C)=true then(some s).bind λI=>some (I,false)else(dE ⟨l⟩).bind λJ=>if(!J)=true then(some s).bind λj=>some (j,false)else some (⟨l⟩,true))=some (Kr s l):=by
 rw[NR hs hz,qA,El U zl]
 unfold Kr
 cases uA s
 ·simp
 ·cases uA ⟨l⟩<;>simp
theorem VZ{s:M.aC}{l:List M.aKe}(hs:s.ok)(hz:M.aC.sz s<=1500000)(U:M.aC.ok ⟨l⟩)(zl:∀x∈l,M.aKc.sz x.bJ.aK1<=1500000):
  ((dF s).bind λC=>if(!C)=true then(some s).bind λI=>some (I,false)else(dF ⟨l⟩).bind λJ=>if(!J)=true then(some s).bind λj=>some (j,false)else some (⟨l⟩,true))=some (Kr s l):=by
 rw[Ny hs hz,qA,Ez U zl]
 unfold Kr
 cases uA s
 ·simp
 ·cases uA ⟨l⟩<;>simp
def tS(s:M.aC)(b:M.aKe)(k:Nat):Option (M.aC×Bool):=(B6 s.aKf k).bind λ_=>(app 328 [] (s.aKf.take (k:Int).toNat)).bind λ_=>(gL b).bind λj=>(app 328 (s.aKf.take (k:Int).toNat) ([j])).bind λ_=>(app 328 ((s.aKf.take (k:Int).toNat)++[j]) (s.aKf.drop (k:Int).toNat)).bind λ_=>(dE s).bind λI=>if(!I)=true then(gM s).bind λJ=>some (J,false)else(dE ⟨((s.aKf.take (k:Int).toNat)++[j])++(s.aKf.drop (k:Int).toNat)⟩).bind λU=>if(!U)=true then(gM s).bind λC=>some (C,false)else some (⟨((s.aKf.take (k:Int).toNat)++[j])++(s.aKf.drop (k:Int).toNat)⟩,true)
def tI(s:M.aC)(b:M.aKe)(k:Nat):Option (M.aC×Bool):=(eR b).bind λj=>(LW 328 s.aKf k ([j])).bind λaj=>(dF s).bind λC=>if(!C)=true then(dB s).bind λI=>some (I,false)else(dF ⟨s.aKf.take (k:Int).toNat++([j]++s.aKf.drop (k:Int).toNat)⟩).bind λJ=>if(!J)=true then(dB s).bind λU=>some (U,false)else some (⟨s.aKf.take (k:Int).toNat++([j]++s.aKf.drop (k:Int).toNat)⟩,true)
theorem Et{s:M.aC}{b:M.aKe}(C:s.ok)(hb:b.ok)(I:M.aC.sz s<=1500000)(zc:M.aKe.sz b<=1073741824)(zb:M.aKc.sz b.bJ.aK1<=1500000):hU s b=some (Ij s b):=by
 have hm:=aZ C.aKf.1
 have hlen:s.aKf.length<=1500000:=by simp only[M.aC.sz]at I;omega
 have ok:=Q1 C hb I
 have all:=Pr (s:=s) I zb
 have hle:=RN s b
 unfold hU Ij
 rw[GY s wg,qA,lF C,qA]
 by_cases h:gJ (nAt b.aKl b.Top) s.aKf>=0
 ·obtain⟨j,U,J⟩:=cT (show ¬gJ (nAt b.aKl b.Top) s.aKf<0 by omega)
  have e:Ef s b=s.aKf.set (gJ (nAt b.aKl b.Top) s.aKf).toNat b:=by unfold Ef;rw[jF h]
  rw[jF wM,Aw b wg,qA]
  rw[e]at ok all⊢
  rw[U]at ok all⊢
  rw[aK J,qA]
  exact U8 C I ok all
 ·have e:Ef s b=s.aKf.take (Xn s b)++([b]++s.aKf.drop (Xn s b)):=by unfold Ef;rw[jG h]
  rw[jG wM,KI (l:=s.aKf) (f:=λx=>GQ x b) (L:=nL s b s) (S:=tS s b) C.aKf.1 (λn k hk=> ?_) (λn=> ?_)]
  ·show tS s b (Xn s b)=_;unfold tS;rw[Ew hle,qA,qH,Ip wV wg,qA,Aw b wg,qA,dK jv,qA,dK jr,qA,qT,<-e];rw[GY s wg];exact U8 C I ok all
  ·simp only[nL];rw[jF (bE hk),aK hk,qA,Kg,qA,bM wg];rfl
  ·simp only[nL];rw[jG wF];rfl
theorem NH{s:M.aC}{b:M.aKe}(j:s.ok)(hb:b.ok)(C:M.aC.sz s<=1500000)(I:M.aKe.sz b<=1500000):hU s b=some (Ij s b):=Et j hb C wg (AW I)
