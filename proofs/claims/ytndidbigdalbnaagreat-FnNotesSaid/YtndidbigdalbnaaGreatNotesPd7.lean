/-
  Helper text. No conditions.
-/
import Derived.Test.YtndidbigdalbnaaGreatNotesPd6
set_option linter.all false
namespace Go.Proofs.YtndidbigdalbnaaGreat.gen
open Go Go.Sh
open Go.IntKind (i64)
theorem Ko{o:M.aO}{k:M.bD}{f:ByteArray}{n:Int}(j:o.ok)(J:M.aO.sz o<=536870912)(hk:k.ok)(C:f.size<=maxLen)(I:inI n):Dt o k f n=some (Pk o k f n):=by
 have U:o.aKw.length<=536870912:=by simp only[M.aO.sz]at J;omega
 have e:=Gc (RB (k:=k) (f:=f) (n:=n) j wg hk C I)
 unfold Iv at e
 unfold Dt Pk
 rw[Hm o wg,qA,dK jz,qA,Gc j,qA,e,qA]
 unfold Iv
 cases uO o
 ·simp
 ·cases uO ⟨o.aKk,i64.wrap (o.aLE+1),o.aKw++[⟨o.aKk,o.aLE,k,f,n⟩]⟩<;>simp
def aB9(r:M.aH)(k:M.bD)(f:ByteArray)(n:Int):Bool:=DU r&&((Pk r.aK3.aO k f n).2&&(Mz (Bs r.aK1 r.aK3.aO.aKw) ⟨0,0,k,f,n⟩).2)
def aEn(r:M.aH)(k:M.bD)(f:ByteArray)(n:Int):M.aH:=⟨r.aK1,r.aLT,⟨(Pk r.aK3.aO k f n).1,r.aK3.aLI,r.aK3.aK8⟩⟩
def nWL(r:M.aH)(k:M.bD)(f:ByteArray)(n:Int):M.aH×Bool:=if aB9 r k f n=true then(aEn r k f n,true)else(r,false)
theorem aDs{r:M.aH}{k:M.bD}{f:ByteArray}{n:Int}(j:r.ok)(I:r.aK3.aO.aKw.length<=1073741824)(hk:k.ok)(C:f.size<=maxLen)(J:inI n):(nWL r k f n).1.ok:=by unfold nWL;split;(exact⟨j.aK1,j.aLT,⟨aDU j.aK3.aO I hk C J,j.aK3.aLI,j.aK3.aK8⟩⟩);·exact j
theorem aEE(r:M.aH)(k:M.bD)(f:ByteArray)(n:Int):M.aH.sz (nWL r k f n).1<=M.aH.sz r+k.aK5.size+f.size+1:=by have h:=aCB r.aK3.aO k f n;unfold nWL;split;(simp only[aEn,M.aH.sz,M.aK3.sz];omega);·show M.aH.sz r<=_;omega
theorem aEB{α:Type}(a b c:Bool)(x y:α):(if(!a)=true then y else if(!b)=true then y else if(!c)=true then y else x)=if(a&&(b&&c))=true then x else y:=by cases a<;>cases b<;>cases c<;>rfl
theorem Hw{r:M.aH}{k:M.bD}{f:ByteArray}{n:Int}(j:r.ok)(U:M.aH.sz r<=536870912)(hk:k.ok)(I:f.size<=maxLen)(J:inI n):lJ r k f n=some (nWL r k f n):=by have C:=U;simp only[M.aH.sz,M.aK3.sz]at C;obtain⟨q2,q3⟩:=UQ j.aK1 j.aK3.aO.aKw.1 j.aK3.aO.aKw.2 wg;have q1:=IU j.aK1 j.aK3.aO.aKw.1 j.aK3.aO.aKw.2 wg;unfold lJ CH;rw[EP r wg,F6 j.aK3.aO wg hk I J,q1,Dg j];simp only[qA];rw[Dq (w:=⟨0,0,k,f,n⟩) q2 ⟨wJ,wJ,hk,I,J⟩ wg];simp only[qA,aEB];unfold nWL aB9 aEn;cases (DU r&&((Pk r.aK3.aO k f n).2&&(Mz (Bs r.aK1 r.aK3.aO.aKw) ⟨0,0,k,f,n⟩).2))<;>simp
theorem Mj{r:M.aH}{k:M.bD}{f:ByteArray}{n:Int}(j:r.ok)(U:M.aH.sz r<=536870912)(hk:k.ok)(I:f.size<=maxLen)(J:inI n):En r k f n=some (nWL r k f n):=by have C:=U;simp only[M.aH.sz,M.aK3.sz]at C;obtain⟨q1,q2,q3⟩:=PQ j.aK1 j.aK3.aO.aKw.1 j.aK3.aO.aKw.2 wg;unfold En Hn;rw[Gu r wg,Ko j.aK3.aO wg hk I J,q1,H9 j];simp only[qA];rw[F4 (w:=⟨r.aK3.aO.aKk,r.aK3.aO.aLE,k,f,n⟩) q2 ⟨j.aK3.aO.aKk,j.aK3.aO.aLE,hk,I,J⟩ wg,show Mz (Bs r.aK1 r.aK3.aO.aKw) ⟨r.aK3.aO.aKk,r.aK3.aO.aLE,k,f,n⟩=Mz (Bs r.aK1 r.aK3.aO.aKw) ⟨0,0,k,f,n⟩from rfl];simp only[qA,aEB];unfold nWL aB9 aEn;cases (DU r&&((Pk r.aK3.aO k f n).2&&(Mz (Bs r.aK1 r.aK3.aO.aKw) ⟨0,0,k,f,n⟩).2))<;>simp
def tV:List ByteArray:=[⟨#[98,97,110,107]⟩,⟨#[110,101,119,115]⟩,⟨#[115,104,111,112]⟩]
def F8(a:ByteArray):Int:=gJ (λx:ByteArray=>x.toList==a.toList) tV
theorem Qg:tV.length<=maxLen:=by unfold tV maxLen;simp
theorem Hb{a:ByteArray}:AN a=some (F8 a):=by unfold AN Ae;rw[<-tV.eq_1];rw[oQ (L:=eF tV a) (f:=λx:ByteArray=>x.toList==a.toList) (A:=λi=>some (i:Int)) (E:=some (-1)) Qg (λm k hk=> ?_) (λm=> ?_),tK];(rfl);(have j:k<3:=hk;simp only[eF];rw[jF (bE hk),aK hk,qA,bM wg,Bool.beq_comm]);·simp only[eF];rw[jG wF]
def Ph(l:List ByteArray)(k:Nat):Bool:=(l[k]?).any oO&&(decide (k=0)||(l[k-1]?).any λy=>(l[k]?).any λx=>Op.bytesLess y.toList x.toList)
def OJ(s:M.aKl):Bool:=(List.range s.aLG.length).all (Ph s.aLG)&&(oO s.Name&&(inR s.aKb 1 1000000000000&&inR s.aLG.length 1 6))
theorem HN{s:M.aKl}(C:s.ok):Bp s=some (OJ s):=by
 have J:=aZ C.aLG.1
 unfold Bp OJ
 rw[rO (L:=mX s) (g:=Ph s.aLG) (F:=some false) (E:=some (oO s.Name&&(inR s.aKb 1 1000000000000&&inR s.aLG.length 1 6))) C.aLG.1 (λn k hk=> ?_) (λn=> ?_),bI]
 ·have I:=C.aLG.2 _ (qG hk)
  simp only[mX]
  rw[jF (bE hk),aK hk,qA,bM wg,dX I,qA]
  unfold Ph
  rw[qF hk]
  generalize mX s n (k+1)=Z
  by_cases h0:k=0
  ·subst h0;simp only[qf];cases oO s.aLG[0]<;>simp
  ·have e:i64.wrap (k-1)=((k-1:Nat)):=by rw[bO wg wg];omega
   have j:k-1<s.aLG.length:=by omega
   rw[jF (c:=(decide ((k:Int)>0))=true) wV,e,aK j,qA,qF j]
   simp only[qf,h0,jd,ja]
   cases oO s.aLG[k]<;>cases Op.bytesLess s.aLG[k-1].toList s.aLG[k].toList<;>simp
 ·simp only[mX];rw[jG wF,dX C.Name,qA,cO,qA,cO,qA,bI,bI]
theorem HE{s:M.aKl}(C:s.ok):DR s=some (OJ s):=by
 have J:=aZ C.aLG.1
 unfold DR OJ
 rw[rO (L:=uT s) (g:=Ph s.aLG) (F:=some false) (E:=some (oO s.Name&&(inR s.aKb 1 1000000000000&&inR s.aLG.length 1 6))) C.aLG.1 (λn k hk=> ?_) (λn=> ?_),bI]
 ·have I:=C.aLG.2 _ (qG hk)
  simp only[uT]
  rw[jF (bE hk),aK hk,qA,bM wg,dG I,qA]
  unfold Ph
  rw[qF hk]
  generalize uT s n (k+1)=Z
  by_cases h0:k=0
  ·subst h0;simp only[qf];cases oO s.aLG[0]<;>simp
  ·have e:i64.wrap (k-1)=((k-1:Nat)):=by rw[bO wg wg];omega
   have j:k-1<s.aLG.length:=by omega
   rw[jF (c:=(decide ((k:Int)>0))=true) wV,e,aK j,qA,qF j,VJ]
   simp only[qf,h0,jd,ja]
   cases oO s.aLG[k]<;>cases Op.bytesLess s.aLG[k-1].toList s.aLG[k].toList<;>simp
 ·simp only[uT];rw[jG wF,dG C.Name,qA,bX,qA,bX,qA,bI,bI]
def Hh(l:List M.aQ)(k:Nat):Bool:=(l[k]?).any (λx=>inR x.aKk 1 1000000&&inR x.Seq 0 1000000)&&(decide (k=0)||(l[k-1]?).any λy=>(l[k]?).any λx=>decide (y.aKk<x.aKk))
def Iz(l:List M.cH)(k:Nat):Bool:=(l[k]?).any GS
def I7(s:M.aKt):Bool:=(List.range s.aQ.length).all (Hh s.aQ)&&((List.range s.aK6.length).all (Iz s.aK6)&&(iM s.aD&&((s.aD.Name.toList==(⟨#[110,111,116,101,115]⟩:ByteArray).toList)&&decide ((s.aQ.length:Int)<=60))))
theorem DM{s:M.aKt}(j:s.ok):tM s=some (I7 s):=by
 have U:=aZ j.aQ.1
 have J:=aZ j.aK6.1
 unfold tM I7
 rw[rO (L:=iZ s) (g:=Hh s.aQ) (F:=some false) (E:=lX s aJ 0) j.aQ.1 (λn k hk=> ?_) (λn=> ?_),
  rO (L:=lX s) (g:=Iz s.aK6) (F:=some false) (E:=some (iM s.aD&&((s.aD.Name.toList==(⟨#[110,111,116,101,115]⟩:ByteArray).toList)&&decide ((s.aQ.length:Int)<=60)))) j.aK6.1 (λn k hk=> ?_) (λn=> ?_),bI,bI]
 ·have I:=j.aK6.2 _ (qG hk);simp only[lX];rw[jF (bE hk),aK hk,qA,bM wg,CT I,qA,iD];unfold Iz;rw[qF hk,qf]
 ·simp only[lX];rw[jG wF,B2 j.aD,qA,bI,bI]
 ·simp only[iZ]
  rw[jF (bE hk),aK hk,qA,bM wg,cO,qA,cO,qA]
  unfold Hh
  rw[qF hk]
  generalize iZ s n (k+1)=Z
  by_cases h0:k=0
  ·subst h0;simp only[qf];cases inR s.aQ[0].aKk 1 1000000<;>cases inR s.aQ[0].Seq 0 1000000<;>simp
  ·have e:i64.wrap (k-1)=((k-1:Nat)):=by rw[bO wg wg];omega
   have C:k-1<s.aQ.length:=by omega
   have ed:decide (s.aQ[k-1].aKk>=s.aQ[k].aKk)= !decide (s.aQ[k-1].aKk<s.aQ[k].aKk):=by rw[jR];simp
   rw[jF (c:=(decide ((k:Int)>0))=true) wV,e,aK C,qA,qF C,ed]
   simp only[qf,h0,jd,ja]
   cases inR s.aQ[k].aKk 1 1000000<;>cases inR s.aQ[k].Seq 0 1000000<;>cases decide (s.aQ[k-1].aKk<s.aQ[k].aKk)<;>simp
 ·simp only[iZ];rw[jG wF]
theorem Om{s:M.aKt}(j:s.ok):F9 s=some (I7 s):=by
 have U:=aZ j.aQ.1
 have J:=aZ j.aK6.1
 unfold F9 I7
 rw[rO (L:=pN s) (g:=Hh s.aQ) (F:=some false) (E:=uC s aJ 0) j.aQ.1 (λn k hk=> ?_) (λn=> ?_),
  rO (L:=uC s) (g:=Iz s.aK6) (F:=some false) (E:=some (iM s.aD&&((s.aD.Name.toList==(⟨#[110,111,116,101,115]⟩:ByteArray).toList)&&decide ((s.aQ.length:Int)<=60)))) j.aK6.1 (λn k hk=> ?_) (λn=> ?_),bI,bI]
 ·have I:=j.aK6.2 _ (qG hk);simp only[uC];rw[jF (bE hk),aK hk,qA,bM wg,Fo I,qA,iD];unfold Iz;rw[qF hk,qf]
 ·simp only[uC];rw[jG wF,BR j.aD,qA,bI,bI]
 ·simp only[pN]
  rw[jF (bE hk),aK hk,qA,bM wg,bX,qA,bX,qA]
  unfold Hh
  rw[qF hk]
  generalize pN s n (k+1)=Z
  by_cases h0:k=0
  ·subst h0;simp only[qf];cases inR s.aQ[0].aKk 1 1000000<;>cases inR s.aQ[0].Seq 0 1000000<;>simp
  ·have e:i64.wrap (k-1)=((k-1:Nat)):=by rw[bO wg wg];omega
   have C:k-1<s.aQ.length:=by omega
   have ed:decide (s.aQ[k].aKk<=s.aQ[k-1].aKk)= !decide (s.aQ[k-1].aKk<s.aQ[k].aKk):=by rw[jR];simp
   rw[jF (c:=(decide ((k:Int)>0))=true) wV,e,aK C,qA,qF C,ed]
   simp only[qf,h0,jd,ja]
   cases inR s.aQ[k].aKk 1 1000000<;>cases inR s.aQ[k].Seq 0 1000000<;>cases decide (s.aQ[k-1].aKk<s.aQ[k].aKk)<;>simp
 ·simp only[pN];rw[jG wF]
def Jf(p:M.bK)(k:Nat):Bool:=(p.aT[k]?).any λx=>oO x.aLQ&&(x.aKb==p.aKb)
def Hs(p:M.bK):Bool:=(List.range p.aT.length).all (Jf p)&&(inR p.Id 1 1000000000000&&(oO p.aKl&&(oO p.Top&&(inR p.aKb 1 1000000000000&&decide ((p.aT.length:Int)<=8)))))
theorem Ft{p:M.bK}(j:p.ok):vW p=some (Hs p):=by have I:=aZ j.aT.1;unfold vW Hs;rw[rO (L:=uR p) (g:=Jf p) (F:=some false) (E:=some (inR p.Id 1 1000000000000&&(oO p.aKl&&(oO p.Top&&(inR p.aKb 1 1000000000000&&decide ((p.aT.length:Int)<=8)))))) j.aT.1 (λn k hk=> ?_) (λn=> ?_),bI];(have C:=j.aT.2 _ (qG hk);simp only[uR];rw[jF (bE hk),aK hk,qA,bM wg,dX C.aLQ,qA];unfold Jf;rw[qF hk,qf];simp only[yJ,iD,aAo]);·simp only[uR];rw[jG wF];simp only[dX j.aKl,dX j.Top,cO,qA,bI]
theorem HQ{p:M.bK}(j:p.ok):D8 p=some (Hs p):=by have I:=aZ j.aT.1;unfold D8 Hs;rw[rO (L:=BP p) (g:=Jf p) (F:=some false) (E:=some (inR p.Id 1 1000000000000&&(oO p.aKl&&(oO p.Top&&(inR p.aKb 1 1000000000000&&decide ((p.aT.length:Int)<=8)))))) j.aT.1 (λn k hk=> ?_) (λn=> ?_),bI];(have C:=j.aT.2 _ (qG hk);simp only[BP];rw[jF (bE hk),aK hk,qA,bM wg,dG C.aLQ,qA];unfold Jf;rw[qF hk,qf];simp only[yJ,iD,aAo]);·simp only[BP];rw[jG wF];simp only[dG j.aKl,dG j.Top,bX,qA,bI]
theorem MF{s:ByteArray}(j:s.size<=maxLen):AE s=some (Te s 30 true):=by
 have C:=aZ j
 unfold AE Te
 rw[LZ (L:=eI s) (g:=Ka true) (F:=some false) (E:=some (inR s.size 1 30)) j (λn k hk=> ?_) (λn=> ?_),bI]
 ·simp only[eI]
  rw[jF (bE hk),KZ hk,qA,bM wg]
  generalize s[k]=b
  unfold Ka
  generalize eI s n (k+1)=Z
  simp only[jY,qM,qL,Bool.not_eq_true',decide_eq_false_iff_not,Bool.true_and,bne_iff_ne,ne_eq]
  repeat' split
  all_goals first|rfl|(exfalso;omega)
 ·simp only[eI];rw[jG wF,cO,qA]
theorem MU{s:ByteArray}(j:s.size<=maxLen):Er s=some (Te s 30 true):=by unfold Er;rw[K2 j,qA]
def TM(x y:M.vE):Bool:=x.aLb&&((y.Name.toList==x.Name.toList)&&(!y.aLb||(!x.aLK|| !y.aLK)))
def LU(l:List M.vE)(k:Nat)(x:M.vE):Bool:=(List.range k).all λj=> !((l[j]?).any (TM x))
def Pt(l:List M.vE)(k:Nat):Bool:=(l[k]?).any λx=>Te x.Name 30 true&&(inR x.bK 1 1000000000000&&LU l k x)
def L8(t:M.aW):Bool:=(List.range t.aKu.length).all (Pt t.aKu)&&decide ((t.aKu.length:Int)<=12)
theorem WZ{t:M.aW}{x:M.vE}{k:Nat}{K:Int->Option Bool}(I:t.aKu.length<=maxLen)(hk:k<=t.aKu.length):dJ t k x K aJ 0=if LU t.aKu k x=true then K k else some false:=by
 have U:=aZ I
 refine rO (L:=dJ t k x K) (g:=λj=> !((t.aKu[j]?).any (TM x))) (F:=some false) (E:=K k) (qh hk I) (λn j J=> ?_) (λn=> ?_)
 ·have C:j<t.aKu.length:=by omega
  simp only[dJ]
  rw[jF (bE J),aK C,qA,bM wg,qF C,qf]
  unfold TM
  generalize dJ t k x K n (j+1)=Z
  cases x.aLb<;>cases (t.aKu[j].Name.toList==x.Name.toList)<;>cases t.aKu[j].aLb<;>cases x.aLK<;>cases t.aKu[j].aLK<;>simp
 ·simp only[dJ];rw[jG wF]
theorem WL{t:M.aW}{x:M.vE}{k:Nat}{C:Option Bool}(hm:t.aKu.length<=maxLen)(hk:k<=t.aKu.length):eW t k x (λ_=>C) aJ 0=if LU t.aKu k x=true then C else some false:=by
 have hm':=aZ hm
 have J:(t.aKu.take k).length=k:=by rw[qV];omega
 have:=rO (N:=k) (L:=eW t k x (λ_=>C)) (g:=λj=> !((t.aKu[j]?).any (TM x))) (F:=some false) (E:=C) (qh hk hm) (λn j U=> ?_) (λn=> ?_)
 ·exact this
 ·have I:j<t.aKu.length:=by omega
  simp only[eW,qH,J]
  rw[jF (bE U),aK (by rw[J];exact U),qA,bM wg,qF I,qf,List.getElem_take]
  unfold TM
  generalize eW t k x (λ_=>C) n (j+1)=Z
  cases x.aLb<;>cases (t.aKu[j].Name.toList==x.Name.toList)<;>cases t.aKu[j].aLb<;>cases x.aLK<;>cases t.aKu[j].aLK<;>simp
 ·simp only[eW,qH,J];rw[jG wF]
theorem L1{t:M.aW}(j:t.ok):Am t=some (L8 t):=by have I:=aZ j.aKu.1;unfold Am L8;rw[rO (L:=gS t) (g:=Pt t.aKu) (F:=some false) (E:=some (decide ((t.aKu.length:Int)<=12))) j.aKu.1 (λn k hk=> ?_) (λn=> ?_),bI];(have C:=j.aKu.2 _ (qG hk);simp only[gS];rw[jF (bE hk),aK hk,qA,bM wg,MF C.Name,qA,cO,qA,WZ j.aKu.1 wg];unfold Pt;rw[qF hk,qf];generalize gS t n (k+1)=Z;cases Te t.aKu[k].Name 30 true<;>cases inR t.aKu[k].bK 1 1000000000000<;>cases LU t.aKu k t.aKu[k]<;>simp);·simp only[gS];rw[jG wF]
theorem Lq{t:M.aW}(j:t.ok):DK t=some (L8 t):=by have I:=aZ j.aKu.1;unfold DK L8;rw[rO (L:=oD t) (g:=Pt t.aKu) (F:=some false) (E:=some (decide ((t.aKu.length:Int)<=12))) j.aKu.1 (λn k hk=> ?_) (λn=> ?_),bI];(have C:=j.aKu.2 _ (qG hk);simp only[oD];rw[jF (bE hk),aK hk,qA,bM wg,MU C.Name,qA,bX,qA,Ew wg,qA,WL j.aKu.1 wg];unfold Pt;rw[qF hk,qf];generalize oD t n (k+1)=Z;cases Te t.aKu[k].Name 30 true<;>cases inR t.aKu[k].bK 1 1000000000000<;>cases LU t.aKu k t.aKu[k]<;>simp);·simp only[oD];rw[jG wF]
theorem aCs:tV.length=3:=rfl
theorem Y1{a:ByteArray}{k:Nat}(hk:k<tV.length):(F8 a==k)=(a.toList==(tV[k]).toList):=by
 have d:∀i j:Nat,(J:i<tV.length)->(C:j<tV.length)->(tV[i]).toList=(tV[j]).toList->i=j:=by
  intro i j J C h
  have e1:(⟨#[110,101,119,115]⟩:ByteArray).toList=[110,101,119,115]:=by rw[ByteArray.toList_eq]
  rw[aCs]at J C
  rcases i with _|_|_|i<;>rcases j with _|_|_|j<;>first|rfl|(omega)|(simp[tV,e1]at h)
 have U:=cT (f:=λx:ByteArray=>x.toList==a.toList) (xs:=tV)
 have I:=Lu (λx:ByteArray=>x.toList==a.toList) tV
 unfold F8
 rw[jR,beq_iff_eq,beq_iff_eq]
 constructor
 ·intro h
  have h2:tV.findIdx? (λx:ByteArray=>x.toList==a.toList)=some k:=by
   unfold gJ at h
   cases e:tV.findIdx? (λx:ByteArray=>x.toList==a.toList)with
   |none=>rw[e]at h;simp only at h;omega
   |some i=>rw[e]at h;simp only at h;congr 1;omega
  have:=(List.findIdx?_eq_some_iff_getElem.1 h2).2.1
  exact(eq_of_beq this).symm
 ·intro h
  have hex:tV.any (λx:ByteArray=>x.toList==a.toList)=true:=List.any_eq_true.2 ⟨tV[k],qG hk,by rw[h];exact beq_self_eq_true _⟩
  rw[hex]at I
  obtain⟨j,e,C⟩:=U (by have:=of_decide_eq_true I;omega)
  rw[e]
  have h2:tV.findIdx? (λx:ByteArray=>x.toList==a.toList)=some j:=by
   unfold gJ at e
   cases e2:tV.findIdx? (λx:ByteArray=>x.toList==a.toList)with
   |none=>rw[e2]at e;simp only at e;omega
   |some i=>rw[e2]at e;simp only at e;congr 1;omega
  have:=(List.findIdx?_eq_some_iff_getElem.1 h2).2.1
  rw[d j k C hk (by rw[eq_of_beq this,h])]
def HS(w:M.aE)(k:Nat):Bool:=(w.aKq[k]?).any λx=>Hs x&&(decide (x.Id<w.aKn)&&((decide (k=0)||(w.aKq[k-1]?).any λy=>decide (y.Id<x.Id))&&decide (0<=gJ (nAt x.aKl x.Top) w.aC.aKf)))
def KN(w:M.aE)(k:Nat):Bool:=(w.aK0[k]?).any λx=>OJ x&&((tV[k]?).any (λj=>x.Name.toList==j.toList)&&(w.aKr[k]?).any I7)
def Dz(w:M.aE):Bool:=decide (w.aK0.length=3)&&(decide (w.aKr.length=3)&&(decide (w.aKq.length<=6)&&((List.range 3).all (KN w)&&((List.range w.aKq.length).all (HS w)&&(inR w.Now 0 999999990000&&(inR w.aKk 1 1000000&&(uA w.aC&&(inR w.aKn 1 1000000000000&&L8 w.aKu))))))))
theorem DF{w:M.aE}(j:M.aE.sz w<=1500000):M.aC.sz w.aC<=1500000:=by simp only[M.aE.sz]at j;omega
theorem Xe{w:M.aE}(C:w.ok){E:Option Bool}(I:∀n,gD w (n+1) w.aKq.length=E):gD w aJ 0=if(List.range w.aKq.length).all (HS w)=true then E else some false:=by
 have U:=aZ C.aKq.1
 refine rO (L:=gD w) (g:=HS w) (F:=some false) (E:=E) C.aKq.1 (λn k hk=> ?_) I
 have J:=C.aKq.2 _ (qG hk)
 simp only[gD]
 rw[jF (bE hk),aK hk,qA,bM wg,Ft J,qA,lF C.aC,qA]
 unfold HS
 rw[qF hk,qf]
 have e1:decide (w.aKq[k].Id>=w.aKn)= !decide (w.aKq[k].Id<w.aKn):=by rw[jR];simp
 have e2:decide (gJ (nAt w.aKq[k].aKl w.aKq[k].Top) w.aC.aKf<0)= !decide (0<=gJ (nAt w.aKq[k].aKl w.aKq[k].Top) w.aC.aKf):=by rw[jR];simp
 rw[e1]
 simp only[e2]
 by_cases h0:k=0
 ·subst h0;cases Hs w.aKq[0]<;>cases decide (w.aKq[0].Id<w.aKn)<;>cases decide (0<=gJ (nAt w.aKq[0].aKl w.aKq[0].Top) w.aC.aKf)<;>simp
 ·have e:i64.wrap (k-1)=((k-1:Nat)):=by rw[bO wg wg];omega
  have j:k-1<w.aKq.length:=by omega
  have e3:decide (w.aKq[k-1].Id>=w.aKq[k].Id)= !decide (w.aKq[k-1].Id<w.aKq[k].Id):=by rw[jR];simp
  rw[jF (c:=(decide ((k:Int)>0))=true) wV,e,aK j,qA,qF j,e3]
  simp only[qf,h0,jd]
  cases Hs w.aKq[k]<;>cases decide (w.aKq[k].Id<w.aKn)<;>cases decide (w.aKq[k-1].Id<w.aKq[k].Id)<;>cases decide (0<=gJ (nAt w.aKq[k].aKl w.aKq[k].Top) w.aC.aKf)<;>simp
theorem Wu{w:M.aE}(C:w.ok){E:Option Bool}(I:∀n,nY w (n+1) w.aKq.length=E):nY w aJ 0=if(List.range w.aKq.length).all (HS w)=true then E else some false:=by
 have U:=aZ C.aKq.1
 refine rO (L:=nY w) (g:=HS w) (F:=some false) (E:=E) C.aKq.1 (λn k hk=> ?_) I
 have J:=C.aKq.2 _ (qG hk)
 simp only[nY]
 rw[jF (bE hk),aK hk,qA,bM wg,HQ J,qA,xN C.aC,qA]
 unfold HS
 rw[qF hk,qf]
 have e1:decide (w.aKq[k].Id>=w.aKn)= !decide (w.aKq[k].Id<w.aKn):=by rw[jR];simp
 have e2:decide (gJ (nAt w.aKq[k].aKl w.aKq[k].Top) w.aC.aKf<0)= !decide (0<=gJ (nAt w.aKq[k].aKl w.aKq[k].Top) w.aC.aKf):=by rw[jR];simp
 rw[e1]
 simp only[e2]
 by_cases h0:k=0
 ·subst h0;cases Hs w.aKq[0]<;>cases decide (w.aKq[0].Id<w.aKn)<;>cases decide (0<=gJ (nAt w.aKq[0].aKl w.aKq[0].Top) w.aC.aKf)<;>simp
 ·have e:i64.wrap (k-1)=((k-1:Nat)):=by rw[bO wg wg];omega
  have j:k-1<w.aKq.length:=by omega
  have e3:decide (w.aKq[k].Id<=w.aKq[k-1].Id)= !decide (w.aKq[k-1].Id<w.aKq[k].Id):=by rw[jR];simp
  rw[jF (c:=(decide ((k:Int)>0))=true) wV,e,aK j,qA,qF j,e3]
  simp only[qf,h0,jd]
  cases Hs w.aKq[k]<;>cases decide (w.aKq[k].Id<w.aKn)<;>cases decide (w.aKq[k-1].Id<w.aKq[k].Id)<;>cases decide (0<=gJ (nAt w.aKq[k].aKl w.aKq[k].Top) w.aC.aKf)<;>simp
theorem Jl{w:M.aE}(J:w.ok)(hz:∀b∈w.aC.aKf,M.aKc.sz b.bJ.aK1<=1500000):mO w=some (Dz w):=by
 unfold mO Dz
 by_cases h1:w.aK0.length=3
 ·by_cases h2:w.aKr.length=3
  ·have e3:decide ((w.aKq.length:Int)>6)= !decide (w.aKq.length<=6):=by rw[jR];simp;omega
   rw[jG (by rw[h1];simp),jG (by rw[h2];simp),e3,decide_eq_true h1,decide_eq_true h2]
   rw[rO (N:=3) (L:=nZ w) (g:=KN w) (F:=some false) (E:=gD w aJ 0) wD (λn k hk=> ?_) (λn=> ?_),
    Xe J (E:=some (inR w.Now 0 999999990000&&(inR w.aKk 1 1000000&&(uA w.aC&&(inR w.aKn 1 1000000000000&&L8 w.aKu))))) (λn=> ?_)]
   ·cases decide (w.aKq.length<=6)<;>cases (List.range 3).all (KN w)<;>cases (List.range w.aKq.length).all (HS w)<;>simp
   ·simp only[gD];rw[jG wb];simp only[cO,El J.aC hz,L1 J.aKu,qA,bI]
   ·have j:k<w.aK0.length:=by omega
    have C:k<w.aKr.length:=by omega
    have I:k<tV.length:=by exact hk
    have U:xZ=some tV:=rfl
    simp only[nZ,U,qA]
    rw[jF wV,aK j,qA,bM wg,HN (J.aK0.2 _ (qG j)),qA,aK I,qA,aK C,qA,DM (J.aKr.2 _ (qG C)),qA]
    unfold KN
    rw[qF j,qF C,qF I]
    simp only[qf]
    generalize nZ w n ((k+1:Nat))=Z
    have gen:∀(a b c:Bool),(if(!a)=true then some false else if(!b)=true then some false else if(!c)=true then some false else Z)=if(a&&(b&&c))=true then Z else some false:=by intro a b c;cases a<;>cases b<;>cases c<;>rfl
    exact gen _ _ _
   ·simp only[nZ];rw[jG wb]
  ·rw[jG (by rw[h1];simp),jF wV,decide_eq_false h2];simp
 grind
theorem O9{w:M.aE}(J:w.ok)(U:∀b∈w.aC.aKf,M.aKc.sz b.bJ.aK1<=1500000):EH w=some (Dz w):=by
 unfold EH Dz
 have e3:decide ((w.aKq.length:Int)>6)= !decide (w.aKq.length<=6):=by rw[jR];simp;omega
 have e1:((w.aK0.length:Int) !=3)= !decide (w.aK0.length=3):=by rw[jR];simp;omega
 have e2:((w.aKr.length:Int) !=3)= !decide (w.aKr.length=3):=by rw[jR];simp;omega
 simp only[bX,Ez J.aC U,Lq J.aKu,e1,e2,e3]
 by_cases h1:w.aK0.length=3
 ·by_cases h2:w.aKr.length=3
  ·rw[Wu J (E:=sH w aJ 0) (λn=>by
     simp only[nY]
     rw[jG wb]),
    rO (N:=3) (L:=sH w) (g:=KN w) (F:=some false) (E:=some true) wD (λn k hk=> ?_) (λn=> ?_)]
   ·rw[decide_eq_true h1,decide_eq_true h2];cases inR w.Now 0 999999990000<;>cases inR w.aKk 1 1000000<;>cases uA w.aC<;>cases decide (w.aKq.length<=6)<;>cases inR w.aKn 1 1000000000000<;>cases L8 w.aKu<;>cases (List.range 3).all (KN w)<;>cases (List.range w.aKq.length).all (HS w)<;>rfl
   ·have j:k<w.aK0.length:=by omega
    have C:k<w.aKr.length:=by omega
    have I:k<tV.length:=by exact hk
    simp only[sH]
    rw[jF (bE j),aK j,qA,bM wg,HE (J.aK0.2 _ (qG j)),qA,Hb,qA,aK C,qA,Om (J.aKr.2 _ (qG C)),qA,yJ,Y1 I]
    unfold KN
    rw[qF j,qF C,qF I]
    simp only[qf]
    generalize sH w n ((k+1:Nat))=Z
    have gen:∀(a b c:Bool),(if(!a)=true then some false else if b=true then if(!c)=true then some false else Z else some false)=if(a&&(b&&c))=true then Z else some false:=by intro a b c;cases a<;>cases b<;>cases c<;>rfl
    exact gen _ _ _
   ·simp only[sH];rw[jG (by rw[h1];simp)]
  ·rw[decide_eq_true h1,decide_eq_false h2];cases inR w.Now 0 999999990000<;>cases inR w.aKk 1 1000000<;>cases uA w.aC<;>cases decide (w.aKq.length<=6)<;>cases inR w.aKn 1 1000000000000<;>cases L8 w.aKu<;>rfl
 ·rw[decide_eq_false h1];cases inR w.Now 0 999999990000<;>cases inR w.aKk 1 1000000<;>cases uA w.aC<;>cases decide (w.aKq.length<=6)<;>cases inR w.aKn 1 1000000000000<;>cases L8 w.aKu<;>rfl
theorem Vg{w:M.aE}(j:M.aE.sz w<=1500000):∀b∈w.aC.aKf,M.aKc.sz b.bJ.aK1<=1500000:=λb hb=>AW (by have h1:=DF j;have h2:=dW (f:=M.aKe.sz) hb;simp only[M.aC.sz]at h1;omega)
theorem GV{w:M.aE}(j:w.ok)(C:M.aE.sz w<=1500000):mO w=some (Dz w):=Jl j (Vg C)
theorem PT{w:M.aE}(j:w.ok)(C:M.aE.sz w<=1500000):EH w=some (Dz w):=O9 j (Vg C)
def okC(b:List Int)(i h:Int):Prop:=b.length<=1500000/\(∀x∈b,0<=x/\x<=255)/\0<=i/\i<=1500000/\inI h
def Dr{α:Type}(b:List Int)(P:α->Prop)(o:Option (Int×Int×α)):Prop:=∃i h r,o=some (i,h,r)/\okC b i h/\P r
theorem Dr.ret{α:Type}{b:List Int}{P:α->Prop}{i h:Int}{r:α}(hc:okC b i h)(j:P r):Dr b P (some (i,h,r)):=⟨i,h,r,rfl,hc,j⟩
theorem Dr.bnd{α β:Type}{b:List Int}{P:β->Prop}{Q:α->Prop}{o:Option (Int×Int×α)}{f:Int×Int×α->Option (Int×Int×β)}(j:Dr b Q o)(C:∀i h r,okC b i h->Q r->Dr b P (f (i,h,r))):Dr b P (o.bind f):=by obtain⟨i,h,r,rfl,hc,I⟩:=j;simp_all
theorem Dr.JX{α β:Type}{b:List Int}{P:β->Prop}{Q:α->Prop}{o:Option α}{f:α->Option (Int×Int×β)}(C:∃r,o=some r/\Q r)(j:∀r,Q r->Dr b P (f r)):Dr b P (o.bind f):=by grind
theorem Dr.mono{α:Type}{b:List Int}{P Q:α->Prop}{o:Option (Int×Int×α)}(h:∀r,P r->Q r)(C:Dr b P o):Dr b Q o:=by obtain⟨i,j,r,e,hc,I⟩:=C;exact⟨i,j,r,e,hc,h r I⟩
theorem DJ{σ R:Type}{L:Nat->Int->σ->Option R}{I:Nat->σ->Prop}{Q:Option R->Prop}(h1:∀n (k:Nat) s,I (k+1) s->(∀s',I k s'->Q (L n k s'))->Q (L (n+1) ((k+1:Nat)) s))(J:∀n s,I 0 s->Q (L (n+1) 0 s)):∀(n k:Nat) (s:σ),k<n->I k s->Q (L n k s)
 |0,_,_,h,_=>by omega
 |n+1,0,s,_,j=>J n s j
 |n+1,k+1,s,h,j=>h1 n k s j λs' C=>DJ h1 J n k s' wg C
theorem aCK{σ R:Type}{N:Nat}{L:Nat->Int->σ->Option R}{I:Nat->σ->Prop}{Q:Option R->Prop}(h1:∀n (k:Nat) s,k<N->I k s->(∀s',I (k+1) s'->Q (L n ((k+1:Nat)) s'))->Q (L (n+1) k s))(h2:∀n s,I N s->Q (L (n+1) N s)):∀(n k:Nat) (s:σ),N-k<n->k<=N->I k s->Q (L n k s)
 |0,_,_,h,_,_=>by omega
 |n+1,k,s,h,hk,U=>by rcases jS k N with C|J;(exact h1 n k s C U λs' j=>aCK h1 h2 n (k+1) s' wg wg j);grind
theorem nB{k:Nat}(h:k<=9223372036854775808):k<aJ:=by unfold aJ;omega
theorem SP(x:BitVec i64.bits):0<=i64.wrap ((x&&&BitVec.ofInt i64.bits 255).toNat)/\i64.wrap ((x&&&BitVec.ofInt i64.bits 255).toNat)<=255:=by
 have h1:(x&&&BitVec.ofInt i64.bits 255).toNat<=255:=by exact qh Nat.and_le_right we
 rw[bO wg wg]
 omega
theorem Lc{b:List Int}{i h:Int}(hc:okC b i h):Dr b (λr=>0<=r/\r<=255) (vX ⟨b,i,h⟩):=by
 obtain⟨h1,h2,h3,h4,h5⟩:=hc
 unfold vX
 by_cases hl:i<b.length
 ·rw[jF (by simpa using hl)]
  obtain⟨k,rfl⟩:=jV h3
  have hk:k<b.length:=by omega
  rw[aK hk,qA]
  refine .ret ⟨h1,h2,?_,?_,bS _⟩ (SP _)
  ·rw[bM wg];omega
  ·rw[bM wg];omega
 ·rw[jG wX];exact .ret ⟨h1,h2,h3,h4,bS _⟩ (SP _)
theorem Uw{x n:Int}(j:0<=x)(C:0<n):x%n<=x:=by have h1:=Int.emod_add_mul_ediv x n;have h2:0<=n*(x/n):=Int.mul_nonneg wg (Int.ediv_nonneg j wg);omega
theorem YQ{x n:Int}(C:0<=x)(j:0<n):0<=Int.tmod x n/\Int.tmod x n<n:=by rw[Int.tmod_eq_emod_of_nonneg C];exact⟨Int.emod_nonneg _ wg,Int.emod_lt_of_pos _ j⟩
theorem bB{b:List Int}{i h n:Int}(hc:okC b i h):Dr b (λr=>0<=r/\(0<n->r<n)/\r<=16777215) (aG ⟨b,i,h⟩ n):=by
 unfold aG
 by_cases h0:n<=0
 ·rw[jF wX];exact .ret hc ⟨wg,wg,wg⟩
 ·rw[jG wX]
  by_cases h1:n<=256
  ·rw[jF wX]
   refine .bnd (Lc hc) λi1 v1 j I U=> ?_
   rw[jG wV]
   have:=YQ U.1 (show 0<n by omega)
   exact .ret I ⟨this.1,λ_=>this.2,wa⟩
  ·rw[jG wX]
   refine .bnd (Lc hc) λi1 v1 j I U=>.bnd (Lc I) λi2 v2 C c2 q2=>.bnd (Lc c2) λi3 v3 J c3 q3=> ?_
   rw[jG wV]
   dsimp only
   rw[bO (n:=j*65536) wg wg,bO (n:=C*256) wg wg,bO (n:=j*65536+C*256) wg wg,bO wg wg]
   have:=YQ (show 0<=j*65536+C*256+J by omega) (show 0<n by omega)
   have h3:=Int.tmod_eq_emod_of_nonneg (b:=n) (show 0<=j*65536+C*256+J by omega)
   have h4:=Uw (n:=n) (show 0<=j*65536+C*256+J by omega) (show 0<n by omega)
   exact .ret c3 ⟨this.1,λ_=>this.2,wg⟩
theorem Bh{b:List Int}{i h n:Int}(hc:okC b i h):Dr b (λ_=>True) (cF ⟨b,i,h⟩ n):=by exact .bnd (bB hc) λi1 J I j C=>.ret j trivial
theorem uX{b:List Int}{i h:Int}{l:List Int}(P:Int->Prop)(J:0<l.length)(C:∀x∈l,P x)(hc:okC b i h):Dr b P (cD ⟨b,i,h⟩ l):=by
 refine .bnd (bB hc) λi1 v1 U j I=> ?_
 obtain⟨k,rfl⟩:=jV I.1
 have hk:k<l.length:=by omega
 rw[aK hk,qA]
 exact .ret j (C _ (qG hk))
theorem EG{b:List Int}{i h:Int}{l:List ByteArray}(P:ByteArray->Prop)(J:0<l.length)(C:∀x∈l,P x)(hc:okC b i h):Dr b P (iQ ⟨b,i,h⟩ l):=by
 refine .bnd (bB hc) λi1 v1 U j I=> ?_
 obtain⟨k,rfl⟩:=jV I.1
 have hk:k<l.length:=by omega
 rw[aK hk,qA]
 exact .ret j (C _ (qG hk))
theorem We{b:List Int}:∀(n k:Nat) (v:Int),b.length-k<n->k<=b.length->b.length<=1500000->inI v->∃h,pL b n v k=some ⟨b,0,h⟩/\inI h
 |0,_,_,h,_,_,_=>by omega
 |n+1,k,v,h,hk,j,C=>by simp only[pL];by_cases h1:k<b.length;(rw[jF (bE h1)];by_cases h2:(k:Int)<4000;(rw[jF (by simpa using h2),aK h1,qA,bM wg];exact We n (k+1) _ wg wg j (bS _));·rw[jG (by simpa using h2)];exact⟨v,rfl,C⟩);grind
theorem Zw{b:List Int}(j:b.length<=1500000)(hb:∀x∈b,0<=x/\x<=255):∃h,EV b=some ⟨b,0,h⟩/\okC b 0 h:=by obtain⟨h,e1,e2⟩:=We (b:=b) aJ 0 (i64.wrap (193017+(b.length))) (nB wg) wg j (bS _);exact⟨h,e1,j,hb,wg,wg,e2⟩
theorem CK{r:Int}(h:0<=r):∃k:Nat,r=k:=⟨r.toNat,wg⟩
theorem N1{n:Int}(h1: -1000000000000000<=n)(h2:n<=1000000000000000):inI n:=by unfold inI;omega
theorem HU{s:ByteArray}(h:s.size<=8):s.size<=maxLen:=by unfold maxLen;omega
theorem eU{n:Int}(h1: -1000000000000000<=n)(h2:n<=1000000000000000):i64.wrap n=n:=bO wg wg
theorem K3{b:List Int}{i h:Int}(hc:okC b i h):Dr b (λs=>s.size<=8) (sX ⟨b,i,h⟩):=by exact .bnd (EG (λs=>s.size<=8) we we hc) λi1 J I j C=>.ret j C
theorem Tq{b:List Int}{i h:Int}(hc:okC b i h):Dr b (λs=>s.size<=8) (BW ⟨b,i,h⟩):=by exact .bnd (EG (λs=>s.size<=8) we we hc) λi1 J I j C=>.ret j C
theorem B9{b:List Int}{i h:Int}(hc:okC b i h):Dr b (λs=>s.size<=8) (cE ⟨b,i,h⟩):=by exact .bnd (EG (λs=>s.size<=8) we we hc) λi1 J I j C=>.ret j C
theorem CD{a:ByteArray}:sS a=some (F8 a):=by unfold sS;rw[show xZ=some tV from rfl,qA];rw[oQ (L:=pV a tV) (f:=λx:ByteArray=>x.toList==a.toList) (A:=λi=>some (i:Int)) (E:=some (-1)) Qg (λm k hk=> ?_) (λm=> ?_),tK];(rfl);(have j:k<3:=hk;simp only[pV];rw[jF (bE hk),aK hk,qA,bM wg]);rfl
def Xq(d:Int):M.aE:=if 1<=d/\d<=1000000 then⟨0,true,d,⟨[]⟩,[],1,⟨[]⟩,⟨[]⟩,
   tV.map (λx=>⟨x,1,[⟨#[99,111,100,101]⟩,⟨#[100,97,116,97]⟩,⟨#[105,110,100,101,120]⟩,⟨#[115,116,121,108,101]⟩],x.toList==(⟨#[110,101,119,115]⟩:ByteArray).toList⟩),
   tV.map (λ_=>⟨⟨⟨#[110,111,116,101,115]⟩,[],0⟩,[],[]⟩)⟩
  else⟨0,false,0,⟨[]⟩,[],0,⟨[]⟩,⟨[]⟩,[],[]⟩
theorem O4{d:Int}:Cg d=some (Xq d):=by unfold Cg Xq bG;by_cases h:1<=d/\d<=1000000;(rw[jF h,jF (by simpa using h.1),qA,jG (by simpa using h.2)];rfl);grind
theorem Zu{l:List M.bK}{f:Int}(j:l.length<=maxLen):C9 l f=some (gJ (λp:M.bK=>p.Id==f) l):=by have C:=aZ j;unfold C9;rw[oQ (L:=rV l f) (f:=λp:M.bK=>p.Id==f) (A:=λi=>some (i:Int)) (E:=some (-1)) j (λm k hk=> ?_) (λm=> ?_),tK];(simp only[rV];rw[jF (bE hk),aK hk,qA,bM wg]);·simp only[rV];rw[jG wb]
def Lj(w:M.aE)(f:Int):Int:=gJ (λp:M.bK=>p.Id==f) w.aKq
theorem H6{w:M.aE}{f:Int}(j:w.ok):zI w f=some (Lj w f):=by unfold zI;rw[Zu j.aKq.1,qA];rfl
theorem Nv{w:M.aE}{f:Int}(j:w.ok):Fk w f=some (Lj w f):=by unfold Fk;rw[NU (p:=λC=>GK C f) (f:=λp:M.bK=>p.Id==f) j.aKq.1 (λx _=>rfl),qA];rfl
theorem Qy(n:Nat):∀(m:Nat) {x y:List Int},uv n++x=uv m++y->n=m/\x=y:=by
 induction n using Nat.strongRecOn with
 |_ n j=>
  intro m x y h
  by_cases h1:n<128
  ·rw[DN h1]at h;by_cases h2:m<128;(rw[DN h2]at h;simp only[jQ,jP,List.cons.injEq]at h;exact⟨wg,h.2⟩);·rw[KC h2]at h;simp only[jQ,jP,List.cons.injEq]at h;exact absurd h.1 wg
  ·rw[KC h1]at h;by_cases h2:m<128;(rw[DN h2]at h;simp only[jQ,jP,List.cons.injEq]at h;exact absurd h.1 wg);·rw[KC h2]at h;simp only[jQ,List.cons.injEq]at h;obtain⟨e1,e2⟩:=h;obtain⟨e3,e4⟩:=j (n/128) wg (m/128) e2;exact⟨wg,e4⟩
theorem MS{s t x y:List Int}(h:CJ s++x=CJ t++y):s=t/\x=y:=by unfold CJ at h;rw[qT,qT]at h;obtain⟨e,h⟩:=Qy _ _ h;exact List.append_inj h e
def Mh(n:Nat)(d:List Int):List Int:=CJ d++uv (KS n d).toNat
theorem Wa{n:Nat}{d e x y:List Int}(h:Mh n d++x=Mh n e++y):d=e/\x=y:=by unfold Mh at h;rw[qT,qT]at h;obtain⟨rfl,h⟩:=MS h;exact⟨rfl,(Qy _ _ h).2⟩
theorem Vn(n:Nat)(d:List Int):2<=(Mh n d).length:=by have h1:=HA d.length;have h2:=HA (KS n d).toNat;unfold Mh CJ;simp only[qE];omega
def uQ:Nat->List (List Int)->List Int
 |_,[]=>[]
 |n,d::l=>Mh n d++uQ (n+1) l
theorem OT:∀(l r:List (List Int)) (n:Nat),uQ n (l++r)=uQ n l++uQ (n+l.length) r
 |[],r,n=>rfl
 |d::l,r,n=>by simp only[jQ,uQ,qT,qJ];rw[OT l r (n+1),show n+1+l.length=n+(l.length+1)from by omega]
theorem EW:∀(l:List (List Int)) (n:Nat),2*l.length<=(uQ n l).length
 |[],n=>by simp
 |d::l,n=>by have h1:=Vn n d;have h2:=EW l (n+1);simp only[uQ,qE,qJ];omega
theorem Gj:∀(es ds:List (List Int)) (n:Nat) {x y:List Int},es.length<=ds.length->uQ n es++x=uQ n ds++y->∃j,ds=es++j/\x=uQ (n+es.length) j++y
 |[],ds,n,x,y,_,h=>⟨ds,rfl,by simpa[uQ]using h⟩
 |e::es,[],n,x,y,C,h=>absurd C wb
 |e::es,d::ds,n,x,y,C,h=>by simp only[uQ,qT]at h;obtain⟨e9,h9⟩:=Wa h;obtain⟨j,e8,h2⟩:=Gj es ds (n+1) (by simpa using C) h9;subst e9 e8;refine⟨j,rfl,?_⟩;rw[h2,qJ,show n+1+es.length=n+(es.length+1)from by omega]
theorem Su{l:List (List Int)}{n:Nat}{y:List Int}(h:[]=uQ n l++y):l=[]/\y=[]:=by have h2:=congrArg List.length h;have h3:=EW l n;simp only[qE,qK]at h2;exact⟨ql wg,ql wg⟩
theorem sum_nat(i:Int)(d:List Int):((KS i d).toNat)=KS i d/\(KS i d).toNat<=1000000000000/\(uv (KS i d).toNat).length<=5:=by have h:=Ug i d;exact⟨wg,wg,E5 4 _ (qw (show(KS i d).toNat<2147483648 by omega) we)⟩
theorem TD{b:List Int}:∀(ds:List (List Int)) (a j:Nat) (C:List (List Int)) (r:List Int),b.drop a=uQ C.length ds++r->(∀d∈ds,d.length<=4000)->JY b (j+ds.length) a C=JY b j ((a+(uQ C.length ds).length:Nat)) (C++ds)
 |[],a,j,C,r,h,_=>by simp[uQ]
 |d::ds,a,j,C,r,h,I=>by have hd:=I d wb;obtain⟨s1,s2,s3⟩:=sum_nat C.length d;simp only[uQ,Mh,qT]at h;obtain⟨e1,h1⟩:=H4 (c:=4000) h wg wg;obtain⟨e2,h2⟩:=JQ h1 s2;have U:=TD ds (a+(CJ d).length+(uv (KS C.length d).toNat).length) j (C++[d]) r (by rw[h2,qE];rfl) (λx J=>I x (by simp[J]));rw[qJ,<-jA];simp only[JY];rw[e1];simp only[jI];rw[e2];simp only[jI];rw[jG (by rw[s1];simp),U,qT,qE];congr 2;simp only[uQ,Mh,qE,qJ,qK,qp];omega
theorem Tx{b:List Int}(hb:okB b):∀(j a:Nat) (C:List (List Int)),a<=b.length->b.length-a<j->∃(ds:List (List Int)) (p:Nat),JY b j a C=(C++ds,(p:Int))/\p<=b.length/\b.drop a=uQ C.length ds++b.drop p/\(∀d∈ds,d.length<=4000)/\(∀e r,e.length<=4000->b.drop p≠Mh (C.length+ds.length) e++r)
 |0,a,C,U,h=>absurd h wg
 |j+1,a,C,U,h=>by
  have stop:(∀e r,e.length<=4000->b.drop a≠Mh C.length e++r)->∃(ds:List (List Int)) (p:Nat),(C,(a:Int))=(C++ds,(p:Int))/\p<=b.length/\b.drop a=uQ C.length ds++b.drop p/\(∀d∈ds,d.length<=4000)/\(∀e r,e.length<=4000->b.drop p≠Mh (C.length+ds.length) e++r):=
   λhs=>⟨[],a,wb,U,rfl,wb,hs⟩
  have go:∀e r,e.length<=4000->b.drop a=Mh C.length e++r->(nRb b a 4000).2.2=true/\(nUv b (nRb b a 4000).2.1).2.2=true/\(nUv b (nRb b a 4000).2.1).1=KS C.length (nRb b a 4000).1:=λe r he I=>by obtain⟨s1,s2,s3⟩:=sum_nat C.length e;unfold Mh at I;rw[qT]at I;obtain⟨e1,h1⟩:=H4 (c:=4000) I wg wg;obtain⟨e2,h2⟩:=JQ h1 s2;rw[e1];dsimp only;rw[e2];exact⟨rfl,rfl,s1⟩
  simp only[JY]
  cases h1:(nRb b a 4000).2.2 with
  |false=>
   rw[jG wb]
   exact stop λe r he I=>by have:=(go e r he I).1;rw[h1]at this;cases this
  |true=>
   rw[jF rfl]
   cases h2:(nUv b (nRb b a 4000).2.1).2.2 with
   |false=>
    rw[jG wb]
    exact stop λe r he I=>by have:=(go e r he I).2.1;rw[h2]at this;cases this
   |true=>
    rw[jF rfl]
    by_cases h3:(nUv b (nRb b a 4000).2.1).1=KS C.length (nRb b a 4000).1
    ·obtain⟨s,a1,e1,r1,r2,r3,r4,r5,r6,r7,r8⟩:=HJ hb h1
     obtain rfl:a=a1:=by omega
     rw[r1]at h2 h3⊢
     dsimp only at h2 h3⊢
     obtain⟨a2,v,e2,u1,u2,u3,u4,u5,u6⟩:=CR hb h2
     obtain rfl:e1=a2:=by omega
     have g1:=HA s.length
     rw[u1]at h3⊢
     dsimp only at h3⊢
     rw[jG (by rw[h3];simp)]
     obtain⟨ds,p,d1,d2,d3,d4,d5⟩:=Tx hb j e2 (C++[s]) u4 wg
     refine⟨s::ds,p,by rw[d1,qT];rfl,d2,?_,?_,?_⟩
     ·rw[r7,u6,d3];simp only[uQ,Mh,CJ,qE,qJ,qK,qp,qT];rw[show(KS C.length s).toNat=v from by omega]
     ·intro d J;rcases qq.1 J with rfl|J;(omega);·exact d4 d J
     ·intro e r he;have:=d5 e r he;rw[qE]at this;rw[qJ,show C.length+(ds.length+1)=C.length+[s].length+ds.length from by simp only[qJ,qK];omega];exact this
    ·rw[jF (by simpa using h3)];exact stop λe r he I=>h3 (go e r he I).2.2
theorem Rb{b:List Int}(hb:okB b):∃(ds:List (List Int)) (p:Nat),QM b=(ds,(p:Int))/\p<=b.length/\b=uQ 0 ds++b.drop p/\(∀d∈ds,d.length<=4000)/\(∀e r,e.length<=4000->b.drop p≠Mh ds.length e++r):=by obtain⟨ds,p,d1,d2,d3,d4,d5⟩:=Tx hb (b.length+1) 0 [] wg wg;refine⟨ds,p,?_,d2,?_,d4,λe r he=> ?_⟩;(unfold QM;exact d1);(simpa using d3);·have:=d5 e r he;rwa [qK,qp]at this
theorem VA{ds:List (List Int)}(C:∀d∈ds,d.length<=4000):QM (uQ 0 ds)=(ds,((uQ 0 ds).length:Int)):=by
 have h2:=EW ds 0
 have h:=TD (b:=uQ 0 ds) ds 0 ((uQ 0 ds).length+1-ds.length) [] [] wb C
 rw[show(uQ 0 ds).length+1-ds.length+ds.length=(uQ 0 ds).length+1 from by omega]at h
 unfold QM
 refine h.trans ?_
 rw[jP,qK,qp]
 obtain⟨j,hj⟩:∃j,(uQ 0 ds).length+1-ds.length=j+1:=⟨(uQ 0 ds).length-ds.length,wg⟩
 rw[hj]
 simp only[JY]
 have:(nRb (uQ 0 ds) ((uQ 0 ds).length) 4000).2.2=false:=by unfold nRb;rw[Un];rfl
 rw[this,jG wb]
def isE(e:List Int):Prop:=∃l:List M.fA,e=uv l.length++Gr enO l/\(∀o∈l,nOp o=true)/\l.length<=6
theorem aEe{e:List Int}(h:isE e):e≠[]:=by obtain⟨l,rfl,_⟩:=h;have:=HA l.length;intro h2;have:=congrArg List.length h2;simp only[qE,qK]at this;omega
theorem aFT{e:List Int}(h:(Bl e).2=true):isE e:=by
 unfold Bl O3 at h
 split at h
 ·rename_i h1
  have j:e≠[]:=λhe=>by subst he;rw[show 0=([].length:Int)from rfl,Un]at h1;cases h1
  split at h
  ·cases h
  ·unfold aAz at h;split at h;(cases h);·rename_i l U;split at h;(rename_i he;rw[Ge]at he;obtain⟨C,I,J⟩:=KX he j;exact⟨l,C,I,J⟩);·cases h
 ·cases h
theorem aDE{l:List M.fA}(h:Be l≠[]):isE (Be l):=by obtain⟨j,C,I⟩:=KX rfl h;exact⟨l,j,C,I⟩
theorem aDN{o p:M.fA}{x y:List Int}(h:enO o++x=enO p++y):enO o=enO p/\x=y:=by unfold enO at h⊢;simp only[qT]at h;obtain⟨e1,h⟩:=Qy _ _ h;obtain⟨e2,h⟩:=MS h;obtain⟨e3,h⟩:=MS h;obtain⟨e4,h⟩:=MS h;obtain⟨e5,h⟩:=MS h;rw[e1,e2,e3,e4,e5];exact⟨rfl,h⟩
theorem VQ:∀(l r:List M.fA) {x y:List Int},l.length=r.length->Gr enO l++x=Gr enO r++y->Gr enO l=Gr enO r/\x=y
 |[],[],x,y,_,h=>⟨rfl,h⟩
 |[],_::_,_,_,h,_=>by cases h
 |_::_,[],_,_,h,_=>by cases h
 |o::l,p::r,x,y,j,h=>by simp only[Gr,qT]at h⊢;obtain⟨e1,h⟩:=aDN h;obtain⟨e2,h⟩:=VQ l r (by simpa using j) h;rw[e1,e2];exact⟨rfl,h⟩
