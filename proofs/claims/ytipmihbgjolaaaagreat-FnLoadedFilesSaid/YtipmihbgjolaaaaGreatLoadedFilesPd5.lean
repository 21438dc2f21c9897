/-
  Helper text. No conditions.
-/
import Derived.Test.YtipmihbgjolaaaaGreatLoadedFilesPd4
set_option linter.unusedVariables false
set_option linter.unusedSimpArgs false
namespace Go.Proofs.YtipmihbgjolaaaaGreat.gen
open Go Go.Sh
open Go.IntKind (i64)
theorem I8 {s:M.aE} (h:kC s=true):M.aE.sz s<=65536:=by
 unfold kC at h
 rw [qM] at h
 have h2:s.aE6.length<=4:=by simpa using h.2
 have hc : ∀c∈s.aE6,M.aFE.sz c<=4096:=by
  intro c hc
  obtain ⟨k,hk,rfl⟩:=List.getElem_of_mem hc
  have h3:=List.all_eq_true.1 h.1 k (List.mem_range.2 hk)
  unfold Fx at h3
  rw [qF hk,Option.any_some,qM,qM] at h3
  have h4:=h3.1.2
  unfold D2 at h4
  rw [qM] at h4
  have h5:s.aE6[k].aFK.length<=12:=by simpa using h4.2
  have he : ∀x∈s.aE6[k].aFK,M.aFL.sz x<=100:=by
   intro x hx
   obtain ⟨i,hi,rfl⟩:=List.getElem_of_mem hx
   have h6:=List.all_eq_true.1 h4.1 i (List.mem_range.2 hi)
   unfold BJ at h6
   rw [qF hi,Option.any_some,qM,qM,qM] at h6
   obtain ⟨q1,q2,q3,_⟩:=h6
   unfold mH at q1 q2
   rw [qM] at q1 q2
   have r1:=Wy q1.2
   have r2:=Wy q2.2
   unfold ED at q3
   rw [qM,qM,qM] at q3
   have r3:s.aE6[k].aFK[i].aE9.aFw.length<=60:=by have:=q3.2.2.2;simp at this;omega
   simp only [M.aFL.sz,M.aE9.sz]
   omega
  have:=dP he
  simp only [M.aFE.sz]
  omega
 have:=dP hc
 simp only [M.aE.sz]
 omega
theorem PA {l:List M.bD} : ∀ {s:M.aC},s.ok->l.length<=maxLen->(∀w∈l,M.bD.ok w)->M.aC.sz s<=536870912->(C5 s l).ok/\M.aC.sz (C5 s l)<=536870912:=by
 induction l with
 | nil=>intro s hs _ _ hz;exact ⟨hs,hz⟩
 | cons w l ih =>
  intro s hs hl ho hz
  have h:=JO hs (ho w qd) hz
  exact ih (s:=(L0 s w).1) h.1 (by simp only [qJ] at hl;omega) (λy hy=>ho y (by simp [hy])) h.2
def GZ (o:M.aM) (k:M.Key) (f:ByteArray) (n:Int):M.aM:=(⟨o.aFC,i64.wrap (o.aFd+1),o.aFO++[(⟨o.aFC,o.aFd,k,f,n⟩:M.bD)]⟩:M.aM)
def OM (o:M.aM) (k:M.Key) (f:ByteArray) (n:Int):M.aM×Bool:=if sN o=true then (if sN (GZ o k f n)=true then (GZ o k f n,true) else (o,false)) else (o,false)
theorem VE {o:M.aM} {k:M.Key} {f:ByteArray} {n:Int} (ho:o.ok) (hl:o.aFO.length<=1073741824) (hk:k.ok) (hf:f.size<=maxLen) (hn:inI n):(GZ o k f n).ok:=
 ⟨ho.aFC,bI _,⟨by show (o.aFO++_).length<=maxLen;unfold maxLen;simp;omega,λy hy=>by have hy':y∈o.aFO++[(⟨o.aFC,o.aFd,k,f,n⟩:M.bD)]:=hy;simp only [qP,List.mem_cons,qO,or_false] at hy';rcases hy' with hy | rfl;(exact ho.aFO.2 y hy);·exact ⟨ho.aFC,ho.aFd,hk,hf,hn⟩⟩⟩
theorem CH {o:M.aM} {k:M.Key} {f:ByteArray} {n:Int} (ho:o.ok) (hz:M.aM.sz o<=536870912) (hk:k.ok) (hf:f.size<=maxLen) (hn:inI n):iB o k f n=some (OM o k f n):=by
 have hl:o.aFO.length<=536870912:=by simp only [M.aM.sz] at hz;omega
 have e:=oV (VE (k:=k) (f:=f) (n:=n) ho qb hk hf hn)
 unfold GZ at e
 unfold iB OM
 rw [BL o qb,qA,oV ho,qA,dH qs,qA,e,qA]
 unfold GZ
 cases sN o
 ·simp
 ·cases sN (⟨o.aFC,i64.wrap (o.aFd+1),o.aFO++[(⟨o.aFC,o.aFd,k,f,n⟩:M.bD)]⟩:M.aM)<;>simp
def Yf (r:M.aG) (k:M.Key) (f:ByteArray) (n:Int):Bool:=BN r&&((OM r.aFS.aM k f n).2&&(L0 (C5 r.aFT r.aFS.aM.aFO) (⟨0,0,k,f,n⟩:M.bD)).2)
def aCH (r:M.aG) (k:M.Key) (f:ByteArray) (n:Int):M.aG:=(⟨r.aFT,r.aFq,(⟨(OM r.aFS.aM k f n).1,r.aFS.aFi,r.aFS.aFX⟩:M.aFS)⟩:M.aG)
def nWL (r:M.aG) (k:M.Key) (f:ByteArray) (n:Int):M.aG×Bool:=if Yf r k f n=true then (aCH r k f n,true) else (r,false)
theorem ZS {α:Type} (a b c:Bool) (x y:α):(if (!a)=true then y else (if (!b)=true then y else (if (!c)=true then y else x)))=if (a&&(b&&c))=true then x else y:=by cases a<;>cases b<;>cases c<;>rfl
theorem IC {r:M.aG} {k:M.Key} {f:ByteArray} {n:Int} (hr:r.ok) (hz:M.aG.sz r<=536870912) (hk:k.ok) (hf:f.size<=maxLen) (hn:inI n):lI r k f n=some (nWL r k f n):=by have hz':=hz;simp only [M.aG.sz,M.aFS.sz] at hz';obtain ⟨q2,q3⟩:=PA hr.aFT hr.aFS.aM.aFO.1 hr.aFS.aM.aFO.2 qb;have q1:=ER hr.aFT hr.aFS.aM.aFO.1 hr.aFS.aM.aFO.2 qb;unfold lI Ag;rw [Di r qb,CH hr.aFS.aM qb hk hf hn,q1,AN hr];simp only [qA];rw [AQ (w:=(⟨0,0,k,f,n⟩:M.bD)) q2 ⟨by unfold inI;simp,by unfold inI;simp,hk,hf,hn⟩ qb];simp only [qA,ZS];unfold nWL Yf aCH;cases (BN r&&((OM r.aFS.aM k f n).2&&(L0 (C5 r.aFT r.aFS.aM.aFO) (⟨0,0,k,f,n⟩:M.bD)).2))<;>simp
def pB:List ByteArray:=[(⟨#[98,97,110,107]⟩:ByteArray),(⟨#[110,101,119,115]⟩:ByteArray),(⟨#[115,104,111,112]⟩:ByteArray)]
def CK (a:ByteArray):Int:=lA (λx:ByteArray=>x.toList==a.toList) pB
theorem LR:pB.length<=maxLen:=by unfold pB maxLen;simp
theorem Ds {a:ByteArray}:nP a=some (CK a):=by unfold nP lK;rw [<-pB.eq_1];rw [findAll (L:=bY pB a) (f:=λx:ByteArray=>x.toList==a.toList) (A:=λi=>some (i:Int)) (E:=some (-1)) LR (λm k hk => ?_) (λm => ?_),rN];(rfl);(have hk3:k<3:=hk;simp only [bY];rw [if_pos (aY hk),aK hk,qA,bE qb,Bool.beq_comm]);·simp only [bY];rw [if_neg qk]
def KT (l:List ByteArray) (k:Nat):Bool:=(l[k]?).any mH&&(decide (k=0)||(l[k-1]?).any λy=>(l[k]?).any λx=>Op.bytesLess y.toList x.toList)
def Kn (s:M.aFD):Bool:=(List.range s.aFe.length).all (KT s.aFe)&&(mH s.Name&&(inR s.aE3 1 1000000000000&&inR (s.aFe.length:Int) 1 6))
theorem D1 {s:M.aFD} (hs:s.ok):xL s=some (Kn s):=by
 have hm:=le_max hs.aFe.1
 unfold xL Kn
 rw [nH (L:=kH s) (g:=KT s.aFe) (F:=some false) (E:=some (mH s.Name&&(inR s.aE3 1 1000000000000&&inR (s.aFe.length:Int) 1 6))) hs.aFe.1 (λn k hk => ?_) (λn => ?_),aZ]
 ·have hf:=hs.aFe.2 _ (qG hk)
  simp only [kH]
  rw [if_pos (aY hk),aK hk,qA,bE qb,cZ hf,qA]
  unfold KT
  rw [qF hk]
  generalize kH s n ((k+1:Nat):Int)=Z
  by_cases h0:k=0
  ·subst h0;simp only [Option.any_some];cases mH s.aFe[0]<;>simp
  ·have e:i64.wrap ((k:Int)-1)=((k-1:Nat):Int):=by rw [bL qb qb];omega
   have hk1:k-1<s.aFe.length:=by omega
   rw [if_pos (c:=(decide ((k:Int)>0))=true) qc,e,aK hk1,qA,qF hk1]
   simp only [Option.any_some,h0,decide_false,Bool.false_or]
   cases mH s.aFe[k]<;>cases Op.bytesLess s.aFe[k-1].toList s.aFe[k].toList<;>simp
 ·simp only [kH];rw [if_neg qk,cZ hs.Name,qA,cD,qA,cD,qA,aZ,aZ]
theorem DT {s:M.aFD} (hs:s.ok):xI s=some (Kn s):=by
 have hm:=le_max hs.aFe.1
 unfold xI Kn
 rw [nH (L:=kE s) (g:=KT s.aFe) (F:=some false) (E:=some (mH s.Name&&(inR s.aE3 1 1000000000000&&inR (s.aFe.length:Int) 1 6))) hs.aFe.1 (λn k hk => ?_) (λn => ?_),aZ]
 ·have hf:=hs.aFe.2 _ (qG hk)
  simp only [kE]
  rw [if_pos (aY hk),aK hk,qA,bE qb,dX hf,qA]
  unfold KT
  rw [qF hk]
  generalize kE s n ((k+1:Nat):Int)=Z
  by_cases h0:k=0
  ·subst h0;simp only [Option.any_some];cases mH s.aFe[0]<;>simp
  ·have e:i64.wrap ((k:Int)-1)=((k-1:Nat):Int):=by rw [bL qb qb];omega
   have hk1:k-1<s.aFe.length:=by omega
   rw [if_pos (c:=(decide ((k:Int)>0))=true) qc,e,aK hk1,qA,qF hk1,Qm]
   simp only [Option.any_some,h0,decide_false,Bool.false_or]
   cases mH s.aFe[k]<;>cases Op.bytesLess s.aFe[k-1].toList s.aFe[k].toList<;>simp
 ·simp only [kE];rw [if_neg qk,dX hs.Name,qA,bX,qA,bX,qA,aZ,aZ]
def Dx (l:List M.aO) (k:Nat):Bool:=(l[k]?).any (λx=>inR x.aFC 1 1000000&&inR x.Seq 0 1000000)&&(decide (k=0)||(l[k-1]?).any λy=>(l[k]?).any λx=>decide (y.aFC<x.aFC))
def EE (l:List M.bD) (k:Nat):Bool:=(l[k]?).any De
def EZ (s:M.aFG):Bool:=(List.range s.aO.length).all (Dx s.aO)&&((List.range s.aFV.length).all (EE s.aFV)&&(hJ s.aC&&((s.aC.Name.toList==(⟨#[110,111,116,101,115]⟩:ByteArray).toList)&&decide ((s.aO.length:Int)<=60))))
theorem A8 {s:M.aFG} (hs:s.ok):oU s=some (EZ s):=by
 have hm:=le_max hs.aO.1
 have hm2:=le_max hs.aFV.1
 unfold oU EZ
 rw [nH (L:=gS s) (g:=Dx s.aO) (F:=some false) (E:=jJ s fuel 0) hs.aO.1 (λn k hk => ?_) (λn => ?_),
  nH (L:=jJ s) (g:=EE s.aFV) (F:=some false) (E:=some (hJ s.aC&&((s.aC.Name.toList==(⟨#[110,111,116,101,115]⟩:ByteArray).toList)&&decide ((s.aO.length:Int)<=60)))) hs.aFV.1 (λn k hk => ?_) (λn => ?_),aZ,aZ]
 ·have hf:=hs.aFV.2 _ (qG hk);simp only [jJ];rw [if_pos (aY hk),aK hk,qA,bE qb,Ao hf,qA,fX];unfold EE;rw [qF hk,Option.any_some]
 ·simp only [jJ];rw [if_neg qk,yP hs.aC,qA,aZ,aZ]
 ·simp only [gS]
  rw [if_pos (aY hk),aK hk,qA,bE qb,cD,qA,cD,qA]
  unfold Dx
  rw [qF hk]
  generalize gS s n ((k+1:Nat):Int)=Z
  by_cases h0:k=0
  ·subst h0;simp only [Option.any_some];cases inR s.aO[0].aFC 1 1000000<;>cases inR s.aO[0].Seq 0 1000000<;>simp
  ·have e:i64.wrap ((k:Int)-1)=((k-1:Nat):Int):=by rw [bL qb qb];omega
   have hk1:k-1<s.aO.length:=by omega
   have ed:decide (s.aO[k-1].aFC>=s.aO[k].aFC) = !decide (s.aO[k-1].aFC<s.aO[k].aFC):=by rw [Bool.eq_iff_iff];simp
   rw [if_pos (c:=(decide ((k:Int)>0))=true) qc,e,aK hk1,qA,qF hk1,ed]
   simp only [Option.any_some,h0,decide_false,Bool.false_or]
   cases inR s.aO[k].aFC 1 1000000<;>cases inR s.aO[k].Seq 0 1000000<;>cases decide (s.aO[k-1].aFC<s.aO[k].aFC)<;>simp
 ·simp only [gS];rw [if_neg qk]
theorem J6 {s:M.aFG} (hs:s.ok):zO s=some (EZ s):=by
 have hm:=le_max hs.aO.1
 have hm2:=le_max hs.aFV.1
 unfold zO EZ
 rw [nH (L:=gT s) (g:=Dx s.aO) (F:=some false) (E:=jN s fuel 0) hs.aO.1 (λn k hk => ?_) (λn => ?_),
  nH (L:=jN s) (g:=EE s.aFV) (F:=some false) (E:=some (hJ s.aC&&((s.aC.Name.toList==(⟨#[110,111,116,101,115]⟩:ByteArray).toList)&&decide ((s.aO.length:Int)<=60)))) hs.aFV.1 (λn k hk => ?_) (λn => ?_),aZ,aZ]
 ·have hf:=hs.aFV.2 _ (qG hk);simp only [jN];rw [if_pos (aY hk),aK hk,qA,bE qb,Ci hf,qA,fX];unfold EE;rw [qF hk,Option.any_some]
 ·simp only [jN];rw [if_neg qk,C9 hs.aC,qA,aZ,aZ]
 ·simp only [gT]
  rw [if_pos (aY hk),aK hk,qA,bE qb,bX,qA,bX,qA]
  unfold Dx
  rw [qF hk]
  generalize gT s n ((k+1:Nat):Int)=Z
  by_cases h0:k=0
  ·subst h0;simp only [Option.any_some];cases inR s.aO[0].aFC 1 1000000<;>cases inR s.aO[0].Seq 0 1000000<;>simp
  ·have e:i64.wrap ((k:Int)-1)=((k-1:Nat):Int):=by rw [bL qb qb];omega
   have hk1:k-1<s.aO.length:=by omega
   have ed:decide (s.aO[k].aFC<=s.aO[k-1].aFC) = !decide (s.aO[k-1].aFC<s.aO[k].aFC):=by rw [Bool.eq_iff_iff];simp
   rw [if_pos (c:=(decide ((k:Int)>0))=true) qc,e,aK hk1,qA,qF hk1,ed]
   simp only [Option.any_some,h0,decide_false,Bool.false_or]
   cases inR s.aO[k].aFC 1 1000000<;>cases inR s.aO[k].Seq 0 1000000<;>cases decide (s.aO[k-1].aFC<s.aO[k].aFC)<;>simp
 ·simp only [gT];rw [if_neg qk]
def DD (p:M.bC) (k:Nat):Bool:=(p.aU[k]?).any λx=>mH x.aFo&&(x.aE3==p.aE3)
def Bv (p:M.bC):Bool:=(List.range p.aU.length).all (DD p)&&(inR p.Id 1 1000000000000&&(mH p.aFD&&(mH p.Top&&(inR p.aE3 1 1000000000000&&decide ((p.aU.length:Int)<=8)))))
theorem Ck {p:M.bC} (hp:p.ok):rX p=some (Bv p):=by have hm:=le_max hp.aU.1;unfold rX Bv;rw [nH (L:=pT p) (g:=DD p) (F:=some false) (E:=some (inR p.Id 1 1000000000000&&(mH p.aFD&&(mH p.Top&&(inR p.aE3 1 1000000000000&&decide ((p.aU.length:Int)<=8)))))) hp.aU.1 (λn k hk => ?_) (λn => ?_),aZ];(have hf:=hp.aU.2 _ (qG hk);simp only [pT];rw [if_pos (aY hk),aK hk,qA,bE qb,cZ hf.aFo,qA];unfold DD;rw [qF hk,Option.any_some];simp only [tM,fX,Vq]);·simp only [pT];rw [if_neg qk];simp only [cZ hp.aFD,cZ hp.Top,cD,qA,aZ]
theorem D4 {p:M.bC} (hp:p.ok):xM p=some (Bv p):=by have hm:=le_max hp.aU.1;unfold xM Bv;rw [nH (L:=rC p) (g:=DD p) (F:=some false) (E:=some (inR p.Id 1 1000000000000&&(mH p.aFD&&(mH p.Top&&(inR p.aE3 1 1000000000000&&decide ((p.aU.length:Int)<=8)))))) hp.aU.1 (λn k hk => ?_) (λn => ?_),aZ];(have hf:=hp.aU.2 _ (qG hk);simp only [rC];rw [if_pos (aY hk),aK hk,qA,bE qb,dX hf.aFo,qA];unfold DD;rw [qF hk,Option.any_some];simp only [tM,fX,Vq]);·simp only [rC];rw [if_neg qk];simp only [dX hp.aFD,dX hp.Top,bX,qA,aZ]
theorem Im {s:ByteArray} (hs:s.size<=maxLen):wA s=some (N5 s 30 true):=by
 have hm:=le_max hs
 unfold wA N5
 rw [HG (L:=dM s) (g:=I4 true) (F:=some false) (E:=some (inR (s.size:Int) 1 30)) hs (λn k hk => ?_) (λn => ?_),aZ]
 ·simp only [dM]
  rw [if_pos (aY hk),GQ hk,qA,bE qb]
  generalize s[k]=b
  unfold I4
  generalize dM s n ((k+1:Nat):Int)=Z
  simp only [Bool.or_eq_true,qM,qL,Bool.not_eq_true',decide_eq_false_iff_not,Bool.true_and,bne_iff_ne,ne_eq]
  repeat' split
  all_goals first | rfl | (exfalso;omega)
 ·simp only [dM];rw [if_neg qk,cD,qA]
theorem II {s:ByteArray} (hs:s.size<=maxLen):wE s=some (N5 s 30 true):=by unfold wE;rw [GU hs,qA]
def OC (x y:M.mZ):Bool:=x.aF0&&((y.Name.toList==x.Name.toList)&&(!y.aF0||(!x.aFj || !y.aFj)))
def HC (l:List M.mZ) (k:Nat) (x:M.mZ):Bool:=(List.range k).all λj => !((l[j]?).any (OC x))
def KZ (l:List M.mZ) (k:Nat):Bool:=(l[k]?).any λx=>N5 x.Name 30 true&&(inR x.bC 1 1000000000000&&HC l k x)
def HO (t:M.aR):Bool:=(List.range t.aFM.length).all (KZ t.aFM)&&decide ((t.aFM.length:Int)<=12)
theorem Rs {t:M.aR} {x:M.mZ} {k:Nat} {K:Int->Option Bool} (hm:t.aFM.length<=maxLen) (hk:k<=t.aFM.length):cO t (k:Int) x K fuel 0=if HC t.aFM k x=true then K (k:Int) else some false:=by
 have hm':=le_max hm
 refine nH (L:=cO t (k:Int) x K) (g:=λj => !((t.aFM[j]?).any (OC x))) (F:=some false) (E:=K (k:Int)) (Nat.le_trans hk hm) (λn j hj => ?_) (λn => ?_)
 ·have hj':j<t.aFM.length:=by omega
  simp only [cO]
  rw [if_pos (aY hj),aK hj',qA,bE qb,qF hj',Option.any_some]
  unfold OC
  generalize cO t (k:Int) x K n ((j+1:Nat):Int)=Z
  cases x.aF0<;>cases (t.aFM[j].Name.toList==x.Name.toList)<;>cases t.aFM[j].aF0<;>cases x.aFj<;>cases t.aFM[j].aFj<;>simp
 ·simp only [cO];rw [if_neg qk]
theorem Re {t:M.aR} {x:M.mZ} {k:Nat} {Z0:Option Bool} (hm:t.aFM.length<=maxLen) (hk:k<=t.aFM.length):cP t (k:Int) x (λ_=>Z0) fuel 0=if HC t.aFM k x=true then Z0 else some false:=by
 have hm':=le_max hm
 have hl:(t.aFM.take k).length=k:=by rw [qT];omega
 have:=nH (N:=k) (L:=cP t (k:Int) x (λ_=>Z0)) (g:=λj => !((t.aFM[j]?).any (OC x))) (F:=some false) (E:=Z0) (Nat.le_trans hk hm) (λn j hj => ?_) (λn => ?_)
 ·exact this
 ·have hj':j<t.aFM.length:=by omega
  simp only [cP,qH,hl]
  rw [if_pos (aY hj),aK (by rw [hl];exact hj),qA,bE qb,qF hj',Option.any_some,List.getElem_take]
  unfold OC
  generalize cP t (k:Int) x (λ_=>Z0) n ((j+1:Nat):Int)=Z
  cases x.aF0<;>cases (t.aFM[j].Name.toList==x.Name.toList)<;>cases t.aFM[j].aF0<;>cases x.aFj<;>cases t.aFM[j].aFj<;>simp
 ·simp only [cP,qH,hl];rw [if_neg qk]
theorem HI {t:M.aR} (ht:t.ok):vG t=some (HO t):=by have hm:=le_max ht.aFM.1;unfold vG HO;rw [nH (L:=fI t) (g:=KZ t.aFM) (F:=some false) (E:=some (decide ((t.aFM.length:Int)<=12))) ht.aFM.1 (λn k hk => ?_) (λn => ?_),aZ];(have hf:=ht.aFM.2 _ (qG hk);simp only [fI];rw [if_pos (aY hk),aK hk,qA,bE qb,Im hf.Name,qA,cD,qA,Rs ht.aFM.1 qb];unfold KZ;rw [qF hk,Option.any_some];generalize fI t n ((k+1:Nat):Int)=Z;cases N5 t.aFM[k].Name 30 true<;>cases inR t.aFM[k].bC 1 1000000000000<;>cases HC t.aFM k t.aFM[k]<;>simp);·simp only [fI];rw [if_neg qk]
theorem Hm {t:M.aR} (ht:t.ok):uN t=some (HO t):=by have hm:=le_max ht.aFM.1;unfold uN HO;rw [nH (L:=fL t) (g:=KZ t.aFM) (F:=some false) (E:=some (decide ((t.aFM.length:Int)<=12))) ht.aFM.1 (λn k hk => ?_) (λn => ?_),aZ];(have hf:=ht.aFM.2 _ (qG hk);simp only [fL];rw [if_pos (aY hk),aK hk,qA,bE qb,II hf.Name,qA,bX,qA,Cb qb,qA,Re ht.aFM.1 qb];unfold KZ;rw [qF hk,Option.any_some];generalize fL t n ((k+1:Nat):Int)=Z;cases N5 t.aFM[k].Name 30 true<;>cases inR t.aFM[k].bC 1 1000000000000<;>cases HC t.aFM k t.aFM[k]<;>simp);·simp only [fL];rw [if_neg qk]
theorem Pd:pB.length=3:=rfl
theorem Tz {a:ByteArray} {k:Nat} (hk:k<pB.length):(CK a==(k:Int))=(a.toList==(pB[k]).toList):=by
 have d : ∀i j:Nat,(hi:i<pB.length)->(hj:j<pB.length)->(pB[i]).toList=(pB[j]).toList->i=j:=by
  intro i j hi hj h
  have e0:(⟨#[98,97,110,107]⟩:ByteArray).toList=[98,97,110,107]:=by rw [ByteArray.toList_eq]
  have e1:(⟨#[110,101,119,115]⟩:ByteArray).toList=[110,101,119,115]:=by rw [ByteArray.toList_eq]
  have e2:(⟨#[115,104,111,112]⟩:ByteArray).toList=[115,104,111,112]:=by rw [ByteArray.toList_eq]
  rw [Pd] at hi hj
  rcases i with _ | _ | _ | i<;>rcases j with _ | _ | _ | j<;>first | rfl | (exfalso;omega) | (exfalso;simp [pB,e0,e1,e2] at h)
 have hf:=gD (f:=λx:ByteArray=>x.toList==a.toList) (xs:=pB)
 have ha:=Ho (λx:ByteArray=>x.toList==a.toList) pB
 unfold CK
 rw [Bool.eq_iff_iff,beq_iff_eq,beq_iff_eq]
 constructor
 ·intro h
  have h2:pB.findIdx? (λx:ByteArray=>x.toList==a.toList)=some k:=by
   unfold lA at h
   cases e:pB.findIdx? (λx:ByteArray=>x.toList==a.toList) with
   | none=>rw [e] at h;simp only at h;omega
   | some i=>rw [e] at h;simp only at h;congr 1;omega
  have:=(List.findIdx?_eq_some_iff_getElem.1 h2).2.1
  exact (eq_of_beq this).symm
 ·intro h
  have hex:pB.any (λx:ByteArray=>x.toList==a.toList)=true:=List.any_eq_true.2 ⟨pB[k],qG hk,by rw [h];exact beq_self_eq_true _⟩
  rw [hex] at ha
  obtain ⟨j,e,hj⟩:=hf (by have:=of_decide_eq_true ha;omega)
  rw [e]
  have h2:pB.findIdx? (λx:ByteArray=>x.toList==a.toList)=some j:=by
   unfold lA at e
   cases e2:pB.findIdx? (λx:ByteArray=>x.toList==a.toList) with
   | none=>rw [e2] at e;simp only at e;omega
   | some i=>rw [e2] at e;simp only at e;congr 1;omega
  have:=(List.findIdx?_eq_some_iff_getElem.1 h2).2.1
  rw [d j k hj hk (by rw [eq_of_beq this,h])]
def Dg (w:M.World) (k:Nat):Bool:=(w.aFF[k]?).any λx=>Bv x&&(decide (x.Id<w.aFJ)&&((decide (k=0)||(w.aFF[k-1]?).any λy=>decide (y.Id<x.Id))&&decide (0<=lA (nAt x.aFD x.Top) w.aA.aE8)))
def GH (w:M.World) (k:Nat):Bool:=(w.aFR[k]?).any λx=>Kn x&&((pB[k]?).any (λnm=>x.Name.toList==nm.toList)&&(w.aFN[k]?).any EZ)
def wV (w:M.World):Bool:=decide (w.aFR.length=3)&&(decide (w.aFN.length=3)&&(decide (w.aFF.length<=6)&&((List.range 3).all (GH w)&&((List.range w.aFF.length).all (Dg w)&&(inR w.Now 0 999999990000&&(inR w.aFC 1 1000000&&(rT w.aA&&(inR w.aFJ 1 1000000000000&&HO w.aFM))))))))
theorem ES {w:M.World} (hz:M.World.sz w<=1048576):M.aA.sz w.aA<=1048576:=by simp only [M.World.sz] at hz;omega
theorem RF {w:M.World} (hw:w.ok) {E:Option Bool} (hE : ∀n,dS w (n+1) (w.aFF.length:Int)=E):dS w fuel 0=if (List.range w.aFF.length).all (Dg w)=true then E else some false:=by
 have hm:=le_max hw.aFF.1
 refine nH (L:=dS w) (g:=Dg w) (F:=some false) (E:=E) hw.aFF.1 (λn k hk => ?_) hE
 have hf:=hw.aFF.2 _ (qG hk)
 simp only [dS]
 rw [if_pos (aY hk),aK hk,qA,bE qb,Ck hf,qA,wB hw.aA,qA]
 unfold Dg
 rw [qF hk,Option.any_some]
 generalize dS w n ((k+1:Nat):Int)=Z
 have e1:decide (w.aFF[k].Id>=w.aFJ) = !decide (w.aFF[k].Id<w.aFJ):=by rw [Bool.eq_iff_iff];simp
 have e2:decide (lA (nAt w.aFF[k].aFD w.aFF[k].Top) w.aA.aE8<0) = !decide (0<=lA (nAt w.aFF[k].aFD w.aFF[k].Top) w.aA.aE8):=by rw [Bool.eq_iff_iff];simp
 rw [e1]
 simp only [e2]
 by_cases h0:k=0
 ·subst h0;cases Bv w.aFF[0]<;>cases decide (w.aFF[0].Id<w.aFJ)<;>cases decide (0<=lA (nAt w.aFF[0].aFD w.aFF[0].Top) w.aA.aE8)<;>simp
 ·have e:i64.wrap ((k:Int)-1)=((k-1:Nat):Int):=by rw [bL qb qb];omega
  have hk1:k-1<w.aFF.length:=by omega
  have e3:decide (w.aFF[k-1].Id>=w.aFF[k].Id) = !decide (w.aFF[k-1].Id<w.aFF[k].Id):=by rw [Bool.eq_iff_iff];simp
  rw [if_pos (c:=(decide ((k:Int)>0))=true) qc,e,aK hk1,qA,qF hk1,e3]
  simp only [Option.any_some,h0,decide_false,Bool.false_or]
  cases Bv w.aFF[k]<;>cases decide (w.aFF[k].Id<w.aFJ)<;>cases decide (w.aFF[k-1].Id<w.aFF[k].Id)<;>cases decide (0<=lA (nAt w.aFF[k].aFD w.aFF[k].Top) w.aA.aE8)<;>simp
theorem Q0 {w:M.World} (hw:w.ok) {E:Option Bool} (hE : ∀n,eW w (n+1) (w.aFF.length:Int)=E):eW w fuel 0=if (List.range w.aFF.length).all (Dg w)=true then E else some false:=by
 have hm:=le_max hw.aFF.1
 refine nH (L:=eW w) (g:=Dg w) (F:=some false) (E:=E) hw.aFF.1 (λn k hk => ?_) hE
 have hf:=hw.aFF.2 _ (qG hk)
 simp only [eW]
 rw [if_pos (aY hk),aK hk,qA,bE qb,D4 hf,qA,DN hw.aA,qA]
 unfold Dg
 rw [qF hk,Option.any_some]
 generalize eW w n ((k+1:Nat):Int)=Z
 have e1:decide (w.aFF[k].Id>=w.aFJ) = !decide (w.aFF[k].Id<w.aFJ):=by rw [Bool.eq_iff_iff];simp
 have e2:decide (lA (nAt w.aFF[k].aFD w.aFF[k].Top) w.aA.aE8<0) = !decide (0<=lA (nAt w.aFF[k].aFD w.aFF[k].Top) w.aA.aE8):=by rw [Bool.eq_iff_iff];simp
 rw [e1]
 simp only [e2]
 by_cases h0:k=0
 ·subst h0;cases Bv w.aFF[0]<;>cases decide (w.aFF[0].Id<w.aFJ)<;>cases decide (0<=lA (nAt w.aFF[0].aFD w.aFF[0].Top) w.aA.aE8)<;>simp
 ·have e:i64.wrap ((k:Int)-1)=((k-1:Nat):Int):=by rw [bL qb qb];omega
  have hk1:k-1<w.aFF.length:=by omega
  have e3:decide (w.aFF[k].Id<=w.aFF[k-1].Id) = !decide (w.aFF[k-1].Id<w.aFF[k].Id):=by rw [Bool.eq_iff_iff];simp
  rw [if_pos (c:=(decide ((k:Int)>0))=true) qc,e,aK hk1,qA,qF hk1,e3]
  simp only [Option.any_some,h0,decide_false,Bool.false_or]
  cases Bv w.aFF[k]<;>cases decide (w.aFF[k].Id<w.aFJ)<;>cases decide (w.aFF[k-1].Id<w.aFF[k].Id)<;>cases decide (0<=lA (nAt w.aFF[k].aFD w.aFF[k].Top) w.aA.aE8)<;>simp
theorem E8 {w:M.World} (hw:w.ok) (hz : ∀b∈w.aA.aE8,M.aE5.sz b.bV.aFT<=1048576):iJ w=some (wV w):=by
 unfold iJ wV
 by_cases h1:w.aFR.length=3
 ·by_cases h2:w.aFN.length=3
  ·have e3:decide ((w.aFF.length:Int)>6) = !decide (w.aFF.length<=6):=by rw [Bool.eq_iff_iff];simp;omega
   rw [if_neg (by rw [h1];simp),if_neg (by rw [h2];simp),e3,decide_eq_true h1,decide_eq_true h2]
   rw [nH (N:=3) (L:=lF w) (g:=GH w) (F:=some false) (E:=dS w fuel 0) qj (λn k hk => ?_) (λn => ?_),
    RF hw (E:=some (inR w.Now 0 999999990000&&(inR w.aFC 1 1000000&&(rT w.aA&&(inR w.aFJ 1 1000000000000&&HO w.aFM))))) (λn => ?_)]
   ·cases decide (w.aFF.length<=6)<;>cases (List.range 3).all (GH w)<;>cases (List.range w.aFF.length).all (Dg w)<;>simp
   ·simp only [dS];rw [if_neg qk];simp only [cD,Bx hw.aA hz,HI hw.aFM,qA,aZ]
   ·have hk1:k<w.aFR.length:=by omega
    have hk2:k<w.aFN.length:=by omega
    have hk3:k<pB.length:=by rw [Pd];exact hk
    have hn:sV=some pB:=rfl
    simp only [lF,hn,qA]
    rw [if_pos qc,aK hk1,qA,bE qb,D1 (hw.aFR.2 _ (qG hk1)),qA,aK hk3,qA,aK hk2,qA,A8 (hw.aFN.2 _ (qG hk2)),qA]
    unfold GH
    rw [qF hk1,qF hk2,qF hk3]
    simp only [Option.any_some]
    generalize lF w n ((k+1:Nat):Int)=Z
    have gen : ∀(a b c:Bool),(if (!a)=true then some false else if (!b)=true then some false else if (!c)=true then some false else Z)=if (a&&(b&&c))=true then Z else some false:=by intro a b c;cases a<;>cases b<;>cases c<;>rfl
    exact gen _ _ _
   ·simp only [lF];rw [if_neg qd]
  ·rw [if_neg (by rw [h1];simp),if_pos qc,decide_eq_false h2];simp
 ·rw [if_pos qc,decide_eq_false h1];simp
theorem KN {w:M.World} (hw:w.ok) (hz : ∀b∈w.aA.aE8,M.aE5.sz b.bV.aFT<=1048576):vM w=some (wV w):=by
 unfold vM wV
 have e3:decide ((w.aFF.length:Int)>6) = !decide (w.aFF.length<=6):=by rw [Bool.eq_iff_iff];simp;omega
 have e1:((w.aFR.length:Int) != 3) = !decide (w.aFR.length=3):=by rw [Bool.eq_iff_iff];simp;omega
 have e2:((w.aFN.length:Int) != 3) = !decide (w.aFN.length=3):=by rw [Bool.eq_iff_iff];simp;omega
 simp only [bX,Ia hw.aA hz,Hm hw.aFM,qA,e1,e2,e3]
 by_cases h1:w.aFR.length=3
 ·by_cases h2:w.aFN.length=3
  ·rw [Q0 hw (E:=iR w fuel 0) (λn=>by
     simp only [eW]
     rw [if_neg qk]),
    nH (N:=3) (L:=iR w) (g:=GH w) (F:=some false) (E:=some true) qj (λn k hk => ?_) (λn => ?_)]
   ·rw [decide_eq_true h1,decide_eq_true h2];cases inR w.Now 0 999999990000<;>cases inR w.aFC 1 1000000<;>cases rT w.aA<;>cases decide (w.aFF.length<=6)<;>cases inR w.aFJ 1 1000000000000<;>cases HO w.aFM<;>cases (List.range 3).all (GH w)<;>cases (List.range w.aFF.length).all (Dg w)<;>rfl
   ·have hk1:k<w.aFR.length:=by omega
    have hk2:k<w.aFN.length:=by omega
    have hk3:k<pB.length:=by rw [Pd];exact hk
    simp only [iR]
    rw [if_pos (aY hk1),aK hk1,qA,bE qb,DT (hw.aFR.2 _ (qG hk1)),qA,Ds,qA,aK hk2,qA,J6 (hw.aFN.2 _ (qG hk2)),qA,tM,Tz hk3]
    unfold GH
    rw [qF hk1,qF hk2,qF hk3]
    simp only [Option.any_some]
    generalize iR w n ((k+1:Nat):Int)=Z
    have gen : ∀(a b c:Bool),(if (!a)=true then some false else if b=true then (if (!c)=true then some false else Z) else some false)=if (a&&(b&&c))=true then Z else some false:=by intro a b c;cases a<;>cases b<;>cases c<;>rfl
    exact gen _ _ _
   ·simp only [iR];rw [if_neg (by rw [h1];simp)]
  ·rw [decide_eq_true h1,decide_eq_false h2];cases inR w.Now 0 999999990000<;>cases inR w.aFC 1 1000000<;>cases rT w.aA<;>cases decide (w.aFF.length<=6)<;>cases inR w.aFJ 1 1000000000000<;>cases HO w.aFM<;>rfl
 ·rw [decide_eq_false h1];cases inR w.Now 0 999999990000<;>cases inR w.aFC 1 1000000<;>cases rT w.aA<;>cases decide (w.aFF.length<=6)<;>cases inR w.aFJ 1 1000000000000<;>cases HO w.aFM<;>rfl
theorem PX {w:M.World} (hz:M.World.sz w<=1048576) : ∀b∈w.aA.aE8,M.aE5.sz b.bV.aFT<=1048576:=λb hb=>DC (by have h1:=ES hz;have h2:=dV (f:=M.aJ.sz) hb;simp only [M.aA.sz] at h1;omega)
theorem AB {w:M.World} (hw:w.ok) (hz:M.World.sz w<=1048576):iJ w=some (wV w):=E8 hw (PX hz)
theorem F6 {w:M.World} (hw:w.ok) (hz:M.World.sz w<=1048576):vM w=some (wV w):=KN hw (PX hz)
def okC (b:List Int) (i h:Int):Prop:=b.length<=1048576/\(∀x∈b,0<=x/\x<=255)/\0<=i/\i<=1048576/\inI h
def Dr {α:Type} (b:List Int) (P:α->Prop) (o:Option (Int×Int×α)):Prop:=∃i h r,o=some (i,h,r)/\okC b i h/\P r
theorem Dr.ret {α:Type} {b:List Int} {P:α->Prop} {i h:Int} {r:α} (hc:okC b i h) (hp:P r):Dr b P (some (i,h,r)):=⟨i,h,r,rfl,hc,hp⟩
theorem Dr.bnd {α β:Type} {b:List Int} {P:β->Prop} {Q:α->Prop} {o:Option (Int×Int×α)} {f:Int×Int×α->Option (Int×Int×β)} (ho:Dr b Q o) (hf : ∀i h r,okC b i h->Q r->Dr b P (f (i,h,r))):Dr b P (o.bind f):=by obtain ⟨i,h,r,rfl,hc,hq⟩:=ho;exact hf i h r hc hq
theorem Dr.FZ {α β:Type} {b:List Int} {P:β->Prop} {Q:α->Prop} {o:Option α} {f:α->Option (Int×Int×β)} (ho : ∃r,o=some r/\Q r) (hf : ∀r,Q r->Dr b P (f r)):Dr b P (o.bind f):=by obtain ⟨r,rfl,hq⟩:=ho;exact hf r hq
theorem Dr.mono {α:Type} {b:List Int} {P Q:α->Prop} {o:Option (Int×Int×α)} (h : ∀r,P r->Q r) (ho:Dr b P o):Dr b Q o:=by obtain ⟨i,h',r,e,hc,hp⟩:=ho;exact ⟨i,h',r,e,hc,h r hp⟩
theorem A5 {σ R:Type} {L:Nat->Int->σ->Option R} {I:Nat->σ->Prop} {Q:Option R->Prop} (h1 : ∀n (k:Nat) s,I (k+1) s->(∀s',I k s'->Q (L n (k:Int) s'))->Q (L (n+1) ((k+1:Nat):Int) s)) (h0 : ∀n s,I 0 s->Q (L (n+1) 0 s)) : ∀(n k:Nat) (s:σ),k<n->I k s->Q (L n (k:Int) s)
 | 0,_,_,h,_=>by omega
 | n+1,0,s,_,hi=>h0 n s hi
 | n+1,k+1,s,h,hi=>h1 n k s hi λs' hi'=>A5 h1 h0 n k s' qb hi'
theorem WM {σ R:Type} {N:Nat} {L:Nat->Int->σ->Option R} {I:Nat->σ->Prop} {Q:Option R->Prop} (h1 : ∀n (k:Nat) s,k<N->I k s->(∀s',I (k+1) s'->Q (L n ((k+1:Nat):Int) s'))->Q (L (n+1) (k:Int) s)) (h2 : ∀n s,I N s->Q (L (n+1) (N:Int) s)) : ∀(n k:Nat) (s:σ),N-k<n->k<=N->I k s->Q (L n (k:Int) s)
 | 0,_,_,h,_,_=>by omega
 | n+1,k,s,h,hk,hi=>by
  rcases Nat.lt_or_ge k N with hlt | hge
  ·exact h1 n k s hlt hi λs' hi'=>WM h1 h2 n (k+1) s' qb qb hi'
  ·have e:k=N:=by omega
   subst e
   exact h2 n s hi
theorem lT {k:Nat} (h:k<=9223372036854775808):k<fuel:=by unfold fuel;omega
theorem NH (x:BitVec IntKind.i64.bits):0<=i64.wrap ((x&&&BitVec.ofInt IntKind.i64.bits 255).toNat:Int)/\i64.wrap ((x&&&BitVec.ofInt IntKind.i64.bits 255).toNat:Int)<=255:=by
 have h1:(x&&&BitVec.ofInt IntKind.i64.bits 255).toNat<=255:=by rw [BitVec.toNat_and];exact Nat.le_trans Nat.and_le_right qe
 rw [bL qb qb]
 omega
theorem G9 {b:List Int} {i h:Int} (hc:okC b i h):Dr b (λr=>0<=r/\r<=255) (rY (⟨b,i,h⟩:M.aQ)):=by
 obtain ⟨h1,h2,h3,h4,h5⟩:=hc
 unfold rY
 by_cases hl:i<(b.length:Int)
 ·rw [if_pos (by simpa using hl)]
  obtain ⟨k,rfl⟩:=Int.eq_ofNat_of_zero_le h3
  have hk:k<b.length:=by omega
  show Dr b _ ((idx b (k:Int)).bind _)
  rw [aK hk,qA]
  refine .ret ⟨h1,h2,?_,?_,bI _⟩ (NH _)
  ·show 0<=i64.wrap ((k:Int)+1);rw [bE qb];omega
  ·show i64.wrap ((k:Int)+1)<=_;rw [bE qb];omega
 ·rw [if_neg (by simpa using hl)];exact .ret ⟨h1,h2,h3,h4,bI _⟩ (NH _)
theorem Ph {x n:Int} (hx:0<=x) (hn:0<n):x%n<=x:=by have h1:=Int.emod_add_mul_ediv x n;have h2:0<=n*(x/n):=Int.mul_nonneg qb (Int.ediv_nonneg hx qb);omega
theorem Tr {x n:Int} (hx:0<=x) (hn:0<n):0<=Int.tmod x n/\Int.tmod x n<n:=by rw [Int.tmod_eq_emod_of_nonneg hx];exact ⟨Int.emod_nonneg _ qb,Int.emod_lt_of_pos _ hn⟩
theorem aW {b:List Int} {i h n:Int} (hc:okC b i h):Dr b (λr=>0<=r/\(0<n->r<n)/\r<=16777215) (aF (⟨b,i,h⟩:M.aQ) n):=by
 unfold aF
 by_cases h0:n<=0
 ·rw [if_pos (by simpa using h0)];exact .ret hc ⟨qb,qb,qb⟩
 ·rw [if_neg (by simpa using h0)]
  by_cases h1:n<=256
  ·rw [if_pos (by simpa using h1)]
   refine .bnd (G9 hc) λi1 v1 r1 c1 q1 => ?_
   rw [if_neg qc]
   have:=Tr q1.1 (show 0<n by omega)
   exact .ret c1 ⟨this.1,λ_=>this.2,by show Int.tmod r1 n<=_;omega⟩
  ·rw [if_neg (by simpa using h1)]
   refine .bnd (G9 hc) λi1 v1 r1 c1 q1=>.bnd (G9 c1) λi2 v2 r2 c2 q2=>.bnd (G9 c2) λi3 v3 r3 c3 q3 => ?_
   rw [if_neg qc]
   dsimp only
   rw [bL (n:=r1*65536) qb qb,bL (n:=r2*256) qb qb,bL (n:=r1*65536+r2*256) qb qb,bL qb qb]
   have:=Tr (show 0<=r1*65536+r2*256+r3 by omega) (show 0<n by omega)
   have h3:=Int.tmod_eq_emod_of_nonneg (b:=n) (show 0<=r1*65536+r2*256+r3 by omega)
   have h4:=Ph (n:=n) (show 0<=r1*65536+r2*256+r3 by omega) (show 0<n by omega)
   exact .ret c3 ⟨this.1,λ_=>this.2,qb⟩
theorem yR {b:List Int} {i h n:Int} (hc:okC b i h):Dr b (λ_=>True) (cA (⟨b,i,h⟩:M.aQ) n):=by unfold cA;exact .bnd (aW hc) λi1 v1 r1 c1 q1=>.ret c1 trivial
theorem rU {b:List Int} {i h:Int} {l:List Int} (P:Int->Prop) (hl:0<l.length) (hp : ∀x∈l,P x) (hc:okC b i h):Dr b P (bM (⟨b,i,h⟩:M.aQ) l):=by
 unfold bM
 refine .bnd (aW hc) λi1 v1 r1 c1 q1 => ?_
 dsimp only
 obtain ⟨k,rfl⟩:=Int.eq_ofNat_of_zero_le q1.1
 have:=q1.2.1 qb
 have hk:k<l.length:=by omega
 rw [aK hk,qA]
 exact .ret c1 (hp _ (qG hk))
theorem Bo {b:List Int} {i h:Int} {l:List ByteArray} (P:ByteArray->Prop) (hl:0<l.length) (hp : ∀x∈l,P x) (hc:okC b i h):Dr b P (dB (⟨b,i,h⟩:M.aQ) l):=by
 unfold dB
 refine .bnd (aW hc) λi1 v1 r1 c1 q1 => ?_
 dsimp only
 obtain ⟨k,rfl⟩:=Int.eq_ofNat_of_zero_le q1.1
 have:=q1.2.1 qb
 have hk:k<l.length:=by omega
 rw [aK hk,qA]
 exact .ret c1 (hp _ (qG hk))
theorem QK {b:List Int} : ∀(n k:Nat) (v:Int),b.length-k<n->k<=b.length->b.length<=1048576->inI v -> ∃h,mO b n v (k:Int)=some (⟨b,0,h⟩:M.aQ)/\inI h
 | 0,_,_,h,_,_,_=>by omega
 | n+1,k,v,h,hk,hl,hv=>by simp only [mO];by_cases h1:k<b.length;(rw [if_pos (aY h1)];by_cases h2:(k:Int)<4000;(rw [if_pos (by simpa using h2),aK h1,qA,bE qb];exact QK n (k+1) _ qb qb hl (bI _));·rw [if_neg (by simpa using h2)];exact ⟨v,rfl,hv⟩);·rw [if_neg qc];exact ⟨v,rfl,hv⟩
theorem XS {b:List Int} (hl:b.length<=1048576) (hb : ∀x∈b,0<=x/\x<=255) : ∃h,BX b=some (⟨b,0,h⟩:M.aQ)/\okC b 0 h:=by unfold BX;obtain ⟨h,e1,e2⟩:=QK (b:=b) fuel 0 (i64.wrap (193017+(List.length b:Int))) (lT qb) qb hl (bI _);exact ⟨h,e1,hl,hb,qb,qb,e2⟩
theorem Aw {r:Int} (h:0<=r) : ∃k:Nat,r=(k:Int):=⟨r.toNat,qb⟩
theorem JM {n:Int} (h1 : -1000000000000000<=n) (h2:n<=1000000000000000):inI n:=by unfold inI;omega
theorem D8 {s:ByteArray} (h:s.size<=8):s.size<=maxLen:=by unfold maxLen;omega
theorem wrap_small {n:Int} (h1 : -1000000000000000<=n) (h2:n<=1000000000000000):i64.wrap n=n:=bL qb qb
theorem GV {b:List Int} {i h:Int} (hc:okC b i h):Dr b (λs=>s.size<=8) (lY (⟨b,i,h⟩:M.aQ)):=by unfold lY;exact .bnd (Bo (λs=>s.size<=8) qe qe hc) λi1 v1 r1 c1 q1=>.ret c1 q1
theorem Oh {b:List Int} {i h:Int} (hc:okC b i h):Dr b (λs=>s.size<=8) (vU (⟨b,i,h⟩:M.aQ)):=by unfold vU;exact .bnd (Bo (λs=>s.size<=8) qe qe hc) λi1 v1 r1 c1 q1=>.ret c1 q1
theorem Ab {b:List Int} {i h:Int} (hc:okC b i h):Dr b (λs=>s.size<=8) (dA (⟨b,i,h⟩:M.aQ)):=by unfold dA;exact .bnd (Bo (λs=>s.size<=8) qe qe hc) λi1 v1 r1 c1 q1=>.ret c1 q1
theorem Ad {a:ByteArray}:oH a=some (CK a):=by unfold oH;rw [show sV=some pB from rfl,qA];rw [findAll (L:=jH a pB) (f:=λx:ByteArray=>x.toList==a.toList) (A:=λi=>some (i:Int)) (E:=some (-1)) LR (λm k hk => ?_) (λm => ?_),rN];(rfl);(have hk3:k<3:=hk;simp only [jH];rw [if_pos (aY hk),aK hk,qA,bE qb]);·simp only [jH];rw [if_neg qk]
def RP (d:Int):M.World:=if 1<=d/\d<=1000000 then (⟨0,true,d,(⟨([]:List M.aJ)⟩:M.aA),([]:List M.bC),1,(⟨([]:List M.mZ)⟩:M.aR),(⟨([]:List M.tB)⟩:M.aFB),
   pB.map (λx=>(⟨x,1,[(⟨#[99,111,100,101]⟩:ByteArray),(⟨#[100,97,116,97]⟩:ByteArray),(⟨#[105,110,100,101,120]⟩:ByteArray),(⟨#[115,116,121,108,101]⟩:ByteArray)],(x.toList==(⟨#[110,101,119,115]⟩:ByteArray).toList)⟩:M.aFD)),
   pB.map (λ_=>(⟨(⟨(⟨#[110,111,116,101,115]⟩:ByteArray),([]:List M.aFP),0⟩:M.aC),([]:List M.aO),([]:List M.bD)⟩:M.aFG))⟩:M.World)
  else (⟨0,false,0,(⟨([]:List M.aJ)⟩:M.aA),([]:List M.bC),0,(⟨([]:List M.mZ)⟩:M.aR),(⟨([]:List M.tB)⟩:M.aFB),([]:List M.aFD),([]:List M.aFG)⟩:M.World)
theorem Z2 : ∃n,fuel=n+4:=⟨fuel-4,qi⟩
theorem KH {d:Int}:zE d=some (RP d):=by unfold zE RP bA;by_cases h:1<=d/\d<=1000000;(rw [if_pos h,if_pos (by simpa using h.1),qA,if_neg (by simpa using h.2)];obtain ⟨n,hn⟩:=Z2;rw [hn];rfl);·rw [if_neg h];by_cases h1:1<=d;(rw [if_pos (by simpa using h1),qA,if_pos qc]);·rw [if_neg (by simpa using h1),qA,if_pos qd]
theorem Ot {l:List M.bC} {f:Int} (hl:l.length<=maxLen):yO l f=some (lA (λp:M.bC=>p.Id==f) l):=by have hm:=le_max hl;unfold yO;rw [findAll (L:=nO l f) (f:=λp:M.bC=>p.Id==f) (A:=λi=>some (i:Int)) (E:=some (-1)) hl (λm k hk => ?_) (λm => ?_),rN];(simp only [nO];rw [if_pos (aY hk),aK hk,qA,bE qb]);·simp only [nO];rw [if_neg qk]
def FK (w:M.World) (f:Int):Int:=lA (λp:M.bC=>p.Id==f) w.aFF
theorem B9 {w:M.World} {f:Int} (hw:w.ok):pW w f=some (FK w f):=by unfold pW;rw [Ot hw.aFF.1,qA];rfl
theorem El {w:M.World} {f:Int} (hw:w.ok):uI w f=some (FK w f):=by unfold uI;rw [Ey (p:=λz0=>vA z0 f) (f:=λp:M.bC=>p.Id==f) hw.aFF.1 (λx _=>rfl),qA];rfl
theorem YS {b:List Int} {i1 v1:Int} {r1:ByteArray} (c1:okC b i1 v1) (q1:r1.size<=8) : ∃r:ByteArray×Int×Int,((cA (⟨b,i1,v1⟩:M.aQ) 3).bind λaa=>(if aa.2.2=true then ((lY (⟨b,aa.1,aa.2.1⟩:M.aQ)).bind λae=>(some (ae.2.2,ae.1,ae.2.1))) else (some (r1,aa.1,aa.2.1))))=some r/\(r.1.size<=8/\okC b r.2.1 r.2.2):=by obtain ⟨i2,v2,r2,e2,c2,q2⟩:=yR (n:=3) c1;rw [e2,qA];dsimp only;split;(obtain ⟨i3,v3,r3,e3,c3,q3⟩:=GV c2;rw [e3,qA];exact ⟨_,rfl,q3,c3⟩);·exact ⟨_,rfl,q1,c2⟩
theorem RL (k:Nat):(decide (((k+1:Nat):Int)>0))=true:=decide_eq_true qb
theorem Jp : ¬(decide ((0:Int)>0))=true:=by simp
theorem JB {k:Nat} (h:k+1<=100000):i64.wrap (((k+1:Nat):Int)-1)=(k:Int):=by rw [wrap_small qb qb];omega
theorem bgI {x:Int} (h : -1000000000000000<=x/\x<=1000000000000000):inI x:=JM h.1 h.2
theorem SA {r n:Int} (q:0<=r/\(0<n->r<n)/\r<=16777215) : -1000000000000000<=r/\r<=1000000000000000:=⟨qb,qb⟩
theorem aB2 {x:Int} (q : -1000000000000<=x/\x<=1000000000000/\(x<=256\/x=1000000000000)) : -1000000000000000<=x/\x<=1000000000000000:=⟨qb,qb⟩
theorem aET {r n:Int} (q:0<=r/\(0<n->r<n)/\r<=16777215) (h0:0<n) (h:n<=1000):0<=r/\r<=1000:=⟨q.1,by have:=q.2.1 h0;omega⟩
theorem s16 {s:ByteArray} (h:s.size<=16):s.size<=maxLen:=by unfold maxLen;omega
theorem ml {n:Nat} (h:n<=1000000):n<=maxLen:=by unfold maxLen;omega
theorem AJ {α:Type} {b:Nat} {xs ys:List α} (h:xs.length+ys.length<=1000000) (hb:b<=1000):app b xs ys=some (xs++ys):=dH (Nat.le_trans (Nat.mul_le_mul h hb) qb)
def MT (k:M.Key):Prop:=M.Key.ok k/\k.aFb.size<=16
theorem mkKey {a n:Int} {s:ByteArray} (h1 : -1000000000000000<=a/\a<=1000000000000000) (h2 : -1000000000000000<=n/\n<=1000000000000000) (h3:s.size<=16):MT (⟨a,n,s⟩:M.Key):=⟨⟨bgI h1,bgI h2,s16 h3⟩,h3⟩
def Pv (k:M.Key):Prop:=k.aFU=1/\0<=k.N/\k.N<=5/\k.aFb=(⟨#[]⟩:ByteArray)
theorem Pv.any {k:M.Key} (h:Pv k):MT k:=by obtain ⟨a,n,s⟩:=k;obtain ⟨h1,h2,h3,h4⟩:=h;dsimp only at h1 h2 h3 h4;subst h4;exact mkKey qb qb qe
def MF (k:M.Key):Prop:=MT k/\(k.aFU=1->k.N<=256\/k.N=1000000000000)
theorem Pv.auto {k:M.Key} (h:Pv k):MF k:=⟨h.any,λ_=>.inl (by have:=h.2.2.1;omega)⟩
theorem xV {b:List Int} {i h:Int} (c0:okC b i h):Dr b Pv (dN (⟨b,i,h⟩:M.aQ)):=by
 unfold dN
 refine .bnd (aW c0) λi1 v1 r1 c1 q1 => ?_
 have:=q1.2.1 qb
 exact .ret c1 ⟨rfl,q1.1,by show r1<=5;omega,rfl⟩
theorem Mh {b:List Int} {i h:Int} (c0:okC b i h):Dr b (λx => -1000000000000<=x/\x<=1000000000000/\(x<=256\/x=1000000000000)) (wI (⟨b,i,h⟩:M.aQ)):=by
 unfold wI
 refine .bnd (aW c0) λi1 v1 r1 c1 q1 => ?_
 have:=q1.2.1 qb
 have:=q1.1
 exact .bnd (rU (λx => -1000000000000<=x/\x<=1000000000000/\(x<=256\/x=1000000000000)) qd (λx hx=>by simp only [List.mem_cons,qO,or_false] at hx;omega) c1) λi2 v2 r2 c2 q2=>.ret c2 q2
theorem T9 {b:List Int} {i h:Int} (c0:okC b i h):Dr b MF (AV (⟨b,i,h⟩:M.aQ)):=by
 unfold AV
 refine .bnd (Bo (λs=>s.size<=16) qe qe c0) λi1 v1 r1 c1 q1=>.bnd (aW c1) λi2 v2 r2 c2 q2 => ?_
 dsimp only
 split
 ·exact .ret c2 ⟨mkKey qb qb q1,λh=>by have h':(2:Int)=1:=h;omega⟩
 split
 ·exact .bnd (Mh c2) λi3 v3 r3 c3 q3=>.ret c3 ⟨mkKey qb (aB2 q3) q1,λh=>by have h':(3:Int)=1:=h;omega⟩
 ·exact .bnd (Mh c2) λi3 v3 r3 c3 q3=>.ret c3 ⟨mkKey qb (aB2 q3) qe,λ_=>q3.2.2⟩
theorem OZ {b:List Int} {i h:Int} (c0:okC b i h):Dr b MT (yX (⟨b,i,h⟩:M.aQ)):=by
 unfold yX
 refine .bnd (T9 c0) λi1 v1 r1 c1 q1=>.bnd (aW c1) λi2 v2 r2 c2 q2 => ?_
 dsimp only
 have hk:=q1.1
 split
 ·exact .bnd (aW c2) λi3 v3 r3 c3 q3=>.ret c3 ⟨⟨bgI (SA q3),hk.1.N,hk.1.aFb⟩,hk.2⟩
 split
 ·exact .bnd (rU (λx => -1000000000000000<=x/\x<=1000000000000000) qe qe c2) λi3 v3 r3 c3 q3=>.ret c3 ⟨⟨hk.1.aFU,bgI q3,hk.1.aFb⟩,hk.2⟩
 split
 ·exact .bnd (Bo (λs=>s.size<=16) qe qe c2) λi3 v3 r3 c3 q3=>.ret c3 ⟨⟨hk.1.aFU,hk.1.N,s16 q3⟩,q3⟩
 ·exact .ret c2 hk
def Kd (r:M.aD):Prop:=r.ok/\bW r=true
theorem T5 {r:M.aD} {a:ByteArray} {n:Int} (h:Kd r) (ha:a.size<=16) (hn : -1000000000000000<=n/\n<=1000000000000000) : ∃x,iF r a n=some x/\Kd x.1:=by
 have hz:=F4 h.2
 have hl:r.aFA.length<=1073741824:=by simp only [M.aD.sz] at hz;omega
 exact ⟨_,A7 h.1 qb (s16 ha) (bgI hn),Mr h.1 hl (s16 ha) (bgI hn),P6 h.2 _ _⟩
theorem Ye:Kd (⟨([]:List M.Field)⟩:M.aD):=⟨G8,Ec⟩
theorem Cz {b:List Int} {i h:Int} (c0:okC b i h):Dr b Kd (jV (⟨b,i,h⟩:M.aQ)):=by
 unfold jV
 refine .bnd (aW c0) λi1 v1 r1 c1 q1 => ?_
 have hN:=q1.2.2
 obtain ⟨N,rfl⟩:=Aw q1.1
 have hN:=q1.2.1 qb
 refine A5 (L:=λn v (s:(M.aD)×Int×Int)=>mL (⟨b,i,h⟩:M.aQ) n v s.2.1 s.2.2 s.1.aFA) (I:=λk s=>k<=100000/\okC b s.2.1 s.2.2/\Kd s.1) (Q:=Dr b Kd) (λn k s hi ih => ?_) (λn s hi => ?_) fuel N ((⟨([]:List M.Field)⟩:M.aD),i1,v1) (lT qb) ⟨qb,c1,Ye⟩
 ·obtain ⟨x,ci,ch⟩:=s
  obtain ⟨k0,k1,k2⟩:=hi
  dsimp only at k1 k2
  simp only [mL]
  rw [if_pos (RL k),JB k0]
  refine .bnd (Ab k1) λi3 v3 r3 c3 q3=>.bnd (aW c3) λi4 v4 r4 c4 q4=>.FZ (T5 k2 (Nat.le_trans q3 qb) (SA q4)) λy hy => ?_
  exact ih (y.1,i4,v4) ⟨qb,c4,hy⟩
 ·obtain ⟨x,ci,ch⟩:=s;obtain ⟨k0,k1,k2⟩:=hi;dsimp only at k1 k2;simp only [mL];rw [if_neg Jp];exact .ret k1 k2
theorem Xy {r:M.aD} {a:ByteArray} {n:Int} (h:Kd r) (ha:a.size<=16) (hn : -1000000000000000<=n/\n<=1000000000000000):M.aD.ok (⟨r.aFA++[(⟨a,n⟩:M.Field)]⟩:M.aD)/\M.aD.sz (⟨r.aFA++[(⟨a,n⟩:M.Field)]⟩:M.aD)<=200:=by have hz:=F4 h.2;simp only [M.aD.sz] at hz ⊢;refine ⟨⟨ml qn,λy hy => ?_⟩,?_⟩;(rcases List.mem_append.1 hy with hy | hy;(exact h.1.aFA.2 y hy);·rw [List.mem_singleton.1 hy];exact ⟨s16 ha,bgI hn⟩);·rw [xS];simp only [dG,M.Field.sz,qE,qJ,qK];omega
def P9 (r:M.aD):Prop:=r.ok/\M.aD.sz r<=200
theorem Kd.any {r:M.aD} (h:Kd r):P9 r:=⟨h.1,by have:=F4 h.2;omega⟩
theorem Xg {b:List Int} {i h:Int} (c0:okC b i h):Dr b P9 (B2 (⟨b,i,h⟩:M.aQ)):=by
 unfold B2
 refine .bnd (Cz c0) λi1 v1 r1 c1 q1=>.bnd (aW c1) λi2 v2 r2 c2 q2 => ?_
 dsimp only
 have hz:=F4 q1.2
 have hl:r1.aFA.length<=100:=by simp only [M.aD.sz] at hz;omega
 split
 ·refine .bnd (Bo (λs=>s.size<=16) qe qe c2) λi3 v3 r3 c3 q3=>.bnd (rU (λx => -1000000000000000<=x/\x<=1000000000000000) qe qe c3) λi4 v4 r4 c4 q4 => ?_
  dsimp only
  rw [AJ qs qb,qA]
  exact .ret c4 (Xy q1 q3 q4)
 split
 ·have key : ∀(n k:Nat) (r:M.aD),6-k<n->k<=6->Kd r->Dr b P9 (sO (i2,v2,r2) n (k:Int) r.aFA):=by
   intro n
   induction n with
   | zero=>intro k r h _ _;omega
   | succ n ih =>
    intro k r h hk hr
    simp only [sO]
    rcases Nat.lt_or_ge k 6 with h6 | h6
    ·have e : ∃s,idx ([(⟨#[100]⟩:ByteArray),(⟨#[101]⟩:ByteArray),(⟨#[102]⟩:ByteArray),(⟨#[103]⟩:ByteArray),(⟨#[104]⟩:ByteArray),(⟨#[105]⟩:ByteArray)]) (k:Int)=some s/\s.size<=16:=by
      have:k=0\/k=1\/k=2\/k=3\/k=4\/k=5:=by omega
      rcases this with rfl | rfl | rfl | rfl | rfl | rfl<;>exact ⟨_,rfl,qe⟩
     rw [if_pos (aY h6)]
     refine .FZ e λs hs=>.FZ (T5 hr hs qb) λy hy => ?_
     rw [bE qb]
     exact ih (k+1) y.1 qb qb hy
    ·have:k=6:=by omega
     subst this
     rw [if_neg qd]
     exact .ret c2 hr.any
  exact key fuel 0 r1 (lT qb) qb q1
 ·exact .ret c2 q1.any
def WE (s:M.aC):Prop:=s.aFZ<=256 /\ ∀x∈s.aE7,x.Key.aFU=1->x.Key.N<=s.aFZ\/x.Key.N=1000000000000
def RN (s:M.aC):Prop:=s.ok/\hJ s=true/\WE s
end Go.Proofs.YtipmihbgjolaaaaGreat.gen
