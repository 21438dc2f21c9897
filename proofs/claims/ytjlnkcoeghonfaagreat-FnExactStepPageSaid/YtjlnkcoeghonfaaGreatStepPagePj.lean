/-
  Helper text. No conditions.
-/
import Derived.Test.YtjlnkcoeghonfaaGreatStepPagePi
set_option linter.all false
namespace Go.Proofs.YtjlnkcoeghonfaaGreat.gen
open Go Go.Sh
open Go.IntKind (i64)
def wE:List ByteArray:=[(⟨#[98,97,110,107]⟩:ByteArray),(⟨#[110,101,119,115]⟩:ByteArray),(⟨#[115,104,111,112]⟩:ByteArray)]
def JM(a:ByteArray):Int:=mD (λx:ByteArray=>x.toList==a.toList) wE
theorem OZ:wE.length<=maxLen:=by unfold wE maxLen;simp
theorem GP{a:ByteArray}:nV a=some (JM a):=by unfold nV lT;rw[<-wE.eq_1];rw[findAll (L:=cH wE a) (f:=λx:ByteArray=>x.toList==a.toList) (A:=λi=>some (i:Int)) (E:=some (-1)) OZ (λm k hk=> ?_) (λm=> ?_),pB];(rfl);(have j:k<3:=hk;simp only[cH];rw[if_pos (bE hk),aH hk,qA,bG jD,Bool.beq_comm]);·simp only[cH];rw[if_neg jK]
def N2(l:List ByteArray)(k:Nat):Bool:=(l[k]?).any mL&&(decide (k=0)||(l[k-1]?).any λy=>(l[k]?).any λx=>Op.bytesLess y.toList x.toList)
def Nz(s:M.aJj):Bool:=(List.range s.aKA.length).all (N2 s.aKA)&&(mL s.Name&&(inR s.aJd 1 1000000000000&&inR (s.aKA.length:Int) 1 6))
theorem Hq{s:M.aJj}(C:s.ok):zD s=some (Nz s):=by
 have J:=le_max C.aKA.1
 unfold zD Nz
 rw[oO (L:=kO s) (g:=N2 s.aKA) (F:=some false) (E:=some (mL s.Name&&(inR s.aJd 1 1000000000000&&inR (s.aKA.length:Int) 1 6))) C.aKA.1 (λn k hk=> ?_) (λn=> ?_),bY]
 ·have I:=C.aKA.2 _ (qG hk)
  simp only[kO]
  rw[if_pos (bE hk),aH hk,qA,bG jD,dF I,qA]
  unfold N2
  rw[qF hk]
  generalize kO s n ((k+1:Nat):Int)=Z
  by_cases h0:k=0
  ·subst h0;simp only[qe];cases mL s.aKA[0]<;>simp
  ·have e:i64.wrap ((k:Int)-1)=((k-1:Nat):Int):=by rw[bK jD jD];omega
   have j:k-1<s.aKA.length:=by omega
   rw[if_pos (c:=(decide ((k:Int)>0))=true) jE,e,aH j,qA,qF j]
   simp only[qe,h0,decide_false,Bool.false_or]
   cases mL s.aKA[k]<;>cases Op.bytesLess s.aKA[k-1].toList s.aKA[k].toList<;>simp
 ·simp only[kO];rw[if_neg jK,dF C.Name,qA,cG,qA,cG,qA,bY,bY]
theorem Hl{s:M.aJj}(C:s.ok):yZ s=some (Nz s):=by
 have J:=le_max C.aKA.1
 unfold yZ Nz
 rw[oO (L:=kN s) (g:=N2 s.aKA) (F:=some false) (E:=some (mL s.Name&&(inR s.aJd 1 1000000000000&&inR (s.aKA.length:Int) 1 6))) C.aKA.1 (λn k hk=> ?_) (λn=> ?_),bY]
 ·have I:=C.aKA.2 _ (qG hk)
  simp only[kN]
  rw[if_pos (bE hk),aH hk,qA,bG jD,cT I,qA]
  unfold N2
  rw[qF hk]
  generalize kN s n ((k+1:Nat):Int)=Z
  by_cases h0:k=0
  ·subst h0;simp only[qe];cases mL s.aKA[0]<;>simp
  ·have e:i64.wrap ((k:Int)-1)=((k-1:Nat):Int):=by rw[bK jD jD];omega
   have j:k-1<s.aKA.length:=by omega
   rw[if_pos (c:=(decide ((k:Int)>0))=true) jE,e,aH j,qA,qF j,TD]
   simp only[qe,h0,decide_false,Bool.false_or]
   cases mL s.aKA[k]<;>cases Op.bytesLess s.aKA[k-1].toList s.aKA[k].toList<;>simp
 ·simp only[kN];rw[if_neg jK,cT C.Name,qA,bR,qA,bR,qA,bY,bY]
def GS(l:List M.aK)(k:Nat):Bool:=(l[k]?).any (λx=>inR x.aJq 1 1000000&&inR x.Seq 0 1000000)&&(decide (k=0)||(l[k-1]?).any λy=>(l[k]?).any λx=>decide (y.aJq<x.aJq))
def H5(l:List M.aW)(k:Nat):Bool:=(l[k]?).any Lm
def Ny(s:M.aJn):Bool:=(List.range s.aK.length).all (GS s.aK)&&((List.range s.aJ8.length).all (H5 s.aJ8)&&(lO s.aD&&((s.aD.Name.toList==(⟨#[110,111,116,101,115]⟩:ByteArray).toList)&&decide ((s.aK.length:Int)<=60))))
theorem Nq{s:M.aJn}(j:s.ok):Bw s=some (Ny s):=by
 have U:=le_max j.aK.1
 have J:=le_max j.aJ8.1
 unfold Bw Ny
 rw[oO (L:=gO s) (g:=GS s.aK) (F:=some false) (E:=jW s fuel 0) j.aK.1 (λn k hk=> ?_) (λn=> ?_),
  oO (L:=jW s) (g:=H5 s.aJ8) (F:=some false) (E:=some (lO s.aD&&((s.aD.Name.toList==(⟨#[110,111,116,101,115]⟩:ByteArray).toList)&&decide ((s.aK.length:Int)<=60)))) j.aJ8.1 (λn k hk=> ?_) (λn=> ?_),bY,bY]
 ·have I:=j.aJ8.2 _ (qG hk);simp only[jW];rw[if_pos (bE hk),aH hk,qA,bG jD,Fg I,qA,C2];unfold H5;rw[qF hk,qe]
 ·simp only[jW];rw[if_neg jK,CM j.aD,qA,bY,bY]
 ·simp only[gO]
  rw[if_pos (bE hk),aH hk,qA,bG jD,cG,qA,cG,qA]
  unfold GS
  rw[qF hk]
  generalize gO s n ((k+1:Nat):Int)=Z
  by_cases h0:k=0
  ·subst h0;simp only[qe];cases inR s.aK[0].aJq 1 1000000<;>cases inR s.aK[0].Seq 0 1000000<;>simp
  ·have e:i64.wrap ((k:Int)-1)=((k-1:Nat):Int):=by rw[bK jD jD];omega
   have C:k-1<s.aK.length:=by omega
   have ed:decide (s.aK[k-1].aJq>=s.aK[k].aJq)= !decide (s.aK[k-1].aJq<s.aK[k].aJq):=by rw[Bool.eq_iff_iff];simp
   rw[if_pos (c:=(decide ((k:Int)>0))=true) jE,e,aH C,qA,qF C,ed]
   simp only[qe,h0,decide_false,Bool.false_or]
   cases inR s.aK[k].aJq 1 1000000<;>cases inR s.aK[k].Seq 0 1000000<;>cases decide (s.aK[k-1].aJq<s.aK[k].aJq)<;>simp
 ·simp only[gO];rw[if_neg jK]
theorem M9{s:M.aJn}(j:s.ok):Bo s=some (Ny s):=by
 have U:=le_max j.aK.1
 have J:=le_max j.aJ8.1
 unfold Bo Ny
 rw[oO (L:=gQ s) (g:=GS s.aK) (F:=some false) (E:=jZ s fuel 0) j.aK.1 (λn k hk=> ?_) (λn=> ?_),
  oO (L:=jZ s) (g:=H5 s.aJ8) (F:=some false) (E:=some (lO s.aD&&((s.aD.Name.toList==(⟨#[110,111,116,101,115]⟩:ByteArray).toList)&&decide ((s.aK.length:Int)<=60)))) j.aJ8.1 (λn k hk=> ?_) (λn=> ?_),bY,bY]
 ·have I:=j.aJ8.2 _ (qG hk);simp only[jZ];rw[if_pos (bE hk),aH hk,qA,bG jD,Fe I,qA,C2];unfold H5;rw[qF hk,qe]
 ·simp only[jZ];rw[if_neg jK,Aw j.aD,qA,bY,bY]
 ·simp only[gQ]
  rw[if_pos (bE hk),aH hk,qA,bG jD,bR,qA,bR,qA]
  unfold GS
  rw[qF hk]
  generalize gQ s n ((k+1:Nat):Int)=Z
  by_cases h0:k=0
  ·subst h0;simp only[qe];cases inR s.aK[0].aJq 1 1000000<;>cases inR s.aK[0].Seq 0 1000000<;>simp
  ·have e:i64.wrap ((k:Int)-1)=((k-1:Nat):Int):=by rw[bK jD jD];omega
   have C:k-1<s.aK.length:=by omega
   have ed:decide (s.aK[k].aJq<=s.aK[k-1].aJq)= !decide (s.aK[k-1].aJq<s.aK[k].aJq):=by rw[Bool.eq_iff_iff];simp
   rw[if_pos (c:=(decide ((k:Int)>0))=true) jE,e,aH C,qA,qF C,ed]
   simp only[qe,h0,decide_false,Bool.false_or]
   cases inR s.aK[k].aJq 1 1000000<;>cases inR s.aK[k].Seq 0 1000000<;>cases decide (s.aK[k-1].aJq<s.aK[k].aJq)<;>simp
 ·simp only[gQ];rw[if_neg jK]
def Iw(p:M.bD)(k:Nat):Bool:=(p.aJ[k]?).any λx=>mL x.aKG&&(x.aJd==p.aJd)
def GJ(p:M.bD):Bool:=(List.range p.aJ.length).all (Iw p)&&(inR p.Id 1 1000000000000&&(mL p.aJj&&(mL p.Top&&(inR p.aJd 1 1000000000000&&decide ((p.aJ.length:Int)<=8)))))
theorem Hj{p:M.bD}(j:p.ok):zJ p=some (GJ p):=by have I:=le_max j.aJ.1;unfold zJ GJ;rw[oO (L:=pW p) (g:=Iw p) (F:=some false) (E:=some (inR p.Id 1 1000000000000&&(mL p.aJj&&(mL p.Top&&(inR p.aJd 1 1000000000000&&decide ((p.aJ.length:Int)<=8)))))) j.aJ.1 (λn k hk=> ?_) (λn=> ?_),bY];(have C:=j.aJ.2 _ (qG hk);simp only[pW];rw[if_pos (bE hk),aH hk,qA,bG jD,dF C.aKG,qA];unfold Iw;rw[qF hk,qe];simp only[Gy,C2,XU]);·simp only[pW];rw[if_neg jK];simp only[dF j.aJj,dF j.Top,cG,qA,bY]
theorem Hs{p:M.bD}(j:p.ok):zH p=some (GJ p):=by have I:=le_max j.aJ.1;unfold zH GJ;rw[oO (L:=rD p) (g:=Iw p) (F:=some false) (E:=some (inR p.Id 1 1000000000000&&(mL p.aJj&&(mL p.Top&&(inR p.aJd 1 1000000000000&&decide ((p.aJ.length:Int)<=8)))))) j.aJ.1 (λn k hk=> ?_) (λn=> ?_),bY];(have C:=j.aJ.2 _ (qG hk);simp only[rD];rw[if_pos (bE hk),aH hk,qA,bG jD,cT C.aKG,qA];unfold Iw;rw[qF hk,qe];simp only[Gy,C2,XU]);·simp only[rD];rw[if_neg jK];simp only[cT j.aJj,cT j.Top,bR,qA,bY]
theorem Lv{s:ByteArray}(j:s.size<=maxLen):wK s=some (Re s 30 true):=by
 have C:=le_max j
 unfold wK Re
 rw[KK (L:=dR s) (g:=L6 true) (F:=some false) (E:=some (inR (s.size:Int) 1 30)) j (λn k hk=> ?_) (λn=> ?_),bY]
 ·simp only[dR]
  rw[if_pos (bE hk),J4 hk,qA,bG jD]
  generalize s[k]=b
  unfold L6
  generalize dR s n ((k+1:Nat):Int)=Z
  simp only[Bool.or_eq_true,qM,qL,Bool.not_eq_true',decide_eq_false_iff_not,Bool.true_and,bne_iff_ne,ne_eq]
  repeat' split
  all_goals first|rfl|(exfalso;omega)
 ·simp only[dR];rw[if_neg jK,cG,qA]
theorem LQ{s:ByteArray}(j:s.size<=maxLen):wT s=some (Re s 30 true):=by unfold wT;rw[J9 j,qA]
def RH(x y:M.fE):Bool:=x.aKb&&((y.Name.toList==x.Name.toList)&&(!y.aKb||(!x.aKF|| !y.aKF)))
def KH(l:List M.fE)(k:Nat)(x:M.fE):Bool:=(List.range k).all λj=> !((l[j]?).any (RH x))
def Oc(l:List M.fE)(k:Nat):Bool:=(l[k]?).any λx=>Re x.Name 30 true&&(inR x.bD 1 1000000000000&&KH l k x)
def KT(t:M.aQ):Bool:=(List.range t.aJv.length).all (Oc t.aJv)&&decide ((t.aJv.length:Int)<=12)
theorem UB{t:M.aQ}{x:M.fE}{k:Nat}{K:Int->Option Bool}(I:t.aJv.length<=maxLen)(hk:k<=t.aJv.length):cW t (k:Int) x K fuel 0=if KH t.aJv k x=true then K (k:Int)else some false:=by
 have U:=le_max I
 refine oO (L:=cW t (k:Int) x K) (g:=λj=> !((t.aJv[j]?).any (RH x))) (F:=some false) (E:=K (k:Int)) (qg hk I) (λn j J=> ?_) (λn=> ?_)
 ·have C:j<t.aJv.length:=by omega
  simp only[cW]
  rw[if_pos (bE J),aH C,qA,bG jD,qF C,qe]
  unfold RH
  generalize cW t (k:Int) x K n ((j+1:Nat):Int)=Z
  cases x.aKb<;>cases (t.aJv[j].Name.toList==x.Name.toList)<;>cases t.aJv[j].aKb<;>cases x.aKF<;>cases t.aJv[j].aKF<;>simp
 ·simp only[cW];rw[if_neg jK]
theorem Ur{t:M.aQ}{x:M.fE}{k:Nat}{C:Option Bool}(hm:t.aJv.length<=maxLen)(hk:k<=t.aJv.length):cX t (k:Int) x (λ_=>C) fuel 0=if KH t.aJv k x=true then C else some false:=by
 have hm':=le_max hm
 have J:(t.aJv.take k).length=k:=by rw[qU];omega
 have:=oO (N:=k) (L:=cX t (k:Int) x (λ_=>C)) (g:=λj=> !((t.aJv[j]?).any (RH x))) (F:=some false) (E:=C) (qg hk hm) (λn j U=> ?_) (λn=> ?_)
 ·exact this
 ·have I:j<t.aJv.length:=by omega
  simp only[cX,qH,J]
  rw[if_pos (bE U),aH (by rw[J];exact U),qA,bG jD,qF I,qe,List.getElem_take]
  unfold RH
  generalize cX t (k:Int) x (λ_=>C) n ((j+1:Nat):Int)=Z
  cases x.aKb<;>cases (t.aJv[j].Name.toList==x.Name.toList)<;>cases t.aJv[j].aKb<;>cases x.aKF<;>cases t.aJv[j].aKF<;>simp
 ·simp only[cX,qH,J];rw[if_neg jK]
theorem KM{t:M.aQ}(j:t.ok):vV t=some (KT t):=by have I:=le_max j.aJv.1;unfold vV KT;rw[oO (L:=fN t) (g:=Oc t.aJv) (F:=some false) (E:=some (decide ((t.aJv.length:Int)<=12))) j.aJv.1 (λn k hk=> ?_) (λn=> ?_),bY];(have C:=j.aJv.2 _ (qG hk);simp only[fN];rw[if_pos (bE hk),aH hk,qA,bG jD,Lv C.Name,qA,cG,qA,UB j.aJv.1 jD];unfold Oc;rw[qF hk,qe];generalize fN t n ((k+1:Nat):Int)=Z;cases Re t.aJv[k].Name 30 true<;>cases inR t.aJv[k].bD 1 1000000000000<;>cases KH t.aJv k t.aJv[k]<;>simp);·simp only[fN];rw[if_neg jK]
theorem Kl{t:M.aQ}(j:t.ok):uT t=some (KT t):=by have I:=le_max j.aJv.1;unfold uT KT;rw[oO (L:=fO t) (g:=Oc t.aJv) (F:=some false) (E:=some (decide ((t.aJv.length:Int)<=12))) j.aJv.1 (λn k hk=> ?_) (λn=> ?_),bY];(have C:=j.aJv.2 _ (qG hk);simp only[fO];rw[if_pos (bE hk),aH hk,qA,bG jD,LQ C.Name,qA,bR,qA,Lk jD,qA,Ur j.aJv.1 jD];unfold Oc;rw[qF hk,qe];generalize fO t n ((k+1:Nat):Int)=Z;cases Re t.aJv[k].Name 30 true<;>cases inR t.aJv[k].bD 1 1000000000000<;>cases KH t.aJv k t.aJv[k]<;>simp);·simp only[fO];rw[if_neg jK]
theorem Sn:wE.length=3:=rfl
theorem Wf{a:ByteArray}{k:Nat}(hk:k<wE.length):(JM a==(k:Int))=(a.toList==(wE[k]).toList):=by
 have d:∀i j:Nat,(J:i<wE.length)->(C:j<wE.length)->(wE[i]).toList=(wE[j]).toList->i=j:=by
  intro i j J C h
  have U:(⟨#[98,97,110,107]⟩:ByteArray).toList=[98,97,110,107]:=by rw[ByteArray.toList_eq]
  have e1:(⟨#[110,101,119,115]⟩:ByteArray).toList=[110,101,119,115]:=by rw[ByteArray.toList_eq]
  have e2:(⟨#[115,104,111,112]⟩:ByteArray).toList=[115,104,111,112]:=by rw[ByteArray.toList_eq]
  rw[Sn]at J C
  rcases i with _|_|_|i<;>rcases j with _|_|_|j<;>first|rfl|(exfalso;omega)|(exfalso;simp[wE,U,e1,e2]at h)
 have hf:=eN (f:=λx:ByteArray=>x.toList==a.toList) (xs:=wE)
 have I:=Km (λx:ByteArray=>x.toList==a.toList) wE
 unfold JM
 rw[Bool.eq_iff_iff,beq_iff_eq,beq_iff_eq]
 constructor
 ·intro h
  have h2:wE.findIdx? (λx:ByteArray=>x.toList==a.toList)=some k:=by
   unfold mD at h
   cases e:wE.findIdx? (λx:ByteArray=>x.toList==a.toList)with
   |none=>rw[e]at h;simp only at h;omega
   |some i=>rw[e]at h;simp only at h;congr 1;omega
  have:=(List.findIdx?_eq_some_iff_getElem.1 h2).2.1
  exact(eq_of_beq this).symm
 ·intro h
  have hex:wE.any (λx:ByteArray=>x.toList==a.toList)=true:=List.any_eq_true.2 ⟨wE[k],qG hk,by rw[h];exact beq_self_eq_true _⟩
  rw[hex]at I
  obtain⟨j,e,C⟩:=hf (by have:=of_decide_eq_true I;omega)
  rw[e]
  have h2:wE.findIdx? (λx:ByteArray=>x.toList==a.toList)=some j:=by
   unfold mD at e
   cases e2:wE.findIdx? (λx:ByteArray=>x.toList==a.toList)with
   |none=>rw[e2]at e;simp only at e;omega
   |some i=>rw[e2]at e;simp only at e;congr 1;omega
  have:=(List.findIdx?_eq_some_iff_getElem.1 h2).2.1
  rw[d j k C hk (by rw[eq_of_beq this,h])]
def Hv(w:M.World)(k:Nat):Bool:=(w.aJu[k]?).any λx=>GJ x&&(decide (x.Id<w.aJy)&&((decide (k=0)||(w.aJu[k-1]?).any λy=>decide (y.Id<x.Id))&&decide (0<=mD (nAt x.aJj x.Top) w.aC.aJh)))
def JT(w:M.World)(k:Nat):Bool:=(w.aJ6[k]?).any λx=>Nz x&&((wE[k]?).any (λj=>x.Name.toList==j.toList)&&(w.aJ0[k]?).any Ny)
def Jn(w:M.World):Bool:=decide (w.aJ6.length=3)&&(decide (w.aJ0.length=3)&&(decide (w.aJu.length<=6)&&((List.range 3).all (JT w)&&((List.range w.aJu.length).all (Hv w)&&(inR w.Now 0 999999990000&&(inR w.aJq 1 1000000&&(vD w.aC&&(inR w.aJy 1 1000000000000&&KT w.aJv))))))))
theorem Ij{w:M.World}(hz:M.World.sz w<=1048576):M.aC.sz w.aC<=1048576:=by simp only[M.World.sz]at hz;omega
theorem UL{w:M.World}(C:w.ok){E:Option Bool}(I:∀n,dY w (n+1) (w.aJu.length:Int)=E):dY w fuel 0=if(List.range w.aJu.length).all (Hv w)=true then E else some false:=by
 have U:=le_max C.aJu.1
 refine oO (L:=dY w) (g:=Hv w) (F:=some false) (E:=E) C.aJu.1 (λn k hk=> ?_) I
 have J:=C.aJu.2 _ (qG hk)
 simp only[dY]
 rw[if_pos (bE hk),aH hk,qA,bG jD,Hj J,qA,rU C.aC,qA]
 unfold Hv
 rw[qF hk,qe]
 generalize dY w n ((k+1:Nat):Int)=Z
 have e1:decide (w.aJu[k].Id>=w.aJy)= !decide (w.aJu[k].Id<w.aJy):=by rw[Bool.eq_iff_iff];simp
 have e2:decide (mD (nAt w.aJu[k].aJj w.aJu[k].Top) w.aC.aJh<0)= !decide (0<=mD (nAt w.aJu[k].aJj w.aJu[k].Top) w.aC.aJh):=by rw[Bool.eq_iff_iff];simp
 rw[e1]
 simp only[e2]
 by_cases h0:k=0
 ·subst h0;cases GJ w.aJu[0]<;>cases decide (w.aJu[0].Id<w.aJy)<;>cases decide (0<=mD (nAt w.aJu[0].aJj w.aJu[0].Top) w.aC.aJh)<;>simp
 ·have e:i64.wrap ((k:Int)-1)=((k-1:Nat):Int):=by rw[bK jD jD];omega
  have j:k-1<w.aJu.length:=by omega
  have e3:decide (w.aJu[k-1].Id>=w.aJu[k].Id)= !decide (w.aJu[k-1].Id<w.aJu[k].Id):=by rw[Bool.eq_iff_iff];simp
  rw[if_pos (c:=(decide ((k:Int)>0))=true) jE,e,aH j,qA,qF j,e3]
  simp only[qe,h0,decide_false,Bool.false_or]
  cases GJ w.aJu[k]<;>cases decide (w.aJu[k].Id<w.aJy)<;>cases decide (w.aJu[k-1].Id<w.aJu[k].Id)<;>cases decide (0<=mD (nAt w.aJu[k].aJj w.aJu[k].Top) w.aC.aJh)<;>simp
theorem Ui{w:M.World}(C:w.ok){E:Option Bool}(I:∀n,fD w (n+1) (w.aJu.length:Int)=E):fD w fuel 0=if(List.range w.aJu.length).all (Hv w)=true then E else some false:=by
 have U:=le_max C.aJu.1
 refine oO (L:=fD w) (g:=Hv w) (F:=some false) (E:=E) C.aJu.1 (λn k hk=> ?_) I
 have J:=C.aJu.2 _ (qG hk)
 simp only[fD]
 rw[if_pos (bE hk),aH hk,qA,bG jD,Hs J,qA,sH C.aC,qA]
 unfold Hv
 rw[qF hk,qe]
 generalize fD w n ((k+1:Nat):Int)=Z
 have e1:decide (w.aJu[k].Id>=w.aJy)= !decide (w.aJu[k].Id<w.aJy):=by rw[Bool.eq_iff_iff];simp
 have e2:decide (mD (nAt w.aJu[k].aJj w.aJu[k].Top) w.aC.aJh<0)= !decide (0<=mD (nAt w.aJu[k].aJj w.aJu[k].Top) w.aC.aJh):=by rw[Bool.eq_iff_iff];simp
 rw[e1]
 simp only[e2]
 by_cases h0:k=0
 ·subst h0;cases GJ w.aJu[0]<;>cases decide (w.aJu[0].Id<w.aJy)<;>cases decide (0<=mD (nAt w.aJu[0].aJj w.aJu[0].Top) w.aC.aJh)<;>simp
 ·have e:i64.wrap ((k:Int)-1)=((k-1:Nat):Int):=by rw[bK jD jD];omega
  have j:k-1<w.aJu.length:=by omega
  have e3:decide (w.aJu[k].Id<=w.aJu[k-1].Id)= !decide (w.aJu[k-1].Id<w.aJu[k].Id):=by rw[Bool.eq_iff_iff];simp
  rw[if_pos (c:=(decide ((k:Int)>0))=true) jE,e,aH j,qA,qF j,e3]
  simp only[qe,h0,decide_false,Bool.false_or]
  cases GJ w.aJu[k]<;>cases decide (w.aJu[k].Id<w.aJy)<;>cases decide (w.aJu[k-1].Id<w.aJu[k].Id)<;>cases decide (0<=mD (nAt w.aJu[k].aJj w.aJu[k].Top) w.aC.aJh)<;>simp
theorem NN{w:M.World}(J:w.ok)(hz:∀b∈w.aC.aJh,M.aJb.sz b.bL.aJz<=1048576):AE w=some (Jn w):=by
 unfold AE Jn
 by_cases h1:w.aJ6.length=3
 ·by_cases h2:w.aJ0.length=3
  ·have e3:decide ((w.aJu.length:Int)>6)= !decide (w.aJu.length<=6):=by rw[Bool.eq_iff_iff];simp;omega
   rw[if_neg (by rw[h1];simp),if_neg (by rw[h2];simp),e3,decide_eq_true h1,decide_eq_true h2]
   rw[oO (N:=3) (L:=lQ w) (g:=JT w) (F:=some false) (E:=dY w fuel 0) jJ (λn k hk=> ?_) (λn=> ?_),
    UL J (E:=some (inR w.Now 0 999999990000&&(inR w.aJq 1 1000000&&(vD w.aC&&(inR w.aJy 1 1000000000000&&KT w.aJv))))) (λn=> ?_)]
   ·cases decide (w.aJu.length<=6)<;>cases (List.range 3).all (JT w)<;>cases (List.range w.aJu.length).all (Hv w)<;>simp
   ·simp only[dY];rw[if_neg jK];simp only[cG,Ej J.aC hz,KM J.aJv,qA,bY]
   ·have j:k<w.aJ6.length:=by omega
    have C:k<w.aJ0.length:=by omega
    have I:k<wE.length:=by rw[Sn];exact hk
    have U:xG=some wE:=rfl
    simp only[lQ,U,qA]
    rw[if_pos jE,aH j,qA,bG jD,Hq (J.aJ6.2 _ (qG j)),qA,aH I,qA,aH C,qA,Nq (J.aJ0.2 _ (qG C)),qA]
    unfold JT
    rw[qF j,qF C,qF I]
    simp only[qe]
    generalize lQ w n ((k+1:Nat):Int)=Z
    have gen:∀(a b c:Bool),(if(!a)=true then some false else if(!b)=true then some false else if(!c)=true then some false else Z)=if(a&&(b&&c))=true then Z else some false:=by intro a b c;cases a<;>cases b<;>cases c<;>rfl
    exact gen _ _ _
   ·simp only[lQ];rw[if_neg jF]
  ·rw[if_neg (by rw[h1];simp),if_pos jE,decide_eq_false h2];simp
 ·rw[if_pos jE,decide_eq_false h1];simp
theorem NW{w:M.World}(J:w.ok)(hz:∀b∈w.aC.aJh,M.aJb.sz b.bL.aJz<=1048576):Au w=some (Jn w):=by
 unfold Au Jn
 have e3:decide ((w.aJu.length:Int)>6)= !decide (w.aJu.length<=6):=by rw[Bool.eq_iff_iff];simp;omega
 have e1:((w.aJ6.length:Int) !=3)= !decide (w.aJ6.length=3):=by rw[Bool.eq_iff_iff];simp;omega
 have e2:((w.aJ0.length:Int) !=3)= !decide (w.aJ0.length=3):=by rw[Bool.eq_iff_iff];simp;omega
 simp only[bR,En J.aC hz,Kl J.aJv,qA,e1,e2,e3]
 by_cases h1:w.aJ6.length=3
 ·by_cases h2:w.aJ0.length=3
  ·rw[Ui J (E:=iJ w fuel 0) (λn=>by
     simp only[fD]
     rw[if_neg jK]),
    oO (N:=3) (L:=iJ w) (g:=JT w) (F:=some false) (E:=some true) jJ (λn k hk=> ?_) (λn=> ?_)]
   ·rw[decide_eq_true h1,decide_eq_true h2];cases inR w.Now 0 999999990000<;>cases inR w.aJq 1 1000000<;>cases vD w.aC<;>cases decide (w.aJu.length<=6)<;>cases inR w.aJy 1 1000000000000<;>cases KT w.aJv<;>cases (List.range 3).all (JT w)<;>cases (List.range w.aJu.length).all (Hv w)<;>rfl
   ·have j:k<w.aJ6.length:=by omega
    have C:k<w.aJ0.length:=by omega
    have I:k<wE.length:=by rw[Sn];exact hk
    simp only[iJ]
    rw[if_pos (bE j),aH j,qA,bG jD,Hl (J.aJ6.2 _ (qG j)),qA,GP,qA,aH C,qA,M9 (J.aJ0.2 _ (qG C)),qA,Gy,Wf I]
    unfold JT
    rw[qF j,qF C,qF I]
    simp only[qe]
    generalize iJ w n ((k+1:Nat):Int)=Z
    have gen:∀(a b c:Bool),(if(!a)=true then some false else if b=true then if(!c)=true then some false else Z else some false)=if(a&&(b&&c))=true then Z else some false:=by intro a b c;cases a<;>cases b<;>cases c<;>rfl
    exact gen _ _ _
   ·simp only[iJ];rw[if_neg (by rw[h1];simp)]
  ·rw[decide_eq_true h1,decide_eq_false h2];cases inR w.Now 0 999999990000<;>cases inR w.aJq 1 1000000<;>cases vD w.aC<;>cases decide (w.aJu.length<=6)<;>cases inR w.aJy 1 1000000000000<;>cases KT w.aJv<;>rfl
 ·rw[decide_eq_false h1];cases inR w.Now 0 999999990000<;>cases inR w.aJq 1 1000000<;>cases vD w.aC<;>cases decide (w.aJu.length<=6)<;>cases inR w.aJy 1 1000000000000<;>cases KT w.aJv<;>rfl
theorem S8{w:M.World}(hz:M.World.sz w<=1048576):∀b∈w.aC.aJh,M.aJb.sz b.bL.aJz<=1048576:=λb hb=>CD (by have h1:=Ij hz;have h2:=eD (f:=M.aJa.sz) hb;simp only[M.aC.sz]at h1;omega)
theorem Ou{w:M.World}(j:w.ok)(hz:M.World.sz w<=1048576):AE w=some (Jn w):=NN j (S8 hz)
theorem OD{w:M.World}(j:w.ok)(hz:M.World.sz w<=1048576):Au w=some (Jn w):=NW j (S8 hz)
