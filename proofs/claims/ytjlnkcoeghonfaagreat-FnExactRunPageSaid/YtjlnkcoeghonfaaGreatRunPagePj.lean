/-
  Helper text. No conditions.
-/
import Derived.Test.YtjlnkcoeghonfaaGreatRunPagePi
set_option linter.all false
namespace Go.Proofs.YtjlnkcoeghonfaaGreat.gen
open Go Go.Sh
open Go.IntKind (i64)
def wH:List ByteArray:=[(⟨#[98,97,110,107]⟩:ByteArray),(⟨#[110,101,119,115]⟩:ByteArray),(⟨#[115,104,111,112]⟩:ByteArray)]
def JS(a:ByteArray):Int:=mF (λx:ByteArray=>x.toList==a.toList) wH
theorem O3:wH.length<=maxLen:=by unfold wH maxLen;simp
theorem GW{a:ByteArray}:nY a=some (JS a):=by unfold nY lV;rw[<-wH.eq_1];rw[findAll (L:=cH wH a) (f:=λx:ByteArray=>x.toList==a.toList) (A:=λi=>some (i:Int)) (E:=some (-1)) O3 (λm k hk=> ?_) (λm=> ?_),pG];(rfl);(have j:k<3:=hk;simp only[cH];rw[if_pos (bE hk),aH hk,qA,bG jD,Bool.beq_comm]);·simp only[cH];rw[if_neg jK]
def N7(l:List ByteArray)(k:Nat):Bool:=(l[k]?).any mN&&(decide (k=0)||(l[k-1]?).any λy=>(l[k]?).any λx=>Op.bytesLess y.toList x.toList)
def NF(s:M.aJr):Bool:=(List.range s.aKJ.length).all (N7 s.aKJ)&&(mN s.Name&&(inR s.aJl 1 1000000000000&&inR (s.aKJ.length:Int) 1 6))
theorem Hw{s:M.aJr}(C:s.ok):zF s=some (NF s):=by
 have J:=le_max C.aKJ.1
 unfold zF NF
 rw[oS (L:=kQ s) (g:=N7 s.aKJ) (F:=some false) (E:=some (mN s.Name&&(inR s.aJl 1 1000000000000&&inR (s.aKJ.length:Int) 1 6))) C.aKJ.1 (λn k hk=> ?_) (λn=> ?_),bY]
 ·have I:=C.aKJ.2 _ (qG hk)
  simp only[kQ]
  rw[if_pos (bE hk),aH hk,qA,bG jD,dG I,qA]
  unfold N7
  rw[qF hk]
  generalize kQ s n ((k+1:Nat):Int)=Z
  by_cases h0:k=0
  ·subst h0;simp only[qe];cases mN s.aKJ[0]<;>simp
  ·have e:i64.wrap ((k:Int)-1)=((k-1:Nat):Int):=by rw[bI jD jD];omega
   have j:k-1<s.aKJ.length:=by omega
   rw[if_pos (c:=(decide ((k:Int)>0))=true) jE,e,aH j,qA,qF j]
   simp only[qe,h0,decide_false,Bool.false_or]
   cases mN s.aKJ[k]<;>cases Op.bytesLess s.aKJ[k-1].toList s.aKJ[k].toList<;>simp
 ·simp only[kQ];rw[if_neg jK,dG C.Name,qA,cG,qA,cG,qA,bY,bY]
theorem Hr{s:M.aJr}(C:s.ok):zB s=some (NF s):=by
 have J:=le_max C.aKJ.1
 unfold zB NF
 rw[oS (L:=kP s) (g:=N7 s.aKJ) (F:=some false) (E:=some (mN s.Name&&(inR s.aJl 1 1000000000000&&inR (s.aKJ.length:Int) 1 6))) C.aKJ.1 (λn k hk=> ?_) (λn=> ?_),bY]
 ·have I:=C.aKJ.2 _ (qG hk)
  simp only[kP]
  rw[if_pos (bE hk),aH hk,qA,bG jD,cT I,qA]
  unfold N7
  rw[qF hk]
  generalize kP s n ((k+1:Nat):Int)=Z
  by_cases h0:k=0
  ·subst h0;simp only[qe];cases mN s.aKJ[0]<;>simp
  ·have e:i64.wrap ((k:Int)-1)=((k-1:Nat):Int):=by rw[bI jD jD];omega
   have j:k-1<s.aKJ.length:=by omega
   rw[if_pos (c:=(decide ((k:Int)>0))=true) jE,e,aH j,qA,qF j,TM]
   simp only[qe,h0,decide_false,Bool.false_or]
   cases mN s.aKJ[k]<;>cases Op.bytesLess s.aKJ[k-1].toList s.aKJ[k].toList<;>simp
 ·simp only[kP];rw[if_neg jK,cT C.Name,qA,bR,qA,bR,qA,bY,bY]
def G0(l:List M.aK)(k:Nat):Bool:=(l[k]?).any (λx=>inR x.aJy 1 1000000&&inR x.Seq 0 1000000)&&(decide (k=0)||(l[k-1]?).any λy=>(l[k]?).any λx=>decide (y.aJy<x.aJy))
def Ib(l:List M.aY)(k:Nat):Bool:=(l[k]?).any Ls
def ND(s:M.aJv):Bool:=(List.range s.aK.length).all (G0 s.aK)&&((List.range s.aKH.length).all (Ib s.aKH)&&(lQ s.aD&&((s.aD.Name.toList==(⟨#[110,111,116,101,115]⟩:ByteArray).toList)&&decide ((s.aK.length:Int)<=60))))
theorem Nv{s:M.aJv}(j:s.ok):BB s=some (ND s):=by
 have U:=le_max j.aK.1
 have J:=le_max j.aKH.1
 unfold BB ND
 rw[oS (L:=gP s) (g:=G0 s.aK) (F:=some false) (E:=jZ s fuel 0) j.aK.1 (λn k hk=> ?_) (λn=> ?_),
  oS (L:=jZ s) (g:=Ib s.aKH) (F:=some false) (E:=some (lQ s.aD&&((s.aD.Name.toList==(⟨#[110,111,116,101,115]⟩:ByteArray).toList)&&decide ((s.aK.length:Int)<=60)))) j.aKH.1 (λn k hk=> ?_) (λn=> ?_),bY,bY]
 ·have I:=j.aKH.2 _ (qG hk);simp only[jZ];rw[if_pos (bE hk),aH hk,qA,bG jD,Fq I,qA,C8];unfold Ib;rw[qF hk,qe]
 ·simp only[jZ];rw[if_neg jK,CS j.aD,qA,bY,bY]
 ·simp only[gP]
  rw[if_pos (bE hk),aH hk,qA,bG jD,cG,qA,cG,qA]
  unfold G0
  rw[qF hk]
  generalize gP s n ((k+1:Nat):Int)=Z
  by_cases h0:k=0
  ·subst h0;simp only[qe];cases inR s.aK[0].aJy 1 1000000<;>cases inR s.aK[0].Seq 0 1000000<;>simp
  ·have e:i64.wrap ((k:Int)-1)=((k-1:Nat):Int):=by rw[bI jD jD];omega
   have C:k-1<s.aK.length:=by omega
   have ed:decide (s.aK[k-1].aJy>=s.aK[k].aJy)= !decide (s.aK[k-1].aJy<s.aK[k].aJy):=by rw[Bool.eq_iff_iff];simp
   rw[if_pos (c:=(decide ((k:Int)>0))=true) jE,e,aH C,qA,qF C,ed]
   simp only[qe,h0,decide_false,Bool.false_or]
   cases inR s.aK[k].aJy 1 1000000<;>cases inR s.aK[k].Seq 0 1000000<;>cases decide (s.aK[k-1].aJy<s.aK[k].aJy)<;>simp
 ·simp only[gP];rw[if_neg jK]
theorem Ng{s:M.aJv}(j:s.ok):Bs s=some (ND s):=by
 have U:=le_max j.aK.1
 have J:=le_max j.aKH.1
 unfold Bs ND
 rw[oS (L:=gR s) (g:=G0 s.aK) (F:=some false) (E:=kC s fuel 0) j.aK.1 (λn k hk=> ?_) (λn=> ?_),
  oS (L:=kC s) (g:=Ib s.aKH) (F:=some false) (E:=some (lQ s.aD&&((s.aD.Name.toList==(⟨#[110,111,116,101,115]⟩:ByteArray).toList)&&decide ((s.aK.length:Int)<=60)))) j.aKH.1 (λn k hk=> ?_) (λn=> ?_),bY,bY]
 ·have I:=j.aKH.2 _ (qG hk);simp only[kC];rw[if_pos (bE hk),aH hk,qA,bG jD,Fm I,qA,C8];unfold Ib;rw[qF hk,qe]
 ·simp only[kC];rw[if_neg jK,Ay j.aD,qA,bY,bY]
 ·simp only[gR]
  rw[if_pos (bE hk),aH hk,qA,bG jD,bR,qA,bR,qA]
  unfold G0
  rw[qF hk]
  generalize gR s n ((k+1:Nat):Int)=Z
  by_cases h0:k=0
  ·subst h0;simp only[qe];cases inR s.aK[0].aJy 1 1000000<;>cases inR s.aK[0].Seq 0 1000000<;>simp
  ·have e:i64.wrap ((k:Int)-1)=((k-1:Nat):Int):=by rw[bI jD jD];omega
   have C:k-1<s.aK.length:=by omega
   have ed:decide (s.aK[k].aJy<=s.aK[k-1].aJy)= !decide (s.aK[k-1].aJy<s.aK[k].aJy):=by rw[Bool.eq_iff_iff];simp
   rw[if_pos (c:=(decide ((k:Int)>0))=true) jE,e,aH C,qA,qF C,ed]
   simp only[qe,h0,decide_false,Bool.false_or]
   cases inR s.aK[k].aJy 1 1000000<;>cases inR s.aK[k].Seq 0 1000000<;>cases decide (s.aK[k-1].aJy<s.aK[k].aJy)<;>simp
 ·simp only[gR];rw[if_neg jK]
def IE(p:M.bD)(k:Nat):Bool:=(p.aJ[k]?).any λx=>mN x.aKP&&(x.aJl==p.aJl)
def GO(p:M.bD):Bool:=(List.range p.aJ.length).all (IE p)&&(inR p.Id 1 1000000000000&&(mN p.aJr&&(mN p.Top&&(inR p.aJl 1 1000000000000&&decide ((p.aJ.length:Int)<=8)))))
theorem Hp{p:M.bD}(j:p.ok):zL p=some (GO p):=by have I:=le_max j.aJ.1;unfold zL GO;rw[oS (L:=rC p) (g:=IE p) (F:=some false) (E:=some (inR p.Id 1 1000000000000&&(mN p.aJr&&(mN p.Top&&(inR p.aJl 1 1000000000000&&decide ((p.aJ.length:Int)<=8)))))) j.aJ.1 (λn k hk=> ?_) (λn=> ?_),bY];(have C:=j.aJ.2 _ (qG hk);simp only[rC];rw[if_pos (bE hk),aH hk,qA,bG jD,dG C.aKP,qA];unfold IE;rw[qF hk,qe];simp only[GD,C8,X0]);·simp only[rC];rw[if_neg jK];simp only[dG j.aJr,dG j.Top,cG,qA,bY]
theorem Hz{p:M.bD}(j:p.ok):zJ p=some (GO p):=by have I:=le_max j.aJ.1;unfold zJ GO;rw[oS (L:=rH p) (g:=IE p) (F:=some false) (E:=some (inR p.Id 1 1000000000000&&(mN p.aJr&&(mN p.Top&&(inR p.aJl 1 1000000000000&&decide ((p.aJ.length:Int)<=8)))))) j.aJ.1 (λn k hk=> ?_) (λn=> ?_),bY];(have C:=j.aJ.2 _ (qG hk);simp only[rH];rw[if_pos (bE hk),aH hk,qA,bG jD,cT C.aKP,qA];unfold IE;rw[qF hk,qe];simp only[GD,C8,X0]);·simp only[rH];rw[if_neg jK];simp only[cT j.aJr,cT j.Top,bR,qA,bY]
theorem LD{s:ByteArray}(j:s.size<=maxLen):wN s=some (Ri s 30 true):=by
 have C:=le_max j
 unfold wN Ri
 rw[KQ (L:=dS s) (g:=Mc true) (F:=some false) (E:=some (inR (s.size:Int) 1 30)) j (λn k hk=> ?_) (λn=> ?_),bY]
 ·simp only[dS]
  rw[if_pos (bE hk),Ka hk,qA,bG jD]
  generalize s[k]=b
  unfold Mc
  generalize dS s n ((k+1:Nat):Int)=Z
  simp only[Bool.or_eq_true,qM,qL,Bool.not_eq_true',decide_eq_false_iff_not,Bool.true_and,bne_iff_ne,ne_eq]
  repeat' split
  all_goals first|rfl|(exfalso;omega)
 ·simp only[dS];rw[if_neg jK,cG,qA]
theorem LY{s:ByteArray}(j:s.size<=maxLen):wW s=some (Ri s 30 true):=by unfold wW;rw[Kf j,qA]
def RL(x y:M.eO):Bool:=x.aKj&&((y.Name.toList==x.Name.toList)&&(!y.aKj||(!x.aKO|| !y.aKO)))
def KN(l:List M.eO)(k:Nat)(x:M.eO):Bool:=(List.range k).all λj=> !((l[j]?).any (RL x))
def Oh(l:List M.eO)(k:Nat):Bool:=(l[k]?).any λx=>Ri x.Name 30 true&&(inR x.bD 1 1000000000000&&KN l k x)
def KZ(t:M.aP):Bool:=(List.range t.aJ3.length).all (Oh t.aJ3)&&decide ((t.aJ3.length:Int)<=12)
theorem UH{t:M.aP}{x:M.eO}{k:Nat}{K:Int->Option Bool}(I:t.aJ3.length<=maxLen)(hk:k<=t.aJ3.length):cW t (k:Int) x K fuel 0=if KN t.aJ3 k x=true then K (k:Int)else some false:=by
 have U:=le_max I
 refine oS (L:=cW t (k:Int) x K) (g:=λj=> !((t.aJ3[j]?).any (RL x))) (F:=some false) (E:=K (k:Int)) (qg hk I) (λn j J=> ?_) (λn=> ?_)
 ·have C:j<t.aJ3.length:=by omega
  simp only[cW]
  rw[if_pos (bE J),aH C,qA,bG jD,qF C,qe]
  unfold RL
  generalize cW t (k:Int) x K n ((j+1:Nat):Int)=Z
  cases x.aKj<;>cases (t.aJ3[j].Name.toList==x.Name.toList)<;>cases t.aJ3[j].aKj<;>cases x.aKO<;>cases t.aJ3[j].aKO<;>simp
 ·simp only[cW];rw[if_neg jK]
theorem Ux{t:M.aP}{x:M.eO}{k:Nat}{C:Option Bool}(hm:t.aJ3.length<=maxLen)(hk:k<=t.aJ3.length):cX t (k:Int) x (λ_=>C) fuel 0=if KN t.aJ3 k x=true then C else some false:=by
 have hm':=le_max hm
 have J:(t.aJ3.take k).length=k:=by rw[qU];omega
 have:=oS (N:=k) (L:=cX t (k:Int) x (λ_=>C)) (g:=λj=> !((t.aJ3[j]?).any (RL x))) (F:=some false) (E:=C) (qg hk hm) (λn j U=> ?_) (λn=> ?_)
 ·exact this
 ·have I:j<t.aJ3.length:=by omega
  simp only[cX,qH,J]
  rw[if_pos (bE U),aH (by rw[J];exact U),qA,bG jD,qF I,qe,List.getElem_take]
  unfold RL
  generalize cX t (k:Int) x (λ_=>C) n ((j+1:Nat):Int)=Z
  cases x.aKj<;>cases (t.aJ3[j].Name.toList==x.Name.toList)<;>cases t.aJ3[j].aKj<;>cases x.aKO<;>cases t.aJ3[j].aKO<;>simp
 ·simp only[cX,qH,J];rw[if_neg jK]
theorem KS{t:M.aP}(j:t.ok):vY t=some (KZ t):=by have I:=le_max j.aJ3.1;unfold vY KZ;rw[oS (L:=fN t) (g:=Oh t.aJ3) (F:=some false) (E:=some (decide ((t.aJ3.length:Int)<=12))) j.aJ3.1 (λn k hk=> ?_) (λn=> ?_),bY];(have C:=j.aJ3.2 _ (qG hk);simp only[fN];rw[if_pos (bE hk),aH hk,qA,bG jD,LD C.Name,qA,cG,qA,UH j.aJ3.1 jD];unfold Oh;rw[qF hk,qe];generalize fN t n ((k+1:Nat):Int)=Z;cases Ri t.aJ3[k].Name 30 true<;>cases inR t.aJ3[k].bD 1 1000000000000<;>cases KN t.aJ3 k t.aJ3[k]<;>simp);·simp only[fN];rw[if_neg jK]
theorem Kr{t:M.aP}(j:t.ok):uV t=some (KZ t):=by have I:=le_max j.aJ3.1;unfold uV KZ;rw[oS (L:=fO t) (g:=Oh t.aJ3) (F:=some false) (E:=some (decide ((t.aJ3.length:Int)<=12))) j.aJ3.1 (λn k hk=> ?_) (λn=> ?_),bY];(have C:=j.aJ3.2 _ (qG hk);simp only[fO];rw[if_pos (bE hk),aH hk,qA,bG jD,LY C.Name,qA,bR,qA,Lq jD,qA,Ux j.aJ3.1 jD];unfold Oh;rw[qF hk,qe];generalize fO t n ((k+1:Nat):Int)=Z;cases Ri t.aJ3[k].Name 30 true<;>cases inR t.aJ3[k].bD 1 1000000000000<;>cases KN t.aJ3 k t.aJ3[k]<;>simp);·simp only[fO];rw[if_neg jK]
theorem Ss:wH.length=3:=rfl
theorem Wk{a:ByteArray}{k:Nat}(hk:k<wH.length):(JS a==(k:Int))=(a.toList==(wH[k]).toList):=by
 have d:∀i j:Nat,(J:i<wH.length)->(C:j<wH.length)->(wH[i]).toList=(wH[j]).toList->i=j:=by
  intro i j J C h
  have U:(⟨#[98,97,110,107]⟩:ByteArray).toList=[98,97,110,107]:=by rw[ByteArray.toList_eq]
  have e1:(⟨#[110,101,119,115]⟩:ByteArray).toList=[110,101,119,115]:=by rw[ByteArray.toList_eq]
  have e2:(⟨#[115,104,111,112]⟩:ByteArray).toList=[115,104,111,112]:=by rw[ByteArray.toList_eq]
  rw[Ss]at J C
  rcases i with _|_|_|i<;>rcases j with _|_|_|j<;>first|rfl|(exfalso;omega)|(exfalso;simp[wH,U,e1,e2]at h)
 have hf:=eN (f:=λx:ByteArray=>x.toList==a.toList) (xs:=wH)
 have I:=Ks (λx:ByteArray=>x.toList==a.toList) wH
 unfold JS
 rw[Bool.eq_iff_iff,beq_iff_eq,beq_iff_eq]
 constructor
 ·intro h
  have h2:wH.findIdx? (λx:ByteArray=>x.toList==a.toList)=some k:=by
   unfold mF at h
   cases e:wH.findIdx? (λx:ByteArray=>x.toList==a.toList)with
   |none=>rw[e]at h;simp only at h;omega
   |some i=>rw[e]at h;simp only at h;congr 1;omega
  have:=(List.findIdx?_eq_some_iff_getElem.1 h2).2.1
  exact(eq_of_beq this).symm
 ·intro h
  have hex:wH.any (λx:ByteArray=>x.toList==a.toList)=true:=List.any_eq_true.2 ⟨wH[k],qG hk,by rw[h];exact beq_self_eq_true _⟩
  rw[hex]at I
  obtain⟨j,e,C⟩:=hf (by have:=of_decide_eq_true I;omega)
  rw[e]
  have h2:wH.findIdx? (λx:ByteArray=>x.toList==a.toList)=some j:=by
   unfold mF at e
   cases e2:wH.findIdx? (λx:ByteArray=>x.toList==a.toList)with
   |none=>rw[e2]at e;simp only at e;omega
   |some i=>rw[e2]at e;simp only at e;congr 1;omega
  have:=(List.findIdx?_eq_some_iff_getElem.1 h2).2.1
  rw[d j k C hk (by rw[eq_of_beq this,h])]
def HC(w:M.World)(k:Nat):Bool:=(w.aJ2[k]?).any λx=>GO x&&(decide (x.Id<w.aJ4)&&((decide (k=0)||(w.aJ2[k-1]?).any λy=>decide (y.Id<x.Id))&&decide (0<=mF (nAt x.aJr x.Top) w.aA.aJp)))
def JZ(w:M.World)(k:Nat):Bool:=(w.aKE[k]?).any λx=>NF x&&((wH[k]?).any (λj=>x.Name.toList==j.toList)&&(w.aJ6[k]?).any ND)
def HZ(w:M.World):Bool:=decide (w.aKE.length=3)&&(decide (w.aJ6.length=3)&&(decide (w.aJ2.length<=6)&&((List.range 3).all (JZ w)&&((List.range w.aJ2.length).all (HC w)&&(inR w.Now 0 999999990000&&(inR w.aJy 1 1000000&&(vG w.aA&&(inR w.aJ4 1 1000000000000&&KZ w.aJ3))))))))
theorem Ir{w:M.World}(hz:M.World.sz w<=1500000):M.aA.sz w.aA<=1500000:=by simp only[M.World.sz]at hz;omega
theorem UR{w:M.World}(C:w.ok){E:Option Bool}(I:∀n,eA w (n+1) (w.aJ2.length:Int)=E):eA w fuel 0=if(List.range w.aJ2.length).all (HC w)=true then E else some false:=by
 have U:=le_max C.aJ2.1
 refine oS (L:=eA w) (g:=HC w) (F:=some false) (E:=E) C.aJ2.1 (λn k hk=> ?_) I
 have J:=C.aJ2.2 _ (qG hk)
 simp only[eA]
 rw[if_pos (bE hk),aH hk,qA,bG jD,Hp J,qA,rY C.aA,qA]
 unfold HC
 rw[qF hk,qe]
 generalize eA w n ((k+1:Nat):Int)=Z
 have e1:decide (w.aJ2[k].Id>=w.aJ4)= !decide (w.aJ2[k].Id<w.aJ4):=by rw[Bool.eq_iff_iff];simp
 have e2:decide (mF (nAt w.aJ2[k].aJr w.aJ2[k].Top) w.aA.aJp<0)= !decide (0<=mF (nAt w.aJ2[k].aJr w.aJ2[k].Top) w.aA.aJp):=by rw[Bool.eq_iff_iff];simp
 rw[e1]
 simp only[e2]
 by_cases h0:k=0
 ·subst h0;cases GO w.aJ2[0]<;>cases decide (w.aJ2[0].Id<w.aJ4)<;>cases decide (0<=mF (nAt w.aJ2[0].aJr w.aJ2[0].Top) w.aA.aJp)<;>simp
 ·have e:i64.wrap ((k:Int)-1)=((k-1:Nat):Int):=by rw[bI jD jD];omega
  have j:k-1<w.aJ2.length:=by omega
  have e3:decide (w.aJ2[k-1].Id>=w.aJ2[k].Id)= !decide (w.aJ2[k-1].Id<w.aJ2[k].Id):=by rw[Bool.eq_iff_iff];simp
  rw[if_pos (c:=(decide ((k:Int)>0))=true) jE,e,aH j,qA,qF j,e3]
  simp only[qe,h0,decide_false,Bool.false_or]
  cases GO w.aJ2[k]<;>cases decide (w.aJ2[k].Id<w.aJ4)<;>cases decide (w.aJ2[k-1].Id<w.aJ2[k].Id)<;>cases decide (0<=mF (nAt w.aJ2[k].aJr w.aJ2[k].Top) w.aA.aJp)<;>simp
theorem Uo{w:M.World}(C:w.ok){E:Option Bool}(I:∀n,fE w (n+1) (w.aJ2.length:Int)=E):fE w fuel 0=if(List.range w.aJ2.length).all (HC w)=true then E else some false:=by
 have U:=le_max C.aJ2.1
 refine oS (L:=fE w) (g:=HC w) (F:=some false) (E:=E) C.aJ2.1 (λn k hk=> ?_) I
 have J:=C.aJ2.2 _ (qG hk)
 simp only[fE]
 rw[if_pos (bE hk),aH hk,qA,bG jD,Hz J,qA,sK C.aA,qA]
 unfold HC
 rw[qF hk,qe]
 generalize fE w n ((k+1:Nat):Int)=Z
 have e1:decide (w.aJ2[k].Id>=w.aJ4)= !decide (w.aJ2[k].Id<w.aJ4):=by rw[Bool.eq_iff_iff];simp
 have e2:decide (mF (nAt w.aJ2[k].aJr w.aJ2[k].Top) w.aA.aJp<0)= !decide (0<=mF (nAt w.aJ2[k].aJr w.aJ2[k].Top) w.aA.aJp):=by rw[Bool.eq_iff_iff];simp
 rw[e1]
 simp only[e2]
 by_cases h0:k=0
 ·subst h0;cases GO w.aJ2[0]<;>cases decide (w.aJ2[0].Id<w.aJ4)<;>cases decide (0<=mF (nAt w.aJ2[0].aJr w.aJ2[0].Top) w.aA.aJp)<;>simp
 ·have e:i64.wrap ((k:Int)-1)=((k-1:Nat):Int):=by rw[bI jD jD];omega
  have j:k-1<w.aJ2.length:=by omega
  have e3:decide (w.aJ2[k].Id<=w.aJ2[k-1].Id)= !decide (w.aJ2[k-1].Id<w.aJ2[k].Id):=by rw[Bool.eq_iff_iff];simp
  rw[if_pos (c:=(decide ((k:Int)>0))=true) jE,e,aH j,qA,qF j,e3]
  simp only[qe,h0,decide_false,Bool.false_or]
  cases GO w.aJ2[k]<;>cases decide (w.aJ2[k].Id<w.aJ4)<;>cases decide (w.aJ2[k-1].Id<w.aJ2[k].Id)<;>cases decide (0<=mF (nAt w.aJ2[k].aJr w.aJ2[k].Top) w.aA.aJp)<;>simp
theorem NS{w:M.World}(J:w.ok)(hz:∀b∈w.aA.aJp,M.aJj.sz b.bL.aJ8<=1500000):AG w=some (HZ w):=by
 unfold AG HZ
 by_cases h1:w.aKE.length=3
 ·by_cases h2:w.aJ6.length=3
  ·have e3:decide ((w.aJ2.length:Int)>6)= !decide (w.aJ2.length<=6):=by rw[Bool.eq_iff_iff];simp;omega
   rw[if_neg (by rw[h1];simp),if_neg (by rw[h2];simp),e3,decide_eq_true h1,decide_eq_true h2]
   rw[oS (N:=3) (L:=lS w) (g:=JZ w) (F:=some false) (E:=eA w fuel 0) jJ (λn k hk=> ?_) (λn=> ?_),
    UR J (E:=some (inR w.Now 0 999999990000&&(inR w.aJy 1 1000000&&(vG w.aA&&(inR w.aJ4 1 1000000000000&&KZ w.aJ3))))) (λn=> ?_)]
   ·cases decide (w.aJ2.length<=6)<;>cases (List.range 3).all (JZ w)<;>cases (List.range w.aJ2.length).all (HC w)<;>simp
   ·simp only[eA];rw[if_neg jK];simp only[cG,Er J.aA hz,KS J.aJ3,qA,bY]
   ·have j:k<w.aKE.length:=by omega
    have C:k<w.aJ6.length:=by omega
    have I:k<wH.length:=by rw[Ss];exact hk
    have U:xI=some wH:=rfl
    simp only[lS,U,qA]
    rw[if_pos jE,aH j,qA,bG jD,Hw (J.aKE.2 _ (qG j)),qA,aH I,qA,aH C,qA,Nv (J.aJ6.2 _ (qG C)),qA]
    unfold JZ
    rw[qF j,qF C,qF I]
    simp only[qe]
    generalize lS w n ((k+1:Nat):Int)=Z
    have gen:∀(a b c:Bool),(if(!a)=true then some false else if(!b)=true then some false else if(!c)=true then some false else Z)=if(a&&(b&&c))=true then Z else some false:=by intro a b c;cases a<;>cases b<;>cases c<;>rfl
    exact gen _ _ _
   ·simp only[lS];rw[if_neg jF]
  ·rw[if_neg (by rw[h1];simp),if_pos jE,decide_eq_false h2];simp
 ·rw[if_pos jE,decide_eq_false h1];simp
theorem N1{w:M.World}(J:w.ok)(hz:∀b∈w.aA.aJp,M.aJj.sz b.bL.aJ8<=1500000):Aw w=some (HZ w):=by
 unfold Aw HZ
 have e3:decide ((w.aJ2.length:Int)>6)= !decide (w.aJ2.length<=6):=by rw[Bool.eq_iff_iff];simp;omega
 have e1:((w.aKE.length:Int) !=3)= !decide (w.aKE.length=3):=by rw[Bool.eq_iff_iff];simp;omega
 have e2:((w.aJ6.length:Int) !=3)= !decide (w.aJ6.length=3):=by rw[Bool.eq_iff_iff];simp;omega
 simp only[bR,Ev J.aA hz,Kr J.aJ3,qA,e1,e2,e3]
 by_cases h1:w.aKE.length=3
 ·by_cases h2:w.aJ6.length=3
  ·rw[Uo J (E:=iL w fuel 0) (λn=>by
     simp only[fE]
     rw[if_neg jK]),
    oS (N:=3) (L:=iL w) (g:=JZ w) (F:=some false) (E:=some true) jJ (λn k hk=> ?_) (λn=> ?_)]
   ·rw[decide_eq_true h1,decide_eq_true h2];cases inR w.Now 0 999999990000<;>cases inR w.aJy 1 1000000<;>cases vG w.aA<;>cases decide (w.aJ2.length<=6)<;>cases inR w.aJ4 1 1000000000000<;>cases KZ w.aJ3<;>cases (List.range 3).all (JZ w)<;>cases (List.range w.aJ2.length).all (HC w)<;>rfl
   ·have j:k<w.aKE.length:=by omega
    have C:k<w.aJ6.length:=by omega
    have I:k<wH.length:=by rw[Ss];exact hk
    simp only[iL]
    rw[if_pos (bE j),aH j,qA,bG jD,Hr (J.aKE.2 _ (qG j)),qA,GW,qA,aH C,qA,Ng (J.aJ6.2 _ (qG C)),qA,GD,Wk I]
    unfold JZ
    rw[qF j,qF C,qF I]
    simp only[qe]
    generalize iL w n ((k+1:Nat):Int)=Z
    have gen:∀(a b c:Bool),(if(!a)=true then some false else if b=true then if(!c)=true then some false else Z else some false)=if(a&&(b&&c))=true then Z else some false:=by intro a b c;cases a<;>cases b<;>cases c<;>rfl
    exact gen _ _ _
   ·simp only[iL];rw[if_neg (by rw[h1];simp)]
  ·rw[decide_eq_true h1,decide_eq_false h2];cases inR w.Now 0 999999990000<;>cases inR w.aJy 1 1000000<;>cases vG w.aA<;>cases decide (w.aJ2.length<=6)<;>cases inR w.aJ4 1 1000000000000<;>cases KZ w.aJ3<;>rfl
 ·rw[decide_eq_false h1];cases inR w.Now 0 999999990000<;>cases inR w.aJy 1 1000000<;>cases vG w.aA<;>cases decide (w.aJ2.length<=6)<;>cases inR w.aJ4 1 1000000000000<;>cases KZ w.aJ3<;>rfl
theorem Te{w:M.World}(hz:M.World.sz w<=1500000):∀b∈w.aA.aJp,M.aJj.sz b.bL.aJ8<=1500000:=λb hb=>CI (by have h1:=Ir hz;have h2:=dW (f:=M.aJi.sz) hb;simp only[M.aA.sz]at h1;omega)
theorem Oz{w:M.World}(j:w.ok)(hz:M.World.sz w<=1500000):AG w=some (HZ w):=NS j (Te hz)
theorem GP{w:M.World}(j:w.ok)(hz:M.World.sz w<=1500000):Aw w=some (HZ w):=N1 j (Te hz)
