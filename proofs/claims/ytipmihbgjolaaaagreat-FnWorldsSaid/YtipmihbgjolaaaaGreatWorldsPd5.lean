/-
  Helper text. No conditions.
-/
import Derived.Test.YtipmihbgjolaaaaGreatWorldsPd4
set_option linter.unusedVariables false
set_option linter.unusedSimpArgs false
namespace Go.Proofs.YtipmihbgjolaaaaGreat.gen
open Go Go.Sh
open Go.IntKind (i64)
def Cy (p:M.bV) (k:Nat):Bool:=(p.aU[k]?).any λx=>kI x.aAs&&(x.aAB==p.aAB)
def DE (p:M.bV):Bool:=(List.range p.aU.length).all (Cy p)&&(inR p.Id 1 1000000000000&&(kI p.aAO&&(kI p.Top&&(inR p.aAB 1 1000000000000&&decide ((p.aU.length:Int)<=8)))))
theorem Ap {p:M.bV} (hp:p.ok):oG p=some (DE p):=by have hm:=le_max hp.aU.1;unfold oG DE;rw [lI (L:=nM p) (g:=Cy p) (F:=some false) (E:=some (inR p.Id 1 1000000000000&&(kI p.aAO&&(kI p.Top&&(inR p.aAB 1 1000000000000&&decide ((p.aU.length:Int)<=8)))))) hp.aU.1 (λn k hk => ?_) (λn => ?_),aY];(have hf:=hp.aU.2 _ (qG hk);simp only [nM];rw [if_pos (bB hk),aM hk,qA,bM qb,cV hf.aAs,qA];unfold Cy;rw [qF hk,Option.any_some];simp only [pM,fE,RD]);·simp only [nM];rw [if_neg qk];simp only [cV hp.aAO,cV hp.Top,bX,qA,aY]
theorem Ju {p:M.bV} (hp:p.ok):yV p=some (DE p):=by have hm:=le_max hp.aU.1;unfold yV DE;rw [lI (L:=nS p) (g:=Cy p) (F:=some false) (E:=some (inR p.Id 1 1000000000000&&(kI p.aAO&&(kI p.Top&&(inR p.aAB 1 1000000000000&&decide ((p.aU.length:Int)<=8)))))) hp.aU.1 (λn k hk => ?_) (λn => ?_),aY];(have hf:=hp.aU.2 _ (qG hk);simp only [nS];rw [if_pos (bB hk),aM hk,qA,bM qb,dM hf.aAs,qA];unfold Cy;rw [qF hk,Option.any_some];simp only [pM,fE,RD]);·simp only [nS];rw [if_neg qk];simp only [dM hp.aAO,dM hp.Top,bS,qA,aY]
theorem Fk {s:ByteArray} (hs:s.size<=maxLen):sN s=some (KN s 30 true):=by
 have hm:=le_max hs
 unfold sN KN
 rw [Ez (L:=dE s) (g:=FV true) (F:=some false) (E:=some (inR (s.size:Int) 1 30)) hs (λn k hk => ?_) (λn => ?_),aY]
 ·simp only [dE]
  rw [if_pos (bB hk),DS hk,qA,bM qb]
  generalize s[k]=b
  unfold FV
  generalize dE s n ((k+1:Nat):Int)=Z
  simp only [Bool.or_eq_true,qM,qL,Bool.not_eq_true',decide_eq_false_iff_not,Bool.true_and,bne_iff_ne,ne_eq]
  repeat' split
  all_goals first | rfl | (exfalso;omega)
 ·simp only [dE];rw [if_neg qk,bX,qA]
theorem FF {s:ByteArray} (hs:s.size<=maxLen):sQ s=some (KN s 30 true):=by unfold sQ;rw [DT hs,qA]
def Le (x y:M.tV):Bool:=x.aBA&&((y.Name.toList==x.Name.toList)&&(!y.aBA||(!x.aAt || !y.aAt)))
def Ev (l:List M.tV) (k:Nat) (x:M.tV):Bool:=(List.range k).all λj => !((l[j]?).any (Le x))
def HX (l:List M.tV) (k:Nat):Bool:=(l[k]?).any λx=>KN x.Name 30 true&&(inR x.bV 1 1000000000000&&Ev l k x)
def EH (t:M.cH):Bool:=(List.range t.aAW.length).all (HX t.aAW)&&decide ((t.aAW.length:Int)<=12)
theorem NY {t:M.cH} {x:M.tV} {k:Nat} {K:Int->Option Bool} (hm:t.aAW.length<=maxLen) (hk:k<=t.aAW.length):cG t (k:Int) x K fuel 0=if Ev t.aAW k x=true then K (k:Int) else some false:=by
 have hm':=le_max hm
 refine lI (L:=cG t (k:Int) x K) (g:=λj => !((t.aAW[j]?).any (Le x))) (F:=some false) (E:=K (k:Int)) (Nat.le_trans hk hm) (λn j hj => ?_) (λn => ?_)
 ·have hj':j<t.aAW.length:=by omega
  simp only [cG]
  rw [if_pos (bB hj),aM hj',qA,bM qb,qF hj',Option.any_some]
  unfold Le
  generalize cG t (k:Int) x K n ((j+1:Nat):Int)=Z
  cases x.aBA<;>cases (t.aAW[j].Name.toList==x.Name.toList)<;>cases t.aAW[j].aBA<;>cases x.aAt<;>cases t.aAW[j].aAt<;>simp
 ·simp only [cG];rw [if_neg qk]
theorem NL {t:M.cH} {x:M.tV} {k:Nat} {Z0:Option Bool} (hm:t.aAW.length<=maxLen) (hk:k<=t.aAW.length):cJ t (k:Int) x (λ_=>Z0) fuel 0=if Ev t.aAW k x=true then Z0 else some false:=by
 have hm':=le_max hm
 have hl:(t.aAW.take k).length=k:=by rw [qT];omega
 have:=lI (N:=k) (L:=cJ t (k:Int) x (λ_=>Z0)) (g:=λj => !((t.aAW[j]?).any (Le x))) (F:=some false) (E:=Z0) (Nat.le_trans hk hm) (λn j hj => ?_) (λn => ?_)
 ·exact this
 ·have hj':j<t.aAW.length:=by omega
  simp only [cJ,qH,hl]
  rw [if_pos (bB hj),aM (by rw [hl];exact hj),qA,bM qb,qF hj',Option.any_some,List.getElem_take]
  unfold Le
  generalize cJ t (k:Int) x (λ_=>Z0) n ((j+1:Nat):Int)=Z
  cases x.aBA<;>cases (t.aAW[j].Name.toList==x.Name.toList)<;>cases t.aAW[j].aBA<;>cases x.aAt<;>cases t.aAW[j].aAt<;>simp
 ·simp only [cJ,qH,hl];rw [if_neg qk]
theorem EB {t:M.cH} (ht:t.ok):rX t=some (EH t):=by have hm:=le_max ht.aAW.1;unfold rX EH;rw [lI (L:=eR t) (g:=HX t.aAW) (F:=some false) (E:=some (decide ((t.aAW.length:Int)<=12))) ht.aAW.1 (λn k hk => ?_) (λn => ?_),aY];(have hf:=ht.aAW.2 _ (qG hk);simp only [eR];rw [if_pos (bB hk),aM hk,qA,bM qb,Fk hf.Name,qA,bX,qA,NY ht.aAW.1 qb];unfold HX;rw [qF hk,Option.any_some];generalize eR t n ((k+1:Nat):Int)=Z;cases KN t.aAW[k].Name 30 true<;>cases inR t.aAW[k].bV 1 1000000000000<;>cases Ev t.aAW k t.aAW[k]<;>simp);·simp only [eR];rw [if_neg qk]
theorem Ej {t:M.cH} (ht:t.ok):rF t=some (EH t):=by have hm:=le_max ht.aAW.1;unfold rF EH;rw [lI (L:=eS t) (g:=HX t.aAW) (F:=some false) (E:=some (decide ((t.aAW.length:Int)<=12))) ht.aAW.1 (λn k hk => ?_) (λn => ?_),aY];(have hf:=ht.aAW.2 _ (qG hk);simp only [eS];rw [if_pos (bB hk),aM hk,qA,bM qb,FF hf.Name,qA,bS,qA,AJ qb,qA,NL ht.aAW.1 qb];unfold HX;rw [qF hk,Option.any_some];generalize eS t n ((k+1:Nat):Int)=Z;cases KN t.aAW[k].Name 30 true<;>cases inR t.aAW[k].bV 1 1000000000000<;>cases Ev t.aAW k t.aAW[k]<;>simp);·simp only [eS];rw [if_neg qk]
theorem LR:mW.length=3:=rfl
theorem PQ {a:ByteArray} {k:Nat} (hk:k<mW.length):(BO a==(k:Int))=(a.toList==(mW[k]).toList):=by
 have d : ∀i j:Nat,(hi:i<mW.length)->(hj:j<mW.length)->(mW[i]).toList=(mW[j]).toList->i=j:=by
  intro i j hi hj h
  have e0:(⟨#[98,97,110,107]⟩:ByteArray).toList=[98,97,110,107]:=by rw [ByteArray.toList_eq]
  have e1:(⟨#[110,101,119,115]⟩:ByteArray).toList=[110,101,119,115]:=by rw [ByteArray.toList_eq]
  have e2:(⟨#[115,104,111,112]⟩:ByteArray).toList=[115,104,111,112]:=by rw [ByteArray.toList_eq]
  rw [LR] at hi hj
  rcases i with _ | _ | _ | i<;>rcases j with _ | _ | _ | j<;>first | rfl | (exfalso;omega) | (exfalso;simp [mW,e0,e1,e2] at h)
 have hf:=lE (f:=λx:ByteArray=>x.toList==a.toList) (xs:=mW)
 have ha:=GM (λx:ByteArray=>x.toList==a.toList) mW
 unfold BO
 rw [Bool.eq_iff_iff,beq_iff_eq,beq_iff_eq]
 constructor
 ·intro h
  have h2:mW.findIdx? (λx:ByteArray=>x.toList==a.toList)=some k:=by
   unfold oF at h
   cases e:mW.findIdx? (λx:ByteArray=>x.toList==a.toList) with
   | none=>rw [e] at h;simp only at h;omega
   | some i=>rw [e] at h;simp only at h;congr 1;omega
  have:=(List.findIdx?_eq_some_iff_getElem.1 h2).2.1
  exact (eq_of_beq this).symm
 ·intro h
  have hex:mW.any (λx:ByteArray=>x.toList==a.toList)=true:=List.any_eq_true.2 ⟨mW[k],qG hk,by rw [h];exact beq_self_eq_true _⟩
  rw [hex] at ha
  obtain ⟨j,e,hj⟩:=hf (by have:=of_decide_eq_true ha;omega)
  rw [e]
  have h2:mW.findIdx? (λx:ByteArray=>x.toList==a.toList)=some j:=by
   unfold oF at e
   cases e2:mW.findIdx? (λx:ByteArray=>x.toList==a.toList) with
   | none=>rw [e2] at e;simp only at e;omega
   | some i=>rw [e2] at e;simp only at e;congr 1;omega
  have:=(List.findIdx?_eq_some_iff_getElem.1 h2).2.1
  rw [d j k hj hk (by rw [eq_of_beq this,h])]
def BN (w:M.World) (k:Nat):Bool:=(w.aAX[k]?).any λx=>DE x&&(decide (x.Id<w.aAg)&&((decide (k=0)||(w.aAX[k-1]?).any λy=>decide (y.Id<x.Id))&&decide (0<=oF (nAt x.aAO x.Top) w.aJ.aAG)))
def DJ (w:M.World) (k:Nat):Bool:=(w.aAe[k]?).any λx=>Pm x&&((mW[k]?).any (λnm=>x.Name.toList==nm.toList)&&(w.aAY[k]?).any Cv)
def HB (w:M.World):Bool:=decide (w.aAe.length=3)&&(decide (w.aAY.length=3)&&(decide (w.aAX.length<=6)&&((List.range 3).all (DJ w)&&((List.range w.aAX.length).all (BN w)&&(inR w.Now 0 999999990000&&(inR w.aAK 1 1000000&&(uX w.aJ&&(inR w.aAg 1 1000000000000&&EH w.aAW))))))))
theorem OQ {w:M.World} (hz:M.World.sz w<=1048576):M.aJ.sz w.aJ<=1048576:=by simp only [M.World.sz] at hz;omega
theorem Ob {w:M.World} (hw:w.ok) {E:Option Bool} (hE : ∀n,dJ w (n+1) (w.aAX.length:Int)=E):dJ w fuel 0=if (List.range w.aAX.length).all (BN w)=true then E else some false:=by
 have hm:=le_max hw.aAX.1
 refine lI (L:=dJ w) (g:=BN w) (F:=some false) (E:=E) hw.aAX.1 (λn k hk => ?_) hE
 have hf:=hw.aAX.2 _ (qG hk)
 simp only [dJ]
 rw [if_pos (bB hk),aM hk,qA,bM qb,Ap hf,qA,Bg hw.aJ,qA]
 unfold BN
 rw [qF hk,Option.any_some]
 generalize dJ w n ((k+1:Nat):Int)=Z
 have e1:decide (w.aAX[k].Id>=w.aAg) = !decide (w.aAX[k].Id<w.aAg):=by rw [Bool.eq_iff_iff];simp
 have e2:decide (oF (nAt w.aAX[k].aAO w.aAX[k].Top) w.aJ.aAG<0) = !decide (0<=oF (nAt w.aAX[k].aAO w.aAX[k].Top) w.aJ.aAG):=by rw [Bool.eq_iff_iff];simp
 rw [e1]
 simp only [e2]
 by_cases h0:k=0
 ·subst h0;cases DE w.aAX[0]<;>cases decide (w.aAX[0].Id<w.aAg)<;>cases decide (0<=oF (nAt w.aAX[0].aAO w.aAX[0].Top) w.aJ.aAG)<;>simp
 ·have e:i64.wrap ((k:Int)-1)=((k-1:Nat):Int):=by rw [bI qb qb];omega
  have hk1:k-1<w.aAX.length:=by omega
  have e3:decide (w.aAX[k-1].Id>=w.aAX[k].Id) = !decide (w.aAX[k-1].Id<w.aAX[k].Id):=by rw [Bool.eq_iff_iff];simp
  rw [if_pos (c:=(decide ((k:Int)>0))=true) qc,e,aM hk1,qA,qF hk1,e3]
  simp only [Option.any_some,h0,decide_false,Bool.false_or]
  cases DE w.aAX[k]<;>cases decide (w.aAX[k].Id<w.aAg)<;>cases decide (w.aAX[k-1].Id<w.aAX[k].Id)<;>cases decide (0<=oF (nAt w.aAX[k].aAO w.aAX[k].Top) w.aJ.aAG)<;>simp
theorem Nw {w:M.World} (hw:w.ok) {E:Option Bool} (hE : ∀n,eG w (n+1) (w.aAX.length:Int)=E):eG w fuel 0=if (List.range w.aAX.length).all (BN w)=true then E else some false:=by
 have hm:=le_max hw.aAX.1
 refine lI (L:=eG w) (g:=BN w) (F:=some false) (E:=E) hw.aAX.1 (λn k hk => ?_) hE
 have hf:=hw.aAX.2 _ (qG hk)
 simp only [eG]
 rw [if_pos (bB hk),aM hk,qA,bM qb,Ju hf,qA,FD hw.aJ,qA]
 unfold BN
 rw [qF hk,Option.any_some]
 generalize eG w n ((k+1:Nat):Int)=Z
 have e1:decide (w.aAX[k].Id>=w.aAg) = !decide (w.aAX[k].Id<w.aAg):=by rw [Bool.eq_iff_iff];simp
 have e2:decide (oF (nAt w.aAX[k].aAO w.aAX[k].Top) w.aJ.aAG<0) = !decide (0<=oF (nAt w.aAX[k].aAO w.aAX[k].Top) w.aJ.aAG):=by rw [Bool.eq_iff_iff];simp
 rw [e1]
 simp only [e2]
 by_cases h0:k=0
 ·subst h0;cases DE w.aAX[0]<;>cases decide (w.aAX[0].Id<w.aAg)<;>cases decide (0<=oF (nAt w.aAX[0].aAO w.aAX[0].Top) w.aJ.aAG)<;>simp
 ·have e:i64.wrap ((k:Int)-1)=((k-1:Nat):Int):=by rw [bI qb qb];omega
  have hk1:k-1<w.aAX.length:=by omega
  have e3:decide (w.aAX[k].Id<=w.aAX[k-1].Id) = !decide (w.aAX[k-1].Id<w.aAX[k].Id):=by rw [Bool.eq_iff_iff];simp
  rw [if_pos (c:=(decide ((k:Int)>0))=true) qc,e,aM hk1,qA,qF hk1,e3]
  simp only [Option.any_some,h0,decide_false,Bool.false_or]
  cases DE w.aAX[k]<;>cases decide (w.aAX[k].Id<w.aAg)<;>cases decide (w.aAX[k-1].Id<w.aAX[k].Id)<;>cases decide (0<=oF (nAt w.aAX[k].aAO w.aAX[k].Top) w.aJ.aAG)<;>simp
theorem Hy {w:M.World} (hw:w.ok) (hz : ∀b∈w.aJ.aAG,M.aAA.sz b.cR.aAU<=1048576):uS w=some (HB w):=by
 unfold uS HB
 by_cases h1:w.aAe.length=3
 ·by_cases h2:w.aAY.length=3
  ·have e3:decide ((w.aAX.length:Int)>6) = !decide (w.aAX.length<=6):=by rw [Bool.eq_iff_iff];simp;omega
   rw [if_neg (by rw [h1];simp),if_neg (by rw [h2];simp),e3,decide_eq_true h1,decide_eq_true h2]
   rw [lI (N:=3) (L:=jK w) (g:=DJ w) (F:=some false) (E:=dJ w fuel 0) qj (λn k hk => ?_) (λn => ?_),
    Ob hw (E:=some (inR w.Now 0 999999990000&&(inR w.aAK 1 1000000&&(uX w.aJ&&(inR w.aAg 1 1000000000000&&EH w.aAW))))) (λn => ?_)]
   ·cases decide (w.aAX.length<=6)<;>cases (List.range 3).all (DJ w)<;>cases (List.range w.aAX.length).all (BN w)<;>simp
   ·simp only [dJ];rw [if_neg qk];simp only [bX,zE hw.aJ hz,EB hw.aAW,qA,aY]
   ·have hk1:k<w.aAe.length:=by omega
    have hk2:k<w.aAY.length:=by omega
    have hk3:k<mW.length:=by rw [LR];exact hk
    have hn:vG=some mW:=rfl
    simp only [jK,hn,qA]
    rw [if_pos qc,aM hk1,qA,bM qb,Jr (hw.aAe.2 _ (qG hk1)),qA,aM hk3,qA,aM hk2,qA,yF (hw.aAY.2 _ (qG hk2)),qA]
    unfold DJ
    rw [qF hk1,qF hk2,qF hk3]
    simp only [Option.any_some]
    generalize jK w n ((k+1:Nat):Int)=Z
    have gen : ∀(a b c:Bool),(if (!a)=true then some false else if (!b)=true then some false else if (!c)=true then some false else Z)=if (a&&(b&&c))=true then Z else some false:=by intro a b c;cases a<;>cases b<;>cases c<;>rfl
    exact gen _ _ _
   ·simp only [jK];rw [if_neg qd]
  ·rw [if_neg (by rw [h1];simp),if_pos qc,decide_eq_false h2];simp
 ·rw [if_pos qc,decide_eq_false h1];simp
theorem HK {w:M.World} (hw:w.ok) (hz : ∀b∈w.aJ.aAG,M.aAA.sz b.cR.aAU<=1048576):oI w=some (HB w):=by
 unfold oI HB
 have e3:decide ((w.aAX.length:Int)>6) = !decide (w.aAX.length<=6):=by rw [Bool.eq_iff_iff];simp;omega
 have e1:((w.aAe.length:Int) != 3) = !decide (w.aAe.length=3):=by rw [Bool.eq_iff_iff];simp;omega
 have e2:((w.aAY.length:Int) != 3) = !decide (w.aAY.length=3):=by rw [Bool.eq_iff_iff];simp;omega
 simp only [bS,E4 hw.aJ hz,Ej hw.aAW,qA,e1,e2,e3]
 by_cases h1:w.aAe.length=3
 ·by_cases h2:w.aAY.length=3
  ·rw [Nw hw (E:=gR w fuel 0) (λn=>by
     simp only [eG]
     rw [if_neg qk]),
    lI (N:=3) (L:=gR w) (g:=DJ w) (F:=some false) (E:=some true) qj (λn k hk => ?_) (λn => ?_)]
   ·rw [decide_eq_true h1,decide_eq_true h2];cases inR w.Now 0 999999990000<;>cases inR w.aAK 1 1000000<;>cases uX w.aJ<;>cases decide (w.aAX.length<=6)<;>cases inR w.aAg 1 1000000000000<;>cases EH w.aAW<;>cases (List.range 3).all (DJ w)<;>cases (List.range w.aAX.length).all (BN w)<;>rfl
   ·have hk1:k<w.aAe.length:=by omega
    have hk2:k<w.aAY.length:=by omega
    have hk3:k<mW.length:=by rw [LR];exact hk
    simp only [gR]
    rw [if_pos (bB hk1),aM hk1,qA,bM qb,Je (hw.aAe.2 _ (qG hk1)),qA,Bi,qA,aM hk2,qA,G5 (hw.aAY.2 _ (qG hk2)),qA,pM,PQ hk3]
    unfold DJ
    rw [qF hk1,qF hk2,qF hk3]
    simp only [Option.any_some]
    generalize gR w n ((k+1:Nat):Int)=Z
    have gen : ∀(a b c:Bool),(if (!a)=true then some false else if b=true then (if (!c)=true then some false else Z) else some false)=if (a&&(b&&c))=true then Z else some false:=by intro a b c;cases a<;>cases b<;>cases c<;>rfl
    exact gen _ _ _
   ·simp only [gR];rw [if_neg (by rw [h1];simp)]
  ·rw [decide_eq_true h1,decide_eq_false h2];cases inR w.Now 0 999999990000<;>cases inR w.aAK 1 1000000<;>cases uX w.aJ<;>cases decide (w.aAX.length<=6)<;>cases inR w.aAg 1 1000000000000<;>cases EH w.aAW<;>rfl
 ·rw [decide_eq_false h1];cases inR w.Now 0 999999990000<;>cases inR w.aAK 1 1000000<;>cases uX w.aJ<;>cases decide (w.aAX.length<=6)<;>cases inR w.aAg 1 1000000000000<;>cases EH w.aAW<;>rfl
theorem Mz {w:M.World} (hz:M.World.sz w<=1048576) : ∀b∈w.aJ.aAG,M.aAA.sz b.cR.aAU<=1048576:=λb hb=>Eg (by have h1:=OQ hz;have h2:=sM (f:=M.aO.sz) hb;simp only [M.aJ.sz] at h1;omega)
theorem Ij {w:M.World} (hw:w.ok) (hz:M.World.sz w<=1048576):uS w=some (HB w):=Hy hw (Mz hz)
theorem Di {w:M.World} (hw:w.ok) (hz:M.World.sz w<=1048576):oI w=some (HB w):=HK hw (Mz hz)
def okC (b:List Int) (i h:Int):Prop:=b.length<=1048576/\(∀x∈b,0<=x/\x<=255)/\0<=i/\i<=1048576/\inI h
def Dr {α:Type} (b:List Int) (P:α->Prop) (o:Option (Int×Int×α)):Prop:=∃i h r,o=some (i,h,r)/\okC b i h/\P r
theorem Dr.ret {α:Type} {b:List Int} {P:α->Prop} {i h:Int} {r:α} (hc:okC b i h) (hp:P r):Dr b P (some (i,h,r)):=⟨i,h,r,rfl,hc,hp⟩
theorem Dr.bnd {α β:Type} {b:List Int} {P:β->Prop} {Q:α->Prop} {o:Option (Int×Int×α)} {f:Int×Int×α->Option (Int×Int×β)} (ho:Dr b Q o) (hf : ∀i h r,okC b i h->Q r->Dr b P (f (i,h,r))):Dr b P (o.bind f):=by obtain ⟨i,h,r,rfl,hc,hq⟩:=ho;exact hf i h r hc hq
theorem Dr.Ep {α β:Type} {b:List Int} {P:β->Prop} {Q:α->Prop} {o:Option α} {f:α->Option (Int×Int×β)} (ho : ∃r,o=some r/\Q r) (hf : ∀r,Q r->Dr b P (f r)):Dr b P (o.bind f):=by obtain ⟨r,rfl,hq⟩:=ho;exact hf r hq
theorem Dr.mono {α:Type} {b:List Int} {P Q:α->Prop} {o:Option (Int×Int×α)} (h : ∀r,P r->Q r) (ho:Dr b P o):Dr b Q o:=by obtain ⟨i,h',r,e,hc,hp⟩:=ho;exact ⟨i,h',r,e,hc,h r hp⟩
theorem yD {σ R:Type} {L:Nat->Int->σ->Option R} {I:Nat->σ->Prop} {Q:Option R->Prop} (h1 : ∀n (k:Nat) s,I (k+1) s->(∀s',I k s'->Q (L n (k:Int) s'))->Q (L (n+1) ((k+1:Nat):Int) s)) (h0 : ∀n s,I 0 s->Q (L (n+1) 0 s)) : ∀(n k:Nat) (s:σ),k<n->I k s->Q (L n (k:Int) s)
 | 0,_,_,h,_=>by omega
 | n+1,0,s,_,hi=>h0 n s hi
 | n+1,k+1,s,h,hi=>h1 n k s hi λs' hi'=>yD h1 h0 n k s' qb hi'
theorem S3 {σ R:Type} {N:Nat} {L:Nat->Int->σ->Option R} {I:Nat->σ->Prop} {Q:Option R->Prop} (h1 : ∀n (k:Nat) s,k<N->I k s->(∀s',I (k+1) s'->Q (L n ((k+1:Nat):Int) s'))->Q (L (n+1) (k:Int) s)) (h2 : ∀n s,I N s->Q (L (n+1) (N:Int) s)) : ∀(n k:Nat) (s:σ),N-k<n->k<=N->I k s->Q (L n (k:Int) s)
 | 0,_,_,h,_,_=>by omega
 | n+1,k,s,h,hk,hi=>by
  rcases Nat.lt_or_ge k N with hlt | hge
  ·exact h1 n k s hlt hi λs' hi'=>S3 h1 h2 n (k+1) s' qb qb hi'
  ·have e:k=N:=by omega
   subst e
   exact h2 n s hi
theorem kD {k:Nat} (h:k<=9223372036854775808):k<fuel:=by unfold fuel;omega
theorem Kt (x:BitVec IntKind.i64.bits):0<=i64.wrap ((x&&&BitVec.ofInt IntKind.i64.bits 255).toNat:Int)/\i64.wrap ((x&&&BitVec.ofInt IntKind.i64.bits 255).toNat:Int)<=255:=by
 have h1:(x&&&BitVec.ofInt IntKind.i64.bits 255).toNat<=255:=by rw [BitVec.toNat_and];exact Nat.le_trans Nat.and_le_right qe
 rw [bI qb qb]
 omega
theorem D5 {b:List Int} {i h:Int} (hc:okC b i h):Dr b (λr=>0<=r/\r<=255) (oH (⟨b,i,h⟩:M.aQ)):=by
 obtain ⟨h1,h2,h3,h4,h5⟩:=hc
 unfold oH
 by_cases hl:i<(b.length:Int)
 ·rw [if_pos (by simpa using hl)]
  obtain ⟨k,rfl⟩:=Int.eq_ofNat_of_zero_le h3
  have hk:k<b.length:=by omega
  show Dr b _ ((idx b (k:Int)).bind _)
  rw [aM hk,qA]
  refine .ret ⟨h1,h2,?_,?_,bH _⟩ (Kt _)
  ·show 0<=i64.wrap ((k:Int)+1);rw [bM qb];omega
  ·show i64.wrap ((k:Int)+1)<=_;rw [bM qb];omega
 ·rw [if_neg (by simpa using hl)];exact .ret ⟨h1,h2,h3,h4,bH _⟩ (Kt _)
theorem LX {x n:Int} (hx:0<=x) (hn:0<n):x%n<=x:=by have h1:=Int.emod_add_mul_ediv x n;have h2:0<=n*(x/n):=Int.mul_nonneg qb (Int.ediv_nonneg hx qb);omega
theorem PJ {x n:Int} (hx:0<=x) (hn:0<n):0<=Int.tmod x n/\Int.tmod x n<n:=by rw [Int.tmod_eq_emod_of_nonneg hx];exact ⟨Int.emod_nonneg _ qb,Int.emod_lt_of_pos _ hn⟩
theorem aV {b:List Int} {i h n:Int} (hc:okC b i h):Dr b (λr=>0<=r/\(0<n->r<n)/\r<=16777215) (aE (⟨b,i,h⟩:M.aQ) n):=by
 unfold aE
 by_cases h0:n<=0
 ·rw [if_pos (by simpa using h0)];exact .ret hc ⟨qb,qb,qb⟩
 ·rw [if_neg (by simpa using h0)]
  by_cases h1:n<=256
  ·rw [if_pos (by simpa using h1)]
   refine .bnd (D5 hc) λi1 v1 r1 c1 q1 => ?_
   rw [if_neg qc]
   have:=PJ q1.1 (show 0<n by omega)
   exact .ret c1 ⟨this.1,λ_=>this.2,by show Int.tmod r1 n<=_;omega⟩
  ·rw [if_neg (by simpa using h1)]
   refine .bnd (D5 hc) λi1 v1 r1 c1 q1=>.bnd (D5 c1) λi2 v2 r2 c2 q2=>.bnd (D5 c2) λi3 v3 r3 c3 q3 => ?_
   rw [if_neg qc]
   dsimp only
   rw [bI (n:=r1*65536) qb qb,bI (n:=r2*256) qb qb,bI (n:=r1*65536+r2*256) qb qb,bI qb qb]
   have:=PJ (show 0<=r1*65536+r2*256+r3 by omega) (show 0<n by omega)
   have h3:=Int.tmod_eq_emod_of_nonneg (b:=n) (show 0<=r1*65536+r2*256+r3 by omega)
   have h4:=LX (n:=n) (show 0<=r1*65536+r2*256+r3 by omega) (show 0<n by omega)
   exact .ret c3 ⟨this.1,λ_=>this.2,qb⟩
theorem xK {b:List Int} {i h n:Int} (hc:okC b i h):Dr b (λ_=>True) (cK (⟨b,i,h⟩:M.aQ) n):=by unfold cK;exact .bnd (aV hc) λi1 v1 r1 c1 q1=>.ret c1 trivial
theorem nP {b:List Int} {i h:Int} {l:List Int} (P:Int->Prop) (hl:0<l.length) (hp : ∀x∈l,P x) (hc:okC b i h):Dr b P (bE (⟨b,i,h⟩:M.aQ) l):=by
 unfold bE
 refine .bnd (aV hc) λi1 v1 r1 c1 q1 => ?_
 dsimp only
 obtain ⟨k,rfl⟩:=Int.eq_ofNat_of_zero_le q1.1
 have:=q1.2.1 qb
 have hk:k<l.length:=by omega
 rw [aM hk,qA]
 exact .ret c1 (hp _ (qG hk))
theorem zM {b:List Int} {i h:Int} {l:List ByteArray} (P:ByteArray->Prop) (hl:0<l.length) (hp : ∀x∈l,P x) (hc:okC b i h):Dr b P (eT (⟨b,i,h⟩:M.aQ) l):=by
 unfold eT
 refine .bnd (aV hc) λi1 v1 r1 c1 q1 => ?_
 dsimp only
 obtain ⟨k,rfl⟩:=Int.eq_ofNat_of_zero_le q1.1
 have:=q1.2.1 qb
 have hk:k<l.length:=by omega
 rw [aM hk,qA]
 exact .ret c1 (hp _ (qG hk))
theorem Nj {b:List Int} : ∀(n k:Nat) (v:Int),b.length-k<n->k<=b.length->b.length<=1048576->inI v -> ∃h,kP b n v (k:Int)=some (⟨b,0,h⟩:M.aQ)/\inI h
 | 0,_,_,h,_,_,_=>by omega
 | n+1,k,v,h,hk,hl,hv=>by simp only [kP];by_cases h1:k<b.length;(rw [if_pos (bB h1)];by_cases h2:(k:Int)<4000;(rw [if_pos (by simpa using h2),aM h1,qA,bM qb];exact Nj n (k+1) _ qb qb hl (bH _));·rw [if_neg (by simpa using h2)];exact ⟨v,rfl,hv⟩);·rw [if_neg qc];exact ⟨v,rfl,hv⟩
theorem Md {b:List Int} (hl:b.length<=1048576) (hb : ∀x∈b,0<=x/\x<=255) : ∃h,vC b=some (⟨b,0,h⟩:M.aQ)/\okC b 0 h:=by unfold vC;obtain ⟨h,e1,e2⟩:=Nj (b:=b) fuel 0 (i64.wrap (193017+(List.length b:Int))) (kD qb) qb hl (bH _);exact ⟨h,e1,hl,hb,qb,qb,e2⟩
theorem zB {r:Int} (h:0<=r) : ∃k:Nat,r=(k:Int):=⟨r.toNat,qb⟩
theorem GJ {n:Int} (h1 : -1000000000000000<=n) (h2:n<=1000000000000000):inI n:=by unfold inI;omega
theorem BR {s:ByteArray} (h:s.size<=8):s.size<=maxLen:=by unfold maxLen;omega
theorem wrap_small {n:Int} (h1 : -1000000000000000<=n) (h2:n<=1000000000000000):i64.wrap n=n:=bI qb qb
theorem DU {b:List Int} {i h:Int} (hc:okC b i h):Dr b (λs=>s.size<=8) (jZ (⟨b,i,h⟩:M.aQ)):=by unfold jZ;exact .bnd (zM (λs=>s.size<=8) qe qe hc) λi1 v1 r1 c1 q1=>.ret c1 q1
theorem KZ {b:List Int} {i h:Int} (hc:okC b i h):Dr b (λs=>s.size<=8) (sG (⟨b,i,h⟩:M.aQ)):=by unfold sG;exact .bnd (zM (λs=>s.size<=8) qe qe hc) λi1 v1 r1 c1 q1=>.ret c1 q1
theorem wG {b:List Int} {i h:Int} (hc:okC b i h):Dr b (λs=>s.size<=8) (cW (⟨b,i,h⟩:M.aQ)):=by unfold cW;exact .bnd (zM (λs=>s.size<=8) qe qe hc) λi1 v1 r1 c1 q1=>.ret c1 q1
def Oj (d:Int):M.World:=if 1<=d/\d<=1000000 then (⟨0,true,d,(⟨([]:List M.aO)⟩:M.aJ),([]:List M.bV),1,(⟨([]:List M.tV)⟩:M.cH),(⟨([]:List M.xV)⟩:M.aAa),
   mW.map (λx=>(⟨x,1,[(⟨#[99,111,100,101]⟩:ByteArray),(⟨#[100,97,116,97]⟩:ByteArray),(⟨#[105,110,100,101,120]⟩:ByteArray),(⟨#[115,116,121,108,101]⟩:ByteArray)],(x.toList==(⟨#[110,101,119,115]⟩:ByteArray).toList)⟩:M.aAO)),
   mW.map (λ_=>(⟨(⟨(⟨#[110,111,116,101,115]⟩:ByteArray),([]:List M.aAQ),0⟩:M.aA),([]:List M.aK),([]:List M.bA)⟩:M.aAI))⟩:M.World)
  else (⟨0,false,0,(⟨([]:List M.aO)⟩:M.aJ),([]:List M.bV),0,(⟨([]:List M.tV)⟩:M.cH),(⟨([]:List M.xV)⟩:M.aAa),([]:List M.aAO),([]:List M.aAI)⟩:M.World)
theorem UR : ∃n,fuel=n+4:=⟨fuel-4,qi⟩
theorem CF {d:Int}:sX d=some (Oj d):=by unfold sX Oj aZ;by_cases h:1<=d/\d<=1000000;(rw [if_pos h,if_pos (by simpa using h.1),qA,if_neg (by simpa using h.2)];obtain ⟨n,hn⟩:=UR;rw [hn];rfl);·rw [if_neg h];by_cases h1:1<=d;(rw [if_pos (by simpa using h1),qA,if_pos qc]);·rw [if_neg (by simpa using h1),qA,if_pos qd]
theorem Hh {d:Int}:vW d=some (Oj d):=by unfold vW Oj aW;by_cases h:1<=d/\d<=1000000;(rw [if_pos h,if_pos (by simpa using h.1),qA,if_neg (by simpa using h.2)];obtain ⟨n,hn⟩:=UR;rw [hn];rfl);·rw [if_neg h];by_cases h1:1<=d;(rw [if_pos (by simpa using h1),qA,if_pos qc]);·rw [if_neg (by simpa using h1),qA,if_pos qd]
theorem Qj {l:List M.bV} {f:Int} (hl:l.length<=maxLen):xF l f=some (oF (λp:M.bV=>p.Id==f) l):=by have hm:=le_max hl;unfold xF;rw [findAll (L:=lO l f) (f:=λp:M.bV=>p.Id==f) (A:=λi=>some (i:Int)) (E:=some (-1)) hl (λm k hk => ?_) (λm => ?_),tK];(simp only [lO];rw [if_pos (bB hk),aM hk,qA,bM qb]);·simp only [lO];rw [if_neg qk]
def UD (w:M.World) (f:Int):Int:=oF (λp:M.bV=>p.Id==f) w.aAX
theorem F8 {w:M.World} {f:Int} (hw:w.ok):uE w f=some (UD w f):=by unfold uE;rw [Qj hw.aAX.1,qA];rfl
theorem Gg {w:M.World} {f:Int} (hw:w.ok):uK w f=some (UD w f):=by unfold uK;rw [GD (p:=λz0=>rT z0 f) (f:=λp:M.bV=>p.Id==f) hw.aAX.1 (λx _=>rfl),qA];rfl
theorem U0 {b:List Int} {i1 v1:Int} {r1:ByteArray} (c1:okC b i1 v1) (q1:r1.size<=8) : ∃r:ByteArray×Int×Int,((cK (⟨b,i1,v1⟩:M.aQ) 3).bind λaa=>(if aa.2.2=true then ((jZ (⟨b,aa.1,aa.2.1⟩:M.aQ)).bind λae=>(some (ae.2.2,ae.1,ae.2.1))) else (some (r1,aa.1,aa.2.1))))=some r/\(r.1.size<=8/\okC b r.2.1 r.2.2):=by obtain ⟨i2,v2,r2,e2,c2,q2⟩:=xK (n:=3) c1;rw [e2,qA];dsimp only;split;(obtain ⟨i3,v3,r3,e3,c3,q3⟩:=DU c2;rw [e3,qA];exact ⟨_,rfl,q3,c3⟩);·exact ⟨_,rfl,q1,c2⟩
theorem Of (k:Nat):(decide (((k+1:Nat):Int)>0))=true:=decide_eq_true qb
theorem Gm : ¬(decide ((0:Int)>0))=true:=by simp
theorem Gy {k:Nat} (h:k+1<=100000):i64.wrap (((k+1:Nat):Int)-1)=(k:Int):=by rw [wrap_small qb qb];omega
theorem bgI {x:Int} (h : -1000000000000000<=x/\x<=1000000000000000):inI x:=GJ h.1 h.2
theorem Rb {r n:Int} (q:0<=r/\(0<n->r<n)/\r<=16777215) : -1000000000000000<=r/\r<=1000000000000000:=⟨qb,qb⟩
theorem Xu {x:Int} (q : -1000000000000<=x/\x<=1000000000000/\(x<=256\/x=1000000000000)) : -1000000000000000<=x/\x<=1000000000000000:=⟨qb,qb⟩
theorem Zz {r n:Int} (q:0<=r/\(0<n->r<n)/\r<=16777215) (h0:0<n) (h:n<=1000):0<=r/\r<=1000:=⟨q.1,by have:=q.2.1 h0;omega⟩
theorem s16 {s:ByteArray} (h:s.size<=16):s.size<=maxLen:=by unfold maxLen;omega
theorem ml {n:Nat} (h:n<=1000000):n<=maxLen:=by unfold maxLen;omega
theorem wP {α:Type} {b:Nat} {xs ys:List α} (h:xs.length+ys.length<=1000000) (hb:b<=1000):app b xs ys=some (xs++ys):=fQ (Nat.le_trans (Nat.mul_le_mul h hb) qb)
def JJ (k:M.Key):Prop:=M.Key.ok k/\k.aAf.size<=16
theorem mkKey {a n:Int} {s:ByteArray} (h1 : -1000000000000000<=a/\a<=1000000000000000) (h2 : -1000000000000000<=n/\n<=1000000000000000) (h3:s.size<=16):JJ (⟨a,n,s⟩:M.Key):=⟨⟨bgI h1,bgI h2,s16 h3⟩,h3⟩
def L7 (k:M.Key):Prop:=k.aAV=1/\0<=k.N/\k.N<=5/\k.aAf=(⟨#[]⟩:ByteArray)
theorem L7.any {k:M.Key} (h:L7 k):JJ k:=by obtain ⟨a,n,s⟩:=k;obtain ⟨h1,h2,h3,h4⟩:=h;dsimp only at h1 h2 h3 h4;subst h4;exact mkKey qb qb qe
def Jv (k:M.Key):Prop:=JJ k/\(k.aAV=1->k.N<=256\/k.N=1000000000000)
theorem L7.auto {k:M.Key} (h:L7 k):Jv k:=⟨h.any,λ_=>.inl (by have:=h.2.2.1;omega)⟩
theorem uC {b:List Int} {i h:Int} (c0:okC b i h):Dr b L7 (dF (⟨b,i,h⟩:M.aQ)):=by
 unfold dF
 refine .bnd (aV c0) λi1 v1 r1 c1 q1 => ?_
 have:=q1.2.1 qb
 exact .ret c1 ⟨rfl,q1.1,by show r1<=5;omega,rfl⟩
theorem I7 {b:List Int} {i h:Int} (c0:okC b i h):Dr b (λx => -1000000000000<=x/\x<=1000000000000/\(x<=256\/x=1000000000000)) (sV (⟨b,i,h⟩:M.aQ)):=by
 unfold sV
 refine .bnd (aV c0) λi1 v1 r1 c1 q1 => ?_
 have:=q1.2.1 qb
 have:=q1.1
 exact .bnd (nP (λx => -1000000000000<=x/\x<=1000000000000/\(x<=256\/x=1000000000000)) qd (λx hx=>by simp only [List.mem_cons,qO,or_false] at hx;omega) c1) λi2 v2 r2 c2 q2=>.ret c2 q2
theorem Qi {b:List Int} {i h:Int} (c0:okC b i h):Dr b Jv (xU (⟨b,i,h⟩:M.aQ)):=by
 unfold xU
 refine .bnd (zM (λs=>s.size<=16) qe qe c0) λi1 v1 r1 c1 q1=>.bnd (aV c1) λi2 v2 r2 c2 q2 => ?_
 dsimp only
 split
 ·exact .ret c2 ⟨mkKey qb qb q1,λh=>by have h':(2:Int)=1:=h;omega⟩
 split
 ·exact .bnd (I7 c2) λi3 v3 r3 c3 q3=>.ret c3 ⟨mkKey qb (Xu q3) q1,λh=>by have h':(3:Int)=1:=h;omega⟩
 ·exact .bnd (I7 c2) λi3 v3 r3 c3 q3=>.ret c3 ⟨mkKey qb (Xu q3) qe,λ_=>q3.2.2⟩
theorem LD {b:List Int} {i h:Int} (c0:okC b i h):Dr b JJ (vE (⟨b,i,h⟩:M.aQ)):=by
 unfold vE
 refine .bnd (Qi c0) λi1 v1 r1 c1 q1=>.bnd (aV c1) λi2 v2 r2 c2 q2 => ?_
 dsimp only
 have hk:=q1.1
 split
 ·exact .bnd (aV c2) λi3 v3 r3 c3 q3=>.ret c3 ⟨⟨bgI (Rb q3),hk.1.N,hk.1.aAf⟩,hk.2⟩
 split
 ·exact .bnd (nP (λx => -1000000000000000<=x/\x<=1000000000000000) qe qe c2) λi3 v3 r3 c3 q3=>.ret c3 ⟨⟨hk.1.aAV,bgI q3,hk.1.aAf⟩,hk.2⟩
 split
 ·exact .bnd (zM (λs=>s.size<=16) qe qe c2) λi3 v3 r3 c3 q3=>.ret c3 ⟨⟨hk.1.aAV,hk.1.N,s16 q3⟩,q3⟩
 ·exact .ret c2 hk
def Hc (r:M.aC):Prop:=r.ok/\bR r=true
theorem Qf {r:M.aC} {a:ByteArray} {n:Int} (h:Hc r) (ha:a.size<=16) (hn : -1000000000000000<=n/\n<=1000000000000000) : ∃x,gK r a n=some x/\Hc x.1:=by
 have hz:=Dg h.2
 have hl:r.aAF.length<=1073741824:=by simp only [M.aC.sz] at hz;omega
 exact ⟨_,yE h.1 qb (s16 ha) (bgI hn),Jl h.1 hl (s16 ha) (bgI hn),MI h.2 _ _⟩
theorem Un:Hc (⟨([]:List M.Field)⟩:M.aC):=⟨D3,BV⟩
theorem AA {b:List Int} {i h:Int} (c0:okC b i h):Dr b Hc (iH (⟨b,i,h⟩:M.aQ)):=by
 unfold iH
 refine .bnd (aV c0) λi1 v1 r1 c1 q1 => ?_
 have hN:=q1.2.2
 obtain ⟨N,rfl⟩:=zB q1.1
 have hN:=q1.2.1 qb
 refine yD (L:=λn v (s:(M.aC)×Int×Int)=>kM (⟨b,i,h⟩:M.aQ) n v s.2.1 s.2.2 s.1.aAF) (I:=λk s=>k<=100000/\okC b s.2.1 s.2.2/\Hc s.1) (Q:=Dr b Hc) (λn k s hi ih => ?_) (λn s hi => ?_) fuel N ((⟨([]:List M.Field)⟩:M.aC),i1,v1) (kD qb) ⟨qb,c1,Un⟩
 ·obtain ⟨x,ci,ch⟩:=s
  obtain ⟨k0,k1,k2⟩:=hi
  dsimp only at k1 k2
  simp only [kM]
  rw [if_pos (Of k),Gy k0]
  refine .bnd (wG k1) λi3 v3 r3 c3 q3=>.bnd (aV c3) λi4 v4 r4 c4 q4=>.Ep (Qf k2 (Nat.le_trans q3 qb) (Rb q4)) λy hy => ?_
  exact ih (y.1,i4,v4) ⟨qb,c4,hy⟩
 ·obtain ⟨x,ci,ch⟩:=s;obtain ⟨k0,k1,k2⟩:=hi;dsimp only at k1 k2;simp only [kM];rw [if_neg Gm];exact .ret k1 k2
theorem TO {r:M.aC} {a:ByteArray} {n:Int} (h:Hc r) (ha:a.size<=16) (hn : -1000000000000000<=n/\n<=1000000000000000):M.aC.ok (⟨r.aAF++[(⟨a,n⟩:M.Field)]⟩:M.aC)/\M.aC.sz (⟨r.aAF++[(⟨a,n⟩:M.Field)]⟩:M.aC)<=200:=by have hz:=Dg h.2;simp only [M.aC.sz] at hz ⊢;refine ⟨⟨ml qn,λy hy => ?_⟩,?_⟩;(rcases List.mem_append.1 hy with hy | hy;(exact h.1.aAF.2 y hy);·rw [List.mem_singleton.1 hy];exact ⟨s16 ha,bgI hn⟩);·rw [xZ];simp only [gO,M.Field.sz,qE,qJ,qK];omega
def ML (r:M.aC):Prop:=r.ok/\M.aC.sz r<=200
theorem Hc.any {r:M.aC} (h:Hc r):ML r:=⟨h.1,by have:=Dg h.2;omega⟩
theorem Tu {b:List Int} {i h:Int} (c0:okC b i h):Dr b ML (Ad (⟨b,i,h⟩:M.aQ)):=by
 unfold Ad
 refine .bnd (AA c0) λi1 v1 r1 c1 q1=>.bnd (aV c1) λi2 v2 r2 c2 q2 => ?_
 dsimp only
 have hz:=Dg q1.2
 have hl:r1.aAF.length<=100:=by simp only [M.aC.sz] at hz;omega
 split
 ·refine .bnd (zM (λs=>s.size<=16) qe qe c2) λi3 v3 r3 c3 q3=>.bnd (nP (λx => -1000000000000000<=x/\x<=1000000000000000) qe qe c3) λi4 v4 r4 c4 q4 => ?_
  dsimp only
  rw [wP qs qb,qA]
  exact .ret c4 (TO q1 q3 q4)
 split
 ·have key : ∀(n k:Nat) (r:M.aC),6-k<n->k<=6->Hc r->Dr b ML (oV (i2,v2,r2) n (k:Int) r.aAF):=by
   intro n
   induction n with
   | zero=>intro k r h _ _;omega
   | succ n ih =>
    intro k r h hk hr
    simp only [oV]
    rcases Nat.lt_or_ge k 6 with h6 | h6
    ·have e : ∃s,idx ([(⟨#[100]⟩:ByteArray),(⟨#[101]⟩:ByteArray),(⟨#[102]⟩:ByteArray),(⟨#[103]⟩:ByteArray),(⟨#[104]⟩:ByteArray),(⟨#[105]⟩:ByteArray)]) (k:Int)=some s/\s.size<=16:=by
      have:k=0\/k=1\/k=2\/k=3\/k=4\/k=5:=by omega
      rcases this with rfl | rfl | rfl | rfl | rfl | rfl<;>exact ⟨_,rfl,qe⟩
     rw [if_pos (bB h6)]
     refine .Ep e λs hs=>.Ep (Qf hr hs qb) λy hy => ?_
     rw [bM qb]
     exact ih (k+1) y.1 qb qb hy
    ·have:k=6:=by omega
     subst this
     rw [if_neg qd]
     exact .ret c2 hr.any
  exact key fuel 0 r1 (kD qb) qb q1
 ·exact .ret c2 q1.any
def SX (s:M.aA):Prop:=s.aAd<=256 /\ ∀x∈s.aAD,x.Key.aAV=1->x.Key.N<=s.aAd\/x.Key.N=1000000000000
def Oh (s:M.aA):Prop:=s.ok/\gE s=true/\SX s
theorem RV {s:M.aA} {k:M.Key} {r:M.aC} (hs:SX s) (hk:Jv k):SX (Aj s k r).1:=by
 have ha:s.aAd<=Ex s k/\Ex s k<=256/\(k.aAV=1->k.N<=Ex s k\/k.N=1000000000000):=by obtain ⟨a1,a2⟩:=hs;have a3:=hk.2;unfold Ex;by_cases hc:((k.aAV==1)&&(decide (k.N>s.aAd)&&decide (k.N<=1000000)))=true;(rw [if_pos hc];simp only [qM,qL,beq_iff_eq] at hc;have:=a3 hc.1;exact ⟨qb,qb,λ_=>.inl qb⟩);·rw [if_neg hc];refine ⟨qb,a1,λh1 => ?_⟩;have:=a3 h1;simp only [qM,qL,beq_iff_eq,not_and] at hc;by_cases h2:k.N>s.aAd;(have:=hc h1 h2;omega);·omega
 unfold Aj
 split
 ·split;(split;(split;(refine ⟨ha.2.1,λx hx h1 => ?_⟩;have hx':x∈s.aAD.take (AP s.aAD k)++([(⟨k,r⟩:M.aAQ)]++s.aAD.drop (AP s.aAD k)):=hx;simp only [qP,List.mem_singleton] at hx';show x.Key.N<=Ex s k\/_;rcases hx' with hx' | rfl | hx';(have:=hs.2 x (List.mem_of_mem_take hx') h1;omega);(exact ha.2.2 h1);·have:=hs.2 x (List.mem_of_mem_drop hx') h1;omega);·exact hs);·unfold LU;refine ⟨hs.1,?_⟩;dsimp only;split;(rename_i y hy;intro x hx h1;rcases List.mem_or_eq_of_mem_set hx with hx | rfl;(exact hs.2 x hx h1);·exact hs.2 y (List.mem_of_getElem? hy) h1);·exact hs.2);·exact hs
 ·exact hs
theorem Qn {s:M.aA} {k:M.Key} {r:M.aC} (hs:Oh s) (hk:Jv k) (hr:Hc r) : ∃x,dO s k r=some x/\Oh x.1:=by
 have hz:=mV hs.2.1
 have hl:s.aAD.length<=1073741824:=by simp only [M.aA.sz] at hz;omega
 refine ⟨_,uM hs.1 hk.1.1 hr.1 hr.2 qb (Nat.le_trans (Dg hr.2) qb),Js hs.1 hl hk.1.1 hr.1,?_,RV hs.2.2 hk⟩
 cases h2:(Aj s k r).2 with
 | true=>exact Bc hr.2 h2
 | false=>rw [FG h2];exact hs.2.1
theorem SB {a:ByteArray} (hn:kI a=true) (ha:a.size<=16):Oh (⟨a,([]:List M.aAQ),0⟩:M.aA):=⟨⟨s16 ha,⟨by simp [maxLen],qd⟩,sL⟩,by unfold gE;simp [hn,inR],by show (0:Int)<=256;omega,qd⟩
theorem Ct {b:List Int} {i h:Int} {a:ByteArray} (hn:kI a=true) (ha:a.size<=16) (c0:okC b i h):Dr b Oh (mJ (⟨b,i,h⟩:M.aQ) a):=by
 unfold mJ
 refine .bnd (nP (λx=>0<=x/\x<=6) qe qe c0) λi1 v1 r1 c1 q1 => ?_
 obtain ⟨N,rfl⟩:=zB q1.1
 have hN:=q1.2
 refine yD (L:=λn v (s:(M.aA)×Int×Int)=>lR (⟨b,i,h⟩:M.aQ) n v s.1.Name s.1.aAd s.2.1 s.2.2 s.1.aAD) (I:=λk s=>k<=100000/\okC b s.2.1 s.2.2/\Oh s.1) (Q:=Dr b Oh) (λn k s hi ih => ?_) (λn s hi => ?_) fuel N ((⟨a,([]:List M.aAQ),0⟩:M.aA),i1,v1) (kD qb) ⟨qb,c1,SB hn ha⟩
 ·obtain ⟨x,ci,ch⟩:=s
  obtain ⟨k0,k1,k2⟩:=hi
  dsimp only at k1 k2
  simp only [lR]
  rw [if_pos (Of k),Gy k0]
  refine .bnd (uC k1) λi3 v3 r3 c3 q3=>.bnd (AA c3) λi4 v4 r4 c4 q4=>.Ep (Qn k2 q3.auto q4) λy hy => ?_
  exact ih (y.1,i4,v4) ⟨qb,c4,hy⟩
 ·obtain ⟨x,ci,ch⟩:=s
  obtain ⟨k0,k1,k2⟩:=hi
  dsimp only at k1 k2
  simp only [lR]
  rw [if_neg Gm]
  refine .bnd (xK k1) λi3 v3 r3 c3 q3 => ?_
  dsimp only
  split
  ·exact .bnd (Qi c3) λi4 v4 r4 c4 q4=>.bnd (AA c4) λi5 v5 r5 c5 q5=>.Ep (Qn k2 q4 q5) λy hy=>.ret c5 hy
  ·exact .ret c3 k2
def I0 (s:M.aA):Prop:=s.ok/\M.aA.sz s<=20000
theorem Oh.any {s:M.aA} (h:Oh s):I0 s:=⟨h.1,by have:=mV h.2.1;omega⟩
def RO (s:M.aA):Prop:=s.aAd<=256+s.aAD.length /\ ∀x∈s.aAD,x.Key.aAV=1->x.Key.N<=s.aAd\/x.Key.N=1000000000000
theorem ON {s:M.aA} (h1:s.ok) (h2:gE s=true) (h3:RO s) (hl:s.aAD.length<16) : ∃x,vA s (⟨([]:List M.Field)⟩:M.aC)=some x/\x.1.ok/\gE x.1=true/\RO x.1/\x.1.aAD.length=s.aAD.length+1:=by
 obtain ⟨_,_,_,h0,_⟩:=tQ h2
 obtain ⟨a1,a2⟩:=h3
 have ew:i64.wrap (s.aAd+1)=s.aAd+1:=wrap_small qb qb
 have hz:=mV h2
 have hkey:Ao (⟨1,s.aAd+1,(⟨#[]⟩:ByteArray)⟩:M.Key)=true:=by
  unfold Ao inR
  have e:Ig (⟨#[]⟩:ByteArray)=true:=by decide
  simp [e]
  omega
 have hf:oF (uY (⟨1,s.aAd+1,(⟨#[]⟩:ByteArray)⟩:M.Key)) s.aAD<0:=Classical.byContradiction λhn=>by obtain ⟨j,ej,hj⟩:=lE hn;obtain ⟨_,hit⟩:=Bx ej;unfold uY at hit;simp only [qM,beq_iff_eq] at hit;have:=a2 _ (qG hj) hit.1;omega
 have hk:M.Key.ok (⟨1,s.aAd+1,(⟨#[]⟩:ByteArray)⟩:M.Key):=(mkKey qb qb qe).1
 have e:=Dk h1 hk D3 BV qb (by simp [M.aC.sz,gO])
 have ep:Aj s (⟨1,s.aAd+1,(⟨#[]⟩:ByteArray)⟩:M.Key) (⟨([]:List M.Field)⟩:M.aC)=(Kp s (⟨1,s.aAd+1,(⟨#[]⟩:ByteArray)⟩:M.Key) (⟨([]:List M.Field)⟩:M.aC),true):=by unfold Aj;rw [if_pos h2,if_pos hkey,if_pos hf,if_pos hl]
 have hg:=Bc (s:=s) (k:=(⟨1,s.aAd+1,(⟨#[]⟩:ByteArray)⟩:M.Key)) BV (by rw [ep])
 rw [ep] at hg
 have en:Lq s (⟨1,s.aAd+1,(⟨#[]⟩:ByteArray)⟩:M.Key) (⟨([]:List M.Field)⟩:M.aC)=(Kp s (⟨1,s.aAd+1,(⟨#[]⟩:ByteArray)⟩:M.Key) (⟨([]:List M.Field)⟩:M.aC),true):=by unfold Lq;rw [if_pos hf,ep]
 have ea:Ex s (⟨1,s.aAd+1,(⟨#[]⟩:ByteArray)⟩:M.Key)=s.aAd+1:=by unfold Ex;rw [if_pos qc]
 have hp:=JB s.aAD (⟨1,s.aAd+1,(⟨#[]⟩:ByteArray)⟩:M.Key)
 rw [en] at e
 refine ⟨(Kp s (⟨1,s.aAd+1,(⟨#[]⟩:ByteArray)⟩:M.Key) (⟨([]:List M.Field)⟩:M.aC),(⟨1,s.aAd+1,(⟨#[]⟩:ByteArray)⟩:M.Key),true),?_,?_,hg,?_,?_⟩
 ·unfold vA;rw [if_neg qc,ew,e,qA,if_neg qd]
 ·unfold Kp;exact PT _ h1 qb hk D3 (by rw [ea];exact bgI qh)
 ·unfold Kp RO;dsimp only;rw [ea];refine ⟨qo,λx hx h1 => ?_⟩;simp only [qP,List.mem_singleton] at hx;rcases hx with hx | rfl | hx;(have:=a2 x (List.mem_of_mem_take hx) h1;omega);(exact .inl (Int.le_refl _));·have:=a2 x (List.mem_of_mem_drop hx) h1;omega
 ·unfold Kp;simp only [qE,qT,qU,qJ,qK];omega
theorem Ty {s:M.aA} {k:M.Key} {r:M.aC} (hs:Oh s) (hk:JJ k) (hr:ML r):I0 (⟨s.Name,s.aAD++[(⟨k,r⟩:M.aAQ)],s.aAd⟩:M.aA):=by have hz:=mV hs.2.1;have h1:=hk.2;have h2:=hr.2;refine ⟨⟨hs.1.Name,⟨?_,λy hy => ?_⟩,hs.1.aAd⟩,?_⟩;(simp only [M.aA.sz] at hz;exact ml qn);(rcases List.mem_append.1 hy with hy | hy;(exact hs.1.aAD.2 y hy);·rw [List.mem_singleton.1 hy];exact ⟨hk.1,hr.1⟩);·simp only [M.aA.sz] at hz ⊢;rw [xZ];simp only [gO,M.aAQ.sz,M.Key.sz,qE,qJ,qK];omega
theorem PH {b:List Int} {i h:Int} (c0:okC b i h):Dr b I0 (xS (⟨b,i,h⟩:M.aQ)):=by
 unfold xS
 refine .bnd (Ct qe qe c0) λi1 v1 r1 c1 q1=>.bnd (aV c1) λi2 v2 r2 c2 q2 => ?_
 dsimp only
 have hz:=mV q1.2.1
 have hl:r1.aAD.length<=10000:=by simp only [M.aA.sz] at hz;omega
 split
 ·refine .bnd (zM (λs=>s.size<=16) qe qe c2) λi3 v3 r3 c3 q3=>.ret c3 ⟨⟨s16 q3,q1.1.aAD,q1.1.aAd⟩,?_⟩
  have q3':r3.size<=16:=q3
  simp only [M.aA.sz] at hz ⊢
  omega
 split
 ·exact .bnd (nP (λx => -1000000000000000<=x/\x<=1000000000000000) qe qe c2) λi3 v3 r3 c3 q3=>.ret c3 ⟨⟨q1.1.Name,q1.1.aAD,bgI q3⟩,Nat.le_trans hz qb⟩
 split
 ·refine .bnd (LD c2) λi3 v3 r3 c3 q3=>.bnd (Tu c3) λi4 v4 r4 c4 q4 => ?_
  dsimp only
  rw [wP qs qb,qA]
  exact .ret c4 (Ty q1 q3 q4)
 split
 ·have key : ∀(n:Nat) (s:M.aA),16-s.aAD.length<n->s.ok->gE s=true->RO s->Dr b I0 (tN (i2,v2,r2) n s.Name s.aAd s.aAD):=by
   intro n
   induction n with
   | zero=>intro s h _ _ _;omega
   | succ n ih =>
    intro s h hs hst hj
    have hm:=mV hst
    simp only [tN]
    rcases Nat.lt_or_ge s.aAD.length 16 with h6 | h6
    ·rw [if_pos qc,show (⟨s.Name,s.aAD,s.aAd⟩:M.aA)=s from rfl,uU hs,qA,hst,if_pos rfl]
     refine .Ep (ON hs hst hj h6) λy hy => ?_
     have hy':=hy.2.2.2
     exact ih y.1 qb hy.1 hy.2.1 hy.2.2.1
    ·rw [if_neg qc];exact .ret c2 ⟨hs,by show M.aA.sz s<=_;omega⟩
  exact key fuel r1 (kD qb) q1.1 q1.2.1 ⟨by have:=q1.2.2.1;omega,q1.2.2.2⟩
 ·exact .ret c2 q1.any
theorem KS {b:List Int} {i h n:Int} (hn:0<=n/\n<=1000) (c0:okC b i h):Dr b (λl=>okB l/\l.length<=1000) (uT (⟨b,i,h⟩:M.aQ) n):=by
 unfold uT
 obtain ⟨N,rfl⟩:=zB hn.1
 refine S3 (N:=N) (L:=λm v (s:List Int×Int×Int)=>mD (⟨b,i,h⟩:M.aQ) (N:Int) m v s.1 s.2.1 s.2.2) (I:=λk s=>okC b s.2.1 s.2.2/\s.1.length=k /\ ∀x∈s.1,0<=x/\x<=255) (Q:=Dr b (λl=>okB l/\l.length<=1000)) (λm k s hk hi ih => ?_) (λm s hi => ?_) fuel 0 (([]:List Int),i,h) (kD qb) qb ⟨c0,rfl,qd⟩
 ·obtain ⟨l,ci,ch⟩:=s
  obtain ⟨k1,k2,k3⟩:=hi
  dsimp only at k1 k2 k3
  simp only [mD]
  rw [if_pos (bB hk)]
  refine .bnd (D5 k1) λi3 v3 r3 c3 q3 => ?_
  dsimp only
  rw [wP qs qb,qA,bM qb]
  refine ih (l++[_],i3,v3) ⟨c3,by simp [k2],λx hx => ?_⟩
  rcases List.mem_append.1 hx with hx | hx
  ·exact k3 x hx
  ·rw [List.mem_singleton.1 hx,wrap_u8];omega
 ·obtain ⟨l,ci,ch⟩:=s;obtain ⟨k1,k2,k3⟩:=hi;dsimp only at k1 k2 k3;simp only [mD];rw [if_neg qk];exact .ret k1 ⟨⟨ml qb,k3⟩,qb⟩
theorem R7 {b l:List Int} {i h:Int} (hl:okB l) (hz:l.length<=100000) (c0:okC b i h):Dr b (λr=>okB r/\r.length<=l.length+1) (yU (⟨b,i,h⟩:M.aQ) l):=by
 unfold yU
 rw [IY qb qb,qA]
 refine .bnd (aV c0) λi1 v1 r1 c1 q1 => ?_
 dsimp only
 split
 ·split
  ·rename_i hp
   refine .bnd (aV c1) λi2 v2 r2 c2 q2=>.bnd (aV c2) λi3 v3 r3 c3 q3 => ?_
   have hp':(0:Int)<(l.length:Int):=by simpa using hp
   obtain ⟨k,rfl⟩:=zB q2.1
   have hk:=q2.2.1 hp'
   dsimp only
   rw [aM qb,qA]
   refine .ret c3 ⟨⟨by rw [qN];exact hl.1,λx hx => ?_⟩,by rw [qN];omega⟩
   rcases List.mem_or_eq_of_mem_set hx with hx | rfl
   ·exact hl.2 x hx
   ·rw [wrap_u8];omega
  ·exact .ret c1 ⟨hl,qb⟩
 split
 ·refine .bnd (aV c1) λi2 v2 r2 c2 q2 => ?_
  have hw:i64.wrap ((l.length:Int)+1)=(l.length:Int)+1:=wrap_small qb qb
  rw [hw] at q2
  obtain ⟨k,rfl⟩:=zB q2.1
  have hk:=q2.2.1 qb
  dsimp only
  rw [AJ qb,qA,qH]
  exact .ret c2 ⟨⟨by have:=hl.1;rw [qT];omega,λx hx=>hl.2 x (List.mem_of_mem_take hx)⟩,by rw [qT];omega⟩
 split
 ·refine .bnd (nP (λ_=>True) qe (λ_ _=>trivial) c1) λi2 v2 r2 c2 q2 => ?_
  dsimp only
  rw [wP qs qb,qA]
  refine .ret c2 ⟨⟨ml qn,λx hx => ?_⟩,qd⟩
  rcases List.mem_append.1 hx with hx | hx
  ·exact hl.2 x hx
  ·rw [List.mem_singleton.1 hx,wrap_u8];omega
 ·exact .ret c1 ⟨hl,qb⟩
def SH (x:M.aAM):Prop:=x.ok/\x.aA4.length<=1000
theorem En {b:List Int} {i h:Int} (c0:okC b i h):Dr b SH (nC (⟨b,i,h⟩:M.aQ)):=by
 unfold nC
 refine .bnd (aV c0) λi1 v1 r1 c1 q1=>.bnd (aV c1) λi2 v2 r2 c2 q2=>.bnd (aV c2) λi3 v3 r3 c3 q3=>.bnd (KS (Zz q3 qb qb) c3) λi4 v4 r4 c4 q4=>.bnd (xK c4) λi5 v5 r5 c5 q5=>.bnd (aV c5) λi6 v6 r6 c6 q6 => ?_
 dsimp only
 split
 ·exact .bnd (nP (λx => -1000000000000000<=x/\x<=1000000000000000) qe qe c6) λi7 v7 r7 c7 q7=>.ret c7 ⟨⟨bgI q7,bgI qh,bH _,q4.1⟩,q4.2⟩
 split
 ·exact .bnd (nP (λx => -1000000000000000<=x/\x<=1000000000000000) qe qe c6) λi7 v7 r7 c7 q7=>.ret c7 ⟨⟨bH _,bgI q7,bH _,q4.1⟩,q4.2⟩
 split
 ·exact .bnd (nP (λx=>0<=x/\x<=1000) qe qe c6) λi7 v7 r7 c7 q7=>.bnd (KS q7 c7) λi8 v8 r8 c8 q8=>.ret c8 ⟨⟨bH _,bgI qh,bH _,q8.1⟩,q8.2⟩
 ·exact .ret c6 ⟨⟨bH _,bgI qh,bH _,q4.1⟩,q4.2⟩
def Am (s:M.aF):Prop:=s.ok/\M.aF.sz s<=65536
theorem Jx {s:M.aF} {v:Int} (h:Am s) (hv:inI v) : ∃x,lC s v=some x/\Am x.1:=by
 have hz:=h.2
 refine ⟨_,GB h.1 hv qb,PI h.1 hv qb,?_⟩
 cases h2:(Dh s v).2 with
 | true=>exact FY (NM h2)
 | false =>
  have e:(Dh s v).1=s:=by unfold Dh at h2 ⊢;split at h2;(cases h2);·rename_i hh;rw [if_neg hh]
  rw [e];exact h.2
end Go.Proofs.YtipmihbgjolaaaaGreat.gen
