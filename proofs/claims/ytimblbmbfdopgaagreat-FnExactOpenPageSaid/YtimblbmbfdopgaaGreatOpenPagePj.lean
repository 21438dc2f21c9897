/-
  Helper text. No conditions.
-/
import Derived.Test.YtimblbmbfdopgaaGreatOpenPagePi
set_option linter.unusedVariables false
set_option linter.unusedSimpArgs false
namespace Go.Proofs.YtimblbmbfdopgaaGreat.gen
open Go Go.Sh
open Go.IntKind (i64)
def sB:List ByteArray:=[(⟨#[98,97,110,107]⟩:ByteArray),(⟨#[110,101,119,115]⟩:ByteArray),(⟨#[115,104,111,112]⟩:ByteArray)]
def aDY (a:ByteArray):Int:=aAP (fun x:ByteArray=>x.toList==a.toList) sB
theorem aJR:sB.length≤maxLen:=by unfold sB maxLen;simp
theorem aAB {a:ByteArray}:iW a=some (aDY a):=by
 unfold iW jB
 rw [←sB.eq_1]
 rw [findAll (L:=bP sB a) (f:=fun x:ByteArray=>x.toList==a.toList) (A:=fun i=>some (i:Int)) (E:=some (-1)) aJR (fun m k hk => ?_) (fun m => ?_),uB]
 ·rfl
 ·have hk3:k<3:=hk
  simp only [bP]
  rw [if_pos (bB hk),aN hk,qA,bF (by omega),Bool.beq_comm]
 ·simp only [bP]
  rw [if_neg (by rw [aP];simp)]
def aIm (l:List ByteArray) (k:Nat):Bool:=(l[k]?).any rR&&(decide (k=0)||(l[k-1]?).any fun y=>(l[k]?).any fun x=>Op.bytesLess y.toList x.toList)
def aIR (s:M.Site):Bool:=(List.range s.Files.length).all (aIm s.Files)&&(rR s.Name&&(inR s.Version 1 1000000000000&&inR (s.Files.length:Int) 1 6))
theorem aD6 {s:M.Site} (hs:s.ok):vC s=some (aIR s):=by
 have hm:=le_max hs.Files.1
 unfold vC aIR
 rw [jY (L:=iH s) (g:=aIm s.Files) (F:=some false) (E:=some (rR s.Name&&(inR s.Version 1 1000000000000&&inR (s.Files.length:Int) 1 6))) hs.Files.1 (fun n k hk => ?_) (fun n => ?_),bL]
 ·have hf:=hs.Files.2 _ (qG hk)
  simp only [iH]
  rw [if_pos (bB hk),aN hk,qA,bF (by omega),dP hf,qA]
  unfold aIm
  rw [qF hk]
  generalize iH s n ((k+1:Nat):Int)=Z
  by_cases h0:k=0
  ·subst h0
   simp only [Option.any_some]
   cases rR s.Files[0]<;>simp
  ·have e:i64.wrap ((k:Int)-1)=((k-1:Nat):Int):=by rw [eX (by omega) (by omega)];omega
   have hk1:k-1<s.Files.length:=by omega
   rw [if_pos (c:=(decide ((k:Int)>0))=true) (by simp;omega),e,aN hk1,qA,qF hk1]
   simp only [Option.any_some,h0,decide_false,Bool.false_or]
   cases rR s.Files[k]<;>cases Op.bytesLess s.Files[k-1].toList s.Files[k].toList<;>simp
 ·simp only [iH]
  rw [if_neg (by rw [aP];simp),dP hs.Name,qA,cZ,qA,cZ,qA,bL,bL]
theorem aD2 {s:M.Site} (hs:s.ok):uV s=some (aIR s):=by
 have hm:=le_max hs.Files.1
 unfold uV aIR
 rw [jY (L:=iE s) (g:=aIm s.Files) (F:=some false) (E:=some (rR s.Name&&(inR s.Version 1 1000000000000&&inR (s.Files.length:Int) 1 6))) hs.Files.1 (fun n k hk => ?_) (fun n => ?_),bL]
 ·have hf:=hs.Files.2 _ (qG hk)
  simp only [iE]
  rw [if_pos (bB hk),aN hk,qA,bF (by omega),dA hf,qA]
  unfold aIm
  rw [qF hk]
  generalize iE s n ((k+1:Nat):Int)=Z
  by_cases h0:k=0
  ·subst h0
   simp only [Option.any_some]
   cases rR s.Files[0]<;>simp
  ·have e:i64.wrap ((k:Int)-1)=((k-1:Nat):Int):=by rw [eX (by omega) (by omega)];omega
   have hk1:k-1<s.Files.length:=by omega
   rw [if_pos (c:=(decide ((k:Int)>0))=true) (by simp;omega),e,aN hk1,qA,qF hk1,aMX]
   simp only [Option.any_some,h0,decide_false,Bool.false_or]
   cases rR s.Files[k]<;>cases Op.bytesLess s.Files[k-1].toList s.Files[k].toList<;>simp
 ·simp only [iE]
  rw [if_neg (by rw [aP];simp),dA hs.Name,qA,bN,qA,bN,qA,bL,bL]
def aDk (l:List M.aM) (k:Nat):Bool:=(l[k]?).any (fun x=>inR x.Device 1 1000000&&inR x.Seq 0 1000000)&&(decide (k=0)||(l[k-1]?).any fun y=>(l[k]?).any fun x=>decide (y.Device<x.Device))
def aEX (l:List M.aZ) (k:Nat):Bool:=(l[k]?).any aGx
def aIQ (s:M.Server):Bool:=(List.range s.aM.length).all (aDk s.aM)&&((List.range s.Changes.length).all (aEX s.Changes)&&(aDl s.aH&&((s.aH.Name.toList==(⟨#[110,111,116,101,115]⟩:ByteArray).toList)&&decide ((s.aM.length:Int)≤60))))
theorem aIN {s:M.Server} (hs:s.ok):zS s=some (aIQ s):=by
 have hm:=le_max hs.aM.1
 have hm2:=le_max hs.Changes.1
 unfold zS aIQ
 rw [jY (L:=gB s) (g:=aDk s.aM) (F:=some false) (E:=hT s fuel 0) hs.aM.1 (fun n k hk => ?_) (fun n => ?_),
  jY (L:=hT s) (g:=aEX s.Changes) (F:=some false) (E:=some (aDl s.aH&&((s.aH.Name.toList==(⟨#[110,111,116,101,115]⟩:ByteArray).toList)&&decide ((s.aM.length:Int)≤60)))) hs.Changes.1 (fun n k hk => ?_) (fun n => ?_),bL,bL]
 ·have hf:=hs.Changes.2 _ (qG hk)
  simp only [hT]
  rw [if_pos (bB hk),aN hk,qA,bF (by omega),aCq hf,qA,aAL]
  unfold aEX
  rw [qF hk,Option.any_some]
 ·simp only [hT]
  rw [if_neg (by rw [aP];simp),aDa hs.aH,qA,bL,bL]
 ·simp only [gB]
  rw [if_pos (bB hk),aN hk,qA,bF (by omega),cZ,qA,cZ,qA]
  unfold aDk
  rw [qF hk]
  generalize gB s n ((k+1:Nat):Int)=Z
  by_cases h0:k=0
  ·subst h0
   simp only [Option.any_some]
   cases inR s.aM[0].Device 1 1000000<;>cases inR s.aM[0].Seq 0 1000000<;>simp
  ·have e:i64.wrap ((k:Int)-1)=((k-1:Nat):Int):=by rw [eX (by omega) (by omega)];omega
   have hk1:k-1<s.aM.length:=by omega
   have ed:decide (s.aM[k-1].Device≥s.aM[k].Device) = !decide (s.aM[k-1].Device<s.aM[k].Device):=by rw [Bool.eq_iff_iff];simp
   rw [if_pos (c:=(decide ((k:Int)>0))=true) (by simp;omega),e,aN hk1,qA,qF hk1,ed]
   simp only [Option.any_some,h0,decide_false,Bool.false_or]
   cases inR s.aM[k].Device 1 1000000<;>cases inR s.aM[k].Seq 0 1000000<;>cases decide (s.aM[k-1].Device<s.aM[k].Device)<;>simp
 ·simp only [gB]
  rw [if_neg (by rw [aP];simp)]
theorem aIC {s:M.Server} (hs:s.ok):zK s=some (aIQ s):=by
 have hm:=le_max hs.aM.1
 have hm2:=le_max hs.Changes.1
 unfold zK aIQ
 rw [jY (L:=gD s) (g:=aDk s.aM) (F:=some false) (E:=hU s fuel 0) hs.aM.1 (fun n k hk => ?_) (fun n => ?_),
  jY (L:=hU s) (g:=aEX s.Changes) (F:=some false) (E:=some (aDl s.aH&&((s.aH.Name.toList==(⟨#[110,111,116,101,115]⟩:ByteArray).toList)&&decide ((s.aM.length:Int)≤60)))) hs.Changes.1 (fun n k hk => ?_) (fun n => ?_),bL,bL]
 ·have hf:=hs.Changes.2 _ (qG hk)
  simp only [hU]
  rw [if_pos (bB hk),aN hk,qA,bF (by omega),aCp hf,qA,aAL]
  unfold aEX
  rw [qF hk,Option.any_some]
 ·simp only [hU]
  rw [if_neg (by rw [aP];simp),aDV hs.aH,qA,bL,bL]
 ·simp only [gD]
  rw [if_pos (bB hk),aN hk,qA,bF (by omega),bN,qA,bN,qA]
  unfold aDk
  rw [qF hk]
  generalize gD s n ((k+1:Nat):Int)=Z
  by_cases h0:k=0
  ·subst h0
   simp only [Option.any_some]
   cases inR s.aM[0].Device 1 1000000<;>cases inR s.aM[0].Seq 0 1000000<;>simp
  ·have e:i64.wrap ((k:Int)-1)=((k-1:Nat):Int):=by rw [eX (by omega) (by omega)];omega
   have hk1:k-1<s.aM.length:=by omega
   have ed:decide (s.aM[k].Device≤s.aM[k-1].Device) = !decide (s.aM[k-1].Device<s.aM[k].Device):=by rw [Bool.eq_iff_iff];simp
   rw [if_pos (c:=(decide ((k:Int)>0))=true) (by simp;omega),e,aN hk1,qA,qF hk1,ed]
   simp only [Option.any_some,h0,decide_false,Bool.false_or]
   cases inR s.aM[k].Device 1 1000000<;>cases inR s.aM[k].Seq 0 1000000<;>cases decide (s.aM[k-1].Device<s.aM[k].Device)<;>simp
 ·simp only [gD]
  rw [if_neg (by rw [aP];simp)]
def aEk (p:M.bH) (k:Nat):Bool:=(p.aK[k]?).any fun x=>rR x.Path&&(x.Version==p.Version)
def aDZ (p:M.bH):Bool:=(List.range p.aK.length).all (aEk p)&&(inR p.Id 1 1000000000000&&(rR p.Site&&(rR p.Top&&(inR p.Version 1 1000000000000&&decide ((p.aK.length:Int)≤8)))))
theorem aCu {p:M.bH} (hp:p.ok):mV p=some (aDZ p):=by
 have hm:=le_max hp.aK.1
 unfold mV aDZ
 rw [jY (L:=mE p) (g:=aEk p) (F:=some false) (E:=some (inR p.Id 1 1000000000000&&(rR p.Site&&(rR p.Top&&(inR p.Version 1 1000000000000&&decide ((p.aK.length:Int)≤8)))))) hp.aK.1 (fun n k hk => ?_) (fun n => ?_),bL]
 ·have hf:=hp.aK.2 _ (qG hk)
  simp only [mE]
  rw [if_pos (bB hk),aN hk,qA,bF (by omega),dP hf.Path,qA]
  unfold aEk
  rw [qF hk,Option.any_some]
  simp only [aED,aAL,aQU]
 ·simp only [mE]
  rw [if_neg (by rw [aP];simp)]
  simp only [dP hp.Site,dP hp.Top,cZ,qA,bL]
theorem aCx {p:M.bH} (hp:p.ok):mU p=some (aDZ p):=by
 have hm:=le_max hp.aK.1
 unfold mU aDZ
 rw [jY (L:=mM p) (g:=aEk p) (F:=some false) (E:=some (inR p.Id 1 1000000000000&&(rR p.Site&&(rR p.Top&&(inR p.Version 1 1000000000000&&decide ((p.aK.length:Int)≤8)))))) hp.aK.1 (fun n k hk => ?_) (fun n => ?_),bL]
 ·have hf:=hp.aK.2 _ (qG hk)
  simp only [mM]
  rw [if_pos (bB hk),aN hk,qA,bF (by omega),dA hf.Path,qA]
  unfold aEk
  rw [qF hk,Option.any_some]
  simp only [aED,aAL,aQU]
 ·simp only [mM]
  rw [if_neg (by rw [aP];simp)]
  simp only [dA hp.Site,dA hp.Top,bN,qA,bL]
theorem aG5 {s:ByteArray} (hs:s.size≤maxLen):sG s=some (aK0 s 30 true):=by
 have hm:=le_max hs
 unfold sG aK0
 rw [aGU (L:=dF s) (g:=aHU true) (F:=some false) (E:=some (inR (s.size:Int) 1 30)) hs (fun n k hk => ?_) (fun n => ?_),bL]
 ·simp only [dF]
  rw [if_pos (bB hk),aFt hk,qA,bF (by omega)]
  generalize s[k]=b
  unfold aHU
  generalize dF s n ((k+1:Nat):Int)=Z
  simp only [Bool.or_eq_true,qM,qL,Bool.not_eq_true',decide_eq_false_iff_not,Bool.true_and,bne_iff_ne,ne_eq]
  repeat' split
  all_goals first | rfl | (exfalso;omega)
 ·simp only [dF]
  rw [if_neg (by rw [aP];simp),cZ,qA]
theorem aHL {s:ByteArray} (hs:s.size≤maxLen):sM s=some (aK0 s 30 true):=by
 unfold sM
 rw [aFz hs,qA]
def aLI (x y:M.cJ):Bool:=x.Held&&((y.Name.toList==x.Name.toList)&&(!y.Held||(!x.Shared || !y.Shared)))
def aGS (l:List M.cJ) (k:Nat) (x:M.cJ):Bool:=(List.range k).all fun j => !((l[j]?).any (aLI x))
def aIq (l:List M.cJ) (k:Nat):Bool:=(l[k]?).any fun x=>aK0 x.Name 30 true&&(inR x.bH 1 1000000000000&&aGS l k x)
def aGd (t:M.aQ):Bool:=(List.range t.Locks.length).all (aIq t.Locks)&&decide ((t.Locks.length:Int)≤12)
theorem aNK {t:M.aQ} {x:M.cJ} {k:Nat} {K:Int→Option Bool} (hm:t.Locks.length≤maxLen) (hk:k≤t.Locks.length):bZ t (k:Int) x K fuel 0=if aGS t.Locks k x=true then K (k:Int) else some false:=by
 have hm':=le_max hm
 refine jY (L:=bZ t (k:Int) x K) (g:=fun j => !((t.Locks[j]?).any (aLI x))) (F:=some false) (E:=K (k:Int)) (Nat.le_trans hk hm) (fun n j hj => ?_) (fun n => ?_)
 ·have hj':j<t.Locks.length:=by omega
  simp only [bZ]
  rw [if_pos (bB hj),aN hj',qA,bF (by omega),qF hj',Option.any_some]
  unfold aLI
  generalize bZ t (k:Int) x K n ((j+1:Nat):Int)=Z
  cases x.Held<;>cases (t.Locks[j].Name.toList==x.Name.toList)<;>cases t.Locks[j].Held<;>cases x.Shared<;>cases t.Locks[j].Shared<;>simp
 ·simp only [bZ]
  rw [if_neg (by rw [aP];simp)]
theorem aNB {t:M.aQ} {x:M.cJ} {k:Nat} {Z0:Option Bool} (hm:t.Locks.length≤maxLen) (hk:k≤t.Locks.length):cC t (k:Int) x (fun _=>Z0) fuel 0=if aGS t.Locks k x=true then Z0 else some false:=by
 have hm':=le_max hm
 have hl:(t.Locks.take k).length=k:=by rw [qS];omega
 have:=jY (N:=k) (L:=cC t (k:Int) x (fun _=>Z0)) (g:=fun j => !((t.Locks[j]?).any (aLI x))) (F:=some false) (E:=Z0) (Nat.le_trans hk hm) (fun n j hj => ?_) (fun n => ?_)
 ·exact this
 ·have hj':j<t.Locks.length:=by omega
  simp only [cC,qH,hl]
  rw [if_pos (bB hj),aN (by rw [hl];exact hj),qA,bF (by omega),qF hj',Option.any_some,List.getElem_take]
  unfold aLI
  generalize cC t (k:Int) x (fun _=>Z0) n ((j+1:Nat):Int)=Z
  cases x.Held<;>cases (t.Locks[j].Name.toList==x.Name.toList)<;>cases t.Locks[j].Held<;>cases x.Shared<;>cases t.Locks[j].Shared<;>simp
 ·simp only [cC,qH,hl]
  rw [if_neg (by rw [aP];simp)]
theorem aGW {t:M.aQ} (ht:t.ok):rL t=some (aGd t):=by
 have hm:=le_max ht.Locks.1
 unfold rL aGd
 rw [jY (L:=eZ t) (g:=aIq t.Locks) (F:=some false) (E:=some (decide ((t.Locks.length:Int)≤12))) ht.Locks.1 (fun n k hk => ?_) (fun n => ?_),bL]
 ·have hf:=ht.Locks.2 _ (qG hk)
  simp only [eZ]
  rw [if_pos (bB hk),aN hk,qA,bF (by omega),aG5 hf.Name,qA,cZ,qA,aNK ht.Locks.1 (by omega)]
  unfold aIq
  rw [qF hk,Option.any_some]
  generalize eZ t n ((k+1:Nat):Int)=Z
  cases aK0 t.Locks[k].Name 30 true<;>cases inR t.Locks[k].bH 1 1000000000000<;>cases aGS t.Locks k t.Locks[k]<;>simp
 ·simp only [eZ]
  rw [if_neg (by rw [aP];simp)]
theorem aGB {t:M.aQ} (ht:t.ok):pK t=some (aGd t):=by
 have hm:=le_max ht.Locks.1
 unfold pK aGd
 rw [jY (L:=fA t) (g:=aIq t.Locks) (F:=some false) (E:=some (decide ((t.Locks.length:Int)≤12))) ht.Locks.1 (fun n k hk => ?_) (fun n => ?_),bL]
 ·have hf:=ht.Locks.2 _ (qG hk)
  simp only [fA]
  rw [if_pos (bB hk),aN hk,qA,bF (by omega),aHL hf.Name,qA,bN,qA,aJ2 (by omega),qA,aNB ht.Locks.1 (by omega)]
  unfold aIq
  rw [qF hk,Option.any_some]
  generalize fA t n ((k+1:Nat):Int)=Z
  cases aK0 t.Locks[k].Name 30 true<;>cases inR t.Locks[k].bH 1 1000000000000<;>cases aGS t.Locks k t.Locks[k]<;>simp
 ·simp only [fA]
  rw [if_neg (by rw [aP];simp)]
theorem aLi:sB.length=3:=rfl
theorem aOe {a:ByteArray} {k:Nat} (hk:k<sB.length):(aDY a==(k:Int))=(a.toList==(sB[k]).toList):=by
 have d : ∀i j:Nat,(hi:i<sB.length)→(hj:j<sB.length)→(sB[i]).toList=(sB[j]).toList→i=j:=by
  intro i j hi hj h
  have e0:(⟨#[98,97,110,107]⟩:ByteArray).toList=[98,97,110,107]:=by rw [ByteArray.toList_eq]
  have e1:(⟨#[110,101,119,115]⟩:ByteArray).toList=[110,101,119,115]:=by rw [ByteArray.toList_eq]
  have e2:(⟨#[115,104,111,112]⟩:ByteArray).toList=[115,104,111,112]:=by rw [ByteArray.toList_eq]
  rw [aLi] at hi hj
  rcases i with _ | _ | _ | i<;>rcases j with _ | _ | _ | j<;>first | rfl | (exfalso;omega) | (exfalso;simp [sB,e0,e1,e2] at h)
 have hf:=aBx (f:=fun x:ByteArray=>x.toList==a.toList) (xs:=sB)
 have ha:=aGC (fun x:ByteArray=>x.toList==a.toList) sB
 unfold aDY
 rw [Bool.eq_iff_iff,beq_iff_eq,beq_iff_eq]
 constructor
 ·intro h
  have h2:sB.findIdx? (fun x:ByteArray=>x.toList==a.toList)=some k:=by
   unfold aAP at h
   cases e:sB.findIdx? (fun x:ByteArray=>x.toList==a.toList) with
   | none=>rw [e] at h;simp only at h;omega
   | some i=>rw [e] at h;simp only at h;congr 1;omega
  have:=(List.findIdx?_eq_some_iff_getElem.1 h2).2.1
  exact (eq_of_beq this).symm
 ·intro h
  have hex:sB.any (fun x:ByteArray=>x.toList==a.toList)=true:=List.any_eq_true.2 ⟨sB[k],qG hk,by rw [h];exact beq_self_eq_true _⟩
  rw [hex] at ha
  obtain ⟨j,e,hj⟩:=hf (by have:=of_decide_eq_true ha;omega)
  rw [e]
  have h2:sB.findIdx? (fun x:ByteArray=>x.toList==a.toList)=some j:=by
   unfold aAP at e
   cases e2:sB.findIdx? (fun x:ByteArray=>x.toList==a.toList) with
   | none=>rw [e2] at e;simp only at e;omega
   | some i=>rw [e2] at e;simp only at e;congr 1;omega
  have:=(List.findIdx?_eq_some_iff_getElem.1 h2).2.1
  rw [d j k hj hk (by rw [eq_of_beq this,h])]
def aEA (w:M.World) (k:Nat):Bool:=(w.Pages[k]?).any fun x=>aDZ x&&(decide (x.Id<w.NextPage)&&((decide (k=0)||(w.Pages[k-1]?).any fun y=>decide (y.Id<x.Id))&&decide (0≤aAP (nAt x.Site x.Top) w.aA.Buckets)))
def aFl (w:M.World) (k:Nat):Bool:=(w.Sites[k]?).any fun x=>aIR x&&((sB[k]?).any (fun nm=>x.Name.toList==nm.toList)&&(w.Servers[k]?).any aIQ)
def aFM (w:M.World):Bool:=decide (w.Sites.length=3)&&(decide (w.Servers.length=3)&&(decide (w.Pages.length≤6)&&((List.range 3).all (aFl w)&&((List.range w.Pages.length).all (aEA w)&&(inR w.Now 0 999999990000&&(inR w.Device 1 1000000&&(kD w.aA&&(inR w.NextPage 1 1000000000000&&aGd w.Locks))))))))
theorem aDh {w:M.World} (hz:M.World.sz w≤1048576):M.aA.sz w.aA≤1048576:=by
 simp only [M.World.sz] at hz
 omega
theorem aNS {w:M.World} (hw:w.ok) {E:Option Bool} (hE : ∀n,dL w (n+1) (w.Pages.length:Int)=E):dL w fuel 0=if (List.range w.Pages.length).all (aEA w)=true then E else some false:=by
 have hm:=le_max hw.Pages.1
 refine jY (L:=dL w) (g:=aEA w) (F:=some false) (E:=E) hw.Pages.1 (fun n k hk => ?_) hE
 have hf:=hw.Pages.2 _ (qG hk)
 simp only [dL]
 rw [if_pos (bB hk),aN hk,qA,bF (by omega),aCu hf,qA,aAA hw.aA,qA]
 unfold aEA
 rw [qF hk,Option.any_some]
 generalize dL w n ((k+1:Nat):Int)=Z
 have e1:decide (w.Pages[k].Id≥w.NextPage) = !decide (w.Pages[k].Id<w.NextPage):=by rw [Bool.eq_iff_iff];simp
 have e2:decide (aAP (nAt w.Pages[k].Site w.Pages[k].Top) w.aA.Buckets<0) = !decide (0≤aAP (nAt w.Pages[k].Site w.Pages[k].Top) w.aA.Buckets):=by rw [Bool.eq_iff_iff];simp
 rw [e1]
 simp only [e2]
 by_cases h0:k=0
 ·subst h0
  cases aDZ w.Pages[0]<;>cases decide (w.Pages[0].Id<w.NextPage)<;>cases decide (0≤aAP (nAt w.Pages[0].Site w.Pages[0].Top) w.aA.Buckets)<;>simp
 ·have e:i64.wrap ((k:Int)-1)=((k-1:Nat):Int):=by rw [eX (by omega) (by omega)];omega
  have hk1:k-1<w.Pages.length:=by omega
  have e3:decide (w.Pages[k-1].Id≥w.Pages[k].Id) = !decide (w.Pages[k-1].Id<w.Pages[k].Id):=by rw [Bool.eq_iff_iff];simp
  rw [if_pos (c:=(decide ((k:Int)>0))=true) (by simp;omega),e,aN hk1,qA,qF hk1,e3]
  simp only [Option.any_some,h0,decide_false,Bool.false_or]
  cases aDZ w.Pages[k]<;>cases decide (w.Pages[k].Id<w.NextPage)<;>cases decide (w.Pages[k-1].Id<w.Pages[k].Id)<;>cases decide (0≤aAP (nAt w.Pages[k].Site w.Pages[k].Top) w.aA.Buckets)<;>simp
theorem aM0 {w:M.World} (hw:w.ok) {E:Option Bool} (hE : ∀n,eT w (n+1) (w.Pages.length:Int)=E):eT w fuel 0=if (List.range w.Pages.length).all (aEA w)=true then E else some false:=by
 have hm:=le_max hw.Pages.1
 refine jY (L:=eT w) (g:=aEA w) (F:=some false) (E:=E) hw.Pages.1 (fun n k hk => ?_) hE
 have hf:=hw.Pages.2 _ (qG hk)
 simp only [eT]
 rw [if_pos (bB hk),aN hk,qA,bF (by omega),aCx hf,qA,aCQ hw.aA,qA]
 unfold aEA
 rw [qF hk,Option.any_some]
 generalize eT w n ((k+1:Nat):Int)=Z
 have e1:decide (w.Pages[k].Id≥w.NextPage) = !decide (w.Pages[k].Id<w.NextPage):=by rw [Bool.eq_iff_iff];simp
 have e2:decide (aAP (nAt w.Pages[k].Site w.Pages[k].Top) w.aA.Buckets<0) = !decide (0≤aAP (nAt w.Pages[k].Site w.Pages[k].Top) w.aA.Buckets):=by rw [Bool.eq_iff_iff];simp
 rw [e1]
 simp only [e2]
 by_cases h0:k=0
 ·subst h0
  cases aDZ w.Pages[0]<;>cases decide (w.Pages[0].Id<w.NextPage)<;>cases decide (0≤aAP (nAt w.Pages[0].Site w.Pages[0].Top) w.aA.Buckets)<;>simp
 ·have e:i64.wrap ((k:Int)-1)=((k-1:Nat):Int):=by rw [eX (by omega) (by omega)];omega
  have hk1:k-1<w.Pages.length:=by omega
  have e3:decide (w.Pages[k].Id≤w.Pages[k-1].Id) = !decide (w.Pages[k-1].Id<w.Pages[k].Id):=by rw [Bool.eq_iff_iff];simp
  rw [if_pos (c:=(decide ((k:Int)>0))=true) (by simp;omega),e,aN hk1,qA,qF hk1,e3]
  simp only [Option.any_some,h0,decide_false,Bool.false_or]
  cases aDZ w.Pages[k]<;>cases decide (w.Pages[k].Id<w.NextPage)<;>cases decide (w.Pages[k-1].Id<w.Pages[k].Id)<;>cases decide (0≤aAP (nAt w.Pages[k].Site w.Pages[k].Top) w.aA.Buckets)<;>simp
theorem aEo {w:M.World} (hw:w.ok) (hz : ∀b∈w.aA.Buckets,M.Database.sz b.bC.Base≤1048576):lA w=some (aFM w):=by
 unfold lA aFM
 by_cases h1:w.Sites.length=3
 ·by_cases h2:w.Servers.length=3
  ·have e3:decide ((w.Pages.length:Int)>6) = !decide (w.Pages.length≤6):=by rw [Bool.eq_iff_iff];simp;omega
   rw [if_neg (by rw [h1];simp),if_neg (by rw [h2];simp),e3,decide_eq_true h1,decide_eq_true h2]
   rw [jY (N:=3) (L:=iY w) (g:=aFl w) (F:=some false) (E:=dL w fuel 0) (by unfold maxLen;omega) (fun n k hk => ?_) (fun n => ?_),
    aNS hw (E:=some (inR w.Now 0 999999990000&&(inR w.Device 1 1000000&&(kD w.aA&&(inR w.NextPage 1 1000000000000&&aGd w.Locks))))) (fun n => ?_)]
   ·cases decide (w.Pages.length≤6)<;>cases (List.range 3).all (aFl w)<;>cases (List.range w.Pages.length).all (aEA w)<;>simp
   ·simp only [dL]
    rw [if_neg (by rw [aP];simp)]
    simp only [cZ,aCL hw.aA hz,aGW hw.Locks,qA,bL]
   ·have hk1:k<w.Sites.length:=by omega
    have hk2:k<w.Servers.length:=by omega
    have hk3:k<sB.length:=by rw [aLi];exact hk
    have hn:sW=some sB:=rfl
    simp only [iY,hn,qA]
    rw [if_pos (by simp;omega),aN hk1,qA,bF (by omega),aD6 (hw.Sites.2 _ (qG hk1)),qA,aN hk3,qA,aN hk2,qA,aIN (hw.Servers.2 _ (qG hk2)),qA]
    unfold aFl
    rw [qF hk1,qF hk2,qF hk3]
    simp only [Option.any_some]
    generalize iY w n ((k+1:Nat):Int)=Z
    have gen : ∀(a b c:Bool),(if (!a)=true then some false else if (!b)=true then some false else if (!c)=true then some false else Z)=if (a&&(b&&c))=true then Z else some false:=by
     intro a b c;cases a<;>cases b<;>cases c<;>rfl
    exact gen _ _ _
   ·simp only [iY]
    rw [if_neg (by simp)]
  ·rw [if_neg (by rw [h1];simp),if_pos (by simp;omega),decide_eq_false h2]
   simp
 ·rw [if_pos (by simp;omega),decide_eq_false h1]
  simp
theorem aEs {w:M.World} (hw:w.ok) (hz : ∀b∈w.aA.Buckets,M.Database.sz b.bC.Base≤1048576):kY w=some (aFM w):=by
 unfold kY aFM
 have e3:decide ((w.Pages.length:Int)>6) = !decide (w.Pages.length≤6):=by rw [Bool.eq_iff_iff];simp;omega
 have e1:((w.Sites.length:Int) != 3) = !decide (w.Sites.length=3):=by rw [Bool.eq_iff_iff];simp;omega
 have e2:((w.Servers.length:Int) != 3) = !decide (w.Servers.length=3):=by rw [Bool.eq_iff_iff];simp;omega
 simp only [bN,aCN hw.aA hz,aGB hw.Locks,qA,e1,e2,e3]
 by_cases h1:w.Sites.length=3
 ·by_cases h2:w.Servers.length=3
  ·rw [aM0 hw (E:=gQ w fuel 0) (fun n=>by
     simp only [eT]
     rw [if_neg (by rw [aP];simp)]),
    jY (N:=3) (L:=gQ w) (g:=aFl w) (F:=some false) (E:=some true) (by unfold maxLen;omega) (fun n k hk => ?_) (fun n => ?_)]
   ·rw [decide_eq_true h1,decide_eq_true h2]
    cases inR w.Now 0 999999990000<;>cases inR w.Device 1 1000000<;>cases kD w.aA<;>cases decide (w.Pages.length≤6)<;>cases inR w.NextPage 1 1000000000000<;>cases aGd w.Locks<;>cases (List.range 3).all (aFl w)<;>cases (List.range w.Pages.length).all (aEA w)<;>rfl
   ·have hk1:k<w.Sites.length:=by omega
    have hk2:k<w.Servers.length:=by omega
    have hk3:k<sB.length:=by rw [aLi];exact hk
    simp only [gQ]
    rw [if_pos (bB hk1),aN hk1,qA,bF (by omega),aD2 (hw.Sites.2 _ (qG hk1)),qA,aAB,qA,aN hk2,qA,aIC (hw.Servers.2 _ (qG hk2)),qA,aED,aOe hk3]
    unfold aFl
    rw [qF hk1,qF hk2,qF hk3]
    simp only [Option.any_some]
    generalize gQ w n ((k+1:Nat):Int)=Z
    have gen : ∀(a b c:Bool),(if (!a)=true then some false else if b=true then (if (!c)=true then some false else Z) else some false)=if (a&&(b&&c))=true then Z else some false:=by
     intro a b c;cases a<;>cases b<;>cases c<;>rfl
    exact gen _ _ _
   ·simp only [gQ]
    rw [if_neg (by rw [h1];simp)]
  ·rw [decide_eq_true h1,decide_eq_false h2]
   cases inR w.Now 0 999999990000<;>cases inR w.Device 1 1000000<;>cases kD w.aA<;>cases decide (w.Pages.length≤6)<;>cases inR w.NextPage 1 1000000000000<;>cases aGd w.Locks<;>rfl
 ·rw [decide_eq_false h1]
  cases inR w.Now 0 999999990000<;>cases inR w.Device 1 1000000<;>cases kD w.aA<;>cases decide (w.Pages.length≤6)<;>cases inR w.NextPage 1 1000000000000<;>cases aGd w.Locks<;>rfl
theorem aMD {w:M.World} (hz:M.World.sz w≤1048576) : ∀b∈w.aA.Buckets,M.Database.sz b.bC.Base≤1048576:=fun b hb=>aDn (by
 have h1:=aDh hz
 have h2:=cF (f:=M.aC.sz) hb
 simp only [M.aA.sz] at h1
 omega)
theorem aI1 {w:M.World} (hw:w.ok) (hz:M.World.sz w≤1048576):lA w=some (aFM w):=aEo hw (aMD hz)
theorem aI9 {w:M.World} (hw:w.ok) (hz:M.World.sz w≤1048576):kY w=some (aFM w):=aEs hw (aMD hz)
end Go.Proofs.YtimblbmbfdopgaaGreat.gen
