/-
  Helper text. No conditions.
-/
import Derived.Test.YtidhkhdnjonjfaaGreatUpdateWorkerPi
set_option linter.unusedVariables false
set_option linter.unusedSimpArgs false
namespace Go.Proofs.YtidhkhdnjonjfaaGreat.gen
open Go Go.Sh
open Go.IntKind (i64)
def sN:List ByteArray:=[(⟨#[98,97,110,107]⟩:ByteArray),(⟨#[110,101,119,115]⟩:ByteArray),(⟨#[115,104,111,112]⟩:ByteArray)]
def aCq (a:ByteArray):Int:=yK (fun x:ByteArray=>x.toList==a.toList) sN
theorem aJy:sN.length≤maxLen:=by unfold sN maxLen;simp
theorem aDi {a:ByteArray}:nO a=some (aCq a):=by
 unfold nO jK
 rw [←sN.eq_1]
 rw [findAll (L:=bQ sN a) (f:=fun x:ByteArray=>x.toList==a.toList) (A:=fun i=>some (i:Int)) (E:=some (-1)) aJy (fun m k hk => ?_) (fun m => ?_),uE]
 ·rfl
 ·have hk3:k<3:=hk
  simp only [bQ]
  rw [if_pos (aY hk),aM hk,qA,bC (by omega),Bool.beq_comm]
 ·simp only [bQ]
  rw [if_neg (by rw [aO];simp)]
def aJH (l:List ByteArray) (k:Nat):Bool:=(l[k]?).any sG&&(decide (k=0)||(l[k-1]?).any fun y=>(l[k]?).any fun x=>Op.bytesLess y.toList x.toList)
def aIq (s:M.Site):Bool:=(List.range s.Files.length).all (aJH s.Files)&&(sG s.Name&&(inR s.Version 1 1000000000000&&inR (s.Files.length:Int) 1 6))
theorem aD9 {s:M.Site} (hs:s.ok):vF s=some (aIq s):=by
 have hm:=le_max hs.Files.1
 unfold vF aIq
 rw [lC (L:=iM s) (g:=aJH s.Files) (F:=some false) (E:=some (sG s.Name&&(inR s.Version 1 1000000000000&&inR (s.Files.length:Int) 1 6))) hs.Files.1 (fun n k hk => ?_) (fun n => ?_),bN]
 ·have hf:=hs.Files.2 _ (qG hk)
  simp only [iM]
  rw [if_pos (aY hk),aM hk,qA,bC (by omega),eU hf,qA]
  unfold aJH
  rw [qF hk]
  generalize iM s n ((k+1:Nat):Int)=Z
  by_cases h0:k=0
  ·subst h0
   simp only [Option.any_some]
   cases sG s.Files[0]<;>simp
  ·have e:i64.wrap ((k:Int)-1)=((k-1:Nat):Int):=by rw [fB (by omega) (by omega)];omega
   have hk1:k-1<s.Files.length:=by omega
   rw [if_pos (c:=(decide ((k:Int)>0))=true) (by simp;omega),e,aM hk1,qA,qF hk1]
   simp only [Option.any_some,h0,decide_false,Bool.false_or]
   cases sG s.Files[k]<;>cases Op.bytesLess s.Files[k-1].toList s.Files[k].toList<;>simp
 ·simp only [iM]
  rw [if_neg (by rw [aO];simp),eU hs.Name,qA,dC,qA,dC,qA,bN,bN]
theorem aD4 {s:M.Site} (hs:s.ok):uZ s=some (aIq s):=by
 have hm:=le_max hs.Files.1
 unfold uZ aIq
 rw [lC (L:=iL s) (g:=aJH s.Files) (F:=some false) (E:=some (sG s.Name&&(inR s.Version 1 1000000000000&&inR (s.Files.length:Int) 1 6))) hs.Files.1 (fun n k hk => ?_) (fun n => ?_),bN]
 ·have hf:=hs.Files.2 _ (qG hk)
  simp only [iL]
  rw [if_pos (aY hk),aM hk,qA,bC (by omega),dV hf,qA]
  unfold aJH
  rw [qF hk]
  generalize iL s n ((k+1:Nat):Int)=Z
  by_cases h0:k=0
  ·subst h0
   simp only [Option.any_some]
   cases sG s.Files[0]<;>simp
  ·have e:i64.wrap ((k:Int)-1)=((k-1:Nat):Int):=by rw [fB (by omega) (by omega)];omega
   have hk1:k-1<s.Files.length:=by omega
   rw [if_pos (c:=(decide ((k:Int)>0))=true) (by simp;omega),e,aM hk1,qA,qF hk1,aM5]
   simp only [Option.any_some,h0,decide_false,Bool.false_or]
   cases sG s.Files[k]<;>cases Op.bytesLess s.Files[k-1].toList s.Files[k].toList<;>simp
 ·simp only [iL]
  rw [if_neg (by rw [aO];simp),dV hs.Name,qA,bP,qA,bP,qA,bN,bN]
def aDo (l:List M.aK) (k:Nat):Bool:=(l[k]?).any (fun x=>inR x.Device 1 1000000&&inR x.Seq 0 1000000)&&(decide (k=0)||(l[k-1]?).any fun y=>(l[k]?).any fun x=>decide (y.Device<x.Device))
def aEe (l:List M.aW) (k:Nat):Bool:=(l[k]?).any aG8
def aIp (s:M.Server):Bool:=(List.range s.aK.length).all (aDo s.aK)&&((List.range s.Changes.length).all (aEe s.Changes)&&(aDp s.aJ&&((s.aJ.Name.toList==(⟨#[110,111,116,101,115]⟩:ByteArray).toList)&&decide ((s.aK.length:Int)≤60))))
theorem aIl {s:M.Server} (hs:s.ok):aAD s=some (aIp s):=by
 have hm:=le_max hs.aK.1
 have hm2:=le_max hs.Changes.1
 unfold aAD aIp
 rw [lC (L:=gJ s) (g:=aDo s.aK) (F:=some false) (E:=iE s fuel 0) hs.aK.1 (fun n k hk => ?_) (fun n => ?_),
  lC (L:=iE s) (g:=aEe s.Changes) (F:=some false) (E:=some (aDp s.aJ&&((s.aJ.Name.toList==(⟨#[110,111,116,101,115]⟩:ByteArray).toList)&&decide ((s.aK.length:Int)≤60)))) hs.Changes.1 (fun n k hk => ?_) (fun n => ?_),bN,bN]
 ·have hf:=hs.Changes.2 _ (qG hk)
  simp only [iE]
  rw [if_pos (aY hk),aM hk,qA,bC (by omega),aCw hf,qA,aB8]
  unfold aEe
  rw [qF hk,Option.any_some]
 ·simp only [iE]
  rw [if_neg (by rw [aO];simp),aDd hs.aJ,qA,bN,bN]
 ·simp only [gJ]
  rw [if_pos (aY hk),aM hk,qA,bC (by omega),dC,qA,dC,qA]
  unfold aDo
  rw [qF hk]
  generalize gJ s n ((k+1:Nat):Int)=Z
  by_cases h0:k=0
  ·subst h0
   simp only [Option.any_some]
   cases inR s.aK[0].Device 1 1000000<;>cases inR s.aK[0].Seq 0 1000000<;>simp
  ·have e:i64.wrap ((k:Int)-1)=((k-1:Nat):Int):=by rw [fB (by omega) (by omega)];omega
   have hk1:k-1<s.aK.length:=by omega
   have ed:decide (s.aK[k-1].Device≥s.aK[k].Device) = !decide (s.aK[k-1].Device<s.aK[k].Device):=by rw [Bool.eq_iff_iff];simp
   rw [if_pos (c:=(decide ((k:Int)>0))=true) (by simp;omega),e,aM hk1,qA,qF hk1,ed]
   simp only [Option.any_some,h0,decide_false,Bool.false_or]
   cases inR s.aK[k].Device 1 1000000<;>cases inR s.aK[k].Seq 0 1000000<;>cases decide (s.aK[k-1].Device<s.aK[k].Device)<;>simp
 ·simp only [gJ]
  rw [if_neg (by rw [aO];simp)]
theorem aIa {s:M.Server} (hs:s.ok):zS s=some (aIp s):=by
 have hm:=le_max hs.aK.1
 have hm2:=le_max hs.Changes.1
 unfold zS aIp
 rw [lC (L:=gK s) (g:=aDo s.aK) (F:=some false) (E:=iF s fuel 0) hs.aK.1 (fun n k hk => ?_) (fun n => ?_),
  lC (L:=iF s) (g:=aEe s.Changes) (F:=some false) (E:=some (aDp s.aJ&&((s.aJ.Name.toList==(⟨#[110,111,116,101,115]⟩:ByteArray).toList)&&decide ((s.aK.length:Int)≤60)))) hs.Changes.1 (fun n k hk => ?_) (fun n => ?_),bN,bN]
 ·have hf:=hs.Changes.2 _ (qG hk)
  simp only [iF]
  rw [if_pos (aY hk),aM hk,qA,bC (by omega),aCv hf,qA,aB8]
  unfold aEe
  rw [qF hk,Option.any_some]
 ·simp only [iF]
  rw [if_neg (by rw [aO];simp),aDY hs.aJ,qA,bN,bN]
 ·simp only [gK]
  rw [if_pos (aY hk),aM hk,qA,bC (by omega),bP,qA,bP,qA]
  unfold aDo
  rw [qF hk]
  generalize gK s n ((k+1:Nat):Int)=Z
  by_cases h0:k=0
  ·subst h0
   simp only [Option.any_some]
   cases inR s.aK[0].Device 1 1000000<;>cases inR s.aK[0].Seq 0 1000000<;>simp
  ·have e:i64.wrap ((k:Int)-1)=((k-1:Nat):Int):=by rw [fB (by omega) (by omega)];omega
   have hk1:k-1<s.aK.length:=by omega
   have ed:decide (s.aK[k].Device≤s.aK[k-1].Device) = !decide (s.aK[k-1].Device<s.aK[k].Device):=by rw [Bool.eq_iff_iff];simp
   rw [if_pos (c:=(decide ((k:Int)>0))=true) (by simp;omega),e,aM hk1,qA,qF hk1,ed]
   simp only [Option.any_some,h0,decide_false,Bool.false_or]
   cases inR s.aK[k].Device 1 1000000<;>cases inR s.aK[k].Seq 0 1000000<;>cases decide (s.aK[k-1].Device<s.aK[k].Device)<;>simp
 ·simp only [gK]
  rw [if_neg (by rw [aO];simp)]
def aEr (p:M.bJ) (k:Nat):Bool:=(p.aN[k]?).any fun x=>sG x.Path&&(x.Version==p.Version)
def aKl (p:M.bJ):Bool:=(List.range p.aN.length).all (aEr p)&&(inR p.Id 1 1000000000000&&(sG p.Site&&(sG p.Top&&(inR p.Version 1 1000000000000&&decide ((p.aN.length:Int)≤8)))))
theorem aKP {p:M.bJ} (hp:p.ok):aCP p=some (aKl p):=by
 have hm:=le_max hp.aN.1
 unfold aCP aKl
 rw [lC (L:=mI p) (g:=aEr p) (F:=some false) (E:=some (inR p.Id 1 1000000000000&&(sG p.Site&&(sG p.Top&&(inR p.Version 1 1000000000000&&decide ((p.aN.length:Int)≤8)))))) hp.aN.1 (fun n k hk => ?_) (fun n => ?_),bN]
 ·have hf:=hp.aN.2 _ (qG hk)
  simp only [mI]
  rw [if_pos (aY hk),aM hk,qA,bC (by omega),eU hf.Path,qA]
  unfold aEr
  rw [qF hk,Option.any_some]
  simp only [aEH,aB8,aQ2]
 ·simp only [mI]
  rw [if_neg (by rw [aO];simp)]
  simp only [eU hp.Site,eU hp.Top,dC,qA,bN]
theorem aKc {p:M.bJ} (hp:p.ok):aCM p=some (aKl p):=by
 have hm:=le_max hp.aN.1
 unfold aCM aKl
 rw [lC (L:=mQ p) (g:=aEr p) (F:=some false) (E:=some (inR p.Id 1 1000000000000&&(sG p.Site&&(sG p.Top&&(inR p.Version 1 1000000000000&&decide ((p.aN.length:Int)≤8)))))) hp.aN.1 (fun n k hk => ?_) (fun n => ?_),bN]
 ·have hf:=hp.aN.2 _ (qG hk)
  simp only [mQ]
  rw [if_pos (aY hk),aM hk,qA,bC (by omega),dV hf.Path,qA]
  unfold aEr
  rw [qF hk,Option.any_some]
  simp only [aEH,aB8,aQ2]
 ·simp only [mQ]
  rw [if_neg (by rw [aO];simp)]
  simp only [dV hp.Site,dV hp.Top,bP,qA,bN]
theorem aHI {s:ByteArray} (hs:s.size≤maxLen):sU s=some (aLa s 30 true):=by
 have hm:=le_max hs
 unfold sU aLa
 rw [aGe (L:=dJ s) (g:=aHh true) (F:=some false) (E:=some (inR (s.size:Int) 1 30)) hs (fun n k hk => ?_) (fun n => ?_),bN]
 ·simp only [dJ]
  rw [if_pos (aY hk),aF1 hk,qA,bC (by omega)]
  generalize s[k]=b
  unfold aHh
  generalize dJ s n ((k+1:Nat):Int)=Z
  simp only [Bool.or_eq_true,qM,qL,Bool.not_eq_true',decide_eq_false_iff_not,Bool.true_and,bne_iff_ne,ne_eq]
  repeat' split
  all_goals first | rfl | (exfalso;omega)
 ·simp only [dJ]
  rw [if_neg (by rw [aO];simp),dC,qA]
theorem aHW {s:ByteArray} (hs:s.size≤maxLen):tA s=some (aLa s 30 true):=by
 unfold tA
 rw [aF7 hs,qA]
def aLs (x y:M.dA):Bool:=x.Held&&((y.Name.toList==x.Name.toList)&&(!y.Held||(!x.Shared || !y.Shared)))
def aGb (l:List M.dA) (k:Nat) (x:M.dA):Bool:=(List.range k).all fun j => !((l[j]?).any (aLs x))
def aJO (l:List M.dA) (k:Nat):Bool:=(l[k]?).any fun x=>aLa x.Name 30 true&&(inR x.bJ 1 1000000000000&&aGb l k x)
def aGm (t:M.aP):Bool:=(List.range t.Locks.length).all (aJO t.Locks)&&decide ((t.Locks.length:Int)≤12)
theorem aNu {t:M.aP} {x:M.dA} {k:Nat} {K:Int→Option Bool} (hm:t.Locks.length≤maxLen) (hk:k≤t.Locks.length):cF t (k:Int) x K fuel 0=if aGb t.Locks k x=true then K (k:Int) else some false:=by
 have hm':=le_max hm
 refine lC (L:=cF t (k:Int) x K) (g:=fun j => !((t.Locks[j]?).any (aLs x))) (F:=some false) (E:=K (k:Int)) (Nat.le_trans hk hm) (fun n j hj => ?_) (fun n => ?_)
 ·have hj':j<t.Locks.length:=by omega
  simp only [cF]
  rw [if_pos (aY hj),aM hj',qA,bC (by omega),qF hj',Option.any_some]
  unfold aLs
  generalize cF t (k:Int) x K n ((j+1:Nat):Int)=Z
  cases x.Held<;>cases (t.Locks[j].Name.toList==x.Name.toList)<;>cases t.Locks[j].Held<;>cases x.Shared<;>cases t.Locks[j].Shared<;>simp
 ·simp only [cF]
  rw [if_neg (by rw [aO];simp)]
theorem aNm {t:M.aP} {x:M.dA} {k:Nat} {Z0:Option Bool} (hm:t.Locks.length≤maxLen) (hk:k≤t.Locks.length):cH t (k:Int) x (fun _=>Z0) fuel 0=if aGb t.Locks k x=true then Z0 else some false:=by
 have hm':=le_max hm
 have hl:(t.Locks.take k).length=k:=by rw [qT];omega
 have:=lC (N:=k) (L:=cH t (k:Int) x (fun _=>Z0)) (g:=fun j => !((t.Locks[j]?).any (aLs x))) (F:=some false) (E:=Z0) (Nat.le_trans hk hm) (fun n j hj => ?_) (fun n => ?_)
 ·exact this
 ·have hj':j<t.Locks.length:=by omega
  simp only [cH,qH,hl]
  rw [if_pos (aY hj),aM (by rw [hl];exact hj),qA,bC (by omega),qF hj',Option.any_some,List.getElem_take]
  unfold aLs
  generalize cH t (k:Int) x (fun _=>Z0) n ((j+1:Nat):Int)=Z
  cases x.Held<;>cases (t.Locks[j].Name.toList==x.Name.toList)<;>cases t.Locks[j].Held<;>cases x.Shared<;>cases t.Locks[j].Shared<;>simp
 ·simp only [cH,qH,hl]
  rw [if_neg (by rw [aO];simp)]
theorem aGg {t:M.aP} (ht:t.ok):rZ t=some (aGm t):=by
 have hm:=le_max ht.Locks.1
 unfold rZ aGm
 rw [lC (L:=fG t) (g:=aJO t.Locks) (F:=some false) (E:=some (decide ((t.Locks.length:Int)≤12))) ht.Locks.1 (fun n k hk => ?_) (fun n => ?_),bN]
 ·have hf:=ht.Locks.2 _ (qG hk)
  simp only [fG]
  rw [if_pos (aY hk),aM hk,qA,bC (by omega),aHI hf.Name,qA,dC,qA,aNu ht.Locks.1 (by omega)]
  unfold aJO
  rw [qF hk,Option.any_some]
  generalize fG t n ((k+1:Nat):Int)=Z
  cases aLa t.Locks[k].Name 30 true<;>cases inR t.Locks[k].bJ 1 1000000000000<;>cases aGb t.Locks k t.Locks[k]<;>simp
 ·simp only [fG]
  rw [if_neg (by rw [aO];simp)]
theorem aGL {t:M.aP} (ht:t.ok):pU t=some (aGm t):=by
 have hm:=le_max ht.Locks.1
 unfold pU aGm
 rw [lC (L:=fH t) (g:=aJO t.Locks) (F:=some false) (E:=some (decide ((t.Locks.length:Int)≤12))) ht.Locks.1 (fun n k hk => ?_) (fun n => ?_),bN]
 ·have hf:=ht.Locks.2 _ (qG hk)
  simp only [fH]
  rw [if_pos (aY hk),aM hk,qA,bC (by omega),aHW hf.Name,qA,bP,qA,aFm (by omega),qA,aNm ht.Locks.1 (by omega)]
  unfold aJO
  rw [qF hk,Option.any_some]
  generalize fH t n ((k+1:Nat):Int)=Z
  cases aLa t.Locks[k].Name 30 true<;>cases inR t.Locks[k].bJ 1 1000000000000<;>cases aGb t.Locks k t.Locks[k]<;>simp
 ·simp only [fH]
  rw [if_neg (by rw [aO];simp)]
theorem aMH:sN.length=3:=rfl
theorem aPE {a:ByteArray} {k:Nat} (hk:k<sN.length):(aCq a==(k:Int))=(a.toList==(sN[k]).toList):=by
 have d : ∀i j:Nat,(hi:i<sN.length)→(hj:j<sN.length)→(sN[i]).toList=(sN[j]).toList→i=j:=by
  intro i j hi hj h
  have e0:(⟨#[98,97,110,107]⟩:ByteArray).toList=[98,97,110,107]:=by rw [ByteArray.toList_eq]
  have e1:(⟨#[110,101,119,115]⟩:ByteArray).toList=[110,101,119,115]:=by rw [ByteArray.toList_eq]
  have e2:(⟨#[115,104,111,112]⟩:ByteArray).toList=[115,104,111,112]:=by rw [ByteArray.toList_eq]
  rw [aMH] at hi hj
  rcases i with _ | _ | _ | i<;>rcases j with _ | _ | _ | j<;>first | rfl | (exfalso;omega) | (exfalso;simp [sN,e0,e1,e2] at h)
 have hf:=vC (f:=fun x:ByteArray=>x.toList==a.toList) (xs:=sN)
 have ha:=aIP (fun x:ByteArray=>x.toList==a.toList) sN
 unfold aCq
 rw [Bool.eq_iff_iff,beq_iff_eq,beq_iff_eq]
 constructor
 ·intro h
  have h2:sN.findIdx? (fun x:ByteArray=>x.toList==a.toList)=some k:=by
   unfold yK at h
   cases e:sN.findIdx? (fun x:ByteArray=>x.toList==a.toList) with
   | none=>rw [e] at h;simp only at h;omega
   | some i=>rw [e] at h;simp only at h;congr 1;omega
  have:=(List.findIdx?_eq_some_iff_getElem.1 h2).2.1
  exact (eq_of_beq this).symm
 ·intro h
  have hex:sN.any (fun x:ByteArray=>x.toList==a.toList)=true:=List.any_eq_true.2 ⟨sN[k],qG hk,by rw [h];exact beq_self_eq_true _⟩
  rw [hex] at ha
  obtain ⟨j,e,hj⟩:=hf (by have:=of_decide_eq_true ha;omega)
  rw [e]
  have h2:sN.findIdx? (fun x:ByteArray=>x.toList==a.toList)=some j:=by
   unfold yK at e
   cases e2:sN.findIdx? (fun x:ByteArray=>x.toList==a.toList) with
   | none=>rw [e2] at e;simp only at e;omega
   | some i=>rw [e2] at e;simp only at e;congr 1;omega
  have:=(List.findIdx?_eq_some_iff_getElem.1 h2).2.1
  rw [d j k hj hk (by rw [eq_of_beq this,h])]
def aEE (w:M.World) (k:Nat):Bool:=(w.Pages[k]?).any fun x=>aKl x&&(decide (x.Id<w.NextPage)&&((decide (k=0)||(w.Pages[k-1]?).any fun y=>decide (y.Id<x.Id))&&decide (0≤yK (nAt x.Site x.Top) w.aC.Buckets)))
def aFt (w:M.World) (k:Nat):Bool:=(w.Sites[k]?).any fun x=>aIq x&&((sN[k]?).any (fun nm=>x.Name.toList==nm.toList)&&(w.Servers[k]?).any aIp)
def aEU (w:M.World):Bool:=decide (w.Sites.length=3)&&(decide (w.Servers.length=3)&&(decide (w.Pages.length≤6)&&((List.range 3).all (aFt w)&&((List.range w.Pages.length).all (aEE w)&&(inR w.Now 0 999999990000&&(inR w.Device 1 1000000&&(oP w.aC&&(inR w.NextPage 1 1000000000000&&aGm w.Locks))))))))
theorem aF8 {w:M.World} (hz:M.World.sz w≤1048576):M.aC.sz w.aC≤1048576:=by
 simp only [M.World.sz] at hz
 omega
theorem aN3 {w:M.World} (hw:w.ok) {E:Option Bool} (hE : ∀n,dO w (n+1) (w.Pages.length:Int)=E):dO w fuel 0=if (List.range w.Pages.length).all (aEE w)=true then E else some false:=by
 have hm:=le_max hw.Pages.1
 refine lC (L:=dO w) (g:=aEE w) (F:=some false) (E:=E) hw.Pages.1 (fun n k hk => ?_) hE
 have hf:=hw.Pages.2 _ (qG hk)
 simp only [dO]
 rw [if_pos (aY hk),aM hk,qA,bC (by omega),aKP hf,qA,aCR hw.aC,qA]
 unfold aEE
 rw [qF hk,Option.any_some]
 generalize dO w n ((k+1:Nat):Int)=Z
 have e1:decide (w.Pages[k].Id≥w.NextPage) = !decide (w.Pages[k].Id<w.NextPage):=by rw [Bool.eq_iff_iff];simp
 have e2:decide (yK (nAt w.Pages[k].Site w.Pages[k].Top) w.aC.Buckets<0) = !decide (0≤yK (nAt w.Pages[k].Site w.Pages[k].Top) w.aC.Buckets):=by rw [Bool.eq_iff_iff];simp
 rw [e1]
 simp only [e2]
 by_cases h0:k=0
 ·subst h0
  cases aKl w.Pages[0]<;>cases decide (w.Pages[0].Id<w.NextPage)<;>cases decide (0≤yK (nAt w.Pages[0].Site w.Pages[0].Top) w.aC.Buckets)<;>simp
 ·have e:i64.wrap ((k:Int)-1)=((k-1:Nat):Int):=by rw [fB (by omega) (by omega)];omega
  have hk1:k-1<w.Pages.length:=by omega
  have e3:decide (w.Pages[k-1].Id≥w.Pages[k].Id) = !decide (w.Pages[k-1].Id<w.Pages[k].Id):=by rw [Bool.eq_iff_iff];simp
  rw [if_pos (c:=(decide ((k:Int)>0))=true) (by simp;omega),e,aM hk1,qA,qF hk1,e3]
  simp only [Option.any_some,h0,decide_false,Bool.false_or]
  cases aKl w.Pages[k]<;>cases decide (w.Pages[k].Id<w.NextPage)<;>cases decide (w.Pages[k-1].Id<w.Pages[k].Id)<;>cases decide (0≤yK (nAt w.Pages[k].Site w.Pages[k].Top) w.aC.Buckets)<;>simp
theorem aNb {w:M.World} (hw:w.ok) {E:Option Bool} (hE : ∀n,fA w (n+1) (w.Pages.length:Int)=E):fA w fuel 0=if (List.range w.Pages.length).all (aEE w)=true then E else some false:=by
 have hm:=le_max hw.Pages.1
 refine lC (L:=fA w) (g:=aEE w) (F:=some false) (E:=E) hw.Pages.1 (fun n k hk => ?_) hE
 have hf:=hw.Pages.2 _ (qG hk)
 simp only [fA]
 rw [if_pos (aY hk),aM hk,qA,bC (by omega),aKc hf,qA,aCW hw.aC,qA]
 unfold aEE
 rw [qF hk,Option.any_some]
 generalize fA w n ((k+1:Nat):Int)=Z
 have e1:decide (w.Pages[k].Id≥w.NextPage) = !decide (w.Pages[k].Id<w.NextPage):=by rw [Bool.eq_iff_iff];simp
 have e2:decide (yK (nAt w.Pages[k].Site w.Pages[k].Top) w.aC.Buckets<0) = !decide (0≤yK (nAt w.Pages[k].Site w.Pages[k].Top) w.aC.Buckets):=by rw [Bool.eq_iff_iff];simp
 rw [e1]
 simp only [e2]
 by_cases h0:k=0
 ·subst h0
  cases aKl w.Pages[0]<;>cases decide (w.Pages[0].Id<w.NextPage)<;>cases decide (0≤yK (nAt w.Pages[0].Site w.Pages[0].Top) w.aC.Buckets)<;>simp
 ·have e:i64.wrap ((k:Int)-1)=((k-1:Nat):Int):=by rw [fB (by omega) (by omega)];omega
  have hk1:k-1<w.Pages.length:=by omega
  have e3:decide (w.Pages[k].Id≤w.Pages[k-1].Id) = !decide (w.Pages[k-1].Id<w.Pages[k].Id):=by rw [Bool.eq_iff_iff];simp
  rw [if_pos (c:=(decide ((k:Int)>0))=true) (by simp;omega),e,aM hk1,qA,qF hk1,e3]
  simp only [Option.any_some,h0,decide_false,Bool.false_or]
  cases aKl w.Pages[k]<;>cases decide (w.Pages[k].Id<w.NextPage)<;>cases decide (w.Pages[k-1].Id<w.Pages[k].Id)<;>cases decide (0≤yK (nAt w.Pages[k].Site w.Pages[k].Top) w.aC.Buckets)<;>simp
theorem aI2 {w:M.World} (hw:w.ok) (hz : ∀b∈w.aC.Buckets,M.Database.sz b.bB.Base≤1048576):yB w=some (aEU w):=by
 unfold yB aEU
 by_cases h1:w.Sites.length=3
 ·by_cases h2:w.Servers.length=3
  ·have e3:decide ((w.Pages.length:Int)>6) = !decide (w.Pages.length≤6):=by rw [Bool.eq_iff_iff];simp;omega
   rw [if_neg (by rw [h1];simp),if_neg (by rw [h2];simp),e3,decide_eq_true h1,decide_eq_true h2]
   rw [lC (N:=3) (L:=jH w) (g:=aFt w) (F:=some false) (E:=dO w fuel 0) (by unfold maxLen;omega) (fun n k hk => ?_) (fun n => ?_),
    aN3 hw (E:=some (inR w.Now 0 999999990000&&(inR w.Device 1 1000000&&(oP w.aC&&(inR w.NextPage 1 1000000000000&&aGm w.Locks))))) (fun n => ?_)]
   ·cases decide (w.Pages.length≤6)<;>cases (List.range 3).all (aFt w)<;>cases (List.range w.Pages.length).all (aEE w)<;>simp
   ·simp only [dO]
    rw [if_neg (by rw [aO];simp)]
    simp only [dC,aCS hw.aC hz,aGg hw.Locks,qA,bN]
   ·have hk1:k<w.Sites.length:=by omega
    have hk2:k<w.Servers.length:=by omega
    have hk3:k<sN.length:=by rw [aMH];exact hk
    have hn:tK=some sN:=rfl
    simp only [jH,hn,qA]
    rw [if_pos (by simp;omega),aM hk1,qA,bC (by omega),aD9 (hw.Sites.2 _ (qG hk1)),qA,aM hk3,qA,aM hk2,qA,aIl (hw.Servers.2 _ (qG hk2)),qA]
    unfold aFt
    rw [qF hk1,qF hk2,qF hk3]
    simp only [Option.any_some]
    generalize jH w n ((k+1:Nat):Int)=Z
    have gen : ∀(a b c:Bool),(if (!a)=true then some false else if (!b)=true then some false else if (!c)=true then some false else Z)=if (a&&(b&&c))=true then Z else some false:=by
     intro a b c;cases a<;>cases b<;>cases c<;>rfl
    exact gen _ _ _
   ·simp only [jH]
    rw [if_neg (by simp)]
  ·rw [if_neg (by rw [h1];simp),if_pos (by simp;omega),decide_eq_false h2]
   simp
 ·rw [if_pos (by simp;omega),decide_eq_false h1]
  simp
theorem aJC {w:M.World} (hw:w.ok) (hz : ∀b∈w.aC.Buckets,M.Database.sz b.bB.Base≤1048576):xW w=some (aEU w):=by
 unfold xW aEU
 have e3:decide ((w.Pages.length:Int)>6) = !decide (w.Pages.length≤6):=by rw [Bool.eq_iff_iff];simp;omega
 have e1:((w.Sites.length:Int) != 3) = !decide (w.Sites.length=3):=by rw [Bool.eq_iff_iff];simp;omega
 have e2:((w.Servers.length:Int) != 3) = !decide (w.Servers.length=3):=by rw [Bool.eq_iff_iff];simp;omega
 simp only [bP,aCU hw.aC hz,aGL hw.Locks,qA,e1,e2,e3]
 by_cases h1:w.Sites.length=3
 ·by_cases h2:w.Servers.length=3
  ·rw [aNb hw (E:=gZ w fuel 0) (fun n=>by
     simp only [fA]
     rw [if_neg (by rw [aO];simp)]),
    lC (N:=3) (L:=gZ w) (g:=aFt w) (F:=some false) (E:=some true) (by unfold maxLen;omega) (fun n k hk => ?_) (fun n => ?_)]
   ·rw [decide_eq_true h1,decide_eq_true h2]
    cases inR w.Now 0 999999990000<;>cases inR w.Device 1 1000000<;>cases oP w.aC<;>cases decide (w.Pages.length≤6)<;>cases inR w.NextPage 1 1000000000000<;>cases aGm w.Locks<;>cases (List.range 3).all (aFt w)<;>cases (List.range w.Pages.length).all (aEE w)<;>rfl
   ·have hk1:k<w.Sites.length:=by omega
    have hk2:k<w.Servers.length:=by omega
    have hk3:k<sN.length:=by rw [aMH];exact hk
    simp only [gZ]
    rw [if_pos (aY hk1),aM hk1,qA,bC (by omega),aD4 (hw.Sites.2 _ (qG hk1)),qA,aDi,qA,aM hk2,qA,aIa (hw.Servers.2 _ (qG hk2)),qA,aEH,aPE hk3]
    unfold aFt
    rw [qF hk1,qF hk2,qF hk3]
    simp only [Option.any_some]
    generalize gZ w n ((k+1:Nat):Int)=Z
    have gen : ∀(a b c:Bool),(if (!a)=true then some false else if b=true then (if (!c)=true then some false else Z) else some false)=if (a&&(b&&c))=true then Z else some false:=by
     intro a b c;cases a<;>cases b<;>cases c<;>rfl
    exact gen _ _ _
   ·simp only [gZ]
    rw [if_neg (by rw [h1];simp)]
  ·rw [decide_eq_true h1,decide_eq_false h2]
   cases inR w.Now 0 999999990000<;>cases inR w.Device 1 1000000<;>cases oP w.aC<;>cases decide (w.Pages.length≤6)<;>cases inR w.NextPage 1 1000000000000<;>cases aGm w.Locks<;>rfl
 ·rw [decide_eq_false h1]
  cases inR w.Now 0 999999990000<;>cases inR w.Device 1 1000000<;>cases oP w.aC<;>cases decide (w.Pages.length≤6)<;>cases inR w.NextPage 1 1000000000000<;>cases aGm w.Locks<;>rfl
theorem aMl {w:M.World} (hz:M.World.sz w≤1048576) : ∀b∈w.aC.Buckets,M.Database.sz b.bB.Base≤1048576:=fun b hb=>aA2 (by
 have h1:=aF8 hz
 have h2:=bO (f:=M.Bucket.sz) hb
 simp only [M.aC.sz] at h1
 omega)
theorem aJX {w:M.World} (hw:w.ok) (hz:M.World.sz w≤1048576):yB w=some (aEU w):=aI2 hw (aMl hz)
theorem aJe {w:M.World} (hw:w.ok) (hz:M.World.sz w≤1048576):xW w=some (aEU w):=aJC hw (aMl hz)
end Go.Proofs.YtidhkhdnjonjfaaGreat.gen
