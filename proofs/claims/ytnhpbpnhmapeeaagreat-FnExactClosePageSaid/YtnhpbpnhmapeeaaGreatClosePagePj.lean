/-
  Helper text. No conditions.
-/
import Derived.Test.YtnhpbpnhmapeeaaGreatClosePagePi
namespace Go.Proofs.YtnhpbpnhmapeeaaGreat.gen
open Go Go.Sh
open Go.IntKind (i64)
set_option linter.unusedVariables false
set_option linter.unusedSimpArgs false
def sM:List ByteArray:=[(⟨#[98,97,110,107]⟩:ByteArray),(⟨#[110,101,119,115]⟩:ByteArray),(⟨#[115,104,111,112]⟩:ByteArray)]
def aJv (a:ByteArray):Int:=aBj (fun x:ByteArray=>x.toList==a.toList) sM
theorem aLA:sM.length≤maxLen:=by unfold sM maxLen;simp
theorem aEr {a:ByteArray}:pZ a=some (aJv a):=by
 unfold pZ oP
 rw [←sM.eq_1]
 rw [findAll (L:=eT sM a) (f:=fun x:ByteArray=>x.toList==a.toList) (A:=fun i=>some (i:Int)) (E:=some (-1)) aLA (fun m k hk => ?_) (fun m => ?_),tT]
 ·rfl
 ·have hk3:k<3:=hk
  simp only [eT]
  rw [if_pos (aZ hk),aO hk,Option.bind_some,bB (by omega),Bool.beq_comm]
 ·simp only [eT]
  rw [if_neg (by rw [aP];simp)]
def aG3 (l:List ByteArray) (k:Nat):Bool:=(l[k]?).any pK&&(decide (k=0)||(l[k-1]?).any fun y=>(l[k]?).any fun x=>Op.bytesLess y.toList x.toList)
def aL8 (s:M.Site):Bool:=(List.range s.Files.length).all (aG3 s.Files)&&(pK s.Name&&(inR s.Version 1 1000000000000&&inR (s.Files.length:Int) 1 6))
theorem aIJ {s:M.Site} (hs:s.ok):aAp s=some (aL8 s):=by
 have hm:=le_max hs.Files.1
 unfold aAp aL8
 rw [jV (L:=hT s) (g:=aG3 s.Files) (F:=some false) (E:=some (pK s.Name&&(inR s.Version 1 1000000000000&&inR (s.Files.length:Int) 1 6))) hs.Files.1 (fun n k hk => ?_) (fun n => ?_),bP]
 ·have hf:=hs.Files.2 _ (List.getElem_mem hk)
  simp only [hT]
  rw [if_pos (aZ hk),aO hk,Option.bind_some,bB (by omega),eO hf,Option.bind_some]
  unfold aG3
  rw [List.getElem?_eq_getElem hk]
  generalize hT s n ((k+1:Nat):Int)=Z
  by_cases h0:k=0
  ·subst h0
   simp only [Option.any_some]
   cases pK s.Files[0]<;>simp
  ·have e:i64.wrap ((k:Int)-1)=((k-1:Nat):Int):=by rw [iT (by omega) (by omega)];omega
   have hk1:k-1<s.Files.length:=by omega
   rw [if_pos (c:=(decide ((k:Int)>0))=true) (by simp;omega),e,aO hk1,Option.bind_some,List.getElem?_eq_getElem hk1]
   simp only [Option.any_some,h0,decide_false,Bool.false_or]
   cases pK s.Files[k]<;>cases Op.bytesLess s.Files[k-1].toList s.Files[k].toList<;>simp
 ·simp only [hT]
  rw [if_neg (by rw [aP];simp),eO hs.Name,Option.bind_some,dG,Option.bind_some,dG,Option.bind_some,bP,bP]
theorem aIA {s:M.Site} (hs:s.ok):aAX s=some (aL8 s):=by
 have hm:=le_max hs.Files.1
 unfold aAX aL8
 rw [jV (L:=hP s) (g:=aG3 s.Files) (F:=some false) (E:=some (pK s.Name&&(inR s.Version 1 1000000000000&&inR (s.Files.length:Int) 1 6))) hs.Files.1 (fun n k hk => ?_) (fun n => ?_),bP]
 ·have hf:=hs.Files.2 _ (List.getElem_mem hk)
  simp only [hP]
  rw [if_pos (aZ hk),aO hk,Option.bind_some,bB (by omega),dO hf,Option.bind_some]
  unfold aG3
  rw [List.getElem?_eq_getElem hk]
  generalize hP s n ((k+1:Nat):Int)=Z
  by_cases h0:k=0
  ·subst h0
   simp only [Option.any_some]
   cases pK s.Files[0]<;>simp
  ·have e:i64.wrap ((k:Int)-1)=((k-1:Nat):Int):=by rw [iT (by omega) (by omega)];omega
   have hk1:k-1<s.Files.length:=by omega
   rw [if_pos (c:=(decide ((k:Int)>0))=true) (by simp;omega),e,aO hk1,Option.bind_some,List.getElem?_eq_getElem hk1,aKm]
   simp only [Option.any_some,h0,decide_false,Bool.false_or]
   cases pK s.Files[k]<;>cases Op.bytesLess s.Files[k-1].toList s.Files[k].toList<;>simp
 ·simp only [hP]
  rw [if_neg (by rw [aP];simp),dO hs.Name,Option.bind_some,bQ,Option.bind_some,bQ,Option.bind_some,bP,bP]
def aB7 (l:List M.aJ) (k:Nat):Bool:=(l[k]?).any (fun x=>inR x.Device 1 1000000&&inR x.Seq 0 1000000)&&(decide (k=0)||(l[k-1]?).any fun y=>(l[k]?).any fun x=>decide (y.Device<x.Device))
def aCe (l:List M.aY) (k:Nat):Bool:=(l[k]?).any aE4
def aGi (s:M.Server):Bool:=(List.range s.aJ.length).all (aB7 s.aJ)&&((List.range s.Changes.length).all (aCe s.Changes)&&(aB8 s.aH&&((s.aH.Name.toList==(⟨#[110,111,116,101,115]⟩:ByteArray).toList)&&decide ((s.aJ.length:Int)≤60))))
theorem aGc {s:M.Server} (hs:s.ok):wU s=some (aGi s):=by
 have hm:=le_max hs.aJ.1
 have hm2:=le_max hs.Changes.1
 unfold wU aGi
 rw [jV (L:=fW s) (g:=aB7 s.aJ) (F:=some false) (E:=gZ s fuel 0) hs.aJ.1 (fun n k hk => ?_) (fun n => ?_),
  jV (L:=gZ s) (g:=aCe s.Changes) (F:=some false) (E:=some (aB8 s.aH&&((s.aH.Name.toList==(⟨#[110,111,116,101,115]⟩:ByteArray).toList)&&decide ((s.aJ.length:Int)≤60)))) hs.Changes.1 (fun n k hk => ?_) (fun n => ?_),bP,bP]
 ·have hf:=hs.Changes.2 _ (List.getElem_mem hk)
  simp only [gZ]
  rw [if_pos (aZ hk),aO hk,Option.bind_some,bB (by omega),aBS hf,Option.bind_some,aAl]
  unfold aCe
  rw [List.getElem?_eq_getElem hk,Option.any_some]
 ·simp only [gZ]
  rw [if_neg (by rw [aP];simp),aB0 hs.aH,Option.bind_some,bP,bP]
 ·simp only [fW]
  rw [if_pos (aZ hk),aO hk,Option.bind_some,bB (by omega),dG,Option.bind_some,dG,Option.bind_some]
  unfold aB7
  rw [List.getElem?_eq_getElem hk]
  generalize fW s n ((k+1:Nat):Int)=Z
  by_cases h0:k=0
  ·subst h0
   simp only [Option.any_some]
   cases inR s.aJ[0].Device 1 1000000<;>cases inR s.aJ[0].Seq 0 1000000<;>simp
  ·have e:i64.wrap ((k:Int)-1)=((k-1:Nat):Int):=by rw [iT (by omega) (by omega)];omega
   have hk1:k-1<s.aJ.length:=by omega
   have ed:decide (s.aJ[k-1].Device≥s.aJ[k].Device) = !decide (s.aJ[k-1].Device<s.aJ[k].Device):=by rw [Bool.eq_iff_iff];simp
   rw [if_pos (c:=(decide ((k:Int)>0))=true) (by simp;omega),e,aO hk1,Option.bind_some,List.getElem?_eq_getElem hk1,ed]
   simp only [Option.any_some,h0,decide_false,Bool.false_or]
   cases inR s.aJ[k].Device 1 1000000<;>cases inR s.aJ[k].Seq 0 1000000<;>cases decide (s.aJ[k-1].Device<s.aJ[k].Device)<;>simp
 ·simp only [fW]
  rw [if_neg (by rw [aP];simp)]
theorem aGS {s:M.Server} (hs:s.ok):wI s=some (aGi s):=by
 have hm:=le_max hs.aJ.1
 have hm2:=le_max hs.Changes.1
 unfold wI aGi
 rw [jV (L:=fX s) (g:=aB7 s.aJ) (F:=some false) (E:=hD s fuel 0) hs.aJ.1 (fun n k hk => ?_) (fun n => ?_),
  jV (L:=hD s) (g:=aCe s.Changes) (F:=some false) (E:=some (aB8 s.aH&&((s.aH.Name.toList==(⟨#[110,111,116,101,115]⟩:ByteArray).toList)&&decide ((s.aJ.length:Int)≤60)))) hs.Changes.1 (fun n k hk => ?_) (fun n => ?_),bP,bP]
 ·have hf:=hs.Changes.2 _ (List.getElem_mem hk)
  simp only [hD]
  rw [if_pos (aZ hk),aO hk,Option.bind_some,bB (by omega),aBQ hf,Option.bind_some,aAl]
  unfold aCe
  rw [List.getElem?_eq_getElem hk,Option.any_some]
 ·simp only [hD]
  rw [if_neg (by rw [aP];simp),aBz hs.aH,Option.bind_some,bP,bP]
 ·simp only [fX]
  rw [if_pos (aZ hk),aO hk,Option.bind_some,bB (by omega),bQ,Option.bind_some,bQ,Option.bind_some]
  unfold aB7
  rw [List.getElem?_eq_getElem hk]
  generalize fX s n ((k+1:Nat):Int)=Z
  by_cases h0:k=0
  ·subst h0
   simp only [Option.any_some]
   cases inR s.aJ[0].Device 1 1000000<;>cases inR s.aJ[0].Seq 0 1000000<;>simp
  ·have e:i64.wrap ((k:Int)-1)=((k-1:Nat):Int):=by rw [iT (by omega) (by omega)];omega
   have hk1:k-1<s.aJ.length:=by omega
   have ed:decide (s.aJ[k].Device≤s.aJ[k-1].Device) = !decide (s.aJ[k-1].Device<s.aJ[k].Device):=by rw [Bool.eq_iff_iff];simp
   rw [if_pos (c:=(decide ((k:Int)>0))=true) (by simp;omega),e,aO hk1,Option.bind_some,List.getElem?_eq_getElem hk1,ed]
   simp only [Option.any_some,h0,decide_false,Bool.false_or]
   cases inR s.aJ[k].Device 1 1000000<;>cases inR s.aJ[k].Seq 0 1000000<;>cases decide (s.aJ[k-1].Device<s.aJ[k].Device)<;>simp
 ·simp only [fX]
  rw [if_neg (by rw [aP];simp)]
def aCo (p:M.bG) (k:Nat):Bool:=(p.aN[k]?).any fun x=>pK x.Path&&(x.Version==p.Version)
def aIT (p:M.bG):Bool:=(List.range p.aN.length).all (aCo p)&&(inR p.Id 1 1000000000000&&(pK p.Site&&(pK p.Top&&(inR p.Version 1 1000000000000&&decide ((p.aN.length:Int)≤8)))))
theorem aH9 {p:M.bG} (hp:p.ok):aA3 p=some (aIT p):=by
 have hm:=le_max hp.aN.1
 unfold aA3 aIT
 rw [jV (L:=kX p) (g:=aCo p) (F:=some false) (E:=some (inR p.Id 1 1000000000000&&(pK p.Site&&(pK p.Top&&(inR p.Version 1 1000000000000&&decide ((p.aN.length:Int)≤8)))))) hp.aN.1 (fun n k hk => ?_) (fun n => ?_),bP]
 ·have hf:=hp.aN.2 _ (List.getElem_mem hk)
  simp only [kX]
  rw [if_pos (aZ hk),aO hk,Option.bind_some,bB (by omega),eO hf.Path,Option.bind_some]
  unfold aCo
  rw [List.getElem?_eq_getElem hk,Option.any_some]
  simp only [aCP,aAl,aN5]
 ·simp only [kX]
  rw [if_neg (by rw [aP];simp)]
  simp only [eO hp.Site,eO hp.Top,dG,Option.bind_some,bP]
theorem aIK {p:M.bG} (hp:p.ok):aA0 p=some (aIT p):=by
 have hm:=le_max hp.aN.1
 unfold aA0 aIT
 rw [jV (L:=lD p) (g:=aCo p) (F:=some false) (E:=some (inR p.Id 1 1000000000000&&(pK p.Site&&(pK p.Top&&(inR p.Version 1 1000000000000&&decide ((p.aN.length:Int)≤8)))))) hp.aN.1 (fun n k hk => ?_) (fun n => ?_),bP]
 ·have hf:=hp.aN.2 _ (List.getElem_mem hk)
  simp only [lD]
  rw [if_pos (aZ hk),aO hk,Option.bind_some,bB (by omega),dO hf.Path,Option.bind_some]
  unfold aCo
  rw [List.getElem?_eq_getElem hk,Option.any_some]
  simp only [aCP,aAl,aN5]
 ·simp only [lD]
  rw [if_neg (by rw [aP];simp)]
  simp only [dO hp.Site,dO hp.Top,bQ,Option.bind_some,bP]
theorem aFC {s:ByteArray} (hs:s.size≤maxLen):pN s=some (aJP s 30 true):=by
 have hm:=le_max hs
 unfold pN aJP
 rw [aEb (L:=cZ s) (g:=aFZ true) (F:=some false) (E:=some (inR (s.size:Int) 1 30)) hs (fun n k hk => ?_) (fun n => ?_),bP]
 ·simp only [cZ]
  rw [if_pos (aZ hk),aDy hk,Option.bind_some,bB (by omega)]
  generalize s[k]=b
  unfold aFZ
  generalize cZ s n ((k+1:Nat):Int)=Z
  simp only [Bool.or_eq_true,Bool.and_eq_true,decide_eq_true_eq,Bool.not_eq_true',decide_eq_false_iff_not,Bool.true_and,bne_iff_ne,ne_eq]
  repeat' split
  all_goals first | rfl | (exfalso;omega)
 ·simp only [cZ]
  rw [if_neg (by rw [aP];simp),dG,Option.bind_some]
theorem aFP {s:ByteArray} (hs:s.size≤maxLen):pT s=some (aJP s 30 true):=by
 unfold pT
 rw [aD6 hs,Option.bind_some]
def aJc (x y:M.bF):Bool:=x.Held&&((y.Name.toList==x.Name.toList)&&(!y.Held||(!x.Shared || !y.Shared)))
def aEX (l:List M.bF) (k:Nat) (x:M.bF):Bool:=(List.range k).all fun j => !((l[j]?).any (aJc x))
def aHA (l:List M.bF) (k:Nat):Bool:=(l[k]?).any fun x=>aJP x.Name 30 true&&(inR x.bG 1 1000000000000&&aEX l k x)
def aEl (t:M.aE):Bool:=(List.range t.Locks.length).all (aHA t.Locks)&&decide ((t.Locks.length:Int)≤12)
theorem aLM {t:M.aE} {x:M.bF} {k:Nat} {K:Int→Option Bool} (hm:t.Locks.length≤maxLen) (hk:k≤t.Locks.length):bX t (k:Int) x K fuel 0=if aEX t.Locks k x=true then K (k:Int) else some false:=by
 have hm':=le_max hm
 refine jV (L:=bX t (k:Int) x K) (g:=fun j => !((t.Locks[j]?).any (aJc x))) (F:=some false) (E:=K (k:Int)) (Nat.le_trans hk hm) (fun n j hj => ?_) (fun n => ?_)
 ·have hj':j<t.Locks.length:=by omega
  simp only [bX]
  rw [if_pos (aZ hj),aO hj',Option.bind_some,bB (by omega),List.getElem?_eq_getElem hj',Option.any_some]
  unfold aJc
  generalize bX t (k:Int) x K n ((j+1:Nat):Int)=Z
  cases x.Held<;>cases (t.Locks[j].Name.toList==x.Name.toList)<;>cases t.Locks[j].Held<;>cases x.Shared<;>cases t.Locks[j].Shared<;>simp
 ·simp only [bX]
  rw [if_neg (by rw [aP];simp)]
theorem aLE {t:M.aE} {x:M.bF} {k:Nat} {Z0:Option Bool} (hm:t.Locks.length≤maxLen) (hk:k≤t.Locks.length):bM t (k:Int) x (fun _=>Z0) fuel 0=if aEX t.Locks k x=true then Z0 else some false:=by
 have hm':=le_max hm
 have hl:(t.Locks.take k).length=k:=by rw [List.length_take];omega
 have:=jV (N:=k) (L:=bM t (k:Int) x (fun _=>Z0)) (g:=fun j => !((t.Locks[j]?).any (aJc x))) (F:=some false) (E:=Z0) (Nat.le_trans hk hm) (fun n j hj => ?_) (fun n => ?_)
 ·exact this
 ·have hj':j<t.Locks.length:=by omega
  simp only [bM,Int.toNat_natCast,hl]
  rw [if_pos (aZ hj),aO (by rw [hl];exact hj),Option.bind_some,bB (by omega),List.getElem?_eq_getElem hj',Option.any_some,List.getElem_take]
  unfold aJc
  generalize bM t (k:Int) x (fun _=>Z0) n ((j+1:Nat):Int)=Z
  cases x.Held<;>cases (t.Locks[j].Name.toList==x.Name.toList)<;>cases t.Locks[j].Held<;>cases x.Shared<;>cases t.Locks[j].Shared<;>simp
 ·simp only [bM,Int.toNat_natCast,hl]
  rw [if_neg (by rw [aP];simp)]
theorem aEe {t:M.aE} (ht:t.ok):pB t=some (aEl t):=by
 have hm:=le_max ht.Locks.1
 unfold pB aEl
 rw [jV (L:=eY t) (g:=aHA t.Locks) (F:=some false) (E:=some (decide ((t.Locks.length:Int)≤12))) ht.Locks.1 (fun n k hk => ?_) (fun n => ?_),bP]
 ·have hf:=ht.Locks.2 _ (List.getElem_mem hk)
  simp only [eY]
  rw [if_pos (aZ hk),aO hk,Option.bind_some,bB (by omega),aFC hf.Name,Option.bind_some,dG,Option.bind_some,aLM ht.Locks.1 (by omega)]
  unfold aHA
  rw [List.getElem?_eq_getElem hk,Option.any_some]
  generalize eY t n ((k+1:Nat):Int)=Z
  cases aJP t.Locks[k].Name 30 true<;>cases inR t.Locks[k].bG 1 1000000000000<;>cases aEX t.Locks k t.Locks[k]<;>simp
 ·simp only [eY]
  rw [if_neg (by rw [aP];simp)]
theorem aEI {t:M.aE} (ht:t.ok):nX t=some (aEl t):=by
 have hm:=le_max ht.Locks.1
 unfold nX aEl
 rw [jV (L:=dN t) (g:=aHA t.Locks) (F:=some false) (E:=some (decide ((t.Locks.length:Int)≤12))) ht.Locks.1 (fun n k hk => ?_) (fun n => ?_),bP]
 ·have hf:=ht.Locks.2 _ (List.getElem_mem hk)
  simp only [dN]
  rw [if_pos (aZ hk),aO hk,Option.bind_some,bB (by omega),aFP hf.Name,Option.bind_some,bQ,Option.bind_some,aGh (by omega),Option.bind_some,aLE ht.Locks.1 (by omega)]
  unfold aHA
  rw [List.getElem?_eq_getElem hk,Option.any_some]
  generalize dN t n ((k+1:Nat):Int)=Z
  cases aJP t.Locks[k].Name 30 true<;>cases inR t.Locks[k].bG 1 1000000000000<;>cases aEX t.Locks k t.Locks[k]<;>simp
 ·simp only [dN]
  rw [if_neg (by rw [aP];simp)]
theorem aJw:sM.length=3:=rfl
theorem aMJ {a:ByteArray} {k:Nat} (hk:k<sM.length):(aJv a==(k:Int))=(a.toList==(sM[k]).toList):=by
 have d : ∀i j:Nat,(hi:i<sM.length)→(hj:j<sM.length)→(sM[i]).toList=(sM[j]).toList→i=j:=by
  intro i j hi hj h
  have e0:(⟨#[98,97,110,107]⟩:ByteArray).toList=[98,97,110,107]:=by rw [ByteArray.toList_eq]
  have e1:(⟨#[110,101,119,115]⟩:ByteArray).toList=[110,101,119,115]:=by rw [ByteArray.toList_eq]
  have e2:(⟨#[115,104,111,112]⟩:ByteArray).toList=[115,104,111,112]:=by rw [ByteArray.toList_eq]
  rw [aJw] at hi hj
  rcases i with _ | _ | _ | i<;>rcases j with _ | _ | _ | j<;>first | rfl | (exfalso;omega) | (exfalso;simp [sM,e0,e1,e2] at h)
 have hf:=aEH (f:=fun x:ByteArray=>x.toList==a.toList) (xs:=sM)
 have ha:=aIM (fun x:ByteArray=>x.toList==a.toList) sM
 unfold aJv
 rw [Bool.eq_iff_iff,beq_iff_eq,beq_iff_eq]
 constructor
 ·intro h
  have h2:sM.findIdx? (fun x:ByteArray=>x.toList==a.toList)=some k:=by
   unfold aBj at h
   cases e:sM.findIdx? (fun x:ByteArray=>x.toList==a.toList) with
   | none=>rw [e] at h;simp only at h;omega
   | some i=>rw [e] at h;simp only at h;congr 1;omega
  have:=(List.findIdx?_eq_some_iff_getElem.1 h2).2.1
  exact (eq_of_beq this).symm
 ·intro h
  have hex:sM.any (fun x:ByteArray=>x.toList==a.toList)=true:=List.any_eq_true.2 ⟨sM[k],List.getElem_mem hk,by rw [h];exact beq_self_eq_true _⟩
  rw [hex] at ha
  obtain ⟨j,e,hj⟩:=hf (by have:=of_decide_eq_true ha;omega)
  rw [e]
  have h2:sM.findIdx? (fun x:ByteArray=>x.toList==a.toList)=some j:=by
   unfold aBj at e
   cases e2:sM.findIdx? (fun x:ByteArray=>x.toList==a.toList) with
   | none=>rw [e2] at e;simp only at e;omega
   | some i=>rw [e2] at e;simp only at e;congr 1;omega
  have:=(List.findIdx?_eq_some_iff_getElem.1 h2).2.1
  rw [d j k hj hk (by rw [eq_of_beq this,h])]
def aCL (w:M.World) (k:Nat):Bool:=(w.Pages[k]?).any fun x=>aIT x&&(decide (x.Id<w.NextPage)&&((decide (k=0)||(w.Pages[k-1]?).any fun y=>decide (y.Id<x.Id))&&decide (0≤aBj (nAt x.Site x.Top) w.aM.Buckets)))
def aDq (w:M.World) (k:Nat):Bool:=(w.Sites[k]?).any fun x=>aL8 x&&((sM[k]?).any (fun nm=>x.Name.toList==nm.toList)&&(w.Servers[k]?).any aGi)
def aGs (w:M.World):Bool:=decide (w.Sites.length=3)&&(decide (w.Servers.length=3)&&(decide (w.Pages.length≤6)&&((List.range 3).all (aDq w)&&((List.range w.Pages.length).all (aCL w)&&(inR w.Now 0 999999990000&&(inR w.Device 1 1000000&&(aBX w.aM&&(inR w.NextPage 1 1000000000000&&aEl w.Locks))))))))
theorem aLn {w:M.World} (hz:M.World.sz w≤1048576):M.aM.sz w.aM≤1048576:=by
 simp only [M.World.sz] at hz
 omega
theorem aLT {w:M.World} (hw:w.ok) {E:Option Bool} (hE : ∀n,dH w (n+1) (w.Pages.length:Int)=E):dH w fuel 0=if (List.range w.Pages.length).all (aCL w)=true then E else some false:=by
 have hm:=le_max hw.Pages.1
 refine jV (L:=dH w) (g:=aCL w) (F:=some false) (E:=E) hw.Pages.1 (fun n k hk => ?_) hE
 have hf:=hw.Pages.2 _ (List.getElem_mem hk)
 simp only [dH]
 rw [if_pos (aZ hk),aO hk,Option.bind_some,bB (by omega),aH9 hf,Option.bind_some,aEo hw.aM,Option.bind_some]
 unfold aCL
 rw [List.getElem?_eq_getElem hk,Option.any_some]
 generalize dH w n ((k+1:Nat):Int)=Z
 have e1:decide (w.Pages[k].Id≥w.NextPage) = !decide (w.Pages[k].Id<w.NextPage):=by rw [Bool.eq_iff_iff];simp
 have e2:decide (aBj (nAt w.Pages[k].Site w.Pages[k].Top) w.aM.Buckets<0) = !decide (0≤aBj (nAt w.Pages[k].Site w.Pages[k].Top) w.aM.Buckets):=by rw [Bool.eq_iff_iff];simp
 rw [e1]
 simp only [e2]
 by_cases h0:k=0
 ·subst h0
  cases aIT w.Pages[0]<;>cases decide (w.Pages[0].Id<w.NextPage)<;>cases decide (0≤aBj (nAt w.Pages[0].Site w.Pages[0].Top) w.aM.Buckets)<;>simp
 ·have e:i64.wrap ((k:Int)-1)=((k-1:Nat):Int):=by rw [iT (by omega) (by omega)];omega
  have hk1:k-1<w.Pages.length:=by omega
  have e3:decide (w.Pages[k-1].Id≥w.Pages[k].Id) = !decide (w.Pages[k-1].Id<w.Pages[k].Id):=by rw [Bool.eq_iff_iff];simp
  rw [if_pos (c:=(decide ((k:Int)>0))=true) (by simp;omega),e,aO hk1,Option.bind_some,List.getElem?_eq_getElem hk1,e3]
  simp only [Option.any_some,h0,decide_false,Bool.false_or]
  cases aIT w.Pages[k]<;>cases decide (w.Pages[k].Id<w.NextPage)<;>cases decide (w.Pages[k-1].Id<w.Pages[k].Id)<;>cases decide (0≤aBj (nAt w.Pages[k].Site w.Pages[k].Top) w.aM.Buckets)<;>simp
theorem aK6 {w:M.World} (hw:w.ok) {E:Option Bool} (hE : ∀n,eS w (n+1) (w.Pages.length:Int)=E):eS w fuel 0=if (List.range w.Pages.length).all (aCL w)=true then E else some false:=by
 have hm:=le_max hw.Pages.1
 refine jV (L:=eS w) (g:=aCL w) (F:=some false) (E:=E) hw.Pages.1 (fun n k hk => ?_) hE
 have hf:=hw.Pages.2 _ (List.getElem_mem hk)
 simp only [eS]
 rw [if_pos (aZ hk),aO hk,Option.bind_some,bB (by omega),aIK hf,Option.bind_some,aFO hw.aM,Option.bind_some]
 unfold aCL
 rw [List.getElem?_eq_getElem hk,Option.any_some]
 generalize eS w n ((k+1:Nat):Int)=Z
 have e1:decide (w.Pages[k].Id≥w.NextPage) = !decide (w.Pages[k].Id<w.NextPage):=by rw [Bool.eq_iff_iff];simp
 have e2:decide (aBj (nAt w.Pages[k].Site w.Pages[k].Top) w.aM.Buckets<0) = !decide (0≤aBj (nAt w.Pages[k].Site w.Pages[k].Top) w.aM.Buckets):=by rw [Bool.eq_iff_iff];simp
 rw [e1]
 simp only [e2]
 by_cases h0:k=0
 ·subst h0
  cases aIT w.Pages[0]<;>cases decide (w.Pages[0].Id<w.NextPage)<;>cases decide (0≤aBj (nAt w.Pages[0].Site w.Pages[0].Top) w.aM.Buckets)<;>simp
 ·have e:i64.wrap ((k:Int)-1)=((k-1:Nat):Int):=by rw [iT (by omega) (by omega)];omega
  have hk1:k-1<w.Pages.length:=by omega
  have e3:decide (w.Pages[k].Id≤w.Pages[k-1].Id) = !decide (w.Pages[k-1].Id<w.Pages[k].Id):=by rw [Bool.eq_iff_iff];simp
  rw [if_pos (c:=(decide ((k:Int)>0))=true) (by simp;omega),e,aO hk1,Option.bind_some,List.getElem?_eq_getElem hk1,e3]
  simp only [Option.any_some,h0,decide_false,Bool.false_or]
  cases aIT w.Pages[k]<;>cases decide (w.Pages[k].Id<w.NextPage)<;>cases decide (w.Pages[k-1].Id<w.Pages[k].Id)<;>cases decide (0≤aBj (nAt w.Pages[k].Site w.Pages[k].Top) w.aM.Buckets)<;>simp
theorem aGr {w:M.World} (hw:w.ok) (hz : ∀b∈w.aM.Buckets,M.Database.sz b.bE.Base≤1048576):uN w=some (aGs w):=by
 unfold uN aGs
 by_cases h1:w.Sites.length=3
 ·by_cases h2:w.Servers.length=3
  ·have e3:decide ((w.Pages.length:Int)>6) = !decide (w.Pages.length≤6):=by rw [Bool.eq_iff_iff];simp;omega
   rw [if_neg (by rw [h1];simp),if_neg (by rw [h2];simp),e3,decide_eq_true h1,decide_eq_true h2]
   rw [jV (N:=3) (L:=iE w) (g:=aDq w) (F:=some false) (E:=dH w fuel 0) (by unfold maxLen;omega) (fun n k hk => ?_) (fun n => ?_),
    aLT hw (E:=some (inR w.Now 0 999999990000&&(inR w.Device 1 1000000&&(aBX w.aM&&(inR w.NextPage 1 1000000000000&&aEl w.Locks))))) (fun n => ?_)]
   ·cases decide (w.Pages.length≤6)<;>cases (List.range 3).all (aDq w)<;>cases (List.range w.Pages.length).all (aCL w)<;>simp
   ·simp only [dH]
    rw [if_neg (by rw [aP];simp)]
    simp only [dG,aEp hw.aM hz,aEe hw.Locks,Option.bind_some,bP]
   ·have hk1:k<w.Sites.length:=by omega
    have hk2:k<w.Servers.length:=by omega
    have hk3:k<sM.length:=by rw [aJw];exact hk
    have hn:aAV=some sM:=rfl
    simp only [iE,hn,Option.bind_some]
    rw [if_pos (by simp;omega),aO hk1,Option.bind_some,bB (by omega),aIJ (hw.Sites.2 _ (List.getElem_mem hk1)),Option.bind_some,aO hk3,Option.bind_some,aO hk2,Option.bind_some,aGc (hw.Servers.2 _ (List.getElem_mem hk2)),Option.bind_some]
    unfold aDq
    rw [List.getElem?_eq_getElem hk1,List.getElem?_eq_getElem hk2,List.getElem?_eq_getElem hk3]
    simp only [Option.any_some]
    generalize iE w n ((k+1:Nat):Int)=Z
    have gen : ∀(a b c:Bool),(if (!a)=true then some false else if (!b)=true then some false else if (!c)=true then some false else Z)=if (a&&(b&&c))=true then Z else some false:=by
     intro a b c;cases a<;>cases b<;>cases c<;>rfl
    exact gen _ _ _
   ·simp only [iE]
    rw [if_neg (by simp)]
  ·rw [if_neg (by rw [h1];simp),if_pos (by simp;omega),decide_eq_false h2]
   simp
 ·rw [if_pos (by simp;omega),decide_eq_false h1]
  simp
theorem aG1 {w:M.World} (hw:w.ok) (hz : ∀b∈w.aM.Buckets,M.Database.sz b.bE.Base≤1048576):uK w=some (aGs w):=by
 unfold uK aGs
 have e3:decide ((w.Pages.length:Int)>6) = !decide (w.Pages.length≤6):=by rw [Bool.eq_iff_iff];simp;omega
 have e1:((w.Sites.length:Int) != 3) = !decide (w.Sites.length=3):=by rw [Bool.eq_iff_iff];simp;omega
 have e2:((w.Servers.length:Int) != 3) = !decide (w.Servers.length=3):=by rw [Bool.eq_iff_iff];simp;omega
 simp only [bQ,aE5 hw.aM hz,aEI hw.Locks,Option.bind_some,e1,e2,e3]
 by_cases h1:w.Sites.length=3
 ·by_cases h2:w.Servers.length=3
  ·rw [aK6 hw (E:=gL w fuel 0) (fun n=>by
     simp only [eS]
     rw [if_neg (by rw [aP];simp)]),
    jV (N:=3) (L:=gL w) (g:=aDq w) (F:=some false) (E:=some true) (by unfold maxLen;omega) (fun n k hk => ?_) (fun n => ?_)]
   ·rw [decide_eq_true h1,decide_eq_true h2]
    cases inR w.Now 0 999999990000<;>cases inR w.Device 1 1000000<;>cases aBX w.aM<;>cases decide (w.Pages.length≤6)<;>cases inR w.NextPage 1 1000000000000<;>cases aEl w.Locks<;>cases (List.range 3).all (aDq w)<;>cases (List.range w.Pages.length).all (aCL w)<;>rfl
   ·have hk1:k<w.Sites.length:=by omega
    have hk2:k<w.Servers.length:=by omega
    have hk3:k<sM.length:=by rw [aJw];exact hk
    simp only [gL]
    rw [if_pos (aZ hk1),aO hk1,Option.bind_some,bB (by omega),aIA (hw.Sites.2 _ (List.getElem_mem hk1)),Option.bind_some,aEr,Option.bind_some,aO hk2,Option.bind_some,aGS (hw.Servers.2 _ (List.getElem_mem hk2)),Option.bind_some,aCP,aMJ hk3]
    unfold aDq
    rw [List.getElem?_eq_getElem hk1,List.getElem?_eq_getElem hk2,List.getElem?_eq_getElem hk3]
    simp only [Option.any_some]
    generalize gL w n ((k+1:Nat):Int)=Z
    have gen : ∀(a b c:Bool),(if (!a)=true then some false else if b=true then (if (!c)=true then some false else Z) else some false)=if (a&&(b&&c))=true then Z else some false:=by
     intro a b c;cases a<;>cases b<;>cases c<;>rfl
    exact gen _ _ _
   ·simp only [gL]
    rw [if_neg (by rw [h1];simp)]
  ·rw [decide_eq_true h1,decide_eq_false h2]
   cases inR w.Now 0 999999990000<;>cases inR w.Device 1 1000000<;>cases aBX w.aM<;>cases decide (w.Pages.length≤6)<;>cases inR w.NextPage 1 1000000000000<;>cases aEl w.Locks<;>rfl
 ·rw [decide_eq_false h1]
  cases inR w.Now 0 999999990000<;>cases inR w.Device 1 1000000<;>cases aBX w.aM<;>cases decide (w.Pages.length≤6)<;>cases inR w.NextPage 1 1000000000000<;>cases aEl w.Locks<;>rfl
theorem aKM {w:M.World} (hz:M.World.sz w≤1048576) : ∀b∈w.aM.Buckets,M.Database.sz b.bE.Base≤1048576:=fun b hb=>aMD (by
 have h1:=aLn hz
 have h2:=dJ (f:=M.aF.sz) hb
 simp only [M.aM.sz] at h1
 omega)
theorem aHK {w:M.World} (hw:w.ok) (hz:M.World.sz w≤1048576):uN w=some (aGs w):=aGr hw (aKM hz)
theorem aHS {w:M.World} (hw:w.ok) (hz:M.World.sz w≤1048576):uK w=some (aGs w):=aG1 hw (aKM hz)
end Go.Proofs.YtnhpbpnhmapeeaaGreat.gen
