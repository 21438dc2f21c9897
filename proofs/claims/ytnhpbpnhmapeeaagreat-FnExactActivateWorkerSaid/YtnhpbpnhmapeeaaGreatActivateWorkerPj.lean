/-
  Helper text. No conditions.
-/
import Derived.Test.YtnhpbpnhmapeeaaGreatActivateWorkerPi
namespace Go.Proofs.YtnhpbpnhmapeeaaGreat.gen
open Go Go.Sh
open Go.IntKind (i64)
set_option linter.unusedVariables false
set_option linter.unusedSimpArgs false
def tD:List ByteArray:=[(⟨#[98,97,110,107]⟩:ByteArray),(⟨#[110,101,119,115]⟩:ByteArray),(⟨#[115,104,111,112]⟩:ByteArray)]
def aKW (a:ByteArray):Int:=aBN (fun x:ByteArray=>x.toList==a.toList) tD
theorem aLl:tD.length≤maxLen:=by unfold tD maxLen;simp
theorem aFG {a:ByteArray}:qK a=some (aKW a):=by
 unfold qK pC
 rw [←tD.eq_1]
 rw [findAll (L:=eT tD a) (f:=fun x:ByteArray=>x.toList==a.toList) (A:=fun i=>some (i:Int)) (E:=some (-1)) aLl (fun m k hk => ?_) (fun m => ?_),xI]
 ·rfl
 ·have hk3:k<3:=hk
  simp only [eT]
  rw [if_pos (aZ hk),aO hk,Option.bind_some,bD (by omega),Bool.beq_comm]
 ·simp only [eT]
  rw [if_neg (by rw [aP];simp)]
def aHP (l:List ByteArray) (k:Nat):Bool:=(l[k]?).any pV&&(decide (k=0)||(l[k-1]?).any fun y=>(l[k]?).any fun x=>Op.bytesLess y.toList x.toList)
def aMl (s:M.Site):Bool:=(List.range s.Files.length).all (aHP s.Files)&&(pV s.Name&&(inR s.Version 1 1000000000000&&inR (s.Files.length:Int) 1 6))
theorem aIq {s:M.Site} (hs:s.ok):aA6 s=some (aMl s):=by
 have hm:=le_max hs.Files.1
 unfold aA6 aMl
 rw [kB (L:=iC s) (g:=aHP s.Files) (F:=some false) (E:=some (pV s.Name&&(inR s.Version 1 1000000000000&&inR (s.Files.length:Int) 1 6))) hs.Files.1 (fun n k hk => ?_) (fun n => ?_),bM]
 ·have hf:=hs.Files.2 _ (List.getElem_mem hk)
  simp only [iC]
  rw [if_pos (aZ hk),aO hk,Option.bind_some,bD (by omega),eO hf,Option.bind_some]
  unfold aHP
  rw [List.getElem?_eq_getElem hk]
  generalize iC s n ((k+1:Nat):Int)=Z
  by_cases h0:k=0
  ·subst h0
   simp only [Option.any_some]
   cases pV s.Files[0]<;>simp
  ·have e:i64.wrap ((k:Int)-1)=((k-1:Nat):Int):=by rw [jA (by omega) (by omega)];omega
   have hk1:k-1<s.Files.length:=by omega
   rw [if_pos (c:=(decide ((k:Int)>0))=true) (by simp;omega),e,aO hk1,Option.bind_some,List.getElem?_eq_getElem hk1]
   simp only [Option.any_some,h0,decide_false,Bool.false_or]
   cases pV s.Files[k]<;>cases Op.bytesLess s.Files[k-1].toList s.Files[k].toList<;>simp
 ·simp only [iC]
  rw [if_neg (by rw [aP];simp),eO hs.Name,Option.bind_some,dG,Option.bind_some,dG,Option.bind_some,bM,bM]
theorem aId {s:M.Site} (hs:s.ok):aAo s=some (aMl s):=by
 have hm:=le_max hs.Files.1
 unfold aAo aMl
 rw [kB (L:=iB s) (g:=aHP s.Files) (F:=some false) (E:=some (pV s.Name&&(inR s.Version 1 1000000000000&&inR (s.Files.length:Int) 1 6))) hs.Files.1 (fun n k hk => ?_) (fun n => ?_),bM]
 ·have hf:=hs.Files.2 _ (List.getElem_mem hk)
  simp only [iB]
  rw [if_pos (aZ hk),aO hk,Option.bind_some,bD (by omega),dO hf,Option.bind_some]
  unfold aHP
  rw [List.getElem?_eq_getElem hk]
  generalize iB s n ((k+1:Nat):Int)=Z
  by_cases h0:k=0
  ·subst h0
   simp only [Option.any_some]
   cases pV s.Files[0]<;>simp
  ·have e:i64.wrap ((k:Int)-1)=((k-1:Nat):Int):=by rw [jA (by omega) (by omega)];omega
   have hk1:k-1<s.Files.length:=by omega
   rw [if_pos (c:=(decide ((k:Int)>0))=true) (by simp;omega),e,aO hk1,Option.bind_some,List.getElem?_eq_getElem hk1,aLL]
   simp only [Option.any_some,h0,decide_false,Bool.false_or]
   cases pV s.Files[k]<;>cases Op.bytesLess s.Files[k-1].toList s.Files[k].toList<;>simp
 ·simp only [iB]
  rw [if_neg (by rw [aP];simp),dO hs.Name,Option.bind_some,bN,Option.bind_some,bN,Option.bind_some,bM,bM]
def aCa (l:List M.aJ) (k:Nat):Bool:=(l[k]?).any (fun x=>inR x.Device 1 1000000&&inR x.Seq 0 1000000)&&(decide (k=0)||(l[k-1]?).any fun y=>(l[k]?).any fun x=>decide (y.Device<x.Device))
def aC9 (l:List M.aY) (k:Nat):Bool:=(l[k]?).any aFT
def aG7 (s:M.Server):Bool:=(List.range s.aJ.length).all (aCa s.aJ)&&((List.range s.Changes.length).all (aC9 s.Changes)&&(aCb s.aH&&((s.aH.Name.toList==(⟨#[110,111,116,101,115]⟩:ByteArray).toList)&&decide ((s.aJ.length:Int)≤60))))
theorem aG1 {s:M.Server} (hs:s.ok):xM s=some (aG7 s):=by
 have hm:=le_max hs.aJ.1
 have hm2:=le_max hs.Changes.1
 unfold xM aG7
 rw [kB (L:=fY s) (g:=aCa s.aJ) (F:=some false) (E:=hP s fuel 0) hs.aJ.1 (fun n k hk => ?_) (fun n => ?_),
  kB (L:=hP s) (g:=aC9 s.Changes) (F:=some false) (E:=some (aCb s.aH&&((s.aH.Name.toList==(⟨#[110,111,116,101,115]⟩:ByteArray).toList)&&decide ((s.aJ.length:Int)≤60)))) hs.Changes.1 (fun n k hk => ?_) (fun n => ?_),bM,bM]
 ·have hf:=hs.Changes.2 _ (List.getElem_mem hk)
  simp only [hP]
  rw [if_pos (aZ hk),aO hk,Option.bind_some,bD (by omega),aBp hf,Option.bind_some,aA2]
  unfold aC9
  rw [List.getElem?_eq_getElem hk,Option.any_some]
 ·simp only [hP]
  rw [if_neg (by rw [aP];simp),aCS hs.aH,Option.bind_some,bM,bM]
 ·simp only [fY]
  rw [if_pos (aZ hk),aO hk,Option.bind_some,bD (by omega),dG,Option.bind_some,dG,Option.bind_some]
  unfold aCa
  rw [List.getElem?_eq_getElem hk]
  generalize fY s n ((k+1:Nat):Int)=Z
  by_cases h0:k=0
  ·subst h0
   simp only [Option.any_some]
   cases inR s.aJ[0].Device 1 1000000<;>cases inR s.aJ[0].Seq 0 1000000<;>simp
  ·have e:i64.wrap ((k:Int)-1)=((k-1:Nat):Int):=by rw [jA (by omega) (by omega)];omega
   have hk1:k-1<s.aJ.length:=by omega
   have ed:decide (s.aJ[k-1].Device≥s.aJ[k].Device) = !decide (s.aJ[k-1].Device<s.aJ[k].Device):=by rw [Bool.eq_iff_iff];simp
   rw [if_pos (c:=(decide ((k:Int)>0))=true) (by simp;omega),e,aO hk1,Option.bind_some,List.getElem?_eq_getElem hk1,ed]
   simp only [Option.any_some,h0,decide_false,Bool.false_or]
   cases inR s.aJ[k].Device 1 1000000<;>cases inR s.aJ[k].Seq 0 1000000<;>cases decide (s.aJ[k-1].Device<s.aJ[k].Device)<;>simp
 ·simp only [fY]
  rw [if_neg (by rw [aP];simp)]
theorem aGs {s:M.Server} (hs:s.ok):wX s=some (aG7 s):=by
 have hm:=le_max hs.aJ.1
 have hm2:=le_max hs.Changes.1
 unfold wX aG7
 rw [kB (L:=fZ s) (g:=aCa s.aJ) (F:=some false) (E:=hT s fuel 0) hs.aJ.1 (fun n k hk => ?_) (fun n => ?_),
  kB (L:=hT s) (g:=aC9 s.Changes) (F:=some false) (E:=some (aCb s.aH&&((s.aH.Name.toList==(⟨#[110,111,116,101,115]⟩:ByteArray).toList)&&decide ((s.aJ.length:Int)≤60)))) hs.Changes.1 (fun n k hk => ?_) (fun n => ?_),bM,bM]
 ·have hf:=hs.Changes.2 _ (List.getElem_mem hk)
  simp only [hT]
  rw [if_pos (aZ hk),aO hk,Option.bind_some,bD (by omega),aBn hf,Option.bind_some,aA2]
  unfold aC9
  rw [List.getElem?_eq_getElem hk,Option.any_some]
 ·simp only [hT]
  rw [if_neg (by rw [aP];simp),aCO hs.aH,Option.bind_some,bM,bM]
 ·simp only [fZ]
  rw [if_pos (aZ hk),aO hk,Option.bind_some,bD (by omega),bN,Option.bind_some,bN,Option.bind_some]
  unfold aCa
  rw [List.getElem?_eq_getElem hk]
  generalize fZ s n ((k+1:Nat):Int)=Z
  by_cases h0:k=0
  ·subst h0
   simp only [Option.any_some]
   cases inR s.aJ[0].Device 1 1000000<;>cases inR s.aJ[0].Seq 0 1000000<;>simp
  ·have e:i64.wrap ((k:Int)-1)=((k-1:Nat):Int):=by rw [jA (by omega) (by omega)];omega
   have hk1:k-1<s.aJ.length:=by omega
   have ed:decide (s.aJ[k].Device≤s.aJ[k-1].Device) = !decide (s.aJ[k-1].Device<s.aJ[k].Device):=by rw [Bool.eq_iff_iff];simp
   rw [if_pos (c:=(decide ((k:Int)>0))=true) (by simp;omega),e,aO hk1,Option.bind_some,List.getElem?_eq_getElem hk1,ed]
   simp only [Option.any_some,h0,decide_false,Bool.false_or]
   cases inR s.aJ[k].Device 1 1000000<;>cases inR s.aJ[k].Seq 0 1000000<;>cases decide (s.aJ[k-1].Device<s.aJ[k].Device)<;>simp
 ·simp only [fZ]
  rw [if_neg (by rw [aP];simp)]
def aDI (p:M.bI) (k:Nat):Bool:=(p.aN[k]?).any fun x=>pV x.Path&&(x.Version==p.Version)
def aI2 (p:M.bI):Bool:=(List.range p.aN.length).all (aDI p)&&(inR p.Id 1 1000000000000&&(pV p.Site&&(pV p.Top&&(inR p.Version 1 1000000000000&&decide ((p.aN.length:Int)≤8)))))
theorem aIb {p:M.bI} (hp:p.ok):aBK p=some (aI2 p):=by
 have hm:=le_max hp.aN.1
 unfold aBK aI2
 rw [kB (L:=lF p) (g:=aDI p) (F:=some false) (E:=some (inR p.Id 1 1000000000000&&(pV p.Site&&(pV p.Top&&(inR p.Version 1 1000000000000&&decide ((p.aN.length:Int)≤8)))))) hp.aN.1 (fun n k hk => ?_) (fun n => ?_),bM]
 ·have hf:=hp.aN.2 _ (List.getElem_mem hk)
  simp only [lF]
  rw [if_pos (aZ hk),aO hk,Option.bind_some,bD (by omega),eO hf.Path,Option.bind_some]
  unfold aDI
  rw [List.getElem?_eq_getElem hk,Option.any_some]
  simp only [aCr,aA2,aOr]
 ·simp only [lF]
  rw [if_neg (by rw [aP];simp)]
  simp only [eO hp.Site,eO hp.Top,dG,Option.bind_some,bM]
theorem aIt {p:M.bI} (hp:p.ok):aBH p=some (aI2 p):=by
 have hm:=le_max hp.aN.1
 unfold aBH aI2
 rw [kB (L:=lM p) (g:=aDI p) (F:=some false) (E:=some (inR p.Id 1 1000000000000&&(pV p.Site&&(pV p.Top&&(inR p.Version 1 1000000000000&&decide ((p.aN.length:Int)≤8)))))) hp.aN.1 (fun n k hk => ?_) (fun n => ?_),bM]
 ·have hf:=hp.aN.2 _ (List.getElem_mem hk)
  simp only [lM]
  rw [if_pos (aZ hk),aO hk,Option.bind_some,bD (by omega),dO hf.Path,Option.bind_some]
  unfold aDI
  rw [List.getElem?_eq_getElem hk,Option.any_some]
  simp only [aCr,aA2,aOr]
 ·simp only [lM]
  rw [if_neg (by rw [aP];simp)]
  simp only [dO hp.Site,dO hp.Top,bN,Option.bind_some,bM]
theorem aFa {s:ByteArray} (hs:s.size≤maxLen):pY s=some (aJv s 30 true):=by
 have hm:=le_max hs
 unfold pY aJv
 rw [aE2 (L:=cZ s) (g:=aFw true) (F:=some false) (E:=some (inR (s.size:Int) 1 30)) hs (fun n k hk => ?_) (fun n => ?_),bM]
 ·simp only [cZ]
  rw [if_pos (aZ hk),aEP hk,Option.bind_some,bD (by omega)]
  generalize s[k]=b
  unfold aFw
  generalize cZ s n ((k+1:Nat):Int)=Z
  simp only [Bool.or_eq_true,Bool.and_eq_true,decide_eq_true_eq,Bool.not_eq_true',decide_eq_false_iff_not,Bool.true_and,bne_iff_ne,ne_eq]
  repeat' split
  all_goals first | rfl | (exfalso;omega)
 ·simp only [cZ]
  rw [if_neg (by rw [aP];simp),dG,Option.bind_some]
theorem aFn {s:ByteArray} (hs:s.size≤maxLen):qE s=some (aJv s 30 true):=by
 unfold qE
 rw [aEY hs,Option.bind_some]
def aKD (x y:M.cG):Bool:=x.Held&&((y.Name.toList==x.Name.toList)&&(!y.Held||(!x.Shared || !y.Shared)))
def aE0 (l:List M.cG) (k:Nat) (x:M.cG):Bool:=(List.range k).all fun j => !((l[j]?).any (aKD x))
def aHY (l:List M.cG) (k:Nat):Bool:=(l[k]?).any fun x=>aJv x.Name 30 true&&(inR x.bI 1 1000000000000&&aE0 l k x)
def aFC (t:M.aR):Bool:=(List.range t.Locks.length).all (aHY t.Locks)&&decide ((t.Locks.length:Int)≤12)
theorem aLz {t:M.aR} {x:M.cG} {k:Nat} {K:Int→Option Bool} (hm:t.Locks.length≤maxLen) (hk:k≤t.Locks.length):bW t (k:Int) x K fuel 0=if aE0 t.Locks k x=true then K (k:Int) else some false:=by
 have hm':=le_max hm
 refine kB (L:=bW t (k:Int) x K) (g:=fun j => !((t.Locks[j]?).any (aKD x))) (F:=some false) (E:=K (k:Int)) (Nat.le_trans hk hm) (fun n j hj => ?_) (fun n => ?_)
 ·have hj':j<t.Locks.length:=by omega
  simp only [bW]
  rw [if_pos (aZ hj),aO hj',Option.bind_some,bD (by omega),List.getElem?_eq_getElem hj',Option.any_some]
  unfold aKD
  generalize bW t (k:Int) x K n ((j+1:Nat):Int)=Z
  cases x.Held<;>cases (t.Locks[j].Name.toList==x.Name.toList)<;>cases t.Locks[j].Held<;>cases x.Shared<;>cases t.Locks[j].Shared<;>simp
 ·simp only [bW]
  rw [if_neg (by rw [aP];simp)]
theorem aLq {t:M.aR} {x:M.cG} {k:Nat} {Z0:Option Bool} (hm:t.Locks.length≤maxLen) (hk:k≤t.Locks.length):bL t (k:Int) x (fun _=>Z0) fuel 0=if aE0 t.Locks k x=true then Z0 else some false:=by
 have hm':=le_max hm
 have hl:(t.Locks.take k).length=k:=by rw [List.length_take];omega
 have:=kB (N:=k) (L:=bL t (k:Int) x (fun _=>Z0)) (g:=fun j => !((t.Locks[j]?).any (aKD x))) (F:=some false) (E:=Z0) (Nat.le_trans hk hm) (fun n j hj => ?_) (fun n => ?_)
 ·exact this
 ·have hj':j<t.Locks.length:=by omega
  simp only [bL,Int.toNat_natCast,hl]
  rw [if_pos (aZ hj),aO (by rw [hl];exact hj),Option.bind_some,bD (by omega),List.getElem?_eq_getElem hj',Option.any_some,List.getElem_take]
  unfold aKD
  generalize bL t (k:Int) x (fun _=>Z0) n ((j+1:Nat):Int)=Z
  cases x.Held<;>cases (t.Locks[j].Name.toList==x.Name.toList)<;>cases t.Locks[j].Held<;>cases x.Shared<;>cases t.Locks[j].Shared<;>simp
 ·simp only [bL,Int.toNat_natCast,hl]
  rw [if_neg (by rw [aP];simp)]
theorem aE5 {t:M.aR} (ht:t.ok):pK t=some (aFC t):=by
 have hm:=le_max ht.Locks.1
 unfold pK aFC
 rw [kB (L:=eZ t) (g:=aHY t.Locks) (F:=some false) (E:=some (decide ((t.Locks.length:Int)≤12))) ht.Locks.1 (fun n k hk => ?_) (fun n => ?_),bM]
 ·have hf:=ht.Locks.2 _ (List.getElem_mem hk)
  simp only [eZ]
  rw [if_pos (aZ hk),aO hk,Option.bind_some,bD (by omega),aFa hf.Name,Option.bind_some,dG,Option.bind_some,aLz ht.Locks.1 (by omega)]
  unfold aHY
  rw [List.getElem?_eq_getElem hk,Option.any_some]
  generalize eZ t n ((k+1:Nat):Int)=Z
  cases aJv t.Locks[k].Name 30 true<;>cases inR t.Locks[k].bI 1 1000000000000<;>cases aE0 t.Locks k t.Locks[k]<;>simp
 ·simp only [eZ]
  rw [if_neg (by rw [aP];simp)]
theorem aEl {t:M.aR} (ht:t.ok):oF t=some (aFC t):=by
 have hm:=le_max ht.Locks.1
 unfold oF aFC
 rw [kB (L:=dN t) (g:=aHY t.Locks) (F:=some false) (E:=some (decide ((t.Locks.length:Int)≤12))) ht.Locks.1 (fun n k hk => ?_) (fun n => ?_),bM]
 ·have hf:=ht.Locks.2 _ (List.getElem_mem hk)
  simp only [dN]
  rw [if_pos (aZ hk),aO hk,Option.bind_some,bD (by omega),aFn hf.Name,Option.bind_some,bN,Option.bind_some,aG6 (by omega),Option.bind_some,aLq ht.Locks.1 (by omega)]
  unfold aHY
  rw [List.getElem?_eq_getElem hk,Option.any_some]
  generalize dN t n ((k+1:Nat):Int)=Z
  cases aJv t.Locks[k].Name 30 true<;>cases inR t.Locks[k].bI 1 1000000000000<;>cases aE0 t.Locks k t.Locks[k]<;>simp
 ·simp only [dN]
  rw [if_neg (by rw [aP];simp)]
theorem aKX:tD.length=3:=rfl
theorem aMv {a:ByteArray} {k:Nat} (hk:k<tD.length):(aKW a==(k:Int))=(a.toList==(tD[k]).toList):=by
 have d : ∀i j:Nat,(hi:i<tD.length)→(hj:j<tD.length)→(tD[i]).toList=(tD[j]).toList→i=j:=by
  intro i j hi hj h
  have e0:(⟨#[98,97,110,107]⟩:ByteArray).toList=[98,97,110,107]:=by rw [ByteArray.toList_eq]
  have e1:(⟨#[110,101,119,115]⟩:ByteArray).toList=[110,101,119,115]:=by rw [ByteArray.toList_eq]
  have e2:(⟨#[115,104,111,112]⟩:ByteArray).toList=[115,104,111,112]:=by rw [ByteArray.toList_eq]
  rw [aKX] at hi hj
  rcases i with _ | _ | _ | i<;>rcases j with _ | _ | _ | j<;>first | rfl | (exfalso;omega) | (exfalso;simp [tD,e0,e1,e2] at h)
 have hf:=aBx (f:=fun x:ByteArray=>x.toList==a.toList) (xs:=tD)
 have ha:=aGf (fun x:ByteArray=>x.toList==a.toList) tD
 unfold aKW
 rw [Bool.eq_iff_iff,beq_iff_eq,beq_iff_eq]
 constructor
 ·intro h
  have h2:tD.findIdx? (fun x:ByteArray=>x.toList==a.toList)=some k:=by
   unfold aBN at h
   cases e:tD.findIdx? (fun x:ByteArray=>x.toList==a.toList) with
   | none=>rw [e] at h;simp only at h;omega
   | some i=>rw [e] at h;simp only at h;congr 1;omega
  have:=(List.findIdx?_eq_some_iff_getElem.1 h2).2.1
  exact (eq_of_beq this).symm
 ·intro h
  have hex:tD.any (fun x:ByteArray=>x.toList==a.toList)=true:=List.any_eq_true.2 ⟨tD[k],List.getElem_mem hk,by rw [h];exact beq_self_eq_true _⟩
  rw [hex] at ha
  obtain ⟨j,e,hj⟩:=hf (by have:=of_decide_eq_true ha;omega)
  rw [e]
  have h2:tD.findIdx? (fun x:ByteArray=>x.toList==a.toList)=some j:=by
   unfold aBN at e
   cases e2:tD.findIdx? (fun x:ByteArray=>x.toList==a.toList) with
   | none=>rw [e2] at e;simp only at e;omega
   | some i=>rw [e2] at e;simp only at e;congr 1;omega
  have:=(List.findIdx?_eq_some_iff_getElem.1 h2).2.1
  rw [d j k hj hk (by rw [eq_of_beq this,h])]
def aCo (w:M.World) (k:Nat):Bool:=(w.Pages[k]?).any fun x=>aI2 x&&(decide (x.Id<w.NextPage)&&((decide (k=0)||(w.Pages[k-1]?).any fun y=>decide (y.Id<x.Id))&&decide (0≤aBN (nAt x.Site x.Top) w.aC.Buckets)))
def aEI (w:M.World) (k:Nat):Bool:=(w.Sites[k]?).any fun x=>aMl x&&((tD[k]?).any (fun nm=>x.Name.toList==nm.toList)&&(w.Servers[k]?).any aG7)
def aF0 (w:M.World):Bool:=decide (w.Sites.length=3)&&(decide (w.Servers.length=3)&&(decide (w.Pages.length≤6)&&((List.range 3).all (aEI w)&&((List.range w.Pages.length).all (aCo w)&&(inR w.Now 0 999999990000&&(inR w.Device 1 1000000&&(oT w.aC&&(inR w.NextPage 1 1000000000000&&aFC w.Locks))))))))
theorem aEZ {w:M.World} (hz:M.World.sz w≤1048576):M.aC.sz w.aC≤1048576:=by
 simp only [M.World.sz] at hz
 omega
theorem aL6 {w:M.World} (hw:w.ok) {E:Option Bool} (hE : ∀n,dH w (n+1) (w.Pages.length:Int)=E):dH w fuel 0=if (List.range w.Pages.length).all (aCo w)=true then E else some false:=by
 have hm:=le_max hw.Pages.1
 refine kB (L:=dH w) (g:=aCo w) (F:=some false) (E:=E) hw.Pages.1 (fun n k hk => ?_) hE
 have hf:=hw.Pages.2 _ (List.getElem_mem hk)
 simp only [dH]
 rw [if_pos (aZ hk),aO hk,Option.bind_some,bD (by omega),aIb hf,Option.bind_some,aBO hw.aC,Option.bind_some]
 unfold aCo
 rw [List.getElem?_eq_getElem hk,Option.any_some]
 generalize dH w n ((k+1:Nat):Int)=Z
 have e1:decide (w.Pages[k].Id≥w.NextPage) = !decide (w.Pages[k].Id<w.NextPage):=by rw [Bool.eq_iff_iff];simp
 have e2:decide (aBN (nAt w.Pages[k].Site w.Pages[k].Top) w.aC.Buckets<0) = !decide (0≤aBN (nAt w.Pages[k].Site w.Pages[k].Top) w.aC.Buckets):=by rw [Bool.eq_iff_iff];simp
 rw [e1]
 simp only [e2]
 by_cases h0:k=0
 ·subst h0
  cases aI2 w.Pages[0]<;>cases decide (w.Pages[0].Id<w.NextPage)<;>cases decide (0≤aBN (nAt w.Pages[0].Site w.Pages[0].Top) w.aC.Buckets)<;>simp
 ·have e:i64.wrap ((k:Int)-1)=((k-1:Nat):Int):=by rw [jA (by omega) (by omega)];omega
  have hk1:k-1<w.Pages.length:=by omega
  have e3:decide (w.Pages[k-1].Id≥w.Pages[k].Id) = !decide (w.Pages[k-1].Id<w.Pages[k].Id):=by rw [Bool.eq_iff_iff];simp
  rw [if_pos (c:=(decide ((k:Int)>0))=true) (by simp;omega),e,aO hk1,Option.bind_some,List.getElem?_eq_getElem hk1,e3]
  simp only [Option.any_some,h0,decide_false,Bool.false_or]
  cases aI2 w.Pages[k]<;>cases decide (w.Pages[k].Id<w.NextPage)<;>cases decide (w.Pages[k-1].Id<w.Pages[k].Id)<;>cases decide (0≤aBN (nAt w.Pages[k].Site w.Pages[k].Top) w.aC.Buckets)<;>simp
theorem aLh {w:M.World} (hw:w.ok) {E:Option Bool} (hE : ∀n,eS w (n+1) (w.Pages.length:Int)=E):eS w fuel 0=if (List.range w.Pages.length).all (aCo w)=true then E else some false:=by
 have hm:=le_max hw.Pages.1
 refine kB (L:=eS w) (g:=aCo w) (F:=some false) (E:=E) hw.Pages.1 (fun n k hk => ?_) hE
 have hf:=hw.Pages.2 _ (List.getElem_mem hk)
 simp only [eS]
 rw [if_pos (aZ hk),aO hk,Option.bind_some,bD (by omega),aIt hf,Option.bind_some,aBS hw.aC,Option.bind_some]
 unfold aCo
 rw [List.getElem?_eq_getElem hk,Option.any_some]
 generalize eS w n ((k+1:Nat):Int)=Z
 have e1:decide (w.Pages[k].Id≥w.NextPage) = !decide (w.Pages[k].Id<w.NextPage):=by rw [Bool.eq_iff_iff];simp
 have e2:decide (aBN (nAt w.Pages[k].Site w.Pages[k].Top) w.aC.Buckets<0) = !decide (0≤aBN (nAt w.Pages[k].Site w.Pages[k].Top) w.aC.Buckets):=by rw [Bool.eq_iff_iff];simp
 rw [e1]
 simp only [e2]
 by_cases h0:k=0
 ·subst h0
  cases aI2 w.Pages[0]<;>cases decide (w.Pages[0].Id<w.NextPage)<;>cases decide (0≤aBN (nAt w.Pages[0].Site w.Pages[0].Top) w.aC.Buckets)<;>simp
 ·have e:i64.wrap ((k:Int)-1)=((k-1:Nat):Int):=by rw [jA (by omega) (by omega)];omega
  have hk1:k-1<w.Pages.length:=by omega
  have e3:decide (w.Pages[k].Id≤w.Pages[k-1].Id) = !decide (w.Pages[k-1].Id<w.Pages[k].Id):=by rw [Bool.eq_iff_iff];simp
  rw [if_pos (c:=(decide ((k:Int)>0))=true) (by simp;omega),e,aO hk1,Option.bind_some,List.getElem?_eq_getElem hk1,e3]
  simp only [Option.any_some,h0,decide_false,Bool.false_or]
  cases aI2 w.Pages[k]<;>cases decide (w.Pages[k].Id<w.NextPage)<;>cases decide (w.Pages[k-1].Id<w.Pages[k].Id)<;>cases decide (0≤aBN (nAt w.Pages[k].Site w.Pages[k].Top) w.aC.Buckets)<;>simp
theorem aHF {w:M.World} (hw:w.ok) (hz : ∀b∈w.aC.Buckets,M.Database.sz b.bB.Base≤1048576):vE w=some (aF0 w):=by
 unfold vE aF0
 by_cases h1:w.Sites.length=3
 ·by_cases h2:w.Servers.length=3
  ·have e3:decide ((w.Pages.length:Int)>6) = !decide (w.Pages.length≤6):=by rw [Bool.eq_iff_iff];simp;omega
   rw [if_neg (by rw [h1];simp),if_neg (by rw [h2];simp),e3,decide_eq_true h1,decide_eq_true h2]
   rw [kB (N:=3) (L:=iN w) (g:=aEI w) (F:=some false) (E:=dH w fuel 0) (by unfold maxLen;omega) (fun n k hk => ?_) (fun n => ?_),
    aL6 hw (E:=some (inR w.Now 0 999999990000&&(inR w.Device 1 1000000&&(oT w.aC&&(inR w.NextPage 1 1000000000000&&aFC w.Locks))))) (fun n => ?_)]
   ·cases decide (w.Pages.length≤6)<;>cases (List.range 3).all (aEI w)<;>cases (List.range w.Pages.length).all (aCo w)<;>simp
   ·simp only [dH]
    rw [if_neg (by rw [aP];simp)]
    simp only [dG,aBP hw.aC hz,aE5 hw.Locks,Option.bind_some,bM]
   ·have hk1:k<w.Sites.length:=by omega
    have hk2:k<w.Servers.length:=by omega
    have hk3:k<tD.length:=by rw [aKX];exact hk
    have hn:aAm=some tD:=rfl
    simp only [iN,hn,Option.bind_some]
    rw [if_pos (by simp;omega),aO hk1,Option.bind_some,bD (by omega),aIq (hw.Sites.2 _ (List.getElem_mem hk1)),Option.bind_some,aO hk3,Option.bind_some,aO hk2,Option.bind_some,aG1 (hw.Servers.2 _ (List.getElem_mem hk2)),Option.bind_some]
    unfold aEI
    rw [List.getElem?_eq_getElem hk1,List.getElem?_eq_getElem hk2,List.getElem?_eq_getElem hk3]
    simp only [Option.any_some]
    generalize iN w n ((k+1:Nat):Int)=Z
    have gen : ∀(a b c:Bool),(if (!a)=true then some false else if (!b)=true then some false else if (!c)=true then some false else Z)=if (a&&(b&&c))=true then Z else some false:=by
     intro a b c;cases a<;>cases b<;>cases c<;>rfl
    exact gen _ _ _
   ·simp only [iN]
    rw [if_neg (by simp)]
  ·rw [if_neg (by rw [h1];simp),if_pos (by simp;omega),decide_eq_false h2]
   simp
 ·rw [if_pos (by simp;omega),decide_eq_false h1]
  simp
theorem aHN {w:M.World} (hw:w.ok) (hz : ∀b∈w.aC.Buckets,M.Database.sz b.bB.Base≤1048576):uY w=some (aF0 w):=by
 unfold uY aF0
 have e3:decide ((w.Pages.length:Int)>6) = !decide (w.Pages.length≤6):=by rw [Bool.eq_iff_iff];simp;omega
 have e1:((w.Sites.length:Int) != 3) = !decide (w.Sites.length=3):=by rw [Bool.eq_iff_iff];simp;omega
 have e2:((w.Servers.length:Int) != 3) = !decide (w.Servers.length=3):=by rw [Bool.eq_iff_iff];simp;omega
 simp only [bN,aBR hw.aC hz,aEl hw.Locks,Option.bind_some,e1,e2,e3]
 by_cases h1:w.Sites.length=3
 ·by_cases h2:w.Servers.length=3
  ·rw [aLh hw (E:=gS w fuel 0) (fun n=>by
     simp only [eS]
     rw [if_neg (by rw [aP];simp)]),
    kB (N:=3) (L:=gS w) (g:=aEI w) (F:=some false) (E:=some true) (by unfold maxLen;omega) (fun n k hk => ?_) (fun n => ?_)]
   ·rw [decide_eq_true h1,decide_eq_true h2]
    cases inR w.Now 0 999999990000<;>cases inR w.Device 1 1000000<;>cases oT w.aC<;>cases decide (w.Pages.length≤6)<;>cases inR w.NextPage 1 1000000000000<;>cases aFC w.Locks<;>cases (List.range 3).all (aEI w)<;>cases (List.range w.Pages.length).all (aCo w)<;>rfl
   ·have hk1:k<w.Sites.length:=by omega
    have hk2:k<w.Servers.length:=by omega
    have hk3:k<tD.length:=by rw [aKX];exact hk
    simp only [gS]
    rw [if_pos (aZ hk1),aO hk1,Option.bind_some,bD (by omega),aId (hw.Sites.2 _ (List.getElem_mem hk1)),Option.bind_some,aFG,Option.bind_some,aO hk2,Option.bind_some,aGs (hw.Servers.2 _ (List.getElem_mem hk2)),Option.bind_some,aCr,aMv hk3]
    unfold aEI
    rw [List.getElem?_eq_getElem hk1,List.getElem?_eq_getElem hk2,List.getElem?_eq_getElem hk3]
    simp only [Option.any_some]
    generalize gS w n ((k+1:Nat):Int)=Z
    have gen : ∀(a b c:Bool),(if (!a)=true then some false else if b=true then (if (!c)=true then some false else Z) else some false)=if (a&&(b&&c))=true then Z else some false:=by
     intro a b c;cases a<;>cases b<;>cases c<;>rfl
    exact gen _ _ _
   ·simp only [gS]
    rw [if_neg (by rw [h1];simp)]
  ·rw [decide_eq_true h1,decide_eq_false h2]
   cases inR w.Now 0 999999990000<;>cases inR w.Device 1 1000000<;>cases oT w.aC<;>cases decide (w.Pages.length≤6)<;>cases inR w.NextPage 1 1000000000000<;>cases aFC w.Locks<;>rfl
 ·rw [decide_eq_false h1]
  cases inR w.Now 0 999999990000<;>cases inR w.Device 1 1000000<;>cases oT w.aC<;>cases decide (w.Pages.length≤6)<;>cases inR w.NextPage 1 1000000000000<;>cases aFC w.Locks<;>rfl
theorem aKx {w:M.World} (hz:M.World.sz w≤1048576) : ∀b∈w.aC.Buckets,M.Database.sz b.bB.Base≤1048576:=fun b hb=>zK (by
 have h1:=aEZ hz
 have h2:=cC (f:=M.aA.sz) hb
 simp only [M.aC.sz] at h1
 omega)
theorem aHm {w:M.World} (hw:w.ok) (hz:M.World.sz w≤1048576):vE w=some (aF0 w):=aHF hw (aKx hz)
theorem aHu {w:M.World} (hw:w.ok) (hz:M.World.sz w≤1048576):uY w=some (aF0 w):=aHN hw (aKx hz)
end Go.Proofs.YtnhpbpnhmapeeaaGreat.gen
