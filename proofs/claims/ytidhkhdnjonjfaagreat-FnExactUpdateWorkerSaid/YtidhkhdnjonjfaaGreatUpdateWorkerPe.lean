/-
  Helper text. No conditions.
-/
import Derived.Test.YtidhkhdnjonjfaaGreatUpdateWorkerPd
set_option linter.unusedVariables false
set_option linter.unusedSimpArgs false
namespace Go.Proofs.YtidhkhdnjonjfaaGreat.gen
open Go Go.Sh
theorem aKK {α:Type} {f:α→Bool} {xs:List α} {k:Nat} (hk:k<xs.length) (hf:f xs[k]=true):(yK f xs==(k:Int))=(List.range k).all (fun j => !((xs[j]?).any f)):=by
 rw [Bool.eq_iff_iff]
 simp only [beq_iff_eq,qQ,qR]
 constructor
 ·intro h j hj
  unfold yK at h
  cases e:xs.findIdx? f with
  | none=>rw [e] at h;simp only at h;omega
  | some i =>
   rw [e] at h
   simp only at h
   have:i=k:=by omega
   subst this
   have:=(List.findIdx?_eq_some_iff_getElem.1 e).2.2 j hj
   rw [qF (by omega)]
   simpa using this
 ·intro h
  have e:xs.findIdx? f=some k:=List.findIdx?_eq_some_iff_getElem.2 ⟨hk,hf,fun j hj=>by
   have:=h j hj
   rw [qF (by omega)] at this
   simpa using this⟩
  unfold yK
  rw [e]
def aEg (a b:ByteArray) (x:M.Cached):Bool:=(x.Site.toList==a.toList)&&(x.Path.toList==b.toList)
theorem aEu {c:M.Cache} {a b:ByteArray} (hc:c.ok):lE c a b=some (yK (aEg a b) c.Entries):=by
 unfold lE
 rw [aDO (f:=aEg a b) hc.Entries.1 (fun x _=>by simp only [pA,bN];rfl),qA]
def aEd (r:M.Response):Bool:=inR r.Type_ 1 4&&(inR r.Status 0 999&&(inR r.Version 0 1000000000000&&decide ((List.length r.Body:Int)≤60)))
theorem aGs (r:M.Response):tY r=some (aEd r):=by
 unfold tY aEd
 simp only [dC,qA,bN]
theorem aDs (r:M.Response):nI r=some (aEd r):=by
 unfold nI aEd
 simp only [bP,qA,bN]
def aQk (l:List M.Cached) (k:Nat) (x:M.Cached):Bool:=(List.range k).all fun j => !((l[j]?).any (aEg x.Site x.Path))
def aCX (l:List M.Cached) (k:Nat):Bool:=(l[k]?).any fun x=>sG x.Site&&(sG x.Path&&(aEd x.Response&&aQk l k x))
def aEA (l:List M.Cached):Bool:=(List.range l.length).all (aCX l)&&decide (l.length≤12)
theorem aG6 {l:List M.Cached} (hl:l.length≤maxLen ∧ ∀x∈l,M.Cached.ok x):nL l=some (aEA l):=by
 have hm:=le_max hl.1
 unfold nL aEA
 rw [lC (L:=eO l) (g:=aCX l) (F:=some false) (E:=some (decide (l.length≤12))) hl.1 (fun n k hk => ?_) (fun n => ?_),bN]
 ·have hf:=hl.2 _ (qG hk)
  simp only [eO]
  rw [if_pos (aY hk),aM hk,qA,bC (by omega),eU hf.Site,qA,eU hf.Path,qA,aGs,qA]
  rw [lC (N:=k) (L:=fY l (k:Int) l[k] (fun _=>eO l n ((k+1:Nat):Int))) (g:=fun j => !((l[j]?).any (aEg l[k].Site l[k].Path))) (F:=some false) (E:=eO l n ((k+1:Nat):Int)) (by have:=hl.1;omega) (fun n j hj => ?_) (fun n => ?_)]
  ·unfold aCX aQk
   rw [qF hk,Option.any_some]
   simp only [aB8,aQ2]
  ·have hj2:j<l.length:=by omega
   simp only [fY]
   rw [if_pos (aY hj),aM hj2,qA,bC (by omega),aQ2,qF hj2,Option.any_some,aB8]
   rfl
  ·simp only [fY]
   rw [if_neg (by rw [aO];simp)]
 ·simp only [eO]
  rw [if_neg (by rw [aO];simp)]
  simp;omega
theorem aH6 {c:M.Cache} {Z:Option Bool} (hc:c.ok):eY c (fun _=>Z) fuel 0=if (List.range c.Entries.length).all (aCX c.Entries)=true then Z else some false:=by
 have hm:=le_max hc.Entries.1
 refine lC (L:=eY c (fun _=>Z)) hc.Entries.1 (fun n k hk => ?_) (fun n => ?_)
 ·have hf:=hc.Entries.2 _ (qG hk)
  simp only [eY]
  rw [if_pos (aY hk),aM hk,qA,bC (by omega),dV hf.Site,qA,dV hf.Path,qA,aEu hc,qA,aDs,qA,aEH,aKK hk (by simp [aEg])]
  unfold aCX aQk
  rw [qF hk,Option.any_some]
  generalize eY c (fun _=>Z) n ((k+1:Nat):Int)=Y
  generalize sG c.Entries[k].Site=a
  generalize sG c.Entries[k].Path=b
  generalize aEd c.Entries[k].Response=d
  generalize (List.range k).all (fun j => !((c.Entries[j]?).any (aEg c.Entries[k].Site c.Entries[k].Path)))=e
  cases a<;>cases b<;>cases d<;>cases e<;>rfl
 ·simp only [eY]
  rw [if_neg (by rw [aO];simp)]
theorem aH8 {c:M.Cache} {Z:Option Bool} (hc:c.ok):eI c (fun _=>Z) fuel 0=if (List.range c.Entries.length).all (aCX c.Entries)=true then Z else some false:=by
 have hm:=le_max hc.Entries.1
 refine lC (L:=eI c (fun _=>Z)) hc.Entries.1 (fun n k hk => ?_) (fun n => ?_)
 ·have hf:=hc.Entries.2 _ (qG hk)
  simp only [eI]
  rw [if_pos (aY hk),aM hk,qA,bC (by omega),dV hf.Site,qA,dV hf.Path,qA,aEu hc,qA,aDs,qA,aEH,aKK hk (by simp [aEg])]
  unfold aCX aQk
  rw [qF hk,Option.any_some]
  generalize eI c (fun _=>Z) n ((k+1:Nat):Int)=Y
  generalize sG c.Entries[k].Site=a
  generalize sG c.Entries[k].Path=b
  generalize aEd c.Entries[k].Response=d
  generalize (List.range k).all (fun j => !((c.Entries[j]?).any (aEg c.Entries[k].Site c.Entries[k].Path)))=e
  cases a<;>cases b<;>cases d<;>cases e<;>rfl
 ·simp only [eI]
  rw [if_neg (by rw [aO];simp)]
def aDy (l:List M.Cache) (k:Nat):Bool:=(l[k]?).any (fun c=>inR c.Version 1 1000000000000&&aEA c.Entries)&&(decide (k=0)||(l[k-1]?).any fun d=>(l[k]?).any fun c=>decide (d.Version<c.Version))
def bS (s:M.aA):Bool:=(List.range s.Caches.length).all (aDy s.Caches)&&decide (s.Caches.length≤4)
theorem kY {s:M.aA} (hs:s.ok):bY s=some (bS s):=by
 have hm:=le_max hs.Caches.1
 unfold bY bS
 rw [lC (L:=eL s) (g:=aDy s.Caches) (F:=some false) (E:=some (decide (s.Caches.length≤4))) hs.Caches.1 (fun n k hk => ?_) (fun n => ?_),bN]
 ·have hf:=hs.Caches.2 _ (qG hk)
  simp only [eL]
  rw [if_pos (aY hk),aM hk,qA,bC (by omega),dC,qA,aG6 hf.Entries]
  simp only [qA]
  unfold aDy
  rw [qF hk]
  generalize eL s n ((k+1:Nat):Int)=Z
  by_cases h0:k=0
  ·subst h0
   simp only [Option.any_some]
   generalize inR s.Caches[0].Version 1 1000000000000=a
   generalize aEA s.Caches[0].Entries=b
   cases a<;>cases b<;>simp
  ·have e:IntKind.i64.wrap ((k:Int)-1)=((k-1:Nat):Int):=by rw [fB (by omega) (by omega)];omega
   have hk1:k-1<s.Caches.length:=by omega
   rw [if_pos (c:=(decide ((k:Int)>0))=true) (by simp;omega),e,aM hk1,qA,qF hk1]
   simp only [Option.any_some,h0,decide_false,Bool.false_or]
   generalize inR s.Caches[k].Version 1 1000000000000=a
   generalize aEA s.Caches[k].Entries=b
   by_cases hc:s.Caches[k-1].Version<s.Caches[k].Version
   ·rw [if_neg (c:=(decide (s.Caches[k-1].Version≥s.Caches[k].Version))=true) (by simp;omega)]
    cases a<;>cases b<;>simp [hc]
   ·rw [if_pos (c:=(decide (s.Caches[k-1].Version≥s.Caches[k].Version))=true) (by simp;omega)]
    cases a<;>cases b<;>simp [hc]
 ·simp only [eL]
  rw [if_neg (by rw [aO];simp)]
  simp;omega
theorem kM {s:M.aA} (hs:s.ok):bX s=some (bS s):=by
 have hm:=le_max hs.Caches.1
 unfold bX bS
 rw [lC (L:=eX s) (g:=aDy s.Caches) (F:=some false) (E:=some (decide (s.Caches.length≤4))) hs.Caches.1 (fun n k hk => ?_) (fun n => ?_),bN]
 ·have hf:=hs.Caches.2 _ (qG hk)
  simp only [eX]
  rw [if_pos (aY hk),aM hk,qA,bC (by omega),bP,qA,aH6 hf,aH8 hf]
  unfold aDy aEA
  rw [qF hk]
  generalize eX s n ((k+1:Nat):Int)=Z
  have h12:(decide ((List.length s.Caches[k].Entries:Int)>12)) = !decide (s.Caches[k].Entries.length≤12):=by
   by_cases h:s.Caches[k].Entries.length≤12
   ·simp [h];omega
   ·simp [h];omega
  rw [h12]
  by_cases h0:k=0
  ·subst h0
   simp only [Option.any_some]
   generalize inR s.Caches[0].Version 1 1000000000000=a
   generalize (List.range s.Caches[0].Entries.length).all (aCX s.Caches[0].Entries)=b
   generalize decide (s.Caches[0].Entries.length≤12)=d
   cases a<;>cases b<;>cases d<;>simp
  ·have e:IntKind.i64.wrap ((k:Int)-1)=((k-1:Nat):Int):=by rw [fB (by omega) (by omega)];omega
   have hk1:k-1<s.Caches.length:=by omega
   rw [if_pos (c:=(decide ((k:Int)>0))=true) (by simp;omega),e,aM hk1,qA,qF hk1]
   simp only [Option.any_some,h0,decide_false,Bool.false_or]
   generalize inR s.Caches[k].Version 1 1000000000000=a
   generalize (List.range s.Caches[k].Entries.length).all (aCX s.Caches[k].Entries)=b
   generalize decide (s.Caches[k].Entries.length≤12)=d
   by_cases hc:s.Caches[k-1].Version<s.Caches[k].Version
   ·rw [if_neg (c:=(decide (s.Caches[k].Version≤s.Caches[k-1].Version))=true) (by simp;omega)]
    cases a<;>cases b<;>cases d<;>simp [hc]
   ·rw [if_pos (c:=(decide (s.Caches[k].Version≤s.Caches[k-1].Version))=true) (by simp;omega)]
    cases a<;>cases b<;>cases d<;>simp [hc]
 ·simp only [eX]
  rw [if_neg (by rw [aO];simp)]
  simp;omega
end Go.Proofs.YtidhkhdnjonjfaaGreat.gen
