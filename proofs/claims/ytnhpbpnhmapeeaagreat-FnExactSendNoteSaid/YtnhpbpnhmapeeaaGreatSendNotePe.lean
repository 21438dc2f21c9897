/-
  Helper text. No conditions.
-/
import Derived.Test.YtnhpbpnhmapeeaaGreatSendNotePd
namespace Go.Proofs.YtnhpbpnhmapeeaaGreat.gen
open Go Go.Sh
set_option linter.unusedVariables false
set_option linter.unusedSimpArgs false
theorem aH8 {α:Type} {f:α→Bool} {xs:List α} {k:Nat} (hk:k<xs.length) (hf:f xs[k]=true):(aAM f xs==(k:Int))=(List.range k).all (fun j => !((xs[j]?).any f)):=by
 rw [Bool.eq_iff_iff]
 simp only [beq_iff_eq,List.all_eq_true,List.mem_range]
 constructor
 ·intro h j hj
  unfold aAM at h
  cases e:xs.findIdx? f with
  | none=>rw [e] at h;simp only at h;omega
  | some i =>
   rw [e] at h
   simp only at h
   have:i=k:=by omega
   subst this
   have:=(List.findIdx?_eq_some_iff_getElem.1 e).2.2 j hj
   rw [List.getElem?_eq_getElem (by omega)]
   simpa using this
 ·intro h
  have e:xs.findIdx? f=some k:=List.findIdx?_eq_some_iff_getElem.2 ⟨hk,hf,fun j hj=>by
   have:=h j hj
   rw [List.getElem?_eq_getElem (by omega)] at this
   simpa using this⟩
  unfold aAM
  rw [e]
def aC5 (a b:ByteArray) (x:M.Cached):Bool:=(x.Site.toList==a.toList)&&(x.Path.toList==b.toList)
theorem aDI {c:M.Cache} {a b:ByteArray} (hc:c.ok):uQ c a b=some (aAM (aC5 a b) c.Entries):=by
 unfold uQ
 rw [aEg (f:=aC5 a b) hc.Entries.1 (fun x _=>by simp only [tD,fX];rfl),Option.bind_some]
def aDz (r:M.Response):Bool:=inR r.Type_ 1 4&&(inR r.Status 0 999&&(inR r.Version 0 1000000000000&&decide ((List.length r.Body:Int)≤60)))
theorem aE8 (r:M.Response):qU r=some (aDz r):=by
 unfold qU aDz
 simp only [hP,Option.bind_some,fX]
theorem aCY (r:M.Response):lY r=some (aDz r):=by
 unfold lY aDz
 simp only [fF,Option.bind_some,fX]
def aNr (l:List M.Cached) (k:Nat) (x:M.Cached):Bool:=(List.range k).all fun j => !((l[j]?).any (aC5 x.Site x.Path))
def aBc (l:List M.Cached) (k:Nat):Bool:=(l[k]?).any fun x=>aAL x.Site&&(aAL x.Path&&(aDz x.Response&&aNr l k x))
def aDb (l:List M.Cached):Bool:=(List.range l.length).all (aBc l)&&decide (l.length≤12)
theorem aFJ {l:List M.Cached} (hl:l.length≤maxLen ∧ ∀x∈l,M.Cached.ok x):mB l=some (aDb l):=by
 have hm:=le_max hl.1
 unfold mB aDb
 rw [aAD (L:=eD l) (g:=aBc l) (F:=some false) (E:=some (decide (l.length≤12))) hl.1 (fun n k hk => ?_) (fun n => ?_),fX]
 ·have hf:=hl.2 _ (List.getElem_mem hk)
  simp only [eD]
  rw [if_pos (bF hk),aQ hk,Option.bind_some,bH (by omega),iQ hf.Site,Option.bind_some,iQ hf.Path,Option.bind_some,aE8,Option.bind_some]
  rw [aAD (N:=k) (L:=fI l (k:Int) l[k] (fun _=>eD l n ((k+1:Nat):Int))) (g:=fun j => !((l[j]?).any (aC5 l[k].Site l[k].Path))) (F:=some false) (E:=eD l n ((k+1:Nat):Int)) (by have:=hl.1;omega) (fun n j hj => ?_) (fun n => ?_)]
  ·unfold aBc aNr
   rw [List.getElem?_eq_getElem hk,Option.any_some]
   simp only [aCn,aPT]
  ·have hj2:j<l.length:=by omega
   simp only [fI]
   rw [if_pos (bF hj),aQ hj2,Option.bind_some,bH (by omega),aPT,List.getElem?_eq_getElem hj2,Option.any_some,aCn]
   rfl
  ·simp only [fI]
   rw [if_neg (by rw [aT];simp)]
 ·simp only [eD]
  rw [if_neg (by rw [aT];simp)]
  simp;omega
theorem aF1 {c:M.Cache} {Z:Option Bool} (hc:c.ok):eL c (fun _=>Z) fuel 0=if (List.range c.Entries.length).all (aBc c.Entries)=true then Z else some false:=by
 have hm:=le_max hc.Entries.1
 refine aAD (L:=eL c (fun _=>Z)) hc.Entries.1 (fun n k hk => ?_) (fun n => ?_)
 ·have hf:=hc.Entries.2 _ (List.getElem_mem hk)
  simp only [eL]
  rw [if_pos (bF hk),aQ hk,Option.bind_some,bH (by omega),hJ hf.Site,Option.bind_some,hJ hf.Path,Option.bind_some,aDI hc,Option.bind_some,aCY,Option.bind_some,aGP,aH8 hk (by simp [aC5])]
  unfold aBc aNr
  rw [List.getElem?_eq_getElem hk,Option.any_some]
  generalize eL c (fun _=>Z) n ((k+1:Nat):Int)=Y
  generalize aAL c.Entries[k].Site=a
  generalize aAL c.Entries[k].Path=b
  generalize aDz c.Entries[k].Response=d
  generalize (List.range k).all (fun j => !((c.Entries[j]?).any (aC5 c.Entries[k].Site c.Entries[k].Path)))=e
  cases a<;>cases b<;>cases d<;>cases e<;>rfl
 ·simp only [eL]
  rw [if_neg (by rw [aT];simp)]
theorem aF3 {c:M.Cache} {Z:Option Bool} (hc:c.ok):dX c (fun _=>Z) fuel 0=if (List.range c.Entries.length).all (aBc c.Entries)=true then Z else some false:=by
 have hm:=le_max hc.Entries.1
 refine aAD (L:=dX c (fun _=>Z)) hc.Entries.1 (fun n k hk => ?_) (fun n => ?_)
 ·have hf:=hc.Entries.2 _ (List.getElem_mem hk)
  simp only [dX]
  rw [if_pos (bF hk),aQ hk,Option.bind_some,bH (by omega),hJ hf.Site,Option.bind_some,hJ hf.Path,Option.bind_some,aDI hc,Option.bind_some,aCY,Option.bind_some,aGP,aH8 hk (by simp [aC5])]
  unfold aBc aNr
  rw [List.getElem?_eq_getElem hk,Option.any_some]
  generalize dX c (fun _=>Z) n ((k+1:Nat):Int)=Y
  generalize aAL c.Entries[k].Site=a
  generalize aAL c.Entries[k].Path=b
  generalize aDz c.Entries[k].Response=d
  generalize (List.range k).all (fun j => !((c.Entries[j]?).any (aC5 c.Entries[k].Site c.Entries[k].Path)))=e
  cases a<;>cases b<;>cases d<;>cases e<;>rfl
 ·simp only [dX]
  rw [if_neg (by rw [aT];simp)]
def aEL (l:List M.Cache) (k:Nat):Bool:=(l[k]?).any (fun c=>inR c.Version 1 1000000000000&&aDb c.Entries)&&(decide (k=0)||(l[k-1]?).any fun d=>(l[k]?).any fun c=>decide (d.Version<c.Version))
def aDQ (s:M.aU):Bool:=(List.range s.Caches.length).all (aEL s.Caches)&&decide (s.Caches.length≤4)
theorem aFW {s:M.aU} (hs:s.ok):qY s=some (aDQ s):=by
 have hm:=le_max hs.Caches.1
 unfold qY aDQ
 rw [aAD (L:=eA s) (g:=aEL s.Caches) (F:=some false) (E:=some (decide (s.Caches.length≤4))) hs.Caches.1 (fun n k hk => ?_) (fun n => ?_),fX]
 ·have hf:=hs.Caches.2 _ (List.getElem_mem hk)
  simp only [eA]
  rw [if_pos (bF hk),aQ hk,Option.bind_some,bH (by omega),hP,Option.bind_some,aFJ hf.Entries]
  simp only [Option.bind_some]
  unfold aEL
  rw [List.getElem?_eq_getElem hk]
  generalize eA s n ((k+1:Nat):Int)=Z
  by_cases h0:k=0
  ·subst h0
   simp only [Option.any_some]
   generalize inR s.Caches[0].Version 1 1000000000000=a
   generalize aDb s.Caches[0].Entries=b
   cases a<;>cases b<;>simp
  ·have e:IntKind.i64.wrap ((k:Int)-1)=((k-1:Nat):Int):=by rw [nK (by omega) (by omega)];omega
   have hk1:k-1<s.Caches.length:=by omega
   rw [if_pos (c:=(decide ((k:Int)>0))=true) (by simp;omega),e,aQ hk1,Option.bind_some,List.getElem?_eq_getElem hk1]
   simp only [Option.any_some,h0,decide_false,Bool.false_or]
   generalize inR s.Caches[k].Version 1 1000000000000=a
   generalize aDb s.Caches[k].Entries=b
   by_cases hc:s.Caches[k-1].Version<s.Caches[k].Version
   ·rw [if_neg (c:=(decide (s.Caches[k-1].Version≥s.Caches[k].Version))=true) (by simp;omega)]
    cases a<;>cases b<;>simp [hc]
   ·rw [if_pos (c:=(decide (s.Caches[k-1].Version≥s.Caches[k].Version))=true) (by simp;omega)]
    cases a<;>cases b<;>simp [hc]
 ·simp only [eA]
  rw [if_neg (by rw [aT];simp)]
  simp;omega
theorem aFA {s:M.aU} (hs:s.ok):pZ s=some (aDQ s):=by
 have hm:=le_max hs.Caches.1
 unfold pZ aDQ
 rw [aAD (L:=eJ s) (g:=aEL s.Caches) (F:=some false) (E:=some (decide (s.Caches.length≤4))) hs.Caches.1 (fun n k hk => ?_) (fun n => ?_),fX]
 ·have hf:=hs.Caches.2 _ (List.getElem_mem hk)
  simp only [eJ]
  rw [if_pos (bF hk),aQ hk,Option.bind_some,bH (by omega),fF,Option.bind_some,aF1 hf,aF3 hf]
  unfold aEL aDb
  rw [List.getElem?_eq_getElem hk]
  generalize eJ s n ((k+1:Nat):Int)=Z
  have h12:(decide ((List.length s.Caches[k].Entries:Int)>12)) = !decide (s.Caches[k].Entries.length≤12):=by
   by_cases h:s.Caches[k].Entries.length≤12
   ·simp [h];omega
   ·simp [h];omega
  rw [h12]
  by_cases h0:k=0
  ·subst h0
   simp only [Option.any_some]
   generalize inR s.Caches[0].Version 1 1000000000000=a
   generalize (List.range s.Caches[0].Entries.length).all (aBc s.Caches[0].Entries)=b
   generalize decide (s.Caches[0].Entries.length≤12)=d
   cases a<;>cases b<;>cases d<;>simp
  ·have e:IntKind.i64.wrap ((k:Int)-1)=((k-1:Nat):Int):=by rw [nK (by omega) (by omega)];omega
   have hk1:k-1<s.Caches.length:=by omega
   rw [if_pos (c:=(decide ((k:Int)>0))=true) (by simp;omega),e,aQ hk1,Option.bind_some,List.getElem?_eq_getElem hk1]
   simp only [Option.any_some,h0,decide_false,Bool.false_or]
   generalize inR s.Caches[k].Version 1 1000000000000=a
   generalize (List.range s.Caches[k].Entries.length).all (aBc s.Caches[k].Entries)=b
   generalize decide (s.Caches[k].Entries.length≤12)=d
   by_cases hc:s.Caches[k-1].Version<s.Caches[k].Version
   ·rw [if_neg (c:=(decide (s.Caches[k].Version≤s.Caches[k-1].Version))=true) (by simp;omega)]
    cases a<;>cases b<;>cases d<;>simp [hc]
   ·rw [if_pos (c:=(decide (s.Caches[k].Version≤s.Caches[k-1].Version))=true) (by simp;omega)]
    cases a<;>cases b<;>cases d<;>simp [hc]
 ·simp only [eJ]
  rw [if_neg (by rw [aT];simp)]
  simp;omega
end Go.Proofs.YtnhpbpnhmapeeaaGreat.gen
