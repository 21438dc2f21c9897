/-
  Helper text. No conditions.
-/
import Derived.Test.YtnhpbpnhmapeeaaGreatActivateWorkerPd
namespace Go.Proofs.YtnhpbpnhmapeeaaGreat.gen
open Go Go.Sh
set_option linter.unusedVariables false
set_option linter.unusedSimpArgs false
theorem aIW {α:Type} {f:α→Bool} {xs:List α} {k:Nat} (hk:k<xs.length) (hf:f xs[k]=true):(aBN f xs==(k:Int))=(List.range k).all (fun j => !((xs[j]?).any f)):=by
 rw [Bool.eq_iff_iff]
 simp only [beq_iff_eq,List.all_eq_true,List.mem_range]
 constructor
 ·intro h j hj
  unfold aBN at h
  cases e:xs.findIdx? f with
  | none=>rw [e] at h;simp only at h;omega
  | some i =>
   rw [e] at h
   simp only at h
   have:i=k:=by omega
   subst this
   have:=(List.findIdx?_eq_some_iff_getElem.1 e).2.2 j hj
   rw [List.getElem?_eq_getElem (by omega)]
   simpa using this
 ·intro h
  have e:xs.findIdx? f=some k:=List.findIdx?_eq_some_iff_getElem.2 ⟨hk,hf,fun j hj=>by
   have:=h j hj
   rw [List.getElem?_eq_getElem (by omega)] at this
   simpa using this⟩
  unfold aBN
  rw [e]
def aDC (a b:ByteArray) (x:M.Cached):Bool:=(x.Site.toList==a.toList)&&(x.Path.toList==b.toList)
theorem aDM {c:M.Cache} {a b:ByteArray} (hc:c.ok):vC c a b=some (aBN (aDC a b) c.Entries):=by
 unfold vC
 rw [aEi (f:=aDC a b) hc.Entries.1 (fun x _=>by simp only [tL,bM];rfl),Option.bind_some]
def aDz (r:M.Response):Bool:=inR r.Type_ 1 4&&(inR r.Status 0 999&&(inR r.Version 0 1000000000000&&decide ((List.length r.Body:Int)≤60)))
theorem aFH (r:M.Response):qX r=some (aDz r):=by
 unfold qX aDz
 simp only [dG,Option.bind_some,bM]
theorem aCc (r:M.Response):mB r=some (aDz r):=by
 unfold mB aDz
 simp only [bN,Option.bind_some,bM]
def aN7 (l:List M.Cached) (k:Nat) (x:M.Cached):Bool:=(List.range k).all fun j => !((l[j]?).any (aDC x.Site x.Path))
def aBt (l:List M.Cached) (k:Nat):Bool:=(l[k]?).any fun x=>pV x.Site&&(pV x.Path&&(aDz x.Response&&aN7 l k x))
def aDd (l:List M.Cached):Bool:=(List.range l.length).all (aBt l)&&decide (l.length≤12)
theorem aFR {l:List M.Cached} (hl:l.length≤maxLen ∧ ∀x∈l,M.Cached.ok x):mE l=some (aDd l):=by
 have hm:=le_max hl.1
 unfold mE aDd
 rw [kB (L:=eK l) (g:=aBt l) (F:=some false) (E:=some (decide (l.length≤12))) hl.1 (fun n k hk => ?_) (fun n => ?_),bM]
 ·have hf:=hl.2 _ (List.getElem_mem hk)
  simp only [eK]
  rw [if_pos (aZ hk),aO hk,Option.bind_some,bD (by omega),eO hf.Site,Option.bind_some,eO hf.Path,Option.bind_some,aFH,Option.bind_some]
  rw [kB (N:=k) (L:=fN l (k:Int) l[k] (fun _=>eK l n ((k+1:Nat):Int))) (g:=fun j => !((l[j]?).any (aDC l[k].Site l[k].Path))) (F:=some false) (E:=eK l n ((k+1:Nat):Int)) (by have:=hl.1;omega) (fun n j hj => ?_) (fun n => ?_)]
  ·unfold aBt aN7
   rw [List.getElem?_eq_getElem hk,Option.any_some]
   simp only [aA2,aOr]
  ·have hj2:j<l.length:=by omega
   simp only [fN]
   rw [if_pos (aZ hj),aO hj2,Option.bind_some,bD (by omega),aOr,List.getElem?_eq_getElem hj2,Option.any_some,aA2]
   rfl
  ·simp only [fN]
   rw [if_neg (by rw [aP];simp)]
 ·simp only [eK]
  rw [if_neg (by rw [aP];simp)]
  simp;omega
theorem aGJ {c:M.Cache} {Z:Option Bool} (hc:c.ok):eR c (fun _=>Z) fuel 0=if (List.range c.Entries.length).all (aBt c.Entries)=true then Z else some false:=by
 have hm:=le_max hc.Entries.1
 refine kB (L:=eR c (fun _=>Z)) hc.Entries.1 (fun n k hk => ?_) (fun n => ?_)
 ·have hf:=hc.Entries.2 _ (List.getElem_mem hk)
  simp only [eR]
  rw [if_pos (aZ hk),aO hk,Option.bind_some,bD (by omega),dO hf.Site,Option.bind_some,dO hf.Path,Option.bind_some,aDM hc,Option.bind_some,aCc,Option.bind_some,aCr,aIW hk (by simp [aDC])]
  unfold aBt aN7
  rw [List.getElem?_eq_getElem hk,Option.any_some]
  generalize eR c (fun _=>Z) n ((k+1:Nat):Int)=Y
  generalize pV c.Entries[k].Site=a
  generalize pV c.Entries[k].Path=b
  generalize aDz c.Entries[k].Response=d
  generalize (List.range k).all (fun j => !((c.Entries[j]?).any (aDC c.Entries[k].Site c.Entries[k].Path)))=e
  cases a<;>cases b<;>cases d<;>cases e<;>rfl
 ·simp only [eR]
  rw [if_neg (by rw [aP];simp)]
theorem aGM {c:M.Cache} {Z:Option Bool} (hc:c.ok):eE c (fun _=>Z) fuel 0=if (List.range c.Entries.length).all (aBt c.Entries)=true then Z else some false:=by
 have hm:=le_max hc.Entries.1
 refine kB (L:=eE c (fun _=>Z)) hc.Entries.1 (fun n k hk => ?_) (fun n => ?_)
 ·have hf:=hc.Entries.2 _ (List.getElem_mem hk)
  simp only [eE]
  rw [if_pos (aZ hk),aO hk,Option.bind_some,bD (by omega),dO hf.Site,Option.bind_some,dO hf.Path,Option.bind_some,aDM hc,Option.bind_some,aCc,Option.bind_some,aCr,aIW hk (by simp [aDC])]
  unfold aBt aN7
  rw [List.getElem?_eq_getElem hk,Option.any_some]
  generalize eE c (fun _=>Z) n ((k+1:Nat):Int)=Y
  generalize pV c.Entries[k].Site=a
  generalize pV c.Entries[k].Path=b
  generalize aDz c.Entries[k].Response=d
  generalize (List.range k).all (fun j => !((c.Entries[j]?).any (aDC c.Entries[k].Site c.Entries[k].Path)))=e
  cases a<;>cases b<;>cases d<;>cases e<;>rfl
 ·simp only [eE]
  rw [if_neg (by rw [aP];simp)]
def aEM (l:List M.Cache) (k:Nat):Bool:=(l[k]?).any (fun c=>inR c.Version 1 1000000000000&&aDd c.Entries)&&(decide (k=0)||(l[k-1]?).any fun d=>(l[k]?).any fun c=>decide (d.Version<c.Version))
def aDS (s:M.aM):Bool:=(List.range s.Caches.length).all (aEM s.Caches)&&decide (s.Caches.length≤4)
theorem aFj {s:M.aM} (hs:s.ok):rC s=some (aDS s):=by
 have hm:=le_max hs.Caches.1
 unfold rC aDS
 rw [kB (L:=eH s) (g:=aEM s.Caches) (F:=some false) (E:=some (decide (s.Caches.length≤4))) hs.Caches.1 (fun n k hk => ?_) (fun n => ?_),bM]
 ·have hf:=hs.Caches.2 _ (List.getElem_mem hk)
  simp only [eH]
  rw [if_pos (aZ hk),aO hk,Option.bind_some,bD (by omega),dG,Option.bind_some,aFR hf.Entries]
  simp only [Option.bind_some]
  unfold aEM
  rw [List.getElem?_eq_getElem hk]
  generalize eH s n ((k+1:Nat):Int)=Z
  by_cases h0:k=0
  ·subst h0
   simp only [Option.any_some]
   generalize inR s.Caches[0].Version 1 1000000000000=a
   generalize aDd s.Caches[0].Entries=b
   cases a<;>cases b<;>simp
  ·have e:IntKind.i64.wrap ((k:Int)-1)=((k-1:Nat):Int):=by rw [jA (by omega) (by omega)];omega
   have hk1:k-1<s.Caches.length:=by omega
   rw [if_pos (c:=(decide ((k:Int)>0))=true) (by simp;omega),e,aO hk1,Option.bind_some,List.getElem?_eq_getElem hk1]
   simp only [Option.any_some,h0,decide_false,Bool.false_or]
   generalize inR s.Caches[k].Version 1 1000000000000=a
   generalize aDd s.Caches[k].Entries=b
   by_cases hc:s.Caches[k-1].Version<s.Caches[k].Version
   ·rw [if_neg (c:=(decide (s.Caches[k-1].Version≥s.Caches[k].Version))=true) (by simp;omega)]
    cases a<;>cases b<;>simp [hc]
   ·rw [if_pos (c:=(decide (s.Caches[k-1].Version≥s.Caches[k].Version))=true) (by simp;omega)]
    cases a<;>cases b<;>simp [hc]
 ·simp only [eH]
  rw [if_neg (by rw [aP];simp)]
  simp;omega
theorem aFJ {s:M.aM} (hs:s.ok):qC s=some (aDS s):=by
 have hm:=le_max hs.Caches.1
 unfold qC aDS
 rw [kB (L:=eQ s) (g:=aEM s.Caches) (F:=some false) (E:=some (decide (s.Caches.length≤4))) hs.Caches.1 (fun n k hk => ?_) (fun n => ?_),bM]
 ·have hf:=hs.Caches.2 _ (List.getElem_mem hk)
  simp only [eQ]
  rw [if_pos (aZ hk),aO hk,Option.bind_some,bD (by omega),bN,Option.bind_some,aGJ hf,aGM hf]
  unfold aEM aDd
  rw [List.getElem?_eq_getElem hk]
  generalize eQ s n ((k+1:Nat):Int)=Z
  have h12:(decide ((List.length s.Caches[k].Entries:Int)>12)) = !decide (s.Caches[k].Entries.length≤12):=by
   by_cases h:s.Caches[k].Entries.length≤12
   ·simp [h];omega
   ·simp [h];omega
  rw [h12]
  by_cases h0:k=0
  ·subst h0
   simp only [Option.any_some]
   generalize inR s.Caches[0].Version 1 1000000000000=a
   generalize (List.range s.Caches[0].Entries.length).all (aBt s.Caches[0].Entries)=b
   generalize decide (s.Caches[0].Entries.length≤12)=d
   cases a<;>cases b<;>cases d<;>simp
  ·have e:IntKind.i64.wrap ((k:Int)-1)=((k-1:Nat):Int):=by rw [jA (by omega) (by omega)];omega
   have hk1:k-1<s.Caches.length:=by omega
   rw [if_pos (c:=(decide ((k:Int)>0))=true) (by simp;omega),e,aO hk1,Option.bind_some,List.getElem?_eq_getElem hk1]
   simp only [Option.any_some,h0,decide_false,Bool.false_or]
   generalize inR s.Caches[k].Version 1 1000000000000=a
   generalize (List.range s.Caches[k].Entries.length).all (aBt s.Caches[k].Entries)=b
   generalize decide (s.Caches[k].Entries.length≤12)=d
   by_cases hc:s.Caches[k-1].Version<s.Caches[k].Version
   ·rw [if_neg (c:=(decide (s.Caches[k].Version≤s.Caches[k-1].Version))=true) (by simp;omega)]
    cases a<;>cases b<;>cases d<;>simp [hc]
   ·rw [if_pos (c:=(decide (s.Caches[k].Version≤s.Caches[k-1].Version))=true) (by simp;omega)]
    cases a<;>cases b<;>cases d<;>simp [hc]
 ·simp only [eQ]
  rw [if_neg (by rw [aP];simp)]
  simp;omega
end Go.Proofs.YtnhpbpnhmapeeaaGreat.gen
