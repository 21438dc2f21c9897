/-
  Helper text. No conditions.
-/
import Derived.Test.YtnhpbpnhmapeeaaGreatClosePagePd
namespace Go.Proofs.YtnhpbpnhmapeeaaGreat.gen
open Go Go.Sh
set_option linter.unusedVariables false
set_option linter.unusedSimpArgs false
theorem aH4 {α:Type} {f:α→Bool} {xs:List α} {k:Nat} (hk:k<xs.length) (hf:f xs[k]=true):(aBj f xs==(k:Int))=(List.range k).all (fun j => !((xs[j]?).any f)):=by
 rw [Bool.eq_iff_iff]
 simp only [beq_iff_eq,List.all_eq_true,List.mem_range]
 constructor
 ·intro h j hj
  unfold aBj at h
  cases e:xs.findIdx? f with
  | none=>rw [e] at h;simp only at h;omega
  | some i =>
   rw [e] at h
   simp only at h
   have:i=k:=by omega
   subst this
   have:=(List.findIdx?_eq_some_iff_getElem.1 e).2.2 j hj
   rw [List.getElem?_eq_getElem (by omega)]
   simpa using this
 ·intro h
  have e:xs.findIdx? f=some k:=List.findIdx?_eq_some_iff_getElem.2 ⟨hk,hf,fun j hj=>by
   have:=h j hj
   rw [List.getElem?_eq_getElem (by omega)] at this
   simpa using this⟩
  unfold aBj
  rw [e]
def aCh (a b:ByteArray) (x:M.Cached):Bool:=(x.Site.toList==a.toList)&&(x.Path.toList==b.toList)
theorem aCs {c:M.Cache} {a b:ByteArray} (hc:c.ok):uL c a b=some (aBj (aCh a b) c.Entries):=by
 unfold uL
 rw [aEE (f:=aCh a b) hc.Entries.1 (fun x _=>by simp only [sU,bP];rfl),Option.bind_some]
def aDV (r:M.Response):Bool:=inR r.Type_ 1 4&&(inR r.Status 0 999&&(inR r.Version 0 1000000000000&&decide ((List.length r.Body:Int)≤60)))
theorem aEs (r:M.Response):qM r=some (aDV r):=by
 unfold qM aDV
 simp only [dG,Option.bind_some,bP]
theorem aB9 (r:M.Response):lS r=some (aDV r):=by
 unfold lS aDV
 simp only [bQ,Option.bind_some,bP]
def aNT (l:List M.Cached) (k:Nat) (x:M.Cached):Bool:=(List.range k).all fun j => !((l[j]?).any (aCh x.Site x.Path))
def aBW (l:List M.Cached) (k:Nat):Bool:=(l[k]?).any fun x=>pK x.Site&&(pK x.Path&&(aDV x.Response&&aNT l k x))
def aDA (l:List M.Cached):Bool:=(List.range l.length).all (aBW l)&&decide (l.length≤12)
theorem aE2 {l:List M.Cached} (hl:l.length≤maxLen ∧ ∀x∈l,M.Cached.ok x):lV l=some (aDA l):=by
 have hm:=le_max hl.1
 unfold lV aDA
 rw [jV (L:=eJ l) (g:=aBW l) (F:=some false) (E:=some (decide (l.length≤12))) hl.1 (fun n k hk => ?_) (fun n => ?_),bP]
 ·have hf:=hl.2 _ (List.getElem_mem hk)
  simp only [eJ]
  rw [if_pos (aZ hk),aO hk,Option.bind_some,bB (by omega),eO hf.Site,Option.bind_some,eO hf.Path,Option.bind_some,aEs,Option.bind_some]
  rw [jV (N:=k) (L:=fK l (k:Int) l[k] (fun _=>eJ l n ((k+1:Nat):Int))) (g:=fun j => !((l[j]?).any (aCh l[k].Site l[k].Path))) (F:=some false) (E:=eJ l n ((k+1:Nat):Int)) (by have:=hl.1;omega) (fun n j hj => ?_) (fun n => ?_)]
  ·unfold aBW aNT
   rw [List.getElem?_eq_getElem hk,Option.any_some]
   simp only [aAl,aN5]
  ·have hj2:j<l.length:=by omega
   simp only [fK]
   rw [if_pos (aZ hj),aO hj2,Option.bind_some,bB (by omega),aN5,List.getElem?_eq_getElem hj2,Option.any_some,aAl]
   rfl
  ·simp only [fK]
   rw [if_neg (by rw [aP];simp)]
 ·simp only [eJ]
  rw [if_neg (by rw [aP];simp)]
  simp;omega
theorem aFv {c:M.Cache} {Z:Option Bool} (hc:c.ok):eR c (fun _=>Z) fuel 0=if (List.range c.Entries.length).all (aBW c.Entries)=true then Z else some false:=by
 have hm:=le_max hc.Entries.1
 refine jV (L:=eR c (fun _=>Z)) hc.Entries.1 (fun n k hk => ?_) (fun n => ?_)
 ·have hf:=hc.Entries.2 _ (List.getElem_mem hk)
  simp only [eR]
  rw [if_pos (aZ hk),aO hk,Option.bind_some,bB (by omega),dO hf.Site,Option.bind_some,dO hf.Path,Option.bind_some,aCs hc,Option.bind_some,aB9,Option.bind_some,aCP,aH4 hk (by simp [aCh])]
  unfold aBW aNT
  rw [List.getElem?_eq_getElem hk,Option.any_some]
  generalize eR c (fun _=>Z) n ((k+1:Nat):Int)=Y
  generalize pK c.Entries[k].Site=a
  generalize pK c.Entries[k].Path=b
  generalize aDV c.Entries[k].Response=d
  generalize (List.range k).all (fun j => !((c.Entries[j]?).any (aCh c.Entries[k].Site c.Entries[k].Path)))=e
  cases a<;>cases b<;>cases d<;>cases e<;>rfl
 ·simp only [eR]
  rw [if_neg (by rw [aP];simp)]
theorem aFx {c:M.Cache} {Z:Option Bool} (hc:c.ok):eD c (fun _=>Z) fuel 0=if (List.range c.Entries.length).all (aBW c.Entries)=true then Z else some false:=by
 have hm:=le_max hc.Entries.1
 refine jV (L:=eD c (fun _=>Z)) hc.Entries.1 (fun n k hk => ?_) (fun n => ?_)
 ·have hf:=hc.Entries.2 _ (List.getElem_mem hk)
  simp only [eD]
  rw [if_pos (aZ hk),aO hk,Option.bind_some,bB (by omega),dO hf.Site,Option.bind_some,dO hf.Path,Option.bind_some,aCs hc,Option.bind_some,aB9,Option.bind_some,aCP,aH4 hk (by simp [aCh])]
  unfold aBW aNT
  rw [List.getElem?_eq_getElem hk,Option.any_some]
  generalize eD c (fun _=>Z) n ((k+1:Nat):Int)=Y
  generalize pK c.Entries[k].Site=a
  generalize pK c.Entries[k].Path=b
  generalize aDV c.Entries[k].Response=d
  generalize (List.range k).all (fun j => !((c.Entries[j]?).any (aCh c.Entries[k].Site c.Entries[k].Path)))=e
  cases a<;>cases b<;>cases d<;>cases e<;>rfl
 ·simp only [eD]
  rw [if_neg (by rw [aP];simp)]
def aDv (l:List M.Cache) (k:Nat):Bool:=(l[k]?).any (fun c=>inR c.Version 1 1000000000000&&aDA c.Entries)&&(decide (k=0)||(l[k-1]?).any fun d=>(l[k]?).any fun c=>decide (d.Version<c.Version))
def aCz (s:M.aT):Bool:=(List.range s.Caches.length).all (aDv s.Caches)&&decide (s.Caches.length≤4)
theorem aFJ {s:M.aT} (hs:s.ok):qQ s=some (aCz s):=by
 have hm:=le_max hs.Caches.1
 unfold qQ aCz
 rw [jV (L:=eG s) (g:=aDv s.Caches) (F:=some false) (E:=some (decide (s.Caches.length≤4))) hs.Caches.1 (fun n k hk => ?_) (fun n => ?_),bP]
 ·have hf:=hs.Caches.2 _ (List.getElem_mem hk)
  simp only [eG]
  rw [if_pos (aZ hk),aO hk,Option.bind_some,bB (by omega),dG,Option.bind_some,aE2 hf.Entries]
  simp only [Option.bind_some]
  unfold aDv
  rw [List.getElem?_eq_getElem hk]
  generalize eG s n ((k+1:Nat):Int)=Z
  by_cases h0:k=0
  ·subst h0
   simp only [Option.any_some]
   generalize inR s.Caches[0].Version 1 1000000000000=a
   generalize aDA s.Caches[0].Entries=b
   cases a<;>cases b<;>simp
  ·have e:IntKind.i64.wrap ((k:Int)-1)=((k-1:Nat):Int):=by rw [iT (by omega) (by omega)];omega
   have hk1:k-1<s.Caches.length:=by omega
   rw [if_pos (c:=(decide ((k:Int)>0))=true) (by simp;omega),e,aO hk1,Option.bind_some,List.getElem?_eq_getElem hk1]
   simp only [Option.any_some,h0,decide_false,Bool.false_or]
   generalize inR s.Caches[k].Version 1 1000000000000=a
   generalize aDA s.Caches[k].Entries=b
   by_cases hc:s.Caches[k-1].Version<s.Caches[k].Version
   ·rw [if_neg (c:=(decide (s.Caches[k-1].Version≥s.Caches[k].Version))=true) (by simp;omega)]
    cases a<;>cases b<;>simp [hc]
   ·rw [if_pos (c:=(decide (s.Caches[k-1].Version≥s.Caches[k].Version))=true) (by simp;omega)]
    cases a<;>cases b<;>simp [hc]
 ·simp only [eG]
  rw [if_neg (by rw [aP];simp)]
  simp;omega
theorem aEu {s:M.aT} (hs:s.ok):pR s=some (aCz s):=by
 have hm:=le_max hs.Caches.1
 unfold pR aCz
 rw [jV (L:=eQ s) (g:=aDv s.Caches) (F:=some false) (E:=some (decide (s.Caches.length≤4))) hs.Caches.1 (fun n k hk => ?_) (fun n => ?_),bP]
 ·have hf:=hs.Caches.2 _ (List.getElem_mem hk)
  simp only [eQ]
  rw [if_pos (aZ hk),aO hk,Option.bind_some,bB (by omega),bQ,Option.bind_some,aFv hf,aFx hf]
  unfold aDv aDA
  rw [List.getElem?_eq_getElem hk]
  generalize eQ s n ((k+1:Nat):Int)=Z
  have h12:(decide ((List.length s.Caches[k].Entries:Int)>12)) = !decide (s.Caches[k].Entries.length≤12):=by
   by_cases h:s.Caches[k].Entries.length≤12
   ·simp [h];omega
   ·simp [h];omega
  rw [h12]
  by_cases h0:k=0
  ·subst h0
   simp only [Option.any_some]
   generalize inR s.Caches[0].Version 1 1000000000000=a
   generalize (List.range s.Caches[0].Entries.length).all (aBW s.Caches[0].Entries)=b
   generalize decide (s.Caches[0].Entries.length≤12)=d
   cases a<;>cases b<;>cases d<;>simp
  ·have e:IntKind.i64.wrap ((k:Int)-1)=((k-1:Nat):Int):=by rw [iT (by omega) (by omega)];omega
   have hk1:k-1<s.Caches.length:=by omega
   rw [if_pos (c:=(decide ((k:Int)>0))=true) (by simp;omega),e,aO hk1,Option.bind_some,List.getElem?_eq_getElem hk1]
   simp only [Option.any_some,h0,decide_false,Bool.false_or]
   generalize inR s.Caches[k].Version 1 1000000000000=a
   generalize (List.range s.Caches[k].Entries.length).all (aBW s.Caches[k].Entries)=b
   generalize decide (s.Caches[k].Entries.length≤12)=d
   by_cases hc:s.Caches[k-1].Version<s.Caches[k].Version
   ·rw [if_neg (c:=(decide (s.Caches[k].Version≤s.Caches[k-1].Version))=true) (by simp;omega)]
    cases a<;>cases b<;>cases d<;>simp [hc]
   ·rw [if_pos (c:=(decide (s.Caches[k].Version≤s.Caches[k-1].Version))=true) (by simp;omega)]
    cases a<;>cases b<;>cases d<;>simp [hc]
 ·simp only [eQ]
  rw [if_neg (by rw [aP];simp)]
  simp;omega
end Go.Proofs.YtnhpbpnhmapeeaaGreat.gen
