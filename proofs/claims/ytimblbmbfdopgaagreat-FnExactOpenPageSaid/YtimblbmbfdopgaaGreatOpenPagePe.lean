/-
  Helper text. No conditions.
-/
import Derived.Test.YtimblbmbfdopgaaGreatOpenPagePd
set_option linter.unusedVariables false
set_option linter.unusedSimpArgs false
namespace Go.Proofs.YtimblbmbfdopgaaGreat.gen
open Go Go.Sh
theorem aDw {α:Type} {f:α→Bool} {xs:List α} {k:Nat} (hk:k<xs.length) (hf:f xs[k]=true):(aAP f xs==(k:Int))=(List.range k).all (fun j => !((xs[j]?).any f)):=by
 rw [Bool.eq_iff_iff]
 simp only [beq_iff_eq,qP,qQ]
 constructor
 ·intro h j hj
  unfold aAP at h
  cases e:xs.findIdx? f with
  | none=>rw [e] at h;simp only at h;omega
  | some i =>
   rw [e] at h
   simp only at h
   have:i=k:=by omega
   subst this
   have:=(List.findIdx?_eq_some_iff_getElem.1 e).2.2 j hj
   rw [qF (by omega)]
   simpa using this
 ·intro h
  have e:xs.findIdx? f=some k:=List.findIdx?_eq_some_iff_getElem.2 ⟨hk,hf,fun j hj=>by
   have:=h j hj
   rw [qF (by omega)] at this
   simpa using this⟩
  unfold aAP
  rw [e]
def aEa (a b:ByteArray) (x:M.Cached):Bool:=(x.Site.toList==a.toList)&&(x.Path.toList==b.toList)
theorem aEn {c:M.Cache} {a b:ByteArray} (hc:c.ok):kZ c a b=some (aAP (aEa a b) c.Entries):=by
 unfold kZ
 rw [aDK (f:=aEa a b) hc.Entries.1 (fun x _=>by simp only [oQ,bL];rfl),qA]
def aFS (r:M.Response):Bool:=inR r.Type_ 1 4&&(inR r.Status 0 999&&(inR r.Version 0 1000000000000&&decide ((List.length r.Body:Int)≤60)))
theorem aGh (r:M.Response):tT r=some (aFS r):=by
 unfold tT aFS
 simp only [cZ,qA,bL]
theorem aDq (r:M.Response):nB r=some (aFS r):=by
 unfold nB aFS
 simp only [bN,qA,bL]
def aQA (l:List M.Cached) (k:Nat) (x:M.Cached):Bool:=(List.range k).all fun j => !((l[j]?).any (aEa x.Site x.Path))
def aCt (l:List M.Cached) (k:Nat):Bool:=(l[k]?).any fun x=>rR x.Site&&(rR x.Path&&(aFS x.Response&&aQA l k x))
def aE6 (l:List M.Cached):Bool:=(List.range l.length).all (aCt l)&&decide (l.length≤12)
theorem aGw {l:List M.Cached} (hl:l.length≤maxLen ∧ ∀x∈l,M.Cached.ok x):nE l=some (aE6 l):=by
 have hm:=le_max hl.1
 unfold nE aE6
 rw [jY (L:=eJ l) (g:=aCt l) (F:=some false) (E:=some (decide (l.length≤12))) hl.1 (fun n k hk => ?_) (fun n => ?_),bL]
 ·have hf:=hl.2 _ (qG hk)
  simp only [eJ]
  rw [if_pos (bB hk),aN hk,qA,bF (by omega),dP hf.Site,qA,dP hf.Path,qA,aGh,qA]
  rw [jY (N:=k) (L:=fQ l (k:Int) l[k] (fun _=>eJ l n ((k+1:Nat):Int))) (g:=fun j => !((l[j]?).any (aEa l[k].Site l[k].Path))) (F:=some false) (E:=eJ l n ((k+1:Nat):Int)) (by have:=hl.1;omega) (fun n j hj => ?_) (fun n => ?_)]
  ·unfold aCt aQA
   rw [qF hk,Option.any_some]
   simp only [aAL,aQU]
  ·have hj2:j<l.length:=by omega
   simp only [fQ]
   rw [if_pos (bB hj),aN hj2,qA,bF (by omega),aQU,qF hj2,Option.any_some,aAL]
   rfl
  ·simp only [fQ]
   rw [if_neg (by rw [aP];simp)]
 ·simp only [eJ]
  rw [if_neg (by rw [aP];simp)]
  simp;omega
theorem aHm {c:M.Cache} {Z:Option Bool} (hc:c.ok):eR c (fun _=>Z) fuel 0=if (List.range c.Entries.length).all (aCt c.Entries)=true then Z else some false:=by
 have hm:=le_max hc.Entries.1
 refine jY (L:=eR c (fun _=>Z)) hc.Entries.1 (fun n k hk => ?_) (fun n => ?_)
 ·have hf:=hc.Entries.2 _ (qG hk)
  simp only [eR]
  rw [if_pos (bB hk),aN hk,qA,bF (by omega),dA hf.Site,qA,dA hf.Path,qA,aEn hc,qA,aDq,qA,aED,aDw hk (by simp [aEa])]
  unfold aCt aQA
  rw [qF hk,Option.any_some]
  generalize eR c (fun _=>Z) n ((k+1:Nat):Int)=Y
  generalize rR c.Entries[k].Site=a
  generalize rR c.Entries[k].Path=b
  generalize aFS c.Entries[k].Response=d
  generalize (List.range k).all (fun j => !((c.Entries[j]?).any (aEa c.Entries[k].Site c.Entries[k].Path)))=e
  cases a<;>cases b<;>cases d<;>cases e<;>rfl
 ·simp only [eR]
  rw [if_neg (by rw [aP];simp)]
theorem aHo {c:M.Cache} {Z:Option Bool} (hc:c.ok):eC c (fun _=>Z) fuel 0=if (List.range c.Entries.length).all (aCt c.Entries)=true then Z else some false:=by
 have hm:=le_max hc.Entries.1
 refine jY (L:=eC c (fun _=>Z)) hc.Entries.1 (fun n k hk => ?_) (fun n => ?_)
 ·have hf:=hc.Entries.2 _ (qG hk)
  simp only [eC]
  rw [if_pos (bB hk),aN hk,qA,bF (by omega),dA hf.Site,qA,dA hf.Path,qA,aEn hc,qA,aDq,qA,aED,aDw hk (by simp [aEa])]
  unfold aCt aQA
  rw [qF hk,Option.any_some]
  generalize eC c (fun _=>Z) n ((k+1:Nat):Int)=Y
  generalize rR c.Entries[k].Site=a
  generalize rR c.Entries[k].Path=b
  generalize aFS c.Entries[k].Response=d
  generalize (List.range k).all (fun j => !((c.Entries[j]?).any (aEa c.Entries[k].Site c.Entries[k].Path)))=e
  cases a<;>cases b<;>cases d<;>cases e<;>rfl
 ·simp only [eC]
  rw [if_neg (by rw [aP];simp)]
def aFq (l:List M.Cache) (k:Nat):Bool:=(l[k]?).any (fun c=>inR c.Version 1 1000000000000&&aE6 c.Entries)&&(decide (k=0)||(l[k-1]?).any fun d=>(l[k]?).any fun c=>decide (d.Version<c.Version))
def aEv (s:M.aO):Bool:=(List.range s.Caches.length).all (aFq s.Caches)&&decide (s.Caches.length≤4)
theorem aHF {s:M.aO} (hs:s.ok):tY s=some (aEv s):=by
 have hm:=le_max hs.Caches.1
 unfold tY aEv
 rw [jY (L:=eF s) (g:=aFq s.Caches) (F:=some false) (E:=some (decide (s.Caches.length≤4))) hs.Caches.1 (fun n k hk => ?_) (fun n => ?_),bL]
 ·have hf:=hs.Caches.2 _ (qG hk)
  simp only [eF]
  rw [if_pos (bB hk),aN hk,qA,bF (by omega),cZ,qA,aGw hf.Entries]
  simp only [qA]
  unfold aFq
  rw [qF hk]
  generalize eF s n ((k+1:Nat):Int)=Z
  by_cases h0:k=0
  ·subst h0
   simp only [Option.any_some]
   generalize inR s.Caches[0].Version 1 1000000000000=a
   generalize aE6 s.Caches[0].Entries=b
   cases a<;>cases b<;>simp
  ·have e:IntKind.i64.wrap ((k:Int)-1)=((k-1:Nat):Int):=by rw [eX (by omega) (by omega)];omega
   have hk1:k-1<s.Caches.length:=by omega
   rw [if_pos (c:=(decide ((k:Int)>0))=true) (by simp;omega),e,aN hk1,qA,qF hk1]
   simp only [Option.any_some,h0,decide_false,Bool.false_or]
   generalize inR s.Caches[k].Version 1 1000000000000=a
   generalize aE6 s.Caches[k].Entries=b
   by_cases hc:s.Caches[k-1].Version<s.Caches[k].Version
   ·rw [if_neg (c:=(decide (s.Caches[k-1].Version≥s.Caches[k].Version))=true) (by simp;omega)]
    cases a<;>cases b<;>simp [hc]
   ·rw [if_pos (c:=(decide (s.Caches[k-1].Version≥s.Caches[k].Version))=true) (by simp;omega)]
    cases a<;>cases b<;>simp [hc]
 ·simp only [eF]
  rw [if_neg (by rw [aP];simp)]
  simp;omega
theorem aGj {s:M.aO} (hs:s.ok):sK s=some (aEv s):=by
 have hm:=le_max hs.Caches.1
 unfold sK aEv
 rw [jY (L:=eQ s) (g:=aFq s.Caches) (F:=some false) (E:=some (decide (s.Caches.length≤4))) hs.Caches.1 (fun n k hk => ?_) (fun n => ?_),bL]
 ·have hf:=hs.Caches.2 _ (qG hk)
  simp only [eQ]
  rw [if_pos (bB hk),aN hk,qA,bF (by omega),bN,qA,aHm hf,aHo hf]
  unfold aFq aE6
  rw [qF hk]
  generalize eQ s n ((k+1:Nat):Int)=Z
  have h12:(decide ((List.length s.Caches[k].Entries:Int)>12)) = !decide (s.Caches[k].Entries.length≤12):=by
   by_cases h:s.Caches[k].Entries.length≤12
   ·simp [h];omega
   ·simp [h];omega
  rw [h12]
  by_cases h0:k=0
  ·subst h0
   simp only [Option.any_some]
   generalize inR s.Caches[0].Version 1 1000000000000=a
   generalize (List.range s.Caches[0].Entries.length).all (aCt s.Caches[0].Entries)=b
   generalize decide (s.Caches[0].Entries.length≤12)=d
   cases a<;>cases b<;>cases d<;>simp
  ·have e:IntKind.i64.wrap ((k:Int)-1)=((k-1:Nat):Int):=by rw [eX (by omega) (by omega)];omega
   have hk1:k-1<s.Caches.length:=by omega
   rw [if_pos (c:=(decide ((k:Int)>0))=true) (by simp;omega),e,aN hk1,qA,qF hk1]
   simp only [Option.any_some,h0,decide_false,Bool.false_or]
   generalize inR s.Caches[k].Version 1 1000000000000=a
   generalize (List.range s.Caches[k].Entries.length).all (aCt s.Caches[k].Entries)=b
   generalize decide (s.Caches[k].Entries.length≤12)=d
   by_cases hc:s.Caches[k-1].Version<s.Caches[k].Version
   ·rw [if_neg (c:=(decide (s.Caches[k].Version≤s.Caches[k-1].Version))=true) (by simp;omega)]
    cases a<;>cases b<;>cases d<;>simp [hc]
   ·rw [if_pos (c:=(decide (s.Caches[k].Version≤s.Caches[k-1].Version))=true) (by simp;omega)]
    cases a<;>cases b<;>cases d<;>simp [hc]
 ·simp only [eQ]
  rw [if_neg (by rw [aP];simp)]
  simp;omega
end Go.Proofs.YtimblbmbfdopgaaGreat.gen
