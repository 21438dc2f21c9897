/-
  Helper text. No conditions.
-/
import Derived.Test.YtnhpbpnhmapeeaaGreatClosePagePc
namespace Go.Proofs.YtnhpbpnhmapeeaaGreat.gen
open Go Go.Sh
set_option linter.unusedVariables false
set_option linter.unusedSimpArgs false
def aGx (l:List M.Item) (k:Nat):Bool:=(l[k]?).any (fun x=>aHc x.Key&&aAu x.aU)&&(decide (k=0)||(l[k-1]?).any fun y=>(l[k]?).any fun x=>decide (jD y.Key x.Key<0))
def aB8 (s:M.aH):Bool:=(List.range s.Items.length).all (aGx s.Items)&&(pK s.Name&&(decide (s.Items.length≤16)&&inR s.Auto 0 1000000))
def aE4 (x:M.aY):Bool:=inR x.Device 1 1000000&&(inR x.Seq 1 1000000&&(aHc x.Key&&(pK x.Field&&inR x.N 0 1000000000)))
def aDH (o:M.aV) (k:Nat):Bool:=(o.Writes[k]?).any fun x=>aE4 x&&((x.Device==o.Device)&&(x.Seq==IntKind.i64.wrap ((IntKind.i64.wrap (o.Next-(List.length o.Writes:Int)))+(k:Int))))
def aGM (o:M.aV):Bool:=(List.range o.Writes.length).all (aDH o)&&(inR o.Device 1 1000000&&(inR o.Next 1 1000000&&decide (o.Writes.length≤20)))
theorem aB0 {s:M.aH} (hs:s.ok):pE s=some (aB8 s):=by
 have hm:=le_max hs.Items.1
 unfold pE aB8
 rw [jV (L:=gQ s) (g:=aGx s.Items) (F:=some false) (E:=some (pK s.Name&&(decide (s.Items.length≤16)&&inR s.Auto 0 1000000))) hs.Items.1 (fun n k hk => ?_) (fun n => ?_),bP]
 ·have hf:=hs.Items.2 _ (List.getElem_mem hk)
  simp only [gQ]
  rw [if_pos (aZ hk),aO hk,Option.bind_some,bB (by omega),aBH hf.Key,Option.bind_some,aC2 hf.aU,Option.bind_some]
  unfold aGx
  rw [List.getElem?_eq_getElem hk]
  generalize gQ s n ((k+1:Nat):Int)=Z
  by_cases h0:k=0
  ·subst h0
   simp only [Option.any_some]
   generalize aHc s.Items[0].Key=a
   generalize aAu s.Items[0].aU=b
   cases a<;>cases b<;>simp
  ·have e:IntKind.i64.wrap ((k:Int)-1)=((k-1:Nat):Int):=by rw [iT (by omega) (by omega)];omega
   have hk1:k-1<s.Items.length:=by omega
   have hg:=hs.Items.2 _ (List.getElem_mem hk1)
   rw [if_pos (c:=(decide ((k:Int)>0))=true) (by simp;omega),e,aO hk1,Option.bind_some,aBw hg.Key hf.Key,Option.bind_some,List.getElem?_eq_getElem hk1]
   simp only [Option.any_some,h0,decide_false,Bool.false_or]
   generalize aHc s.Items[k].Key=a
   generalize aAu s.Items[k].aU=b
   by_cases hc:jD s.Items[k-1].Key s.Items[k].Key<0
   ·rw [if_neg (c:=(decide (jD s.Items[k-1].Key s.Items[k].Key≥0))=true) (by simp;omega)]
    cases a<;>cases b<;>simp [hc]
   ·rw [if_pos (c:=(decide (jD s.Items[k-1].Key s.Items[k].Key≥0))=true) (by simp;omega)]
    cases a<;>cases b<;>simp [hc]
 ·simp only [gQ]
  rw [if_neg (by rw [aP];simp),eO hs.Name,Option.bind_some,dG,Option.bind_some,bP,bP]
  congr 3
  simp;omega
theorem aBS {x:M.aY} (hx:x.ok):iY x=some (aE4 x):=by
 unfold iY aE4
 simp only [dG,aBH hx.Key,eO hx.Field,Option.bind_some,bP]
theorem aBz {s:M.aH} (hs:s.ok):pD s=some (aB8 s):=by
 have hm:=le_max hs.Items.1
 unfold pD aB8
 rw [jV (L:=gR s) (g:=aGx s.Items) (F:=some false) (E:=some (pK s.Name&&(decide (s.Items.length≤16)&&inR s.Auto 0 1000000))) hs.Items.1 (fun n k hk => ?_) (fun n => ?_),bP]
 ·have hf:=hs.Items.2 _ (List.getElem_mem hk)
  simp only [gR]
  rw [if_pos (aZ hk),aO hk,Option.bind_some,bB (by omega),aBB hf.Key,Option.bind_some,aCk hf.aU,Option.bind_some]
  unfold aGx
  rw [List.getElem?_eq_getElem hk]
  generalize gR s n ((k+1:Nat):Int)=Z
  by_cases h0:k=0
  ·subst h0
   simp only [Option.any_some]
   generalize aHc s.Items[0].Key=a
   generalize aAu s.Items[0].aU=b
   cases a<;>cases b<;>simp
  ·have e:IntKind.i64.wrap ((k:Int)-1)=((k-1:Nat):Int):=by rw [iT (by omega) (by omega)];omega
   have hk1:k-1<s.Items.length:=by omega
   have hg:=hs.Items.2 _ (List.getElem_mem hk1)
   rw [if_pos (c:=(decide ((k:Int)>0))=true) (by simp;omega),e,aO hk1,Option.bind_some,aBu hg.Key hf.Key,Option.bind_some,List.getElem?_eq_getElem hk1]
   simp only [Option.any_some,h0,decide_false,Bool.false_or]
   generalize aHc s.Items[k].Key=a
   generalize aAu s.Items[k].aU=b
   by_cases hc:jD s.Items[k-1].Key s.Items[k].Key<0
   ·rw [if_neg (c:=(decide (jD s.Items[k-1].Key s.Items[k].Key≥0))=true) (by simp;omega)]
    cases a<;>cases b<;>simp [hc]
   ·rw [if_pos (c:=(decide (jD s.Items[k-1].Key s.Items[k].Key≥0))=true) (by simp;omega)]
    cases a<;>cases b<;>simp [hc]
 ·simp only [gR]
  rw [if_neg (by rw [aP];simp),dO hs.Name,Option.bind_some,bQ,Option.bind_some,bP,bP]
  congr 3
  simp;omega
theorem aBQ {x:M.aY} (hx:x.ok):iV x=some (aE4 x):=by
 unfold iV aE4
 simp only [bQ,aBB hx.Key,dO hx.Field,Option.bind_some,bP]
theorem aG9 {o:M.aV} (ho:o.ok):wR o=some (aGM o):=by
 have hm:=le_max ho.Writes.1
 unfold wR aGM
 rw [jV (L:=iN o) (g:=aDH o) (F:=some false) (E:=some true) ho.Writes.1 (fun n k hk => ?_) (fun n => ?_)]
 ·simp only [dG,Option.bind_some]
  by_cases h:o.Writes.length≤20
  ·rw [if_neg (c:=(decide ((List.length o.Writes:Int)>20))=true) (by simp;omega)]
   cases (List.range o.Writes.length).all (aDH o)<;>cases inR o.Device 1 1000000<;>cases inR o.Next 1 1000000<;>simp [h]
  ·rw [if_pos (c:=(decide ((List.length o.Writes:Int)>20))=true) (by simp;omega)]
   cases inR o.Device 1 1000000<;>cases inR o.Next 1 1000000<;>simp [h]
 ·have hf:=ho.Writes.2 _ (List.getElem_mem hk)
  simp only [iN]
  rw [if_pos (aZ hk),aO hk,Option.bind_some,bB (by omega),aBS hf,Option.bind_some]
  unfold aDH
  rw [List.getElem?_eq_getElem hk,Option.any_some]
  simp only [aCP,aAl,aN5]
 ·simp only [iN]
  rw [if_neg (by rw [aP];simp)]
theorem aGy {o:M.aV} (ho:o.ok):vX o=some (aGM o):=by
 have hm:=le_max ho.Writes.1
 unfold vX aGM
 rw [jV (L:=iO o) (g:=aDH o) (F:=some false) (E:=some (inR o.Device 1 1000000&&(inR o.Next 1 1000000&&decide (o.Writes.length≤20)))) ho.Writes.1 (fun n k hk => ?_) (fun n => ?_),bP]
 ·have hf:=ho.Writes.2 _ (List.getElem_mem hk)
  simp only [iO]
  rw [if_pos (aZ hk),aO hk,Option.bind_some,bB (by omega),aBQ hf,Option.bind_some]
  unfold aDH
  rw [List.getElem?_eq_getElem hk,Option.any_some]
  simp only [aCP,aAl,aN5]
 ·simp only [iO]
  rw [if_neg (by rw [aP];simp)]
  simp only [bQ,Option.bind_some,bP]
  congr 3
  simp;omega
def aEM (r:M.aD):Bool:=aB8 r.Base&&((r.Base.Name.toList==(⟨#[110,111,116,101,115]⟩:ByteArray).toList)&&(inR r.Seen 0 1000000000000&&aGM r.Sync.aV))
theorem aFm {r:M.aD} (hr:r.ok):sS r=some (aEM r):=by
 unfold sS aEM
 simp only [aB0 hr.Base,dG,aG9 hr.Sync.aV,Option.bind_some,bP]
theorem aFr {r:M.aD} (hr:r.ok):uD r=some (aEM r):=by
 unfold uD aEM
 simp only [aBz hr.Base,bQ,aGy hr.Sync.aV,Option.bind_some,bP]
end Go.Proofs.YtnhpbpnhmapeeaaGreat.gen
