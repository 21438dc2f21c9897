/-
  Helper text. No conditions.
-/
import Derived.Test.YtnhpbpnhmapeeaaGreatActivateWorkerPc
namespace Go.Proofs.YtnhpbpnhmapeeaaGreat.gen
open Go Go.Sh
set_option linter.unusedVariables false
set_option linter.unusedSimpArgs false
def aHK (l:List M.Item) (k:Nat):Bool:=(l[k]?).any (fun x=>aH1 x.Key&&aBA x.aU)&&(decide (k=0)||(l[k-1]?).any fun y=>(l[k]?).any fun x=>decide (jH y.Key x.Key<0))
def aCb (s:M.aH):Bool:=(List.range s.Items.length).all (aHK s.Items)&&(pV s.Name&&(decide (s.Items.length≤16)&&inR s.Auto 0 1000000))
def aFT (x:M.aY):Bool:=inR x.Device 1 1000000&&(inR x.Seq 1 1000000&&(aH1 x.Key&&(pV x.Field&&inR x.N 0 1000000000)))
def aDj (o:M.aV) (k:Nat):Bool:=(o.Writes[k]?).any fun x=>aFT x&&((x.Device==o.Device)&&(x.Seq==IntKind.i64.wrap ((IntKind.i64.wrap (o.Next-(List.length o.Writes:Int)))+(k:Int))))
def aGl (o:M.aV):Bool:=(List.range o.Writes.length).all (aDj o)&&(inR o.Device 1 1000000&&(inR o.Next 1 1000000&&decide (o.Writes.length≤20)))
theorem aCS {s:M.aH} (hs:s.ok):pO s=some (aCb s):=by
 have hm:=le_max hs.Items.1
 unfold pO aCb
 rw [kB (L:=gX s) (g:=aHK s.Items) (F:=some false) (E:=some (pV s.Name&&(decide (s.Items.length≤16)&&inR s.Auto 0 1000000))) hs.Items.1 (fun n k hk => ?_) (fun n => ?_),bM]
 ·have hf:=hs.Items.2 _ (List.getElem_mem hk)
  simp only [gX]
  rw [if_pos (aZ hk),aO hk,Option.bind_some,bD (by omega),aBf hf.Key,Option.bind_some,aDV hf.aU,Option.bind_some]
  unfold aHK
  rw [List.getElem?_eq_getElem hk]
  generalize gX s n ((k+1:Nat):Int)=Z
  by_cases h0:k=0
  ·subst h0
   simp only [Option.any_some]
   generalize aH1 s.Items[0].Key=a
   generalize aBA s.Items[0].aU=b
   cases a<;>cases b<;>simp
  ·have e:IntKind.i64.wrap ((k:Int)-1)=((k-1:Nat):Int):=by rw [jA (by omega) (by omega)];omega
   have hk1:k-1<s.Items.length:=by omega
   have hg:=hs.Items.2 _ (List.getElem_mem hk1)
   rw [if_pos (c:=(decide ((k:Int)>0))=true) (by simp;omega),e,aO hk1,Option.bind_some,aCL hg.Key hf.Key,Option.bind_some,List.getElem?_eq_getElem hk1]
   simp only [Option.any_some,h0,decide_false,Bool.false_or]
   generalize aH1 s.Items[k].Key=a
   generalize aBA s.Items[k].aU=b
   by_cases hc:jH s.Items[k-1].Key s.Items[k].Key<0
   ·rw [if_neg (c:=(decide (jH s.Items[k-1].Key s.Items[k].Key≥0))=true) (by simp;omega)]
    cases a<;>cases b<;>simp [hc]
   ·rw [if_pos (c:=(decide (jH s.Items[k-1].Key s.Items[k].Key≥0))=true) (by simp;omega)]
    cases a<;>cases b<;>simp [hc]
 ·simp only [gX]
  rw [if_neg (by rw [aP];simp),eO hs.Name,Option.bind_some,dG,Option.bind_some,bM,bM]
  congr 3
  simp;omega
theorem aBp {x:M.aY} (hx:x.ok):jE x=some (aFT x):=by
 unfold jE aFT
 simp only [dG,aBf hx.Key,eO hx.Field,Option.bind_some,bM]
theorem aCO {s:M.aH} (hs:s.ok):pN s=some (aCb s):=by
 have hm:=le_max hs.Items.1
 unfold pN aCb
 rw [kB (L:=gY s) (g:=aHK s.Items) (F:=some false) (E:=some (pV s.Name&&(decide (s.Items.length≤16)&&inR s.Auto 0 1000000))) hs.Items.1 (fun n k hk => ?_) (fun n => ?_),bM]
 ·have hf:=hs.Items.2 _ (List.getElem_mem hk)
  simp only [gY]
  rw [if_pos (aZ hk),aO hk,Option.bind_some,bD (by omega),aBZ hf.Key,Option.bind_some,aDF hf.aU,Option.bind_some]
  unfold aHK
  rw [List.getElem?_eq_getElem hk]
  generalize gY s n ((k+1:Nat):Int)=Z
  by_cases h0:k=0
  ·subst h0
   simp only [Option.any_some]
   generalize aH1 s.Items[0].Key=a
   generalize aBA s.Items[0].aU=b
   cases a<;>cases b<;>simp
  ·have e:IntKind.i64.wrap ((k:Int)-1)=((k-1:Nat):Int):=by rw [jA (by omega) (by omega)];omega
   have hk1:k-1<s.Items.length:=by omega
   have hg:=hs.Items.2 _ (List.getElem_mem hk1)
   rw [if_pos (c:=(decide ((k:Int)>0))=true) (by simp;omega),e,aO hk1,Option.bind_some,aCJ hg.Key hf.Key,Option.bind_some,List.getElem?_eq_getElem hk1]
   simp only [Option.any_some,h0,decide_false,Bool.false_or]
   generalize aH1 s.Items[k].Key=a
   generalize aBA s.Items[k].aU=b
   by_cases hc:jH s.Items[k-1].Key s.Items[k].Key<0
   ·rw [if_neg (c:=(decide (jH s.Items[k-1].Key s.Items[k].Key≥0))=true) (by simp;omega)]
    cases a<;>cases b<;>simp [hc]
   ·rw [if_pos (c:=(decide (jH s.Items[k-1].Key s.Items[k].Key≥0))=true) (by simp;omega)]
    cases a<;>cases b<;>simp [hc]
 ·simp only [gY]
  rw [if_neg (by rw [aP];simp),dO hs.Name,Option.bind_some,bN,Option.bind_some,bM,bM]
  congr 3
  simp;omega
theorem aBn {x:M.aY} (hx:x.ok):jB x=some (aFT x):=by
 unfold jB aFT
 simp only [bN,aBZ hx.Key,dO hx.Field,Option.bind_some,bM]
theorem aHX {o:M.aV} (ho:o.ok):xJ o=some (aGl o):=by
 have hm:=le_max ho.Writes.1
 unfold xJ aGl
 rw [kB (L:=iW o) (g:=aDj o) (F:=some false) (E:=some true) ho.Writes.1 (fun n k hk => ?_) (fun n => ?_)]
 ·simp only [dG,Option.bind_some]
  by_cases h:o.Writes.length≤20
  ·rw [if_neg (c:=(decide ((List.length o.Writes:Int)>20))=true) (by simp;omega)]
   cases (List.range o.Writes.length).all (aDj o)<;>cases inR o.Device 1 1000000<;>cases inR o.Next 1 1000000<;>simp [h]
  ·rw [if_pos (c:=(decide ((List.length o.Writes:Int)>20))=true) (by simp;omega)]
   cases inR o.Device 1 1000000<;>cases inR o.Next 1 1000000<;>simp [h]
 ·have hf:=ho.Writes.2 _ (List.getElem_mem hk)
  simp only [iW]
  rw [if_pos (aZ hk),aO hk,Option.bind_some,bD (by omega),aBp hf,Option.bind_some]
  unfold aDj
  rw [List.getElem?_eq_getElem hk,Option.any_some]
  simp only [aCr,aA2,aOr]
 ·simp only [iW]
  rw [if_neg (by rw [aP];simp)]
theorem aHL {o:M.aV} (ho:o.ok):wN o=some (aGl o):=by
 have hm:=le_max ho.Writes.1
 unfold wN aGl
 rw [kB (L:=iX o) (g:=aDj o) (F:=some false) (E:=some (inR o.Device 1 1000000&&(inR o.Next 1 1000000&&decide (o.Writes.length≤20)))) ho.Writes.1 (fun n k hk => ?_) (fun n => ?_),bM]
 ·have hf:=ho.Writes.2 _ (List.getElem_mem hk)
  simp only [iX]
  rw [if_pos (aZ hk),aO hk,Option.bind_some,bD (by omega),aBn hf,Option.bind_some]
  unfold aDj
  rw [List.getElem?_eq_getElem hk,Option.any_some]
  simp only [aCr,aA2,aOr]
 ·simp only [iX]
  rw [if_neg (by rw [aP];simp)]
  simp only [bN,Option.bind_some,bM]
  congr 3
  simp;omega
def aEp (r:M.aE):Bool:=aCb r.Base&&((r.Base.Name.toList==(⟨#[110,111,116,101,115]⟩:ByteArray).toList)&&(inR r.Seen 0 1000000000000&&aGl r.Sync.aV))
theorem aGB {r:M.aE} (hr:r.ok):tK r=some (aEp r):=by
 unfold tK aEp
 simp only [aCS hr.Base,dG,aHX hr.Sync.aV,Option.bind_some,bM]
theorem aGF {r:M.aE} (hr:r.ok):uQ r=some (aEp r):=by
 unfold uQ aEp
 simp only [aCO hr.Base,bN,aHL hr.Sync.aV,Option.bind_some,bM]
end Go.Proofs.YtnhpbpnhmapeeaaGreat.gen
