/-
  Helper text. No conditions.
-/
import Derived.Test.YtidhkhdnjonjfaaGreatUpdateWorkerPc
set_option linter.unusedVariables false
set_option linter.unusedSimpArgs false
namespace Go.Proofs.YtidhkhdnjonjfaaGreat.gen
open Go Go.Sh
def aI8 (l:List M.Item) (k:Nat):Bool:=(l[k]?).any (fun x=>aJn x.Key&&aCG x.aU)&&(decide (k=0)||(l[k-1]?).any fun y=>(l[k]?).any fun x=>decide (kE y.Key x.Key<0))
def aDp (s:M.aJ):Bool:=(List.range s.Items.length).all (aI8 s.Items)&&(sG s.Name&&(decide (s.Items.length≤16)&&inR s.Auto 0 1000000))
def aG8 (x:M.aW):Bool:=inR x.Device 1 1000000&&(inR x.Seq 1 1000000&&(aJn x.Key&&(sG x.Field&&inR x.N 0 1000000000)))
def aFF (o:M.aV) (k:Nat):Bool:=(o.Writes[k]?).any fun x=>aG8 x&&((x.Device==o.Device)&&(x.Seq==IntKind.i64.wrap ((IntKind.i64.wrap (o.Next-(List.length o.Writes:Int)))+(k:Int))))
def aIT (o:M.aV):Bool:=(List.range o.Writes.length).all (aFF o)&&(inR o.Device 1 1000000&&(inR o.Next 1 1000000&&decide (o.Writes.length≤20)))
theorem aDd {s:M.aJ} (hs:s.ok):sJ s=some (aDp s):=by
 have hm:=le_max hs.Items.1
 unfold sJ aDp
 rw [lC (L:=hM s) (g:=aI8 s.Items) (F:=some false) (E:=some (sG s.Name&&(decide (s.Items.length≤16)&&inR s.Auto 0 1000000))) hs.Items.1 (fun n k hk => ?_) (fun n => ?_),bN]
 ·have hf:=hs.Items.2 _ (qG hk)
  simp only [hM]
  rw [if_pos (aY hk),aM hk,qA,bC (by omega),aCl hf.Key,qA,aE3 hf.aU,qA]
  unfold aI8
  rw [qF hk]
  generalize hM s n ((k+1:Nat):Int)=Z
  by_cases h0:k=0
  ·subst h0
   simp only [Option.any_some]
   generalize aJn s.Items[0].Key=a
   generalize aCG s.Items[0].aU=b
   cases a<;>cases b<;>simp
  ·have e:IntKind.i64.wrap ((k:Int)-1)=((k-1:Nat):Int):=by rw [fB (by omega) (by omega)];omega
   have hk1:k-1<s.Items.length:=by omega
   have hg:=hs.Items.2 _ (qG hk1)
   rw [if_pos (c:=(decide ((k:Int)>0))=true) (by simp;omega),e,aM hk1,qA,aDV hg.Key hf.Key,qA,qF hk1]
   simp only [Option.any_some,h0,decide_false,Bool.false_or]
   generalize aJn s.Items[k].Key=a
   generalize aCG s.Items[k].aU=b
   by_cases hc:kE s.Items[k-1].Key s.Items[k].Key<0
   ·rw [if_neg (c:=(decide (kE s.Items[k-1].Key s.Items[k].Key≥0))=true) (by simp;omega)]
    cases a<;>cases b<;>simp [hc]
   ·rw [if_pos (c:=(decide (kE s.Items[k-1].Key s.Items[k].Key≥0))=true) (by simp;omega)]
    cases a<;>cases b<;>simp [hc]
 ·simp only [hM]
  rw [if_neg (by rw [aO];simp),eU hs.Name,qA,dC,qA,bN,bN]
  congr 3
  simp;omega
theorem aCw {x:M.aW} (hx:x.ok):kB x=some (aG8 x):=by
 unfold kB aG8
 simp only [dC,aCl hx.Key,eU hx.Field,qA,bN]
theorem aDY {s:M.aJ} (hs:s.ok):sI s=some (aDp s):=by
 have hm:=le_max hs.Items.1
 unfold sI aDp
 rw [lC (L:=hO s) (g:=aI8 s.Items) (F:=some false) (E:=some (sG s.Name&&(decide (s.Items.length≤16)&&inR s.Auto 0 1000000))) hs.Items.1 (fun n k hk => ?_) (fun n => ?_),bN]
 ·have hf:=hs.Items.2 _ (qG hk)
  simp only [hO]
  rw [if_pos (aY hk),aM hk,qA,bC (by omega),aCd hf.Key,qA,aEk hf.aU,qA]
  unfold aI8
  rw [qF hk]
  generalize hO s n ((k+1:Nat):Int)=Z
  by_cases h0:k=0
  ·subst h0
   simp only [Option.any_some]
   generalize aJn s.Items[0].Key=a
   generalize aCG s.Items[0].aU=b
   cases a<;>cases b<;>simp
  ·have e:IntKind.i64.wrap ((k:Int)-1)=((k-1:Nat):Int):=by rw [fB (by omega) (by omega)];omega
   have hk1:k-1<s.Items.length:=by omega
   have hg:=hs.Items.2 _ (qG hk1)
   rw [if_pos (c:=(decide ((k:Int)>0))=true) (by simp;omega),e,aM hk1,qA,aDS hg.Key hf.Key,qA,qF hk1]
   simp only [Option.any_some,h0,decide_false,Bool.false_or]
   generalize aJn s.Items[k].Key=a
   generalize aCG s.Items[k].aU=b
   by_cases hc:kE s.Items[k-1].Key s.Items[k].Key<0
   ·rw [if_neg (c:=(decide (kE s.Items[k-1].Key s.Items[k].Key≥0))=true) (by simp;omega)]
    cases a<;>cases b<;>simp [hc]
   ·rw [if_pos (c:=(decide (kE s.Items[k-1].Key s.Items[k].Key≥0))=true) (by simp;omega)]
    cases a<;>cases b<;>simp [hc]
 ·simp only [hO]
  rw [if_neg (by rw [aO];simp),dV hs.Name,qA,bP,qA,bN,bN]
  congr 3
  simp;omega
theorem aCv {x:M.aW} (hx:x.ok):jW x=some (aG8 x):=by
 unfold jW aG8
 simp only [bP,aCd hx.Key,dV hx.Field,qA,bN]
theorem aJN {o:M.aV} (ho:o.ok):aAA o=some (aIT o):=by
 have hm:=le_max ho.Writes.1
 unfold aAA aIT
 rw [lC (L:=jS o) (g:=aFF o) (F:=some false) (E:=some true) ho.Writes.1 (fun n k hk => ?_) (fun n => ?_)]
 ·simp only [dC,qA]
  by_cases h:o.Writes.length≤20
  ·rw [if_neg (c:=(decide ((List.length o.Writes:Int)>20))=true) (by simp;omega)]
   cases (List.range o.Writes.length).all (aFF o)<;>cases inR o.Device 1 1000000<;>cases inR o.Next 1 1000000<;>simp [h]
  ·rw [if_pos (c:=(decide ((List.length o.Writes:Int)>20))=true) (by simp;omega)]
   cases inR o.Device 1 1000000<;>cases inR o.Next 1 1000000<;>simp [h]
 ·have hf:=ho.Writes.2 _ (qG hk)
  simp only [jS]
  rw [if_pos (aY hk),aM hk,qA,bC (by omega),aCw hf,qA]
  unfold aFF
  rw [qF hk,Option.any_some]
  simp only [aEH,aB8,aQ2]
 ·simp only [jS]
  rw [if_neg (by rw [aO];simp)]
theorem aJA {o:M.aV} (ho:o.ok):zI o=some (aIT o):=by
 have hm:=le_max ho.Writes.1
 unfold zI aIT
 rw [lC (L:=jT o) (g:=aFF o) (F:=some false) (E:=some (inR o.Device 1 1000000&&(inR o.Next 1 1000000&&decide (o.Writes.length≤20)))) ho.Writes.1 (fun n k hk => ?_) (fun n => ?_),bN]
 ·have hf:=ho.Writes.2 _ (qG hk)
  simp only [jT]
  rw [if_pos (aY hk),aM hk,qA,bC (by omega),aCv hf,qA]
  unfold aFF
  rw [qF hk,Option.any_some]
  simp only [aEH,aB8,aQ2]
 ·simp only [jT]
  rw [if_neg (by rw [aO];simp)]
  simp only [bP,qA,bN]
  congr 3
  simp;omega
def aGP (r:M.aE):Bool:=aDp r.Base&&((r.Base.Name.toList==(⟨#[110,111,116,101,115]⟩:ByteArray).toList)&&(inR r.Seen 0 1000000000000&&aIT r.Sync.aV))
theorem aHx {r:M.aE} (hr:r.ok):wK r=some (aGP r):=by
 unfold wK aGP
 simp only [aDd hr.Base,dC,aJN hr.Sync.aV,qA,bN]
theorem aH2 {r:M.aE} (hr:r.ok):xQ r=some (aGP r):=by
 unfold xQ aGP
 simp only [aDY hr.Base,bP,aJA hr.Sync.aV,qA,bN]
end Go.Proofs.YtidhkhdnjonjfaaGreat.gen
