/-
  Helper text. No conditions.
-/
import Derived.Test.YtimblbmbfdopgaaGreatOpenPagePc
set_option linter.unusedVariables false
set_option linter.unusedSimpArgs false
namespace Go.Proofs.YtimblbmbfdopgaaGreat.gen
open Go Go.Sh
def aIe (l:List M.Item) (k:Nat):Bool:=(l[k]?).any (fun x=>aJJ x.Key&&aCB x.aW)&&(decide (k=0)||(l[k-1]?).any fun y=>(l[k]?).any fun x=>decide (kB y.Key x.Key<0))
def aDl (s:M.aH):Bool:=(List.range s.Items.length).all (aIe s.Items)&&(rR s.Name&&(decide (s.Items.length≤16)&&inR s.Auto 0 1000000))
def aGx (x:M.aZ):Bool:=inR x.Device 1 1000000&&(inR x.Seq 1 1000000&&(aJJ x.Key&&(rR x.Field&&inR x.N 0 1000000000)))
def aFD (o:M.aR) (k:Nat):Bool:=(o.Writes[k]?).any fun x=>aGx x&&((x.Device==o.Device)&&(x.Seq==IntKind.i64.wrap ((IntKind.i64.wrap (o.Next-(List.length o.Writes:Int)))+(k:Int))))
def aEY (o:M.aR):Bool:=(List.range o.Writes.length).all (aFD o)&&(inR o.Device 1 1000000&&(inR o.Next 1 1000000&&decide (o.Writes.length≤20)))
theorem aDa {s:M.aH} (hs:s.ok):rX s=some (aDl s):=by
 have hm:=le_max hs.Items.1
 unfold rX aDl
 rw [jY (L:=gU s) (g:=aIe s.Items) (F:=some false) (E:=some (rR s.Name&&(decide (s.Items.length≤16)&&inR s.Auto 0 1000000))) hs.Items.1 (fun n k hk => ?_) (fun n => ?_),bL]
 ·have hf:=hs.Items.2 _ (qG hk)
  simp only [gU]
  rw [if_pos (bB hk),aN hk,qA,bF (by omega),aCg hf.Key,qA,aE1 hf.aW,qA]
  unfold aIe
  rw [qF hk]
  generalize gU s n ((k+1:Nat):Int)=Z
  by_cases h0:k=0
  ·subst h0
   simp only [Option.any_some]
   generalize aJJ s.Items[0].Key=a
   generalize aCB s.Items[0].aW=b
   cases a<;>cases b<;>simp
  ·have e:IntKind.i64.wrap ((k:Int)-1)=((k-1:Nat):Int):=by rw [eX (by omega) (by omega)];omega
   have hk1:k-1<s.Items.length:=by omega
   have hg:=hs.Items.2 _ (qG hk1)
   rw [if_pos (c:=(decide ((k:Int)>0))=true) (by simp;omega),e,aN hk1,qA,aDS hg.Key hf.Key,qA,qF hk1]
   simp only [Option.any_some,h0,decide_false,Bool.false_or]
   generalize aJJ s.Items[k].Key=a
   generalize aCB s.Items[k].aW=b
   by_cases hc:kB s.Items[k-1].Key s.Items[k].Key<0
   ·rw [if_neg (c:=(decide (kB s.Items[k-1].Key s.Items[k].Key≥0))=true) (by simp;omega)]
    cases a<;>cases b<;>simp [hc]
   ·rw [if_pos (c:=(decide (kB s.Items[k-1].Key s.Items[k].Key≥0))=true) (by simp;omega)]
    cases a<;>cases b<;>simp [hc]
 ·simp only [gU]
  rw [if_neg (by rw [aP];simp),dP hs.Name,qA,cZ,qA,bL,bL]
  congr 3
  simp;omega
theorem aCq {x:M.aZ} (hx:x.ok):jX x=some (aGx x):=by
 unfold jX aGx
 simp only [cZ,aCg hx.Key,dP hx.Field,qA,bL]
theorem aDV {s:M.aH} (hs:s.ok):rV s=some (aDl s):=by
 have hm:=le_max hs.Items.1
 unfold rV aDl
 rw [jY (L:=gV s) (g:=aIe s.Items) (F:=some false) (E:=some (rR s.Name&&(decide (s.Items.length≤16)&&inR s.Auto 0 1000000))) hs.Items.1 (fun n k hk => ?_) (fun n => ?_),bL]
 ·have hf:=hs.Items.2 _ (qG hk)
  simp only [gV]
  rw [if_pos (bB hk),aN hk,qA,bF (by omega),aCX hf.Key,qA,aEf hf.aW,qA]
  unfold aIe
  rw [qF hk]
  generalize gV s n ((k+1:Nat):Int)=Z
  by_cases h0:k=0
  ·subst h0
   simp only [Option.any_some]
   generalize aJJ s.Items[0].Key=a
   generalize aCB s.Items[0].aW=b
   cases a<;>cases b<;>simp
  ·have e:IntKind.i64.wrap ((k:Int)-1)=((k-1:Nat):Int):=by rw [eX (by omega) (by omega)];omega
   have hk1:k-1<s.Items.length:=by omega
   have hg:=hs.Items.2 _ (qG hk1)
   rw [if_pos (c:=(decide ((k:Int)>0))=true) (by simp;omega),e,aN hk1,qA,aDO hg.Key hf.Key,qA,qF hk1]
   simp only [Option.any_some,h0,decide_false,Bool.false_or]
   generalize aJJ s.Items[k].Key=a
   generalize aCB s.Items[k].aW=b
   by_cases hc:kB s.Items[k-1].Key s.Items[k].Key<0
   ·rw [if_neg (c:=(decide (kB s.Items[k-1].Key s.Items[k].Key≥0))=true) (by simp;omega)]
    cases a<;>cases b<;>simp [hc]
   ·rw [if_pos (c:=(decide (kB s.Items[k-1].Key s.Items[k].Key≥0))=true) (by simp;omega)]
    cases a<;>cases b<;>simp [hc]
 ·simp only [gV]
  rw [if_neg (by rw [aP];simp),dA hs.Name,qA,bN,qA,bL,bL]
  congr 3
  simp;omega
theorem aCp {x:M.aZ} (hx:x.ok):jU x=some (aGx x):=by
 unfold jU aGx
 simp only [bN,aCX hx.Key,dA hx.Field,qA,bL]
theorem aE0 {o:M.aR} (ho:o.ok):uC o=some (aEY o):=by
 have hm:=le_max ho.Writes.1
 unfold uC aEY
 rw [jY (L:=jL o) (g:=aFD o) (F:=some false) (E:=some true) ho.Writes.1 (fun n k hk => ?_) (fun n => ?_)]
 ·simp only [cZ,qA]
  by_cases h:o.Writes.length≤20
  ·rw [if_neg (c:=(decide ((List.length o.Writes:Int)>20))=true) (by simp;omega)]
   cases (List.range o.Writes.length).all (aFD o)<;>cases inR o.Device 1 1000000<;>cases inR o.Next 1 1000000<;>simp [h]
  ·rw [if_pos (c:=(decide ((List.length o.Writes:Int)>20))=true) (by simp;omega)]
   cases inR o.Device 1 1000000<;>cases inR o.Next 1 1000000<;>simp [h]
 ·have hf:=ho.Writes.2 _ (qG hk)
  simp only [jL]
  rw [if_pos (bB hk),aN hk,qA,bF (by omega),aCq hf,qA]
  unfold aFD
  rw [qF hk,Option.any_some]
  simp only [aED,aAL,aQU]
 ·simp only [jL]
  rw [if_neg (by rw [aP];simp)]
theorem aEr {o:M.aR} (ho:o.ok):sZ o=some (aEY o):=by
 have hm:=le_max ho.Writes.1
 unfold sZ aEY
 rw [jY (L:=jM o) (g:=aFD o) (F:=some false) (E:=some (inR o.Device 1 1000000&&(inR o.Next 1 1000000&&decide (o.Writes.length≤20)))) ho.Writes.1 (fun n k hk => ?_) (fun n => ?_),bL]
 ·have hf:=ho.Writes.2 _ (qG hk)
  simp only [jM]
  rw [if_pos (bB hk),aN hk,qA,bF (by omega),aCp hf,qA]
  unfold aFD
  rw [qF hk,Option.any_some]
  simp only [aED,aAL,aQU]
 ·simp only [jM]
  rw [if_neg (by rw [aP];simp)]
  simp only [bN,qA,bL]
  congr 3
  simp;omega
def aGH (r:M.aD):Bool:=aDl r.Base&&((r.Base.Name.toList==(⟨#[110,111,116,101,115]⟩:ByteArray).toList)&&(inR r.Seen 0 1000000000000&&aEY r.Sync.aR))
theorem aHd {r:M.aD} (hr:r.ok):wG r=some (aGH r):=by
 unfold wG aGH
 simp only [aDa hr.Base,cZ,aE0 hr.Sync.aR,qA,bL]
theorem aHi {r:M.aD} (hr:r.ok):xK r=some (aGH r):=by
 unfold xK aGH
 simp only [aDV hr.Base,bN,aEr hr.Sync.aR,qA,bL]
end Go.Proofs.YtimblbmbfdopgaaGreat.gen
