/-
  Helper text. No conditions.
-/
import Derived.Test.YtnhpbpnhmapeeaaGreatSendNotePc
namespace Go.Proofs.YtnhpbpnhmapeeaaGreat.gen
open Go Go.Sh
set_option linter.unusedVariables false
set_option linter.unusedSimpArgs false
def aBF (l:List M.Item) (k:Nat):Bool:=(l[k]?).any (fun x=>aDy x.Key&&eR x.aH)&&(decide (k=0)||(l[k-1]?).any fun y=>(l[k]?).any fun x=>decide (dU y.Key x.Key<0))
def mU (s:M.aE):Bool:=(List.range s.Items.length).all (aBF s.Items)&&(aAL s.Name&&(decide (s.Items.length≤16)&&inR s.Auto 0 1000000))
def aGr (x:M.aV):Bool:=inR x.Device 1 1000000&&(inR x.Seq 1 1000000&&(aDy x.Key&&(aAL x.Field&&inR x.N 0 1000000000)))
def aDi (o:M.aN) (k:Nat):Bool:=(o.Writes[k]?).any fun x=>aGr x&&((x.Device==o.Device)&&(x.Seq==IntKind.i64.wrap ((IntKind.i64.wrap (o.Next-(List.length o.Writes:Int)))+(k:Int))))
def aBo (o:M.aN):Bool:=(List.range o.Writes.length).all (aDi o)&&(inR o.Device 1 1000000&&(inR o.Next 1 1000000&&decide (o.Writes.length≤20)))
theorem aCI {s:M.aE} (hs:s.ok):pK s=some (mU s):=by
 have hm:=le_max hs.Items.1
 unfold pK mU
 rw [aAD (L:=gO s) (g:=aBF s.Items) (F:=some false) (E:=some (aAL s.Name&&(decide (s.Items.length≤16)&&inR s.Auto 0 1000000))) hs.Items.1 (fun n k hk => ?_) (fun n => ?_),fX]
 ·have hf:=hs.Items.2 _ (List.getElem_mem hk)
  simp only [gO]
  rw [if_pos (bF hk),aQ hk,Option.bind_some,bH (by omega),aAK hf.Key,Option.bind_some,xF hf.aH,Option.bind_some]
  unfold aBF
  rw [List.getElem?_eq_getElem hk]
  generalize gO s n ((k+1:Nat):Int)=Z
  by_cases h0:k=0
  ·subst h0
   simp only [Option.any_some]
   generalize aDy s.Items[0].Key=a
   generalize eR s.Items[0].aH=b
   cases a<;>cases b<;>simp
  ·have e:IntKind.i64.wrap ((k:Int)-1)=((k-1:Nat):Int):=by rw [nK (by omega) (by omega)];omega
   have hk1:k-1<s.Items.length:=by omega
   have hg:=hs.Items.2 _ (List.getElem_mem hk1)
   rw [if_pos (c:=(decide ((k:Int)>0))=true) (by simp;omega),e,aQ hk1,Option.bind_some,aA6 hg.Key hf.Key,Option.bind_some,List.getElem?_eq_getElem hk1]
   simp only [Option.any_some,h0,decide_false,Bool.false_or]
   generalize aDy s.Items[k].Key=a
   generalize eR s.Items[k].aH=b
   by_cases hc:dU s.Items[k-1].Key s.Items[k].Key<0
   ·rw [if_neg (c:=(decide (dU s.Items[k-1].Key s.Items[k].Key≥0))=true) (by simp;omega)]
    cases a<;>cases b<;>simp [hc]
   ·rw [if_pos (c:=(decide (dU s.Items[k-1].Key s.Items[k].Key≥0))=true) (by simp;omega)]
    cases a<;>cases b<;>simp [hc]
 ·simp only [gO]
  rw [if_neg (by rw [aT];simp),iQ hs.Name,Option.bind_some,hP,Option.bind_some,fX,fX]
  congr 3
  simp;omega
theorem aDm {x:M.aV} (hx:x.ok):lJ x=some (aGr x):=by
 unfold lJ aGr
 simp only [hP,aAK hx.Key,iQ hx.Field,Option.bind_some,fX]
theorem aBG {s:M.aE} (hs:s.ok):bM s=some (mU s):=by
 have hm:=le_max hs.Items.1
 unfold bM mU
 rw [aAD (L:=gP s) (g:=aBF s.Items) (F:=some false) (E:=some (aAL s.Name&&(decide (s.Items.length≤16)&&inR s.Auto 0 1000000))) hs.Items.1 (fun n k hk => ?_) (fun n => ?_),fX]
 ·have hf:=hs.Items.2 _ (List.getElem_mem hk)
  simp only [gP]
  rw [if_pos (bF hk),aQ hk,Option.bind_some,bH (by omega),aAB hf.Key,Option.bind_some,aAX hf.aH,Option.bind_some]
  unfold aBF
  rw [List.getElem?_eq_getElem hk]
  generalize gP s n ((k+1:Nat):Int)=Z
  by_cases h0:k=0
  ·subst h0
   simp only [Option.any_some]
   generalize aDy s.Items[0].Key=a
   generalize eR s.Items[0].aH=b
   cases a<;>cases b<;>simp
  ·have e:IntKind.i64.wrap ((k:Int)-1)=((k-1:Nat):Int):=by rw [nK (by omega) (by omega)];omega
   have hk1:k-1<s.Items.length:=by omega
   have hg:=hs.Items.2 _ (List.getElem_mem hk1)
   rw [if_pos (c:=(decide ((k:Int)>0))=true) (by simp;omega),e,aQ hk1,Option.bind_some,aAo hg.Key hf.Key,Option.bind_some,List.getElem?_eq_getElem hk1]
   simp only [Option.any_some,h0,decide_false,Bool.false_or]
   generalize aDy s.Items[k].Key=a
   generalize eR s.Items[k].aH=b
   by_cases hc:dU s.Items[k-1].Key s.Items[k].Key<0
   ·rw [if_neg (c:=(decide (dU s.Items[k-1].Key s.Items[k].Key≥0))=true) (by simp;omega)]
    cases a<;>cases b<;>simp [hc]
   ·rw [if_pos (c:=(decide (dU s.Items[k-1].Key s.Items[k].Key≥0))=true) (by simp;omega)]
    cases a<;>cases b<;>simp [hc]
 ·simp only [gP]
  rw [if_neg (by rw [aT];simp),hJ hs.Name,Option.bind_some,fF,Option.bind_some,fX,fX]
  congr 3
  simp;omega
theorem aDj {x:M.aV} (hx:x.ok):lF x=some (aGr x):=by
 unfold lF aGr
 simp only [fF,aAB hx.Key,hJ hx.Field,Option.bind_some,fX]
theorem aB1 {o:M.aN} (ho:o.ok):nF o=some (aBo o):=by
 have hm:=le_max ho.Writes.1
 unfold nF aBo
 rw [aAD (L:=iK o) (g:=aDi o) (F:=some false) (E:=some true) ho.Writes.1 (fun n k hk => ?_) (fun n => ?_)]
 ·simp only [hP,Option.bind_some]
  by_cases h:o.Writes.length≤20
  ·rw [if_neg (c:=(decide ((List.length o.Writes:Int)>20))=true) (by simp;omega)]
   cases (List.range o.Writes.length).all (aDi o)<;>cases inR o.Device 1 1000000<;>cases inR o.Next 1 1000000<;>simp [h]
  ·rw [if_pos (c:=(decide ((List.length o.Writes:Int)>20))=true) (by simp;omega)]
   cases inR o.Device 1 1000000<;>cases inR o.Next 1 1000000<;>simp [h]
 ·have hf:=ho.Writes.2 _ (List.getElem_mem hk)
  simp only [iK]
  rw [if_pos (bF hk),aQ hk,Option.bind_some,bH (by omega),aDm hf,Option.bind_some]
  unfold aDi
  rw [List.getElem?_eq_getElem hk,Option.any_some]
  simp only [aGP,aCn,aPT]
 ·simp only [iK]
  rw [if_neg (by rw [aT];simp)]
theorem aBy {o:M.aN} (ho:o.ok):mW o=some (aBo o):=by
 have hm:=le_max ho.Writes.1
 unfold mW aBo
 rw [aAD (L:=iL o) (g:=aDi o) (F:=some false) (E:=some (inR o.Device 1 1000000&&(inR o.Next 1 1000000&&decide (o.Writes.length≤20)))) ho.Writes.1 (fun n k hk => ?_) (fun n => ?_),fX]
 ·have hf:=ho.Writes.2 _ (List.getElem_mem hk)
  simp only [iL]
  rw [if_pos (bF hk),aQ hk,Option.bind_some,bH (by omega),aDj hf,Option.bind_some]
  unfold aDi
  rw [List.getElem?_eq_getElem hk,Option.any_some]
  simp only [aGP,aCn,aPT]
 ·simp only [iL]
  rw [if_neg (by rw [aT];simp)]
  simp only [fF,Option.bind_some,fX]
  congr 3
  simp;omega
def aCA (r:M.aC):Bool:=mU r.Base&&((r.Base.Name.toList==(⟨#[110,111,116,101,115]⟩:ByteArray).toList)&&(inR r.Seen 0 1000000000000&&aBo r.Sync.aN))
theorem aCr {r:M.aC} (hr:r.ok):nW r=some (aCA r):=by
 unfold nW aCA
 simp only [aCI hr.Base,hP,aB1 hr.Sync.aN,Option.bind_some,fX]
theorem aCt {r:M.aC} (hr:r.ok):oE r=some (aCA r):=by
 unfold oE aCA
 simp only [aBG hr.Base,fF,aBy hr.Sync.aN,Option.bind_some,fX]
end Go.Proofs.YtnhpbpnhmapeeaaGreat.gen
