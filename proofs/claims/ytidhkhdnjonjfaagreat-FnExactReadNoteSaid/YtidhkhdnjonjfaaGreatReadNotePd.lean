/-
  Helper text. No conditions.
-/
import Derived.Test.YtidhkhdnjonjfaaGreatReadNotePc
set_option linter.unusedVariables false
set_option linter.unusedSimpArgs false
namespace Go.Proofs.YtidhkhdnjonjfaaGreat.gen
open Go Go.Sh
def xI (l:List M.Item) (k:Nat):Bool:=(l[k]?).any (fun x=>wS x.Key&&bG x.aA)&&(decide (k=0)||(l[k-1]?).any fun y=>(l[k]?).any fun x=>decide (aY y.Key x.Key<0))
def fX (s:M.aC):Bool:=(List.range s.Items.length).all (xI s.Items)&&(tN s.Name&&(decide (s.Items.length≤16)&&inR s.Auto 0 1000000))
theorem zK {s:M.aC} (hs:s.ok):lN s=some (fX s):=by
 have hm:=le_max hs.Items.1
 unfold lN fX
 rw [aA7 (L:=eD s) (g:=xI s.Items) (F:=some false) (E:=some (tN s.Name&&(decide (s.Items.length≤16)&&inR s.Auto 0 1000000))) hs.Items.1 (fun n k hk => ?_) (fun n => ?_),lM]
 ·have hf:=hs.Items.2 _ (qG hk)
  simp only [eD]
  rw [if_pos (bD hk),aF hk,qA,bR (by omega),gZ hf.Key,qA,jR hf.aA,qA]
  unfold xI
  rw [qF hk]
  generalize eD s n ((k+1:Nat):Int)=Z
  by_cases h0:k=0
  ·subst h0
   simp only [Option.any_some]
   generalize wS s.Items[0].Key=a
   generalize bG s.Items[0].aA=b
   cases a<;>cases b<;>simp
  ·have e:IntKind.i64.wrap ((k:Int)-1)=((k-1:Nat):Int):=by rw [bS (by omega) (by omega)];omega
   have hk1:k-1<s.Items.length:=by omega
   have hg:=hs.Items.2 _ (qG hk1)
   rw [if_pos (c:=(decide ((k:Int)>0))=true) (by simp;omega),e,aF hk1,qA,lF hg.Key hf.Key,qA,qF hk1]
   simp only [Option.any_some,h0,decide_false,Bool.false_or]
   generalize wS s.Items[k].Key=a
   generalize bG s.Items[k].aA=b
   by_cases hc:aY s.Items[k-1].Key s.Items[k].Key<0
   ·rw [if_neg (c:=(decide (aY s.Items[k-1].Key s.Items[k].Key≥0))=true) (by simp;omega)]
    cases a<;>cases b<;>simp [hc]
   ·rw [if_pos (c:=(decide (aY s.Items[k-1].Key s.Items[k].Key≥0))=true) (by simp;omega)]
    cases a<;>cases b<;>simp [hc]
 ·simp only [eD]
  rw [if_neg (by rw [aJ];simp),sP hs.Name,qA,pU,qA,lM,lM]
  congr 3
  simp;omega
theorem xL {s:M.aC} (hs:s.ok):bE s=some (fX s):=by
 have hm:=le_max hs.Items.1
 unfold bE fX
 rw [aA7 (L:=eE s) (g:=xI s.Items) (F:=some false) (E:=some (tN s.Name&&(decide (s.Items.length≤16)&&inR s.Auto 0 1000000))) hs.Items.1 (fun n k hk => ?_) (fun n => ?_),lM]
 ·have hf:=hs.Items.2 _ (qG hk)
  simp only [eE]
  rw [if_pos (bD hk),aF hk,qA,bR (by omega),kM hf.Key,qA,pO hf.aA,qA]
  unfold xI
  rw [qF hk]
  generalize eE s n ((k+1:Nat):Int)=Z
  by_cases h0:k=0
  ·subst h0
   simp only [Option.any_some]
   generalize wS s.Items[0].Key=a
   generalize bG s.Items[0].aA=b
   cases a<;>cases b<;>simp
  ·have e:IntKind.i64.wrap ((k:Int)-1)=((k-1:Nat):Int):=by rw [bS (by omega) (by omega)];omega
   have hk1:k-1<s.Items.length:=by omega
   have hg:=hs.Items.2 _ (qG hk1)
   rw [if_pos (c:=(decide ((k:Int)>0))=true) (by simp;omega),e,aF hk1,qA,lD hg.Key hf.Key,qA,qF hk1]
   simp only [Option.any_some,h0,decide_false,Bool.false_or]
   generalize wS s.Items[k].Key=a
   generalize bG s.Items[k].aA=b
   by_cases hc:aY s.Items[k-1].Key s.Items[k].Key<0
   ·rw [if_neg (c:=(decide (aY s.Items[k-1].Key s.Items[k].Key≥0))=true) (by simp;omega)]
    cases a<;>cases b<;>simp [hc]
   ·rw [if_pos (c:=(decide (aY s.Items[k-1].Key s.Items[k].Key≥0))=true) (by simp;omega)]
    cases a<;>cases b<;>simp [hc]
 ·simp only [eE]
  rw [if_neg (by rw [aJ];simp),sI hs.Name,qA,lJ,qA,lM,lM]
  congr 3
  simp;omega
end Go.Proofs.YtidhkhdnjonjfaaGreat.gen
