/-
  Helper text. No conditions.
-/
import Derived.Test.YtidhkhdnjonjfaaGreatReadNotePz
set_option linter.unusedVariables false
set_option linter.unusedSimpArgs false
namespace Go.Proofs.YtidhkhdnjonjfaaGreat.gen
open Go Go.Sh
theorem pU (x a b:Int):dW x a b=some (inR x a b):=by
 unfold dW inR
 by_cases h:a≤x
 ·rw [if_pos (by simpa using h)];simp [h]
 ·rw [if_neg (by simpa using h)];simp [h]
theorem lJ (x a b:Int):cX x a b=some (inR x a b):=by
 unfold cX inR
 by_cases h:a≤x
 ·rw [if_pos (by simpa using h)];simp [h]
 ·rw [if_neg (by simpa using h)];simp [h]
def aF8 (b:UInt8):Bool:=(decide (97≤b.toNat)&&decide (b.toNat≤122))||(decide (48≤b.toNat)&&decide (b.toNat≤57))
def aFV (s:ByteArray):Bool:=aJp s aF8&&decide (s.size≤12)
theorem aEZ {s:ByteArray} (hs:s.size≤maxLen):sA s=some (aFV s):=by
 have hm:=le_max hs
 unfold sA aFV
 rw [aCq (L:=dY s) (g:=aF8) (F:=some false) (E:=some (decide (s.size≤12))) hs (fun n k hk => ?_) (fun n => ?_),lM]
 ·simp only [dY]
  rw [if_pos (bD hk),aCm hk,qA,bR (by omega)]
  generalize s[k]=b
  unfold aF8
  generalize dY s n ((k+1:Nat):Int)=Z
  simp only [Bool.or_eq_true,qM,qL,Bool.not_eq_true',decide_eq_false_iff_not]
  repeat' split
  all_goals first | rfl | (exfalso;omega)
 ·simp only [dY]
  rw [if_neg (by rw [aJ];simp)]
  simp;omega
theorem aCX {s:ByteArray} (hs:s.size≤maxLen):nG s=some (aFV s):=by
 have hm:=le_max hs
 unfold nG aFV
 rw [aCq (L:=cJ s) (g:=aF8) (F:=some false) (E:=some (decide (s.size≤12))) hs (fun n k hk => ?_) (fun n => ?_),lM]
 ·simp only [cJ]
  rw [if_pos (bD hk),aCm hk,qA,bR (by omega)]
  generalize s[k]=b
  unfold aF8
  generalize cJ s n ((k+1:Nat):Int)=Z
  simp only [Bool.or_eq_true,qM,qL,Bool.not_eq_true',decide_eq_false_iff_not]
  repeat' split
  all_goals first | rfl | (exfalso;omega)
 ·simp only [cJ]
  rw [if_neg (by rw [aJ];simp)]
  simp;omega
def wS (k:M.Key):Bool:=inR k.Kind 1 3&&(inR k.N (-1000000000000) 1000000000000&&(aFV k.Text&&((k.Kind != 2||k.N==0)&&(k.Kind != 1||(k.Text.toList==(⟨#[]⟩:ByteArray).toList)))))
theorem gZ {k:M.Key} (hk:k.ok):dI k=some (wS k):=by
 have ht:=aEZ hk.Text
 unfold dI wS
 simp only [pU,ht,qA]
 generalize inR k.Kind 1 3=a
 generalize inR k.N (-1000000000000) 1000000000000=b
 generalize aFV k.Text=c
 generalize (k.Text.toList==(⟨#[]⟩:ByteArray).toList)=g
 by_cases h1:k.Kind=2<;>by_cases h2:k.Kind=1<;>by_cases h3:k.N=0<;>cases a<;>cases b<;>cases c<;>cases g<;>simp [h1,h2,h3]<;>omega
theorem kM {k:M.Key} (hk:k.ok):eH k=some (wS k):=by
 have ht:=aCX hk.Text
 unfold eH wS
 simp only [lJ,ht,qA]
 generalize inR k.Kind 1 3=a
 generalize inR k.N (-1000000000000) 1000000000000=b
 generalize aFV k.Text=c
 generalize (k.Text.toList==(⟨#[]⟩:ByteArray).toList)=g
 by_cases h1:k.Kind=2<;>by_cases h2:k.Kind=1<;>by_cases h3:k.N=0<;>cases a<;>cases b<;>cases c<;>cases g<;>simp [h1,h2,h3]<;>omega
theorem aBk {k:M.Key} (h:wS k=true):k.Text.size≤12:=by
 unfold wS aFV at h
 simp only [qM,qL] at h
 omega
def aD6 (sl:Bool) (b:UInt8):Bool:=(decide (97≤b.toNat)&&decide (b.toNat≤122))||(sl&&decide (b.toNat=47))
def aL4 (s:ByteArray) (n:Int) (sl:Bool):Bool:=aJp s (aD6 sl)&&inR (s.size:Int) 1 n
def tN (s:ByteArray):Bool:=aJp s (aD6 false)&&inR (s.size:Int) 1 8
theorem sP {s:ByteArray} (hs:s.size≤maxLen):fL s=some (tN s):=by
 have hm:=le_max hs
 unfold fL tN
 rw [aCq (L:=fT s) (g:=aD6 false) (F:=some false) (E:=some (inR (s.size:Int) 1 8)) hs (fun n k hk => ?_) (fun n => ?_),lM]
 ·simp only [fT]
  rw [if_pos (bD hk),aCm hk,qA,bR (by omega)]
  generalize s[k]=b
  unfold aD6
  generalize fT s n ((k+1:Nat):Int)=Z
  simp only [Bool.or_eq_true,qM,qL,Bool.not_eq_true',decide_eq_false_iff_not,Bool.false_and,Bool.or_false]
  repeat' split
  all_goals first | rfl | (exfalso;omega)
 ·simp only [fT]
  rw [if_neg (by rw [aJ];simp),pU,qA]
theorem aET {s:ByteArray} {m:Int} {sl:Bool} (hs:s.size≤maxLen):vU s m sl=some (aL4 s m sl):=by
 have hm:=le_max hs
 unfold vU aL4
 rw [aCq (L:=dZ s m sl) (g:=aD6 sl) (F:=some false) (E:=some (inR (s.size:Int) 1 m)) hs (fun n k hk => ?_) (fun n => ?_),lM]
 ·simp only [dZ]
  rw [if_pos (bD hk),aCm hk,qA,bR (by omega)]
  generalize s[k]=b
  unfold aD6
  generalize dZ s m sl n ((k+1:Nat):Int)=Z
  cases sl<;>simp only [Bool.or_eq_true,qM,qL,Bool.not_eq_true',decide_eq_false_iff_not,Bool.false_and,Bool.or_false,Bool.true_and,beq_eq_false_iff_ne,ne_eq,qD,if_true,if_false]
  all_goals repeat' split
  all_goals first | rfl | (exfalso;omega)
 ·simp only [dZ]
  rw [if_neg (by rw [aJ];simp),lJ,qA]
theorem sI {s:ByteArray} (hs:s.size≤maxLen):fM s=some (tN s):=by
 unfold fM
 rw [aET hs,qA]
 rfl
def aHG (x:M.Field):Bool:=tN x.Name&&inR x.N 0 1000000000
def aAE (l:List M.Field) (k:Nat):Bool:=(l[k]?).any aHG&&(decide (k=0)||(l[k-1]?).any fun y=>(l[k]?).any fun x=>Op.bytesLess y.Name.toList x.Name.toList)
def bG (r:M.aA):Bool:=(List.range r.Fields.length).all (aAE r.Fields)&&decide (r.Fields.length≤6)
theorem jR {r:M.aA} (hr:r.ok):bB r=some (bG r):=by
 have hm:=le_max hr.Fields.1
 unfold bB bG
 rw [aA7 (L:=dP r) (g:=aAE r.Fields) (F:=some false) (E:=some (decide (r.Fields.length≤6))) hr.Fields.1 (fun n k hk => ?_) (fun n => ?_),lM]
 ·have hf:=hr.Fields.2 _ (qG hk)
  simp only [dP]
  rw [if_pos (bD hk),aF hk,qA,bR (by omega),sP hf.Name,qA,pU,qA]
  unfold aAE aHG
  rw [qF hk]
  generalize dP r n ((k+1:Nat):Int)=Z
  by_cases h0:k=0
  ·subst h0
   simp only [Option.any_some]
   generalize tN r.Fields[0].Name=a
   generalize inR r.Fields[0].N 0 1000000000=b
   cases a<;>cases b<;>simp
  ·have e:IntKind.i64.wrap ((k:Int)-1)=((k-1:Nat):Int):=by rw [bS (by omega) (by omega)];omega
   have hk1:k-1<r.Fields.length:=by omega
   rw [if_pos (c:=(decide ((k:Int)>0))=true) (by simp;omega),e,aF hk1,qA,qF hk1]
   simp only [Option.any_some,h0,decide_false,Bool.false_or]
   generalize tN r.Fields[k].Name=a
   generalize inR r.Fields[k].N 0 1000000000=b
   generalize Op.bytesLess r.Fields[k-1].Name.toList r.Fields[k].Name.toList=c
   cases a<;>cases b<;>cases c<;>simp
 ·simp only [dP]
  rw [if_neg (by rw [aJ];simp)]
  simp;omega
theorem pO {r:M.aA} (hr:r.ok):bL r=some (bG r):=by
 have hm:=le_max hr.Fields.1
 unfold bL bG
 rw [aA7 (L:=dQ r) (g:=aAE r.Fields) (F:=some false) (E:=some (decide (r.Fields.length≤6))) hr.Fields.1 (fun n k hk => ?_) (fun n => ?_),lM]
 ·have hf:=hr.Fields.2 _ (qG hk)
  simp only [dQ]
  rw [if_pos (bD hk),aF hk,qA,bR (by omega),sI hf.Name,qA,lJ,qA]
  unfold aAE aHG
  rw [qF hk]
  generalize dQ r n ((k+1:Nat):Int)=Z
  by_cases h0:k=0
  ·subst h0
   simp only [Option.any_some]
   generalize tN r.Fields[0].Name=a
   generalize inR r.Fields[0].N 0 1000000000=b
   cases a<;>cases b<;>simp
  ·have e:IntKind.i64.wrap ((k:Int)-1)=((k-1:Nat):Int):=by rw [bS (by omega) (by omega)];omega
   have hk1:k-1<r.Fields.length:=by omega
   rw [if_pos (c:=(decide ((k:Int)>0))=true) (by simp;omega),e,aF hk1,qA,qF hk1]
   simp only [Option.any_some,h0,decide_false,Bool.false_or]
   rw [sR r.Fields[k-1].Name.toList r.Fields[k].Name.toList]
   generalize tN r.Fields[k].Name=a
   generalize inR r.Fields[k].N 0 1000000000=b
   generalize (Op.bytesLess r.Fields[k].Name.toList r.Fields[k-1].Name.toList||r.Fields[k].Name.toList==r.Fields[k-1].Name.toList)=c
   cases a<;>cases b<;>cases c<;>simp
 ·simp only [dQ]
  rw [if_neg (by rw [aJ];simp)]
  simp;omega
theorem sM {r:M.aA} (h:bG r=true):r.Fields.length≤6 ∧ ∀x∈r.Fields,x.Name.size≤8∧0≤x.N∧x.N≤1000000000:=by
 unfold bG at h
 simp only [qM,qL,qP,qQ] at h
 refine ⟨h.2,fun x hx => ?_⟩
 obtain ⟨k,hk,rfl⟩:=List.getElem_of_mem hx
 have:=h.1 k hk
 unfold aAE aHG tN inR at this
 rw [qF hk] at this
 simp only [Option.any_some,qM,qL] at this
 omega
end Go.Proofs.YtidhkhdnjonjfaaGreat.gen
