/-
  Helper text. No conditions.
-/
import Derived.Test.YtnhpbpnhmapeeaaGreatSendNotePm
namespace Go.Proofs.YtnhpbpnhmapeeaaGreat.gen
open Go Go.Sh
open Go.IntKind (i64)
set_option linter.unusedVariables false
set_option linter.unusedSimpArgs false
theorem hP (x a b:Int):bW x a b=some (inR x a b):=by
 unfold bW inR
 by_cases h:a≤x
 ·rw [if_pos (by simpa using h)];simp [h]
 ·rw [if_neg (by simpa using h)];simp [h]
theorem fF (x a b:Int):bK x a b=some (inR x a b):=by
 unfold bK inR
 by_cases h:a≤x
 ·rw [if_pos (by simpa using h)];simp [h]
 ·rw [if_neg (by simpa using h)];simp [h]
def aGd (r:M.Response) (b:Bool):Int:=if b=true then 76 else i64.wrap (16+(List.length r.Body:Int))
theorem aFR (r:M.Response) (b:Bool):qK r b=some (aGd r b):=by unfold qK aGd;cases b<;>rfl
theorem aFC (r:M.Response) (b:Bool):rG r b=some (aGd r b):=by unfold rG aGd;cases b<;>rfl
def aLk (v:Int) (x:M.Cached):Int:=i64.wrap (v+aGd x.Response (x.Response.Type_==3))
def aBv (s:M.aU):Int:=s.Caches.foldl (fun v c=>c.Entries.foldl aLk v) 0
theorem aFT {s:M.aU} (hs:s.ok):qD s=some (aBv s):=by
 have hm:=le_max hs.Caches.1
 unfold qD aBv
 refine aFq (L:=dW s) (E:=some) hs.Caches.1 (fun n v k hk => ?_) (fun n v => ?_) 0
 ·have hc:=hs.Caches.2 _ (List.getElem_mem hk)
  have hm2:=le_max hc.Entries.1
  simp only [dW]
  rw [if_pos (bF hk),bH (by omega)]
  refine aFq (xs:=s.Caches[k].Entries) (L:=gT s (k:Int) (fun v3 _=>dW s n v3 ((k+1:Nat):Int))) (E:=fun v3=>dW s n v3 ((k+1:Nat):Int)) hc.Entries.1 (fun n v j hj => ?_) (fun n v => ?_) v
  ·simp only [gT]
   rw [aQ hk,Option.bind_some,if_pos (bF hj),aQ hj,Option.bind_some,aFR,Option.bind_some,bH (by omega)]
   rfl
  ·simp only [gT]
   rw [aQ hk,Option.bind_some,if_neg (by rw [aT];simp)]
 ·simp only [dW]
  rw [if_neg (by rw [aT];simp)]
theorem aFH {s:M.aU} (hs:s.ok):qV s=some (aBv s):=by
 have hm:=le_max hs.Caches.1
 unfold qV aBv
 refine aFq (L:=eH s) (E:=some) hs.Caches.1 (fun n v k hk => ?_) (fun n v => ?_) 0
 ·have hc:=hs.Caches.2 _ (List.getElem_mem hk)
  have hm2:=le_max hc.Entries.1
  simp only [eH]
  rw [if_pos (bF hk),bH (by omega),aQ hk,Option.bind_some]
  refine aFq (xs:=s.Caches[k].Entries) (L:=gS s.Caches[k] (fun v3 _=>eH s n v3 ((k+1:Nat):Int))) (E:=fun v3=>eH s n v3 ((k+1:Nat):Int)) hc.Entries.1 (fun n v j hj => ?_) (fun n v => ?_) v
  ·simp only [gS]
   rw [if_pos (bF hj),aQ hj,Option.bind_some,aFC,Option.bind_some,bH (by omega)]
   rfl
  ·simp only [gS]
   rw [if_neg (by rw [aT];simp)]
 ·simp only [eH]
  rw [if_neg (by rw [aT];simp)]
def aJp (b:UInt8):Bool:=(decide (97≤b.toNat)&&decide (b.toNat≤122))||(decide (48≤b.toNat)&&decide (b.toNat≤57))
def aI4 (s:ByteArray):Bool:=aNI s aJp&&decide (s.size≤12)
theorem aIM {s:ByteArray} (hs:s.size≤maxLen):xH s=some (aI4 s):=by
 have hm:=le_max hs
 unfold xH aI4
 rw [aGQ (L:=gF s) (g:=aJp) (F:=some false) (E:=some (decide (s.size≤12))) hs (fun n k hk => ?_) (fun n => ?_),fX]
 ·simp only [gF]
  rw [if_pos (bF hk),aGH hk,Option.bind_some,bH (by omega)]
  generalize s[k]=b
  unfold aJp
  generalize gF s n ((k+1:Nat):Int)=Z
  simp only [Bool.or_eq_true,Bool.and_eq_true,decide_eq_true_eq,Bool.not_eq_true',decide_eq_false_iff_not]
  repeat' split
  all_goals first | rfl | (exfalso;omega)
 ·simp only [gF]
  rw [if_neg (by rw [aT];simp)]
  simp;omega
theorem aFv {s:ByteArray} (hs:s.size≤maxLen):sR s=some (aI4 s):=by
 have hm:=le_max hs
 unfold sR aI4
 rw [aGQ (L:=dL s) (g:=aJp) (F:=some false) (E:=some (decide (s.size≤12))) hs (fun n k hk => ?_) (fun n => ?_),fX]
 ·simp only [dL]
  rw [if_pos (bF hk),aGH hk,Option.bind_some,bH (by omega)]
  generalize s[k]=b
  unfold aJp
  generalize dL s n ((k+1:Nat):Int)=Z
  simp only [Bool.or_eq_true,Bool.and_eq_true,decide_eq_true_eq,Bool.not_eq_true',decide_eq_false_iff_not]
  repeat' split
  all_goals first | rfl | (exfalso;omega)
 ·simp only [dL]
  rw [if_neg (by rw [aT];simp)]
  simp;omega
def aDy (k:M.Key):Bool:=inR k.Kind 1 3&&(inR k.N (-1000000000000) 1000000000000&&(aI4 k.Text&&((k.Kind != 2||k.N==0)&&(k.Kind != 1||(k.Text.toList==(⟨#[]⟩:ByteArray).toList)))))
theorem aAK {k:M.Key} (hk:k.ok):lN k=some (aDy k):=by
 have ht:=aIM hk.Text
 unfold lN aDy
 simp only [hP,ht,Option.bind_some]
 generalize inR k.Kind 1 3=a
 generalize inR k.N (-1000000000000) 1000000000000=b
 generalize aI4 k.Text=c
 generalize (k.Text.toList==(⟨#[]⟩:ByteArray).toList)=g
 by_cases h1:k.Kind=2<;>by_cases h2:k.Kind=1<;>by_cases h3:k.N=0<;>cases a<;>cases b<;>cases c<;>cases g<;>simp [h1,h2,h3]<;>omega
theorem aAB {k:M.Key} (hk:k.ok):lQ k=some (aDy k):=by
 have ht:=aFv hk.Text
 unfold lQ aDy
 simp only [fF,ht,Option.bind_some]
 generalize inR k.Kind 1 3=a
 generalize inR k.N (-1000000000000) 1000000000000=b
 generalize aI4 k.Text=c
 generalize (k.Text.toList==(⟨#[]⟩:ByteArray).toList)=g
 by_cases h1:k.Kind=2<;>by_cases h2:k.Kind=1<;>by_cases h3:k.N=0<;>cases a<;>cases b<;>cases c<;>cases g<;>simp [h1,h2,h3]<;>omega
theorem aGv {k:M.Key} (h:aDy k=true):k.Text.size≤12:=by
 unfold aDy aI4 at h
 simp only [Bool.and_eq_true,decide_eq_true_eq] at h
 omega
def aGT (k:M.Key):Nat:=if aDy k=true then (if (k.Kind==2)=true then 1+k.Text.size else 7+k.Text.size) else 0
theorem aF6 {k:M.Key} (hk:k.ok) : ∃l,tA k=some l∧l.length=aGT k:=by
 unfold tA aGT
 rw [aAK hk,Option.bind_some]
 by_cases h:aDy k=true
 ·have ht:=aGv h
  have hl:=aY k.Text
  rw [if_neg (by simp [h]),if_pos h,aPR]
  by_cases h2:(k.Kind==2)=true
  ·have h3 : ¬(k.Kind != 2)=true:=by simp [bne,h2]
   rw [if_pos h2]
   have e0 : ∀n r,r.length≤7→cA k (n+1) 5 r=some (r++lL k.Text):=by
    intro n r hr
    simp only [cA]
    rw [if_pos (by decide),if_neg h3,rR (by omega),Option.bind_some]
   exact ⟨_,e0 (18446744073709551609+6) _ (by simp),by simp;omega⟩
  ·have h3:(k.Kind != 2)=true:=by simp [bne,h2]
   rw [if_neg h2]
   have st : ∀n (v:Nat) r,r.length≤7→v≤5 → ∃x:Int,cA k (n+1) (v:Int) r=cA k n ((v:Int)-1) (r++[x]):=by
    intro n v r hr hv
    apply Exists.intro
    simp only [cA]
    rw [if_pos (by simp),if_pos h3,if_pos (by rw [nK (by omega) (by omega)];simp;omega),rR (by simp;omega),Option.bind_some,nK (n:=(v:Int)-1) (by omega) (by omega)]
   obtain ⟨x1,e1⟩:=st (18446744073709551609+6) 5 ([(IntKind.u8.wrap k.Kind)]) (by simp) (by simp)
   obtain ⟨x2,e2⟩:=st (18446744073709551609+5) 4 ([(IntKind.u8.wrap k.Kind)]++[x1]) (by simp) (by simp)
   obtain ⟨x3,e3⟩:=st (18446744073709551609+4) 3 ([(IntKind.u8.wrap k.Kind)]++[x1]++[x2]) (by simp) (by simp)
   obtain ⟨x4,e4⟩:=st (18446744073709551609+3) 2 ([(IntKind.u8.wrap k.Kind)]++[x1]++[x2]++[x3]) (by simp) (by simp)
   obtain ⟨x5,e5⟩:=st (18446744073709551609+2) 1 ([(IntKind.u8.wrap k.Kind)]++[x1]++[x2]++[x3]++[x4]) (by simp) (by simp)
   obtain ⟨x6,e6⟩:=st (18446744073709551609+1) 0 ([(IntKind.u8.wrap k.Kind)]++[x1]++[x2]++[x3]++[x4]++[x5]) (by simp) (by simp)
   have e7 : ∀n r,r.length≤7→cA k (n+1) (-1) r=some (r++lL k.Text):=by
    intro n r hr
    simp only [cA]
    rw [if_neg (by decide),rR (by omega),Option.bind_some]
   exact ⟨_,(e1.trans (e2.trans (e3.trans (e4.trans (e5.trans (e6.trans (e7 _ _ (by simp)))))))),by simp;omega⟩
 ·rw [if_pos (by simp [h]),if_neg h]
  exact ⟨_,rfl,rfl⟩
theorem aFx {k:M.Key} (hk:k.ok) : ∃l,tY k=some l∧l.length=aGT k:=by
 unfold tY aGT
 rw [aAB hk,Option.bind_some]
 by_cases h:aDy k=true
 ·have ht:=aGv h
  have hl:=aY k.Text
  rw [if_neg (by simp [h]),if_pos h,aPR]
  by_cases h2:(k.Kind==2)=true
  ·have h3 : ¬(k.Kind != 2)=true:=by simp [bne,h2]
   rw [if_pos h2,if_neg h3,rR (by simp;omega),Option.bind_some]
   exact ⟨_,rfl,by simp;omega⟩
  ·have h3:(k.Kind != 2)=true:=by simp [bne,h2]
   rw [if_neg h2,if_pos h3]
   have st : ∀n (v:Nat) r,r.length≤7→v≤5 → ∃x:Int,dO k (n+1) (v:Int) r=dO k n ((v:Int)-1) (r++[x]):=by
    intro n v r hr hv
    apply Exists.intro
    simp only [dO]
    rw [if_pos (by simp),if_pos (by rw [nK (by omega) (by omega)];simp;omega),rR (by simp;omega),Option.bind_some,nK (n:=(v:Int)-1) (by omega) (by omega)]
   obtain ⟨x1,e1⟩:=st (18446744073709551609+6) 5 ([(IntKind.u8.wrap k.Kind)]) (by simp) (by simp)
   obtain ⟨x2,e2⟩:=st (18446744073709551609+5) 4 ([(IntKind.u8.wrap k.Kind)]++[x1]) (by simp) (by simp)
   obtain ⟨x3,e3⟩:=st (18446744073709551609+4) 3 ([(IntKind.u8.wrap k.Kind)]++[x1]++[x2]) (by simp) (by simp)
   obtain ⟨x4,e4⟩:=st (18446744073709551609+3) 2 ([(IntKind.u8.wrap k.Kind)]++[x1]++[x2]++[x3]) (by simp) (by simp)
   obtain ⟨x5,e5⟩:=st (18446744073709551609+2) 1 ([(IntKind.u8.wrap k.Kind)]++[x1]++[x2]++[x3]++[x4]) (by simp) (by simp)
   obtain ⟨x6,e6⟩:=st (18446744073709551609+1) 0 ([(IntKind.u8.wrap k.Kind)]++[x1]++[x2]++[x3]++[x4]++[x5]) (by simp) (by simp)
   have e7 : ∀n r,r.length≤7→dO k (n+1) (-1) r=some (r++lL k.Text):=by
    intro n r hr
    simp only [dO]
    rw [if_neg (by decide),rR (by omega),Option.bind_some]
   exact ⟨_,(e1.trans (e2.trans (e3.trans (e4.trans (e5.trans (e6.trans (e7 _ _ (by simp)))))))),by simp;omega⟩
 ·rw [if_pos (by simp [h]),if_neg h]
  exact ⟨_,rfl,rfl⟩
def aHv (sl:Bool) (b:UInt8):Bool:=(decide (97≤b.toNat)&&decide (b.toNat≤122))||(sl&&decide (b.toNat=47))
def aPj (s:ByteArray) (n:Int) (sl:Bool):Bool:=aNI s (aHv sl)&&inR (s.size:Int) 1 n
def aAL (s:ByteArray):Bool:=aNI s (aHv false)&&inR (s.size:Int) 1 8
theorem iQ {s:ByteArray} (hs:s.size≤maxLen):fV s=some (aAL s):=by
 have hm:=le_max hs
 unfold fV aAL
 rw [aGQ (L:=iX s) (g:=aHv false) (F:=some false) (E:=some (inR (s.size:Int) 1 8)) hs (fun n k hk => ?_) (fun n => ?_),fX]
 ·simp only [iX]
  rw [if_pos (bF hk),aGH hk,Option.bind_some,bH (by omega)]
  generalize s[k]=b
  unfold aHv
  generalize iX s n ((k+1:Nat):Int)=Z
  simp only [Bool.or_eq_true,Bool.and_eq_true,decide_eq_true_eq,Bool.not_eq_true',decide_eq_false_iff_not,Bool.false_and,Bool.or_false]
  repeat' split
  all_goals first | rfl | (exfalso;omega)
 ·simp only [iX]
  rw [if_neg (by rw [aT];simp),hP,Option.bind_some]
theorem aIG {s:ByteArray} {m:Int} {sl:Bool} (hs:s.size≤maxLen):aAY s m sl=some (aPj s m sl):=by
 have hm:=le_max hs
 unfold aAY aPj
 rw [aGQ (L:=gG s m sl) (g:=aHv sl) (F:=some false) (E:=some (inR (s.size:Int) 1 m)) hs (fun n k hk => ?_) (fun n => ?_),fX]
 ·simp only [gG]
  rw [if_pos (bF hk),aGH hk,Option.bind_some,bH (by omega)]
  generalize s[k]=b
  unfold aHv
  generalize gG s m sl n ((k+1:Nat):Int)=Z
  cases sl<;>simp only [Bool.or_eq_true,Bool.and_eq_true,decide_eq_true_eq,Bool.not_eq_true',decide_eq_false_iff_not,Bool.false_and,Bool.or_false,Bool.true_and,beq_eq_false_iff_ne,ne_eq,Bool.false_eq_true,if_true,if_false]
  all_goals repeat' split
  all_goals first | rfl | (exfalso;omega)
 ·simp only [gG]
  rw [if_neg (by rw [aT];simp),fF,Option.bind_some]
theorem hJ {s:ByteArray} (hs:s.size≤maxLen):eK s=some (aAL s):=by
 unfold eK
 rw [aIG hs,Option.bind_some]
 rfl
def aKh (x:M.Field):Bool:=aAL x.Name&&inR x.N 0 1000000000
def aCi (l:List M.Field) (k:Nat):Bool:=(l[k]?).any aKh&&(decide (k=0)||(l[k-1]?).any fun y=>(l[k]?).any fun x=>Op.bytesLess y.Name.toList x.Name.toList)
def eR (r:M.aH):Bool:=(List.range r.Fields.length).all (aCi r.Fields)&&decide (r.Fields.length≤6)
theorem xF {r:M.aH} (hr:r.ok):bN r=some (eR r):=by
 have hm:=le_max hr.Fields.1
 unfold bN eR
 rw [aAD (L:=fS r) (g:=aCi r.Fields) (F:=some false) (E:=some (decide (r.Fields.length≤6))) hr.Fields.1 (fun n k hk => ?_) (fun n => ?_),fX]
 ·have hf:=hr.Fields.2 _ (List.getElem_mem hk)
  simp only [fS]
  rw [if_pos (bF hk),aQ hk,Option.bind_some,bH (by omega),iQ hf.Name,Option.bind_some,hP,Option.bind_some]
  unfold aCi aKh
  rw [List.getElem?_eq_getElem hk]
  generalize fS r n ((k+1:Nat):Int)=Z
  by_cases h0:k=0
  ·subst h0
   simp only [Option.any_some]
   generalize aAL r.Fields[0].Name=a
   generalize inR r.Fields[0].N 0 1000000000=b
   cases a<;>cases b<;>simp
  ·have e:i64.wrap ((k:Int)-1)=((k-1:Nat):Int):=by rw [nK (by omega) (by omega)];omega
   have hk1:k-1<r.Fields.length:=by omega
   rw [if_pos (c:=(decide ((k:Int)>0))=true) (by simp;omega),e,aQ hk1,Option.bind_some,List.getElem?_eq_getElem hk1]
   simp only [Option.any_some,h0,decide_false,Bool.false_or]
   generalize aAL r.Fields[k].Name=a
   generalize inR r.Fields[k].N 0 1000000000=b
   generalize Op.bytesLess r.Fields[k-1].Name.toList r.Fields[k].Name.toList=c
   cases a<;>cases b<;>cases c<;>simp
 ·simp only [fS]
  rw [if_neg (by rw [aT];simp)]
  simp;omega
theorem aAX {r:M.aH} (hr:r.ok):cF r=some (eR r):=by
 have hm:=le_max hr.Fields.1
 unfold cF eR
 rw [aAD (L:=fW r) (g:=aCi r.Fields) (F:=some false) (E:=some (decide (r.Fields.length≤6))) hr.Fields.1 (fun n k hk => ?_) (fun n => ?_),fX]
 ·have hf:=hr.Fields.2 _ (List.getElem_mem hk)
  simp only [fW]
  rw [if_pos (bF hk),aQ hk,Option.bind_some,bH (by omega),hJ hf.Name,Option.bind_some,fF,Option.bind_some]
  unfold aCi aKh
  rw [List.getElem?_eq_getElem hk]
  generalize fW r n ((k+1:Nat):Int)=Z
  by_cases h0:k=0
  ·subst h0
   simp only [Option.any_some]
   generalize aAL r.Fields[0].Name=a
   generalize inR r.Fields[0].N 0 1000000000=b
   cases a<;>cases b<;>simp
  ·have e:i64.wrap ((k:Int)-1)=((k-1:Nat):Int):=by rw [nK (by omega) (by omega)];omega
   have hk1:k-1<r.Fields.length:=by omega
   rw [if_pos (c:=(decide ((k:Int)>0))=true) (by simp;omega),e,aQ hk1,Option.bind_some,List.getElem?_eq_getElem hk1]
   simp only [Option.any_some,h0,decide_false,Bool.false_or]
   rw [aBj r.Fields[k-1].Name.toList r.Fields[k].Name.toList]
   generalize aAL r.Fields[k].Name=a
   generalize inR r.Fields[k].N 0 1000000000=b
   generalize (Op.bytesLess r.Fields[k].Name.toList r.Fields[k-1].Name.toList||r.Fields[k].Name.toList==r.Fields[k-1].Name.toList)=c
   cases a<;>cases b<;>cases c<;>simp
 ·simp only [fW]
  rw [if_neg (by rw [aT];simp)]
  simp;omega
theorem aCm {r:M.aH} (h:eR r=true):r.Fields.length≤6 ∧ ∀x∈r.Fields,x.Name.size≤8∧0≤x.N∧x.N≤1000000000:=by
 unfold eR at h
 simp only [Bool.and_eq_true,decide_eq_true_eq,List.all_eq_true,List.mem_range] at h
 refine ⟨h.2,fun x hx => ?_⟩
 obtain ⟨k,hk,rfl⟩:=List.getElem_of_mem hx
 have:=h.1 k hk
 unfold aCi aKh aAL inR at this
 rw [List.getElem?_eq_getElem hk] at this
 simp only [Option.any_some,Bool.and_eq_true,decide_eq_true_eq] at this
 omega
theorem yB {r:List Int} {n:Nat} (hr:r.length≤1048576) (hn:n≤1000000000000) : ∃l,gU r (n:Int)=some l∧l.length=r.length+(uv n).length:=by
 have hi:inR (n:Int) 0 1000000000000=true:=by unfold inR;simp;omega
 unfold gU
 rw [rR (by simp;omega),Option.bind_some,hP,Option.bind_some,hi,if_neg (by simp)]
 refine aMC (L:=dJ) (b:=fun v=>IntKind.u8.wrap (i64.wrap (BitVec.ofInt (IntKind.i64.bits) (i64.wrap (BitVec.ofInt (IntKind.i64.bits) v&&&BitVec.ofInt (IntKind.i64.bits) 127).toNat)|||BitVec.ofInt (IntKind.i64.bits) 128).toNat)) (c:=fun v=>IntKind.u8.wrap v) (fun m n r h1 h2 => ?_) (fun m n r h1 => ?_) 8 fuel n r (by omega) (by omega) (by unfold fuel;omega) (by omega)
 ·simp only [dJ]
  rw [if_pos (by simp;omega),uvf]
 ·simp only [dJ]
  rw [if_neg (by simp;omega)]
theorem yA {r:List Int} {n:Nat} (hr:r.length≤1048576) (hn:n≤1000000000000) : ∃l,gR r (n:Int)=some l∧l.length=r.length+(uv n).length:=by
 have hi:inR (n:Int) 0 1000000000000=true:=by unfold inR;simp;omega
 unfold gR iW
 rw [rR (by simp;omega),Option.bind_some,Option.bind_some,fF,Option.bind_some,hi,if_neg (by simp)]
 refine aMC (L:=eW) (b:=fun v=>IntKind.u8.wrap (i64.wrap ((Int.tmod v 128)+128))) (c:=fun v=>IntKind.u8.wrap v) (fun m n r h1 h2 => ?_) (fun m n r h1 => ?_) 8 fuel n r (by omega) (by omega) (by unfold fuel;omega) (by omega)
 ·simp only [eW]
  rw [if_pos (by simp;omega),uvt h2]
 ·simp only [eW]
  rw [if_neg (by simp;omega)]
def aAj (x:M.Field):Nat:=(uv x.Name.size).length+x.Name.size+(uv x.N.toNat).length
def aGj (r:M.aH):Nat:=if eR r=true then (uv r.Fields.length).length+aG aAj r.Fields else 0
theorem aEp {r b:List Int} (hr:r.length≤1000) (hb:b.length≤1000) : ∃l,oJ r b=some l∧l.length=r.length+((uv b.length).length+b.length):=by
 obtain ⟨l,e,hl⟩:=yB (r:=r) (n:=b.length) (by omega) (by omega)
 have h9:=aDq b.length (by omega)
 refine ⟨l++b,?_,by simp;omega⟩
 unfold oJ
 rw [e,Option.bind_some,rR (by omega),Option.bind_some]
theorem aD5 {r:M.aH} (hr:r.ok) : ∃l,nJ r=some l∧l.length=aGj r:=by
 unfold nJ aGj
 rw [xF hr,Option.bind_some]
 by_cases h:eR r=true
 ·obtain ⟨h6,hf⟩:=aCm h
  have hw : ∀x∈r.Fields,aAj x≤26:=by
   intro x hx
   have:=hf x hx
   have h1:=aDq x.Name.size (by omega)
   have h2:=aDq x.N.toNat (by omega)
   unfold aAj
   omega
  have hsum:=aBn hw
  obtain ⟨l,e,hl⟩:=yB (r:=[]) (n:=r.Fields.length) (by simp) (by omega)
  have h9:=aDq r.Fields.length (by omega)
  rw [if_neg (by simp [h]),if_pos h,e,Option.bind_some]
  have:=aKV (xs:=r.Fields) (w:=aAj) (B:=900) (L:=fP r) (fun n k hk q hq => ?_) (fun n q => ?_) fuel 0 l (by unfold fuel;omega) (by omega) (by simp at hl ⊢;omega)
  ·obtain ⟨z,e2,hz⟩:=this
   exact ⟨z,e2,by simp at hl hz;omega⟩
  ·have hx:=hf _ (List.getElem_mem hk)
   have hw2:=hw _ (List.getElem_mem hk)
   obtain ⟨a,ea,ha⟩:=aEp (r:=q) (b:=lL r.Fields[k].Name) (by omega) (by rw [aY];omega)
   rw [aY] at ha
   have hn:=aDq r.Fields[k].Name.size (by omega)
   obtain ⟨b,eb,hb⟩:=yB (r:=a) (n:=r.Fields[k].N.toNat) (by omega) (by omega)
   rw [Int.toNat_of_nonneg hx.2.1] at eb
   refine ⟨b,by unfold aAj;omega,?_⟩
   simp only [fP]
   rw [if_pos (bF hk),aQ hk,Option.bind_some,ea,Option.bind_some,eb,Option.bind_some,bH (by omega)]
  ·simp only [fP]
   rw [if_neg (by rw [aT];simp)]
 ·rw [if_pos (by simp [h]),if_neg h]
  exact ⟨_,rfl,rfl⟩
theorem aEm {r b:List Int} (hr:r.length≤1000) (hb:b.length≤1000) : ∃l,pE r b=some l∧l.length=r.length+((uv b.length).length+b.length):=by
 obtain ⟨l,e,hl⟩:=yA (r:=r) (n:=b.length) (by omega) (by omega)
 have h9:=aDq b.length (by omega)
 refine ⟨l++b,?_,by simp;omega⟩
 unfold pE
 rw [e,Option.bind_some,rR (by omega),Option.bind_some]
theorem aD9 {r:M.aH} (hr:r.ok) : ∃l,mX r=some l∧l.length=aGj r:=by
 unfold mX aGj
 rw [aAX hr,Option.bind_some]
 by_cases h:eR r=true
 ·obtain ⟨h6,hf⟩:=aCm h
  have hw : ∀x∈r.Fields,aAj x≤26:=by
   intro x hx
   have:=hf x hx
   have h1:=aDq x.Name.size (by omega)
   have h2:=aDq x.N.toNat (by omega)
   unfold aAj
   omega
  have hsum:=aBn hw
  obtain ⟨l,e,hl⟩:=yA (r:=[]) (n:=r.Fields.length) (by simp) (by omega)
  have h9:=aDq r.Fields.length (by omega)
  rw [if_neg (by simp [h]),if_pos h,e,Option.bind_some]
  have:=aKV (xs:=r.Fields) (w:=aAj) (B:=900) (L:=fR r) (fun n k hk q hq => ?_) (fun n q => ?_) fuel 0 l (by unfold fuel;omega) (by omega) (by simp at hl ⊢;omega)
  ·obtain ⟨z,e2,hz⟩:=this
   exact ⟨z,e2,by simp at hl hz;omega⟩
  ·have hx:=hf _ (List.getElem_mem hk)
   have hw2:=hw _ (List.getElem_mem hk)
   obtain ⟨a,ea,ha⟩:=aEm (r:=q) (b:=lL r.Fields[k].Name) (by omega) (by rw [aY];omega)
   rw [aY] at ha
   have hn:=aDq r.Fields[k].Name.size (by omega)
   obtain ⟨b,eb,hb⟩:=yA (r:=a) (n:=r.Fields[k].N.toNat) (by omega) (by omega)
   rw [Int.toNat_of_nonneg hx.2.1] at eb
   refine ⟨b,by unfold aAj;omega,?_⟩
   simp only [fR]
   rw [if_pos (bF hk),aQ hk,Option.bind_some,ea,Option.bind_some,eb,Option.bind_some,bH (by omega)]
  ·simp only [fR]
   rw [if_neg (by rw [aT];simp)]
 ·rw [if_pos (by simp [h]),if_neg h]
  exact ⟨_,rfl,rfl⟩
def aGX (v:Int) (x:M.Item):Int:=i64.wrap (v+((aGT x.Key:Int)+(aGj x.aH:Int)))
def aBm (s:M.aE):Int:=s.Items.foldl aGX 0
def aAb (d:M.Database):Int:=d.Stores.foldl (fun v s=>i64.wrap (v+aBm s)) 0
def aJT (b:M.aA):Int:=i64.wrap ((i64.wrap ((i64.wrap (aBv b.Caches+i64.wrap (aAb b.bD.Base+(List.length b.bD.Log:Int))))+aBm b.aC.Base))+(i64.wrap (40*(List.length b.aC.Sync.aN.Writes:Int))))
theorem aCy {s:M.aE} (hs:s.ok):oA s=some (aBm s):=by
 have hm:=le_max hs.Items.1
 unfold oA aBm
 refine aFq (L:=hT s) (E:=some) hs.Items.1 (fun n v k hk => ?_) (fun n v => ?_) 0
 ·have hi:=hs.Items.2 _ (List.getElem_mem hk)
  obtain ⟨a,ea,ha⟩:=aF6 hi.Key
  obtain ⟨b,eb,hb⟩:=aD5 hi.aH
  simp only [hT]
  rw [if_pos (bF hk),aQ hk,Option.bind_some,ea,Option.bind_some,eb,Option.bind_some,bH (by omega),ha,hb]
  unfold aGX
  rw [wrap_add,Int.add_assoc]
 ·simp only [hT]
  rw [if_neg (by rw [aT];simp)]
theorem aEG {d:M.Database} (hd:d.ok):nG d=some (aAb d):=by
 have hm:=le_max hd.Stores.1
 unfold nG aAb
 refine aFq (L:=fO d) (E:=some) hd.Stores.1 (fun n v k hk => ?_) (fun n v => ?_) 0
 ·have hi:=hd.Stores.2 _ (List.getElem_mem hk)
  simp only [fO]
  rw [if_pos (bF hk),aQ hk,Option.bind_some,aCy hi,Option.bind_some,bH (by omega)]
 ·simp only [fO]
  rw [if_neg (by rw [aT];simp)]
theorem aHX {b:M.aA} (hb:b.ok):zQ b=some (aJT b):=by
 unfold zQ aAx aJT
 rw [aFT hb.Caches,Option.bind_some,aEG hb.bD.Base,Option.bind_some,Option.bind_some,aCy hb.aC.Base,Option.bind_some]
theorem aCu {s:M.aE} (hs:s.ok):nY s=some (aBm s):=by
 have hm:=le_max hs.Items.1
 unfold nY aBm
 refine aFq (L:=hM s) (E:=some) hs.Items.1 (fun n v k hk => ?_) (fun n v => ?_) 0
 ·have hi:=hs.Items.2 _ (List.getElem_mem hk)
  obtain ⟨a,ea,ha⟩:=aFx hi.Key
  obtain ⟨b,eb,hb⟩:=aD9 hi.aH
  simp only [hM]
  rw [if_pos (bF hk),aQ hk,Option.bind_some,ea,Option.bind_some,eb,Option.bind_some,bH (by omega),ha,hb]
  unfold aGX
  rw [aMy]
 ·simp only [hM]
  rw [if_neg (by rw [aT];simp)]
theorem aD0 {d:M.Database} (hd:d.ok):mT d=some (aAb d):=by
 have hm:=le_max hd.Stores.1
 unfold mT aAb
 refine aFq (L:=fM d) (E:=some) hd.Stores.1 (fun n v k hk => ?_) (fun n v => ?_) 0
 ·have hi:=hd.Stores.2 _ (List.getElem_mem hk)
  simp only [fM]
  rw [if_pos (bF hk),aQ hk,Option.bind_some,aCu hi,Option.bind_some,bH (by omega)]
 ·simp only [fM]
  rw [if_neg (by rw [aT];simp)]
theorem aHd {b:M.aA} (hb:b.ok):yN b=some (aJT b):=by
 unfold yN aAf aJT
 rw [aFH hb.Caches,Option.bind_some,aD0 hb.bD.Base,Option.bind_some,Option.bind_some,aCu hb.aC.Base,Option.bind_some]
end Go.Proofs.YtnhpbpnhmapeeaaGreat.gen
