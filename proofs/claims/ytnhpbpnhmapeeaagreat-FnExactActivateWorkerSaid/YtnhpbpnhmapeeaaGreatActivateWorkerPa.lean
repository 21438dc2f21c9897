/-
  Helper text. No conditions.
-/
import Derived.Test.YtnhpbpnhmapeeaaGreatActivateWorkerPm
namespace Go.Proofs.YtnhpbpnhmapeeaaGreat.gen
open Go Go.Sh
open Go.IntKind (i64)
set_option linter.unusedVariables false
set_option linter.unusedSimpArgs false
theorem dG (x a b:Int):bJ x a b=some (inR x a b):=by
 unfold bJ inR
 by_cases h:a≤x
 ·rw [if_pos (by simpa using h)];simp [h]
 ·rw [if_neg (by simpa using h)];simp [h]
theorem bN (x a b:Int):bA x a b=some (inR x a b):=by
 unfold bA inR
 by_cases h:a≤x
 ·rw [if_pos (by simpa using h)];simp [h]
 ·rw [if_neg (by simpa using h)];simp [h]
def aGv (r:M.Response) (b:Bool):Int:=if b=true then 76 else i64.wrap (16+(List.length r.Body:Int))
theorem aFg (r:M.Response) (b:Bool):qN r b=some (aGv r b):=by unfold qN aGv;cases b<;>rfl
theorem aFK (r:M.Response) (b:Bool):rM r b=some (aGv r b):=by unfold rM aGv;cases b<;>rfl
def aL8 (v:Int) (x:M.Cached):Int:=i64.wrap (v+aGv x.Response (x.Response.Type_==3))
def aB7 (s:M.aM):Int:=s.Caches.foldl (fun v c=>c.Entries.foldl aL8 v) 0
theorem aFh {s:M.aM} (hs:s.ok):qG s=some (aB7 s):=by
 have hm:=le_max hs.Caches.1
 unfold qG aB7
 refine aF5 (L:=eD s) (E:=some) hs.Caches.1 (fun n v k hk => ?_) (fun n v => ?_) 0
 ·have hc:=hs.Caches.2 _ (List.getElem_mem hk)
  have hm2:=le_max hc.Entries.1
  simp only [eD]
  rw [if_pos (aZ hk),bD (by omega)]
  refine aF5 (xs:=s.Caches[k].Entries) (L:=hJ s (k:Int) (fun v3 _=>eD s n v3 ((k+1:Nat):Int))) (E:=fun v3=>eD s n v3 ((k+1:Nat):Int)) hc.Entries.1 (fun n v j hj => ?_) (fun n v => ?_) v
  ·simp only [hJ]
   rw [aO hk,Option.bind_some,if_pos (aZ hj),aO hj,Option.bind_some,aFg,Option.bind_some,bD (by omega)]
   rfl
  ·simp only [hJ]
   rw [aO hk,Option.bind_some,if_neg (by rw [aP];simp)]
 ·simp only [eD]
  rw [if_neg (by rw [aP];simp)]
theorem aFP {s:M.aM} (hs:s.ok):qY s=some (aB7 s):=by
 have hm:=le_max hs.Caches.1
 unfold qY aB7
 refine aF5 (L:=eP s) (E:=some) hs.Caches.1 (fun n v k hk => ?_) (fun n v => ?_) 0
 ·have hc:=hs.Caches.2 _ (List.getElem_mem hk)
  have hm2:=le_max hc.Entries.1
  simp only [eP]
  rw [if_pos (aZ hk),bD (by omega),aO hk,Option.bind_some]
  refine aF5 (xs:=s.Caches[k].Entries) (L:=hH s.Caches[k] (fun v3 _=>eP s n v3 ((k+1:Nat):Int))) (E:=fun v3=>eP s n v3 ((k+1:Nat):Int)) hc.Entries.1 (fun n v j hj => ?_) (fun n v => ?_) v
  ·simp only [hH]
   rw [if_pos (aZ hj),aO hj,Option.bind_some,aFK,Option.bind_some,bD (by omega)]
   rfl
  ·simp only [hH]
   rw [if_neg (by rw [aP];simp)]
 ·simp only [eP]
  rw [if_neg (by rw [aP];simp)]
def aKB (b:UInt8):Bool:=(decide (97≤b.toNat)&&decide (b.toNat≤122))||(decide (48≤b.toNat)&&decide (b.toNat≤57))
def aJS (s:ByteArray):Bool:=aNZ s aKB&&decide (s.size≤12)
theorem aIo {s:ByteArray} (hs:s.size≤maxLen):xU s=some (aJS s):=by
 have hm:=le_max hs
 unfold xU aJS
 rw [aE2 (L:=gL s) (g:=aKB) (F:=some false) (E:=some (decide (s.size≤12))) hs (fun n k hk => ?_) (fun n => ?_),bM]
 ·simp only [gL]
  rw [if_pos (aZ hk),aEP hk,Option.bind_some,bD (by omega)]
  generalize s[k]=b
  unfold aKB
  generalize gL s n ((k+1:Nat):Int)=Z
  simp only [Bool.or_eq_true,Bool.and_eq_true,decide_eq_true_eq,Bool.not_eq_true',decide_eq_false_iff_not]
  repeat' split
  all_goals first | rfl | (exfalso;omega)
 ·simp only [gL]
  rw [if_neg (by rw [aP];simp)]
  simp;omega
theorem aGC {s:ByteArray} (hs:s.size≤maxLen):sX s=some (aJS s):=by
 have hm:=le_max hs
 unfold sX aJS
 rw [aE2 (L:=dR s) (g:=aKB) (F:=some false) (E:=some (decide (s.size≤12))) hs (fun n k hk => ?_) (fun n => ?_),bM]
 ·simp only [dR]
  rw [if_pos (aZ hk),aEP hk,Option.bind_some,bD (by omega)]
  generalize s[k]=b
  unfold aKB
  generalize dR s n ((k+1:Nat):Int)=Z
  simp only [Bool.or_eq_true,Bool.and_eq_true,decide_eq_true_eq,Bool.not_eq_true',decide_eq_false_iff_not]
  repeat' split
  all_goals first | rfl | (exfalso;omega)
 ·simp only [dR]
  rw [if_neg (by rw [aP];simp)]
  simp;omega
def aH1 (k:M.Key):Bool:=inR k.Kind 1 3&&(inR k.N (-1000000000000) 1000000000000&&(aJS k.Text&&((k.Kind != 2||k.N==0)&&(k.Kind != 1||(k.Text.toList==(⟨#[]⟩:ByteArray).toList)))))
theorem aBf {k:M.Key} (hk:k.ok):nX k=some (aH1 k):=by
 have ht:=aIo hk.Text
 unfold nX aH1
 simp only [dG,ht,Option.bind_some]
 generalize inR k.Kind 1 3=a
 generalize inR k.N (-1000000000000) 1000000000000=b
 generalize aJS k.Text=c
 generalize (k.Text.toList==(⟨#[]⟩:ByteArray).toList)=g
 by_cases h1:k.Kind=2<;>by_cases h2:k.Kind=1<;>by_cases h3:k.N=0<;>cases a<;>cases b<;>cases c<;>cases g<;>simp [h1,h2,h3]<;>omega
theorem aBZ {k:M.Key} (hk:k.ok):oJ k=some (aH1 k):=by
 have ht:=aGC hk.Text
 unfold oJ aH1
 simp only [bN,ht,Option.bind_some]
 generalize inR k.Kind 1 3=a
 generalize inR k.N (-1000000000000) 1000000000000=b
 generalize aJS k.Text=c
 generalize (k.Text.toList==(⟨#[]⟩:ByteArray).toList)=g
 by_cases h1:k.Kind=2<;>by_cases h2:k.Kind=1<;>by_cases h3:k.N=0<;>cases a<;>cases b<;>cases c<;>cases g<;>simp [h1,h2,h3]<;>omega
theorem aJj {k:M.Key} (h:aH1 k=true):k.Text.size≤12:=by
 unfold aH1 aJS at h
 simp only [Bool.and_eq_true,decide_eq_true_eq] at h
 omega
def aGk (k:M.Key):Nat:=if aH1 k=true then (if (k.Kind==2)=true then 1+k.Text.size else 7+k.Text.size) else 0
theorem aGR {k:M.Key} (hk:k.ok) : ∃l,tG k=some l∧l.length=aGk k:=by
 unfold tG aGk
 rw [aBf hk,Option.bind_some]
 by_cases h:aH1 k=true
 ·have ht:=aJj h
  have hl:=bF k.Text
  rw [if_neg (by simp [h]),if_pos h,aPe]
  by_cases h2:(k.Kind==2)=true
  ·have h3 : ¬(k.Kind != 2)=true:=by simp [bne,h2]
   rw [if_pos h2]
   have e0 : ∀n r,r.length≤7→cE k (n+1) 5 r=some (r++lV k.Text):=by
    intro n r hr
    simp only [cE]
    rw [if_pos (by decide),if_neg h3,yF (by omega),Option.bind_some]
   exact ⟨_,e0 (18446744073709551609+6) _ (by simp),by simp;omega⟩
  ·have h3:(k.Kind != 2)=true:=by simp [bne,h2]
   rw [if_neg h2]
   have st : ∀n (v:Nat) r,r.length≤7→v≤5 → ∃x:Int,cE k (n+1) (v:Int) r=cE k n ((v:Int)-1) (r++[x]):=by
    intro n v r hr hv
    apply Exists.intro
    simp only [cE]
    rw [if_pos (by simp),if_pos h3,if_pos (by rw [jA (by omega) (by omega)];simp;omega),yF (by simp;omega),Option.bind_some,jA (n:=(v:Int)-1) (by omega) (by omega)]
   obtain ⟨x1,e1⟩:=st (18446744073709551609+6) 5 ([(IntKind.u8.wrap k.Kind)]) (by simp) (by simp)
   obtain ⟨x2,e2⟩:=st (18446744073709551609+5) 4 ([(IntKind.u8.wrap k.Kind)]++[x1]) (by simp) (by simp)
   obtain ⟨x3,e3⟩:=st (18446744073709551609+4) 3 ([(IntKind.u8.wrap k.Kind)]++[x1]++[x2]) (by simp) (by simp)
   obtain ⟨x4,e4⟩:=st (18446744073709551609+3) 2 ([(IntKind.u8.wrap k.Kind)]++[x1]++[x2]++[x3]) (by simp) (by simp)
   obtain ⟨x5,e5⟩:=st (18446744073709551609+2) 1 ([(IntKind.u8.wrap k.Kind)]++[x1]++[x2]++[x3]++[x4]) (by simp) (by simp)
   obtain ⟨x6,e6⟩:=st (18446744073709551609+1) 0 ([(IntKind.u8.wrap k.Kind)]++[x1]++[x2]++[x3]++[x4]++[x5]) (by simp) (by simp)
   have e7 : ∀n r,r.length≤7→cE k (n+1) (-1) r=some (r++lV k.Text):=by
    intro n r hr
    simp only [cE]
    rw [if_neg (by decide),yF (by omega),Option.bind_some]
   exact ⟨_,(e1.trans (e2.trans (e3.trans (e4.trans (e5.trans (e6.trans (e7 _ _ (by simp)))))))),by simp;omega⟩
 ·rw [if_pos (by simp [h]),if_neg h]
  exact ⟨_,rfl,rfl⟩
theorem aGE {k:M.Key} (hk:k.ok) : ∃l,uG k=some l∧l.length=aGk k:=by
 unfold uG aGk
 rw [aBZ hk,Option.bind_some]
 by_cases h:aH1 k=true
 ·have ht:=aJj h
  have hl:=bF k.Text
  rw [if_neg (by simp [h]),if_pos h,aPe]
  by_cases h2:(k.Kind==2)=true
  ·have h3 : ¬(k.Kind != 2)=true:=by simp [bne,h2]
   rw [if_pos h2,if_neg h3,yF (by simp;omega),Option.bind_some]
   exact ⟨_,rfl,by simp;omega⟩
  ·have h3:(k.Kind != 2)=true:=by simp [bne,h2]
   rw [if_neg h2,if_pos h3]
   have st : ∀n (v:Nat) r,r.length≤7→v≤5 → ∃x:Int,dV k (n+1) (v:Int) r=dV k n ((v:Int)-1) (r++[x]):=by
    intro n v r hr hv
    apply Exists.intro
    simp only [dV]
    rw [if_pos (by simp),if_pos (by rw [jA (by omega) (by omega)];simp;omega),yF (by simp;omega),Option.bind_some,jA (n:=(v:Int)-1) (by omega) (by omega)]
   obtain ⟨x1,e1⟩:=st (18446744073709551609+6) 5 ([(IntKind.u8.wrap k.Kind)]) (by simp) (by simp)
   obtain ⟨x2,e2⟩:=st (18446744073709551609+5) 4 ([(IntKind.u8.wrap k.Kind)]++[x1]) (by simp) (by simp)
   obtain ⟨x3,e3⟩:=st (18446744073709551609+4) 3 ([(IntKind.u8.wrap k.Kind)]++[x1]++[x2]) (by simp) (by simp)
   obtain ⟨x4,e4⟩:=st (18446744073709551609+3) 2 ([(IntKind.u8.wrap k.Kind)]++[x1]++[x2]++[x3]) (by simp) (by simp)
   obtain ⟨x5,e5⟩:=st (18446744073709551609+2) 1 ([(IntKind.u8.wrap k.Kind)]++[x1]++[x2]++[x3]++[x4]) (by simp) (by simp)
   obtain ⟨x6,e6⟩:=st (18446744073709551609+1) 0 ([(IntKind.u8.wrap k.Kind)]++[x1]++[x2]++[x3]++[x4]++[x5]) (by simp) (by simp)
   have e7 : ∀n r,r.length≤7→dV k (n+1) (-1) r=some (r++lV k.Text):=by
    intro n r hr
    simp only [dV]
    rw [if_neg (by decide),yF (by omega),Option.bind_some]
   exact ⟨_,(e1.trans (e2.trans (e3.trans (e4.trans (e5.trans (e6.trans (e7 _ _ (by simp)))))))),by simp;omega⟩
 ·rw [if_pos (by simp [h]),if_neg h]
  exact ⟨_,rfl,rfl⟩
def aFw (sl:Bool) (b:UInt8):Bool:=(decide (97≤b.toNat)&&decide (b.toNat≤122))||(sl&&decide (b.toNat=47))
def aJv (s:ByteArray) (n:Int) (sl:Bool):Bool:=aNZ s (aFw sl)&&inR (s.size:Int) 1 n
def pV (s:ByteArray):Bool:=aNZ s (aFw false)&&inR (s.size:Int) 1 8
theorem eO {s:ByteArray} (hs:s.size≤maxLen):cJ s=some (pV s):=by
 have hm:=le_max hs
 unfold cJ pV
 rw [aE2 (L:=jG s) (g:=aFw false) (F:=some false) (E:=some (inR (s.size:Int) 1 8)) hs (fun n k hk => ?_) (fun n => ?_),bM]
 ·simp only [jG]
  rw [if_pos (aZ hk),aEP hk,Option.bind_some,bD (by omega)]
  generalize s[k]=b
  unfold aFw
  generalize jG s n ((k+1:Nat):Int)=Z
  simp only [Bool.or_eq_true,Bool.and_eq_true,decide_eq_true_eq,Bool.not_eq_true',decide_eq_false_iff_not,Bool.false_and,Bool.or_false]
  repeat' split
  all_goals first | rfl | (exfalso;omega)
 ·simp only [jG]
  rw [if_neg (by rw [aP];simp),dG,Option.bind_some]
theorem aEY {s:ByteArray} {m:Int} {sl:Bool} (hs:s.size≤maxLen):xV s m sl=some (aJv s m sl):=by
 have hm:=le_max hs
 unfold xV aJv
 rw [aE2 (L:=gM s m sl) (g:=aFw sl) (F:=some false) (E:=some (inR (s.size:Int) 1 m)) hs (fun n k hk => ?_) (fun n => ?_),bM]
 ·simp only [gM]
  rw [if_pos (aZ hk),aEP hk,Option.bind_some,bD (by omega)]
  generalize s[k]=b
  unfold aFw
  generalize gM s m sl n ((k+1:Nat):Int)=Z
  cases sl<;>simp only [Bool.or_eq_true,Bool.and_eq_true,decide_eq_true_eq,Bool.not_eq_true',decide_eq_false_iff_not,Bool.false_and,Bool.or_false,Bool.true_and,beq_eq_false_iff_ne,ne_eq,Bool.false_eq_true,if_true,if_false]
  all_goals repeat' split
  all_goals first | rfl | (exfalso;omega)
 ·simp only [gM]
  rw [if_neg (by rw [aP];simp),bN,Option.bind_some]
theorem dO {s:ByteArray} (hs:s.size≤maxLen):bV s=some (pV s):=by
 unfold bV
 rw [aEY hs,Option.bind_some]
 rfl
def aKz (x:M.Field):Bool:=pV x.Name&&inR x.N 0 1000000000
def aDb (l:List M.Field) (k:Nat):Bool:=(l[k]?).any aKz&&(decide (k=0)||(l[k-1]?).any fun y=>(l[k]?).any fun x=>Op.bytesLess y.Name.toList x.Name.toList)
def aBA (r:M.aU):Bool:=(List.range r.Fields.length).all (aDb r.Fields)&&decide (r.Fields.length≤6)
theorem aDV {r:M.aU} (hr:r.ok):rP r=some (aBA r):=by
 have hm:=le_max hr.Fields.1
 unfold rP aBA
 rw [kB (L:=fW r) (g:=aDb r.Fields) (F:=some false) (E:=some (decide (r.Fields.length≤6))) hr.Fields.1 (fun n k hk => ?_) (fun n => ?_),bM]
 ·have hf:=hr.Fields.2 _ (List.getElem_mem hk)
  simp only [fW]
  rw [if_pos (aZ hk),aO hk,Option.bind_some,bD (by omega),eO hf.Name,Option.bind_some,dG,Option.bind_some]
  unfold aDb aKz
  rw [List.getElem?_eq_getElem hk]
  generalize fW r n ((k+1:Nat):Int)=Z
  by_cases h0:k=0
  ·subst h0
   simp only [Option.any_some]
   generalize pV r.Fields[0].Name=a
   generalize inR r.Fields[0].N 0 1000000000=b
   cases a<;>cases b<;>simp
  ·have e:i64.wrap ((k:Int)-1)=((k-1:Nat):Int):=by rw [jA (by omega) (by omega)];omega
   have hk1:k-1<r.Fields.length:=by omega
   rw [if_pos (c:=(decide ((k:Int)>0))=true) (by simp;omega),e,aO hk1,Option.bind_some,List.getElem?_eq_getElem hk1]
   simp only [Option.any_some,h0,decide_false,Bool.false_or]
   generalize pV r.Fields[k].Name=a
   generalize inR r.Fields[k].N 0 1000000000=b
   generalize Op.bytesLess r.Fields[k-1].Name.toList r.Fields[k].Name.toList=c
   cases a<;>cases b<;>cases c<;>simp
 ·simp only [fW]
  rw [if_neg (by rw [aP];simp)]
  simp;omega
theorem aDF {r:M.aU} (hr:r.ok):qI r=some (aBA r):=by
 have hm:=le_max hr.Fields.1
 unfold qI aBA
 rw [kB (L:=gA r) (g:=aDb r.Fields) (F:=some false) (E:=some (decide (r.Fields.length≤6))) hr.Fields.1 (fun n k hk => ?_) (fun n => ?_),bM]
 ·have hf:=hr.Fields.2 _ (List.getElem_mem hk)
  simp only [gA]
  rw [if_pos (aZ hk),aO hk,Option.bind_some,bD (by omega),dO hf.Name,Option.bind_some,bN,Option.bind_some]
  unfold aDb aKz
  rw [List.getElem?_eq_getElem hk]
  generalize gA r n ((k+1:Nat):Int)=Z
  by_cases h0:k=0
  ·subst h0
   simp only [Option.any_some]
   generalize pV r.Fields[0].Name=a
   generalize inR r.Fields[0].N 0 1000000000=b
   cases a<;>cases b<;>simp
  ·have e:i64.wrap ((k:Int)-1)=((k-1:Nat):Int):=by rw [jA (by omega) (by omega)];omega
   have hk1:k-1<r.Fields.length:=by omega
   rw [if_pos (c:=(decide ((k:Int)>0))=true) (by simp;omega),e,aO hk1,Option.bind_some,List.getElem?_eq_getElem hk1]
   simp only [Option.any_some,h0,decide_false,Bool.false_or]
   rw [aCu r.Fields[k-1].Name.toList r.Fields[k].Name.toList]
   generalize pV r.Fields[k].Name=a
   generalize inR r.Fields[k].N 0 1000000000=b
   generalize (Op.bytesLess r.Fields[k].Name.toList r.Fields[k-1].Name.toList||r.Fields[k].Name.toList==r.Fields[k-1].Name.toList)=c
   cases a<;>cases b<;>cases c<;>simp
 ·simp only [gA]
  rw [if_neg (by rw [aP];simp)]
  simp;omega
theorem aEq {r:M.aU} (h:aBA r=true):r.Fields.length≤6 ∧ ∀x∈r.Fields,x.Name.size≤8∧0≤x.N∧x.N≤1000000000:=by
 unfold aBA at h
 simp only [Bool.and_eq_true,decide_eq_true_eq,List.all_eq_true,List.mem_range] at h
 refine ⟨h.2,fun x hx => ?_⟩
 obtain ⟨k,hk,rfl⟩:=List.getElem_of_mem hx
 have:=h.1 k hk
 unfold aDb aKz pV inR at this
 rw [List.getElem?_eq_getElem hk] at this
 simp only [Option.any_some,Bool.and_eq_true,decide_eq_true_eq] at this
 omega
theorem yK {r:List Int} {n:Nat} (hr:r.length≤1048576) (hn:n≤1000000000000) : ∃l,hM r (n:Int)=some l∧l.length=r.length+(uv n).length:=by
 have hi:inR (n:Int) 0 1000000000000=true:=by unfold inR;simp;omega
 unfold hM
 rw [yF (by simp;omega),Option.bind_some,dG,Option.bind_some,hi,if_neg (by simp)]
 refine aMV (L:=dP) (b:=fun v=>IntKind.u8.wrap (i64.wrap (BitVec.ofInt (IntKind.i64.bits) (i64.wrap (BitVec.ofInt (IntKind.i64.bits) v&&&BitVec.ofInt (IntKind.i64.bits) 127).toNat)|||BitVec.ofInt (IntKind.i64.bits) 128).toNat)) (c:=fun v=>IntKind.u8.wrap v) (fun m n r h1 h2 => ?_) (fun m n r h1 => ?_) 8 fuel n r (by omega) (by omega) (by unfold fuel;omega) (by omega)
 ·simp only [dP]
  rw [if_pos (by simp;omega),uvf]
 ·simp only [dP]
  rw [if_neg (by simp;omega)]
theorem yJ {r:List Int} {n:Nat} (hr:r.length≤1048576) (hn:n≤1000000000000) : ∃l,hD r (n:Int)=some l∧l.length=r.length+(uv n).length:=by
 have hi:inR (n:Int) 0 1000000000000=true:=by unfold inR;simp;omega
 unfold hD jF
 rw [yF (by simp;omega),Option.bind_some,Option.bind_some,bN,Option.bind_some,hi,if_neg (by simp)]
 refine aMV (L:=fD) (b:=fun v=>IntKind.u8.wrap (i64.wrap ((Int.tmod v 128)+128))) (c:=fun v=>IntKind.u8.wrap v) (fun m n r h1 h2 => ?_) (fun m n r h1 => ?_) 8 fuel n r (by omega) (by omega) (by unfold fuel;omega) (by omega)
 ·simp only [fD]
  rw [if_pos (by simp;omega),uvt h2]
 ·simp only [fD]
  rw [if_neg (by simp;omega)]
def aAt (x:M.Field):Nat:=(uv x.Name.size).length+x.Name.size+(uv x.N.toNat).length
def aG0 (r:M.aU):Nat:=if aBA r=true then (uv r.Fields.length).length+aF aAt r.Fields else 0
theorem aEt {r b:List Int} (hr:r.length≤1000) (hb:b.length≤1000) : ∃l,oC r b=some l∧l.length=r.length+((uv b.length).length+b.length):=by
 obtain ⟨l,e,hl⟩:=yK (r:=r) (n:=b.length) (by omega) (by omega)
 have h9:=aDq b.length (by omega)
 refine ⟨l++b,?_,by simp;omega⟩
 unfold oC
 rw [e,Option.bind_some,yF (by omega),Option.bind_some]
theorem aD5 {r:M.aU} (hr:r.ok) : ∃l,nF r=some l∧l.length=aG0 r:=by
 unfold nF aG0
 rw [aDV hr,Option.bind_some]
 by_cases h:aBA r=true
 ·obtain ⟨h6,hf⟩:=aEq h
  have hw : ∀x∈r.Fields,aAt x≤26:=by
   intro x hx
   have:=hf x hx
   have h1:=aDq x.Name.size (by omega)
   have h2:=aDq x.N.toNat (by omega)
   unfold aAt
   omega
  have hsum:=aDy hw
  obtain ⟨l,e,hl⟩:=yK (r:=[]) (n:=r.Fields.length) (by simp) (by omega)
  have h9:=aDq r.Fields.length (by omega)
  rw [if_neg (by simp [h]),if_pos h,e,Option.bind_some]
  have:=aKm (xs:=r.Fields) (w:=aAt) (B:=900) (L:=fT r) (fun n k hk q hq => ?_) (fun n q => ?_) fuel 0 l (by unfold fuel;omega) (by omega) (by simp at hl ⊢;omega)
  ·obtain ⟨z,e2,hz⟩:=this
   exact ⟨z,e2,by simp at hl hz;omega⟩
  ·have hx:=hf _ (List.getElem_mem hk)
   have hw2:=hw _ (List.getElem_mem hk)
   obtain ⟨a,ea,ha⟩:=aEt (r:=q) (b:=lV r.Fields[k].Name) (by omega) (by rw [bF];omega)
   rw [bF] at ha
   have hn:=aDq r.Fields[k].Name.size (by omega)
   obtain ⟨b,eb,hb⟩:=yK (r:=a) (n:=r.Fields[k].N.toNat) (by omega) (by omega)
   rw [Int.toNat_of_nonneg hx.2.1] at eb
   refine ⟨b,by unfold aAt;omega,?_⟩
   simp only [fT]
   rw [if_pos (aZ hk),aO hk,Option.bind_some,ea,Option.bind_some,eb,Option.bind_some,bD (by omega)]
  ·simp only [fT]
   rw [if_neg (by rw [aP];simp)]
 ·rw [if_pos (by simp [h]),if_neg h]
  exact ⟨_,rfl,rfl⟩
theorem aEn {r b:List Int} (hr:r.length≤1000) (hb:b.length≤1000) : ∃l,pE r b=some l∧l.length=r.length+((uv b.length).length+b.length):=by
 obtain ⟨l,e,hl⟩:=yJ (r:=r) (n:=b.length) (by omega) (by omega)
 have h9:=aDq b.length (by omega)
 refine ⟨l++b,?_,by simp;omega⟩
 unfold pE
 rw [e,Option.bind_some,yF (by omega),Option.bind_some]
theorem aD9 {r:M.aU} (hr:r.ok) : ∃l,mW r=some l∧l.length=aG0 r:=by
 unfold mW aG0
 rw [aDF hr,Option.bind_some]
 by_cases h:aBA r=true
 ·obtain ⟨h6,hf⟩:=aEq h
  have hw : ∀x∈r.Fields,aAt x≤26:=by
   intro x hx
   have:=hf x hx
   have h1:=aDq x.Name.size (by omega)
   have h2:=aDq x.N.toNat (by omega)
   unfold aAt
   omega
  have hsum:=aDy hw
  obtain ⟨l,e,hl⟩:=yJ (r:=[]) (n:=r.Fields.length) (by simp) (by omega)
  have h9:=aDq r.Fields.length (by omega)
  rw [if_neg (by simp [h]),if_pos h,e,Option.bind_some]
  have:=aKm (xs:=r.Fields) (w:=aAt) (B:=900) (L:=fV r) (fun n k hk q hq => ?_) (fun n q => ?_) fuel 0 l (by unfold fuel;omega) (by omega) (by simp at hl ⊢;omega)
  ·obtain ⟨z,e2,hz⟩:=this
   exact ⟨z,e2,by simp at hl hz;omega⟩
  ·have hx:=hf _ (List.getElem_mem hk)
   have hw2:=hw _ (List.getElem_mem hk)
   obtain ⟨a,ea,ha⟩:=aEn (r:=q) (b:=lV r.Fields[k].Name) (by omega) (by rw [bF];omega)
   rw [bF] at ha
   have hn:=aDq r.Fields[k].Name.size (by omega)
   obtain ⟨b,eb,hb⟩:=yJ (r:=a) (n:=r.Fields[k].N.toNat) (by omega) (by omega)
   rw [Int.toNat_of_nonneg hx.2.1] at eb
   refine ⟨b,by unfold aAt;omega,?_⟩
   simp only [fV]
   rw [if_pos (aZ hk),aO hk,Option.bind_some,ea,Option.bind_some,eb,Option.bind_some,bD (by omega)]
  ·simp only [fV]
   rw [if_neg (by rw [aP];simp)]
 ·rw [if_pos (by simp [h]),if_neg h]
  exact ⟨_,rfl,rfl⟩
def aGo (v:Int) (x:M.Item):Int:=i64.wrap (v+((aGk x.Key:Int)+(aG0 x.aU:Int)))
def aB4 (s:M.aH):Int:=s.Items.foldl aGo 0
def aAh (d:M.Database):Int:=d.Stores.foldl (fun v s=>i64.wrap (v+aB4 s)) 0
def aJq (b:M.aA):Int:=i64.wrap ((i64.wrap ((i64.wrap (aB7 b.Caches+i64.wrap (aAh b.bB.Base+(List.length b.bB.Log:Int))))+aB4 b.aE.Base))+(i64.wrap (40*(List.length b.aE.Sync.aV.Writes:Int))))
theorem aC4 {s:M.aH} (hs:s.ok):nT s=some (aB4 s):=by
 have hm:=le_max hs.Items.1
 unfold nT aB4
 refine aF5 (L:=iG s) (E:=some) hs.Items.1 (fun n v k hk => ?_) (fun n v => ?_) 0
 ·have hi:=hs.Items.2 _ (List.getElem_mem hk)
  obtain ⟨a,ea,ha⟩:=aGR hi.Key
  obtain ⟨b,eb,hb⟩:=aD5 hi.aU
  simp only [iG]
  rw [if_pos (aZ hk),aO hk,Option.bind_some,ea,Option.bind_some,eb,Option.bind_some,bD (by omega),ha,hb]
  unfold aGo
  rw [wrap_add,Int.add_assoc]
 ·simp only [iG]
  rw [if_neg (by rw [aP];simp)]
theorem aEG {d:M.Database} (hd:d.ok):nC d=some (aAh d):=by
 have hm:=le_max hd.Stores.1
 unfold nC aAh
 refine aF5 (L:=fS d) (E:=some) hd.Stores.1 (fun n v k hk => ?_) (fun n v => ?_) 0
 ·have hi:=hd.Stores.2 _ (List.getElem_mem hk)
  simp only [fS]
  rw [if_pos (aZ hk),aO hk,Option.bind_some,aC4 hi,Option.bind_some,bD (by omega)]
 ·simp only [fS]
  rw [if_neg (by rw [aP];simp)]
theorem aHt {b:M.aA} (hb:b.ok):aAC b=some (aJq b):=by
 unfold aAC aA8 aJq
 rw [aFh hb.Caches,Option.bind_some,aEG hb.bB.Base,Option.bind_some,Option.bind_some,aC4 hb.aE.Base,Option.bind_some]
theorem aCx {s:M.aH} (hs:s.ok):nQ s=some (aB4 s):=by
 have hm:=le_max hs.Items.1
 unfold nQ aB4
 refine aF5 (L:=iD s) (E:=some) hs.Items.1 (fun n v k hk => ?_) (fun n v => ?_) 0
 ·have hi:=hs.Items.2 _ (List.getElem_mem hk)
  obtain ⟨a,ea,ha⟩:=aGE hi.Key
  obtain ⟨b,eb,hb⟩:=aD9 hi.aU
  simp only [iD]
  rw [if_pos (aZ hk),aO hk,Option.bind_some,ea,Option.bind_some,eb,Option.bind_some,bD (by omega),ha,hb]
  unfold aGo
  rw [aNI]
 ·simp only [iD]
  rw [if_neg (by rw [aP];simp)]
theorem aD0 {d:M.Database} (hd:d.ok):mU d=some (aAh d):=by
 have hm:=le_max hd.Stores.1
 unfold mU aAh
 refine aF5 (L:=fQ d) (E:=some) hd.Stores.1 (fun n v k hk => ?_) (fun n v => ?_) 0
 ·have hi:=hd.Stores.2 _ (List.getElem_mem hk)
  simp only [fQ]
  rw [if_pos (aZ hk),aO hk,Option.bind_some,aCx hi,Option.bind_some,bD (by omega)]
 ·simp only [fQ]
  rw [if_neg (by rw [aP];simp)]
theorem aH0 {b:M.aA} (hb:b.ok):yY b=some (aJq b):=by
 unfold yY aAl aJq
 rw [aFP hb.Caches,Option.bind_some,aD0 hb.bB.Base,Option.bind_some,Option.bind_some,aCx hb.aE.Base,Option.bind_some]
end Go.Proofs.YtnhpbpnhmapeeaaGreat.gen
