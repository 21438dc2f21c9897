/-
  Helper text. No conditions.
-/
import Derived.Test.YtnhpbpnhmapeeaaGreatClosePagePm
namespace Go.Proofs.YtnhpbpnhmapeeaaGreat.gen
open Go Go.Sh
open Go.IntKind (i64)
set_option linter.unusedVariables false
set_option linter.unusedSimpArgs false
theorem dG (x a b:Int):bK x a b=some (inR x a b):=by
 unfold bK inR
 by_cases h:a≤x
 ·rw [if_pos (by simpa using h)];simp [h]
 ·rw [if_neg (by simpa using h)];simp [h]
theorem bQ (x a b:Int):bA x a b=some (inR x a b):=by
 unfold bA inR
 by_cases h:a≤x
 ·rw [if_pos (by simpa using h)];simp [h]
 ·rw [if_neg (by simpa using h)];simp [h]
def aGW (r:M.Response) (b:Bool):Int:=if b=true then 76 else i64.wrap (16+(List.length r.Body:Int))
theorem aFH (r:M.Response) (b:Bool):qC r b=some (aGW r b):=by unfold qC aGW;cases b<;>rfl
theorem aEw (r:M.Response) (b:Bool):qZ r b=some (aGW r b):=by unfold qZ aGW;cases b<;>rfl
def aLV (v:Int) (x:M.Cached):Int:=i64.wrap (v+aGW x.Response (x.Response.Type_==3))
def aBg (s:M.aT):Int:=s.Caches.foldl (fun v c=>c.Entries.foldl aLV v) 0
theorem aFI {s:M.aT} (hs:s.ok):pV s=some (aBg s):=by
 have hm:=le_max hs.Caches.1
 unfold pV aBg
 refine aFh (L:=eC s) (E:=some) hs.Caches.1 (fun n v k hk => ?_) (fun n v => ?_) 0
 ·have hc:=hs.Caches.2 _ (List.getElem_mem hk)
  have hm2:=le_max hc.Entries.1
  simp only [eC]
  rw [if_pos (aZ hk),bB (by omega)]
  refine aFh (xs:=s.Caches[k].Entries) (L:=gW s (k:Int) (fun v3 _=>eC s n v3 ((k+1:Nat):Int))) (E:=fun v3=>eC s n v3 ((k+1:Nat):Int)) hc.Entries.1 (fun n v j hj => ?_) (fun n v => ?_) v
  ·simp only [gW]
   rw [aO hk,Option.bind_some,if_pos (aZ hj),aO hj,Option.bind_some,aFH,Option.bind_some,bB (by omega)]
   rfl
  ·simp only [gW]
   rw [aO hk,Option.bind_some,if_neg (by rw [aP];simp)]
 ·simp only [eC]
  rw [if_neg (by rw [aP];simp)]
theorem aE0 {s:M.aT} (hs:s.ok):qN s=some (aBg s):=by
 have hm:=le_max hs.Caches.1
 unfold qN aBg
 refine aFh (L:=eP s) (E:=some) hs.Caches.1 (fun n v k hk => ?_) (fun n v => ?_) 0
 ·have hc:=hs.Caches.2 _ (List.getElem_mem hk)
  have hm2:=le_max hc.Entries.1
  simp only [eP]
  rw [if_pos (aZ hk),bB (by omega),aO hk,Option.bind_some]
  refine aFh (xs:=s.Caches[k].Entries) (L:=gV s.Caches[k] (fun v3 _=>eP s n v3 ((k+1:Nat):Int))) (E:=fun v3=>eP s n v3 ((k+1:Nat):Int)) hc.Entries.1 (fun n v j hj => ?_) (fun n v => ?_) v
  ·simp only [gV]
   rw [if_pos (aZ hj),aO hj,Option.bind_some,aEw,Option.bind_some,bB (by omega)]
   rfl
  ·simp only [gV]
   rw [if_neg (by rw [aP];simp)]
 ·simp only [eP]
  rw [if_neg (by rw [aP];simp)]
def aJa (b:UInt8):Bool:=(decide (97≤b.toNat)&&decide (b.toNat≤122))||(decide (48≤b.toNat)&&decide (b.toNat≤57))
def aIt (s:ByteArray):Bool:=aMv s aJa&&decide (s.size≤12)
theorem aIH {s:ByteArray} (hs:s.size≤maxLen):xD s=some (aIt s):=by
 have hm:=le_max hs
 unfold xD aIt
 rw [aEb (L:=gF s) (g:=aJa) (F:=some false) (E:=some (decide (s.size≤12))) hs (fun n k hk => ?_) (fun n => ?_),bP]
 ·simp only [gF]
  rw [if_pos (aZ hk),aDy hk,Option.bind_some,bB (by omega)]
  generalize s[k]=b
  unfold aJa
  generalize gF s n ((k+1:Nat):Int)=Z
  simp only [Bool.or_eq_true,Bool.and_eq_true,decide_eq_true_eq,Bool.not_eq_true',decide_eq_false_iff_not]
  repeat' split
  all_goals first | rfl | (exfalso;omega)
 ·simp only [gF]
  rw [if_neg (by rw [aP];simp)]
  simp;omega
theorem aFo {s:ByteArray} (hs:s.size≤maxLen):sH s=some (aIt s):=by
 have hm:=le_max hs
 unfold sH aIt
 rw [aEb (L:=dR s) (g:=aJa) (F:=some false) (E:=some (decide (s.size≤12))) hs (fun n k hk => ?_) (fun n => ?_),bP]
 ·simp only [dR]
  rw [if_pos (aZ hk),aDy hk,Option.bind_some,bB (by omega)]
  generalize s[k]=b
  unfold aJa
  generalize dR s n ((k+1:Nat):Int)=Z
  simp only [Bool.or_eq_true,Bool.and_eq_true,decide_eq_true_eq,Bool.not_eq_true',decide_eq_false_iff_not]
  repeat' split
  all_goals first | rfl | (exfalso;omega)
 ·simp only [dR]
  rw [if_neg (by rw [aP];simp)]
  simp;omega
def aHc (k:M.Key):Bool:=inR k.Kind 1 3&&(inR k.N (-1000000000000) 1000000000000&&(aIt k.Text&&((k.Kind != 2||k.N==0)&&(k.Kind != 1||(k.Text.toList==(⟨#[]⟩:ByteArray).toList)))))
theorem aBH {k:M.Key} (hk:k.ok):nP k=some (aHc k):=by
 have ht:=aIH hk.Text
 unfold nP aHc
 simp only [dG,ht,Option.bind_some]
 generalize inR k.Kind 1 3=a
 generalize inR k.N (-1000000000000) 1000000000000=b
 generalize aIt k.Text=c
 generalize (k.Text.toList==(⟨#[]⟩:ByteArray).toList)=g
 by_cases h1:k.Kind=2<;>by_cases h2:k.Kind=1<;>by_cases h3:k.N=0<;>cases a<;>cases b<;>cases c<;>cases g<;>simp [h1,h2,h3]<;>omega
theorem aBB {k:M.Key} (hk:k.ok):oC k=some (aHc k):=by
 have ht:=aFo hk.Text
 unfold oC aHc
 simp only [bQ,ht,Option.bind_some]
 generalize inR k.Kind 1 3=a
 generalize inR k.N (-1000000000000) 1000000000000=b
 generalize aIt k.Text=c
 generalize (k.Text.toList==(⟨#[]⟩:ByteArray).toList)=g
 by_cases h1:k.Kind=2<;>by_cases h2:k.Kind=1<;>by_cases h3:k.N=0<;>cases a<;>cases b<;>cases c<;>cases g<;>simp [h1,h2,h3]<;>omega
theorem aJC {k:M.Key} (h:aHc k=true):k.Text.size≤12:=by
 unfold aHc aIt at h
 simp only [Bool.and_eq_true,decide_eq_true_eq] at h
 omega
def aGL (k:M.Key):Nat:=if aHc k=true then (if (k.Kind==2)=true then 1+k.Text.size else 7+k.Text.size) else 0
theorem aFz {k:M.Key} (hk:k.ok) : ∃l,sP k=some l∧l.length=aGL k:=by
 unfold sP aGL
 rw [aBH hk,Option.bind_some]
 by_cases h:aHc k=true
 ·have ht:=aJC h
  have hl:=bJ k.Text
  rw [if_neg (by simp [h]),if_pos h,aOs]
  by_cases h2:(k.Kind==2)=true
  ·have h3 : ¬(k.Kind != 2)=true:=by simp [bne,h2]
   rw [if_pos h2]
   have e0 : ∀n r,r.length≤7→cD k (n+1) 5 r=some (r++lL k.Text):=by
    intro n r hr
    simp only [cD]
    rw [if_pos (by decide),if_neg h3,aAs (by omega),Option.bind_some]
   exact ⟨_,e0 (18446744073709551609+6) _ (by simp),by simp;omega⟩
  ·have h3:(k.Kind != 2)=true:=by simp [bne,h2]
   rw [if_neg h2]
   have st : ∀n (v:Nat) r,r.length≤7→v≤5 → ∃x:Int,cD k (n+1) (v:Int) r=cD k n ((v:Int)-1) (r++[x]):=by
    intro n v r hr hv
    apply Exists.intro
    simp only [cD]
    rw [if_pos (by simp),if_pos h3,if_pos (by rw [iT (by omega) (by omega)];simp;omega),aAs (by simp;omega),Option.bind_some,iT (n:=(v:Int)-1) (by omega) (by omega)]
   obtain ⟨x1,e1⟩:=st (18446744073709551609+6) 5 ([(IntKind.u8.wrap k.Kind)]) (by simp) (by simp)
   obtain ⟨x2,e2⟩:=st (18446744073709551609+5) 4 ([(IntKind.u8.wrap k.Kind)]++[x1]) (by simp) (by simp)
   obtain ⟨x3,e3⟩:=st (18446744073709551609+4) 3 ([(IntKind.u8.wrap k.Kind)]++[x1]++[x2]) (by simp) (by simp)
   obtain ⟨x4,e4⟩:=st (18446744073709551609+3) 2 ([(IntKind.u8.wrap k.Kind)]++[x1]++[x2]++[x3]) (by simp) (by simp)
   obtain ⟨x5,e5⟩:=st (18446744073709551609+2) 1 ([(IntKind.u8.wrap k.Kind)]++[x1]++[x2]++[x3]++[x4]) (by simp) (by simp)
   obtain ⟨x6,e6⟩:=st (18446744073709551609+1) 0 ([(IntKind.u8.wrap k.Kind)]++[x1]++[x2]++[x3]++[x4]++[x5]) (by simp) (by simp)
   have e7 : ∀n r,r.length≤7→cD k (n+1) (-1) r=some (r++lL k.Text):=by
    intro n r hr
    simp only [cD]
    rw [if_neg (by decide),aAs (by omega),Option.bind_some]
   exact ⟨_,(e1.trans (e2.trans (e3.trans (e4.trans (e5.trans (e6.trans (e7 _ _ (by simp)))))))),by simp;omega⟩
 ·rw [if_pos (by simp [h]),if_neg h]
  exact ⟨_,rfl,rfl⟩
theorem aFq {k:M.Key} (hk:k.ok) : ∃l,tR k=some l∧l.length=aGL k:=by
 unfold tR aGL
 rw [aBB hk,Option.bind_some]
 by_cases h:aHc k=true
 ·have ht:=aJC h
  have hl:=bJ k.Text
  rw [if_neg (by simp [h]),if_pos h,aOs]
  by_cases h2:(k.Kind==2)=true
  ·have h3 : ¬(k.Kind != 2)=true:=by simp [bne,h2]
   rw [if_pos h2,if_neg h3,aAs (by simp;omega),Option.bind_some]
   exact ⟨_,rfl,by simp;omega⟩
  ·have h3:(k.Kind != 2)=true:=by simp [bne,h2]
   rw [if_neg h2,if_pos h3]
   have st : ∀n (v:Nat) r,r.length≤7→v≤5 → ∃x:Int,dV k (n+1) (v:Int) r=dV k n ((v:Int)-1) (r++[x]):=by
    intro n v r hr hv
    apply Exists.intro
    simp only [dV]
    rw [if_pos (by simp),if_pos (by rw [iT (by omega) (by omega)];simp;omega),aAs (by simp;omega),Option.bind_some,iT (n:=(v:Int)-1) (by omega) (by omega)]
   obtain ⟨x1,e1⟩:=st (18446744073709551609+6) 5 ([(IntKind.u8.wrap k.Kind)]) (by simp) (by simp)
   obtain ⟨x2,e2⟩:=st (18446744073709551609+5) 4 ([(IntKind.u8.wrap k.Kind)]++[x1]) (by simp) (by simp)
   obtain ⟨x3,e3⟩:=st (18446744073709551609+4) 3 ([(IntKind.u8.wrap k.Kind)]++[x1]++[x2]) (by simp) (by simp)
   obtain ⟨x4,e4⟩:=st (18446744073709551609+3) 2 ([(IntKind.u8.wrap k.Kind)]++[x1]++[x2]++[x3]) (by simp) (by simp)
   obtain ⟨x5,e5⟩:=st (18446744073709551609+2) 1 ([(IntKind.u8.wrap k.Kind)]++[x1]++[x2]++[x3]++[x4]) (by simp) (by simp)
   obtain ⟨x6,e6⟩:=st (18446744073709551609+1) 0 ([(IntKind.u8.wrap k.Kind)]++[x1]++[x2]++[x3]++[x4]++[x5]) (by simp) (by simp)
   have e7 : ∀n r,r.length≤7→dV k (n+1) (-1) r=some (r++lL k.Text):=by
    intro n r hr
    simp only [dV]
    rw [if_neg (by decide),aAs (by omega),Option.bind_some]
   exact ⟨_,(e1.trans (e2.trans (e3.trans (e4.trans (e5.trans (e6.trans (e7 _ _ (by simp)))))))),by simp;omega⟩
 ·rw [if_pos (by simp [h]),if_neg h]
  exact ⟨_,rfl,rfl⟩
def aFZ (sl:Bool) (b:UInt8):Bool:=(decide (97≤b.toNat)&&decide (b.toNat≤122))||(sl&&decide (b.toNat=47))
def aJP (s:ByteArray) (n:Int) (sl:Bool):Bool:=aMv s (aFZ sl)&&inR (s.size:Int) 1 n
def pK (s:ByteArray):Bool:=aMv s (aFZ false)&&inR (s.size:Int) 1 8
theorem eO {s:ByteArray} (hs:s.size≤maxLen):cJ s=some (pK s):=by
 have hm:=le_max hs
 unfold cJ pK
 rw [aEb (L:=jC s) (g:=aFZ false) (F:=some false) (E:=some (inR (s.size:Int) 1 8)) hs (fun n k hk => ?_) (fun n => ?_),bP]
 ·simp only [jC]
  rw [if_pos (aZ hk),aDy hk,Option.bind_some,bB (by omega)]
  generalize s[k]=b
  unfold aFZ
  generalize jC s n ((k+1:Nat):Int)=Z
  simp only [Bool.or_eq_true,Bool.and_eq_true,decide_eq_true_eq,Bool.not_eq_true',decide_eq_false_iff_not,Bool.false_and,Bool.or_false]
  repeat' split
  all_goals first | rfl | (exfalso;omega)
 ·simp only [jC]
  rw [if_neg (by rw [aP];simp),dG,Option.bind_some]
theorem aD6 {s:ByteArray} {m:Int} {sl:Bool} (hs:s.size≤maxLen):xE s m sl=some (aJP s m sl):=by
 have hm:=le_max hs
 unfold xE aJP
 rw [aEb (L:=gG s m sl) (g:=aFZ sl) (F:=some false) (E:=some (inR (s.size:Int) 1 m)) hs (fun n k hk => ?_) (fun n => ?_),bP]
 ·simp only [gG]
  rw [if_pos (aZ hk),aDy hk,Option.bind_some,bB (by omega)]
  generalize s[k]=b
  unfold aFZ
  generalize gG s m sl n ((k+1:Nat):Int)=Z
  cases sl<;>simp only [Bool.or_eq_true,Bool.and_eq_true,decide_eq_true_eq,Bool.not_eq_true',decide_eq_false_iff_not,Bool.false_and,Bool.or_false,Bool.true_and,beq_eq_false_iff_ne,ne_eq,Bool.false_eq_true,if_true,if_false]
  all_goals repeat' split
  all_goals first | rfl | (exfalso;omega)
 ·simp only [gG]
  rw [if_neg (by rw [aP];simp),bQ,Option.bind_some]
theorem dO {s:ByteArray} (hs:s.size≤maxLen):bW s=some (pK s):=by
 unfold bW
 rw [aD6 hs,Option.bind_some]
 rfl
def aKO (x:M.Field):Bool:=pK x.Name&&inR x.N 0 1000000000
def aC8 (l:List M.Field) (k:Nat):Bool:=(l[k]?).any aKO&&(decide (k=0)||(l[k-1]?).any fun y=>(l[k]?).any fun x=>Op.bytesLess y.Name.toList x.Name.toList)
def aAu (r:M.aU):Bool:=(List.range r.Fields.length).all (aC8 r.Fields)&&decide (r.Fields.length≤6)
theorem aC2 {r:M.aU} (hr:r.ok):rD r=some (aAu r):=by
 have hm:=le_max hr.Fields.1
 unfold rD aAu
 rw [jV (L:=fU r) (g:=aC8 r.Fields) (F:=some false) (E:=some (decide (r.Fields.length≤6))) hr.Fields.1 (fun n k hk => ?_) (fun n => ?_),bP]
 ·have hf:=hr.Fields.2 _ (List.getElem_mem hk)
  simp only [fU]
  rw [if_pos (aZ hk),aO hk,Option.bind_some,bB (by omega),eO hf.Name,Option.bind_some,dG,Option.bind_some]
  unfold aC8 aKO
  rw [List.getElem?_eq_getElem hk]
  generalize fU r n ((k+1:Nat):Int)=Z
  by_cases h0:k=0
  ·subst h0
   simp only [Option.any_some]
   generalize pK r.Fields[0].Name=a
   generalize inR r.Fields[0].N 0 1000000000=b
   cases a<;>cases b<;>simp
  ·have e:i64.wrap ((k:Int)-1)=((k-1:Nat):Int):=by rw [iT (by omega) (by omega)];omega
   have hk1:k-1<r.Fields.length:=by omega
   rw [if_pos (c:=(decide ((k:Int)>0))=true) (by simp;omega),e,aO hk1,Option.bind_some,List.getElem?_eq_getElem hk1]
   simp only [Option.any_some,h0,decide_false,Bool.false_or]
   generalize pK r.Fields[k].Name=a
   generalize inR r.Fields[k].N 0 1000000000=b
   generalize Op.bytesLess r.Fields[k-1].Name.toList r.Fields[k].Name.toList=c
   cases a<;>cases b<;>cases c<;>simp
 ·simp only [fU]
  rw [if_neg (by rw [aP];simp)]
  simp;omega
theorem aCk {r:M.aU} (hr:r.ok):pX r=some (aAu r):=by
 have hm:=le_max hr.Fields.1
 unfold pX aAu
 rw [jV (L:=fY r) (g:=aC8 r.Fields) (F:=some false) (E:=some (decide (r.Fields.length≤6))) hr.Fields.1 (fun n k hk => ?_) (fun n => ?_),bP]
 ·have hf:=hr.Fields.2 _ (List.getElem_mem hk)
  simp only [fY]
  rw [if_pos (aZ hk),aO hk,Option.bind_some,bB (by omega),dO hf.Name,Option.bind_some,bQ,Option.bind_some]
  unfold aC8 aKO
  rw [List.getElem?_eq_getElem hk]
  generalize fY r n ((k+1:Nat):Int)=Z
  by_cases h0:k=0
  ·subst h0
   simp only [Option.any_some]
   generalize pK r.Fields[0].Name=a
   generalize inR r.Fields[0].N 0 1000000000=b
   cases a<;>cases b<;>simp
  ·have e:i64.wrap ((k:Int)-1)=((k-1:Nat):Int):=by rw [iT (by omega) (by omega)];omega
   have hk1:k-1<r.Fields.length:=by omega
   rw [if_pos (c:=(decide ((k:Int)>0))=true) (by simp;omega),e,aO hk1,Option.bind_some,List.getElem?_eq_getElem hk1]
   simp only [Option.any_some,h0,decide_false,Bool.false_or]
   rw [aCS r.Fields[k-1].Name.toList r.Fields[k].Name.toList]
   generalize pK r.Fields[k].Name=a
   generalize inR r.Fields[k].N 0 1000000000=b
   generalize (Op.bytesLess r.Fields[k].Name.toList r.Fields[k-1].Name.toList||r.Fields[k].Name.toList==r.Fields[k-1].Name.toList)=c
   cases a<;>cases b<;>cases c<;>simp
 ·simp only [fY]
  rw [if_neg (by rw [aP];simp)]
  simp;omega
theorem aEN {r:M.aU} (h:aAu r=true):r.Fields.length≤6 ∧ ∀x∈r.Fields,x.Name.size≤8∧0≤x.N∧x.N≤1000000000:=by
 unfold aAu at h
 simp only [Bool.and_eq_true,decide_eq_true_eq,List.all_eq_true,List.mem_range] at h
 refine ⟨h.2,fun x hx => ?_⟩
 obtain ⟨k,hk,rfl⟩:=List.getElem_of_mem hx
 have:=h.1 k hk
 unfold aC8 aKO pK inR at this
 rw [List.getElem?_eq_getElem hk] at this
 simp only [Option.any_some,Bool.and_eq_true,decide_eq_true_eq] at this
 omega
theorem xR {r:List Int} {n:Nat} (hr:r.length≤1048576) (hn:n≤1000000000000) : ∃l,gX r (n:Int)=some l∧l.length=r.length+(uv n).length:=by
 have hi:inR (n:Int) 0 1000000000000=true:=by unfold inR;simp;omega
 unfold gX
 rw [aAs (by simp;omega),Option.bind_some,dG,Option.bind_some,hi,if_neg (by simp)]
 refine aLu (L:=dP) (b:=fun v=>IntKind.u8.wrap (i64.wrap (BitVec.ofInt (IntKind.i64.bits) (i64.wrap (BitVec.ofInt (IntKind.i64.bits) v&&&BitVec.ofInt (IntKind.i64.bits) 127).toNat)|||BitVec.ofInt (IntKind.i64.bits) 128).toNat)) (c:=fun v=>IntKind.u8.wrap v) (fun m n r h1 h2 => ?_) (fun m n r h1 => ?_) 8 fuel n r (by omega) (by omega) (by unfold fuel;omega) (by omega)
 ·simp only [dP]
  rw [if_pos (by simp;omega),uvf]
 ·simp only [dP]
  rw [if_neg (by simp;omega)]
theorem xQ {r:List Int} {n:Nat} (hr:r.length≤1048576) (hn:n≤1000000000000) : ∃l,gU r (n:Int)=some l∧l.length=r.length+(uv n).length:=by
 have hi:inR (n:Int) 0 1000000000000=true:=by unfold inR;simp;omega
 unfold gU jB
 rw [aAs (by simp;omega),Option.bind_some,Option.bind_some,bQ,Option.bind_some,hi,if_neg (by simp)]
 refine aLu (L:=fB) (b:=fun v=>IntKind.u8.wrap (i64.wrap ((Int.tmod v 128)+128))) (c:=fun v=>IntKind.u8.wrap v) (fun m n r h1 h2 => ?_) (fun m n r h1 => ?_) 8 fuel n r (by omega) (by omega) (by unfold fuel;omega) (by omega)
 ·simp only [fB]
  rw [if_pos (by simp;omega),uvt h2]
 ·simp only [fB]
  rw [if_neg (by simp;omega)]
def aAc (x:M.Field):Nat:=(uv x.Name.size).length+x.Name.size+(uv x.N.toNat).length
def aGb (r:M.aU):Nat:=if aAu r=true then (uv r.Fields.length).length+aC aAc r.Fields else 0
theorem aEP {r b:List Int} (hr:r.length≤1000) (hb:b.length≤1000) : ∃l,nV r b=some l∧l.length=r.length+((uv b.length).length+b.length):=by
 obtain ⟨l,e,hl⟩:=xR (r:=r) (n:=b.length) (by omega) (by omega)
 have h9:=aDN b.length (by omega)
 refine ⟨l++b,?_,by simp;omega⟩
 unfold nV
 rw [e,Option.bind_some,aAs (by omega),Option.bind_some]
theorem aDa {r:M.aU} (hr:r.ok) : ∃l,mX r=some l∧l.length=aGb r:=by
 unfold mX aGb
 rw [aC2 hr,Option.bind_some]
 by_cases h:aAu r=true
 ·obtain ⟨h6,hf⟩:=aEN h
  have hw : ∀x∈r.Fields,aAc x≤26:=by
   intro x hx
   have:=hf x hx
   have h1:=aDN x.Name.size (by omega)
   have h2:=aDN x.N.toNat (by omega)
   unfold aAc
   omega
  have hsum:=aDU hw
  obtain ⟨l,e,hl⟩:=xR (r:=[]) (n:=r.Fields.length) (by simp) (by omega)
  have h9:=aDN r.Fields.length (by omega)
  rw [if_neg (by simp [h]),if_pos h,e,Option.bind_some]
  have:=aKC (xs:=r.Fields) (w:=aAc) (B:=900) (L:=fR r) (fun n k hk q hq => ?_) (fun n q => ?_) fuel 0 l (by unfold fuel;omega) (by omega) (by simp at hl ⊢;omega)
  ·obtain ⟨z,e2,hz⟩:=this
   exact ⟨z,e2,by simp at hl hz;omega⟩
  ·have hx:=hf _ (List.getElem_mem hk)
   have hw2:=hw _ (List.getElem_mem hk)
   obtain ⟨a,ea,ha⟩:=aEP (r:=q) (b:=lL r.Fields[k].Name) (by omega) (by rw [bJ];omega)
   rw [bJ] at ha
   have hn:=aDN r.Fields[k].Name.size (by omega)
   obtain ⟨b,eb,hb⟩:=xR (r:=a) (n:=r.Fields[k].N.toNat) (by omega) (by omega)
   rw [Int.toNat_of_nonneg hx.2.1] at eb
   refine ⟨b,by unfold aAc;omega,?_⟩
   simp only [fR]
   rw [if_pos (aZ hk),aO hk,Option.bind_some,ea,Option.bind_some,eb,Option.bind_some,bB (by omega)]
  ·simp only [fR]
   rw [if_neg (by rw [aP];simp)]
 ·rw [if_pos (by simp [h]),if_neg h]
  exact ⟨_,rfl,rfl⟩
theorem aEK {r b:List Int} (hr:r.length≤1000) (hb:b.length≤1000) : ∃l,oR r b=some l∧l.length=r.length+((uv b.length).length+b.length):=by
 obtain ⟨l,e,hl⟩:=xQ (r:=r) (n:=b.length) (by omega) (by omega)
 have h9:=aDN b.length (by omega)
 refine ⟨l++b,?_,by simp;omega⟩
 unfold oR
 rw [e,Option.bind_some,aAs (by omega),Option.bind_some]
theorem aDf {r:M.aU} (hr:r.ok) : ∃l,mP r=some l∧l.length=aGb r:=by
 unfold mP aGb
 rw [aCk hr,Option.bind_some]
 by_cases h:aAu r=true
 ·obtain ⟨h6,hf⟩:=aEN h
  have hw : ∀x∈r.Fields,aAc x≤26:=by
   intro x hx
   have:=hf x hx
   have h1:=aDN x.Name.size (by omega)
   have h2:=aDN x.N.toNat (by omega)
   unfold aAc
   omega
  have hsum:=aDU hw
  obtain ⟨l,e,hl⟩:=xQ (r:=[]) (n:=r.Fields.length) (by simp) (by omega)
  have h9:=aDN r.Fields.length (by omega)
  rw [if_neg (by simp [h]),if_pos h,e,Option.bind_some]
  have:=aKC (xs:=r.Fields) (w:=aAc) (B:=900) (L:=fT r) (fun n k hk q hq => ?_) (fun n q => ?_) fuel 0 l (by unfold fuel;omega) (by omega) (by simp at hl ⊢;omega)
  ·obtain ⟨z,e2,hz⟩:=this
   exact ⟨z,e2,by simp at hl hz;omega⟩
  ·have hx:=hf _ (List.getElem_mem hk)
   have hw2:=hw _ (List.getElem_mem hk)
   obtain ⟨a,ea,ha⟩:=aEK (r:=q) (b:=lL r.Fields[k].Name) (by omega) (by rw [bJ];omega)
   rw [bJ] at ha
   have hn:=aDN r.Fields[k].Name.size (by omega)
   obtain ⟨b,eb,hb⟩:=xQ (r:=a) (n:=r.Fields[k].N.toNat) (by omega) (by omega)
   rw [Int.toNat_of_nonneg hx.2.1] at eb
   refine ⟨b,by unfold aAc;omega,?_⟩
   simp only [fT]
   rw [if_pos (aZ hk),aO hk,Option.bind_some,ea,Option.bind_some,eb,Option.bind_some,bB (by omega)]
  ·simp only [fT]
   rw [if_neg (by rw [aP];simp)]
 ·rw [if_pos (by simp [h]),if_neg h]
  exact ⟨_,rfl,rfl⟩
def aGP (v:Int) (x:M.Item):Int:=i64.wrap (v+((aGL x.Key:Int)+(aGb x.aU:Int)))
def aBd (s:M.aH):Int:=s.Items.foldl aGP 0
def aAR (d:M.Database):Int:=d.Stores.foldl (fun v s=>i64.wrap (v+aBd s)) 0
def aJK (b:M.aF):Int:=i64.wrap ((i64.wrap ((i64.wrap (aBg b.Caches+i64.wrap (aAR b.bE.Base+(List.length b.bE.Log:Int))))+aBd b.aD.Base))+(i64.wrap (40*(List.length b.aD.Sync.aV.Writes:Int))))
theorem aCb {s:M.aH} (hs:s.ok):nL s=some (aBd s):=by
 have hm:=le_max hs.Items.1
 unfold nL aBd
 refine aFh (L:=hZ s) (E:=some) hs.Items.1 (fun n v k hk => ?_) (fun n v => ?_) 0
 ·have hi:=hs.Items.2 _ (List.getElem_mem hk)
  obtain ⟨a,ea,ha⟩:=aFz hi.Key
  obtain ⟨b,eb,hb⟩:=aDa hi.aU
  simp only [hZ]
  rw [if_pos (aZ hk),aO hk,Option.bind_some,ea,Option.bind_some,eb,Option.bind_some,bB (by omega),ha,hb]
  unfold aGP
  rw [wrap_add,Int.add_assoc]
 ·simp only [hZ]
  rw [if_neg (by rw [aP];simp)]
theorem aDn {d:M.Database} (hd:d.ok):mV d=some (aAR d):=by
 have hm:=le_max hd.Stores.1
 unfold mV aAR
 refine aFh (L:=fQ d) (E:=some) hd.Stores.1 (fun n v k hk => ?_) (fun n v => ?_) 0
 ·have hi:=hd.Stores.2 _ (List.getElem_mem hk)
  simp only [fQ]
  rw [if_pos (aZ hk),aO hk,Option.bind_some,aCb hi,Option.bind_some,bB (by omega)]
 ·simp only [fQ]
  rw [if_neg (by rw [aP];simp)]
theorem aHQ {b:M.aF} (hb:b.ok):zM b=some (aJK b):=by
 unfold zM aAr aJK
 rw [aFI hb.Caches,Option.bind_some,aDn hb.bE.Base,Option.bind_some,Option.bind_some,aCb hb.aD.Base,Option.bind_some]
theorem aCW {s:M.aH} (hs:s.ok):nJ s=some (aBd s):=by
 have hm:=le_max hs.Items.1
 unfold nJ aBd
 refine aFh (L:=hU s) (E:=some) hs.Items.1 (fun n v k hk => ?_) (fun n v => ?_) 0
 ·have hi:=hs.Items.2 _ (List.getElem_mem hk)
  obtain ⟨a,ea,ha⟩:=aFq hi.Key
  obtain ⟨b,eb,hb⟩:=aDf hi.aU
  simp only [hU]
  rw [if_pos (aZ hk),aO hk,Option.bind_some,ea,Option.bind_some,eb,Option.bind_some,bB (by omega),ha,hb]
  unfold aGP
  rw [aMc]
 ·simp only [hU]
  rw [if_neg (by rw [aP];simp)]
theorem aDW {d:M.Database} (hd:d.ok):mM d=some (aAR d):=by
 have hm:=le_max hd.Stores.1
 unfold mM aAR
 refine aFh (L:=fO d) (E:=some) hd.Stores.1 (fun n v k hk => ?_) (fun n v => ?_) 0
 ·have hi:=hd.Stores.2 _ (List.getElem_mem hk)
  simp only [fO]
  rw [if_pos (aZ hk),aO hk,Option.bind_some,aCW hi,Option.bind_some,bB (by omega)]
 ·simp only [fO]
  rw [if_neg (by rw [aP];simp)]
theorem aHb {b:M.aF} (hb:b.ok):yG b=some (aJK b):=by
 unfold yG aAU aJK
 rw [aE0 hb.Caches,Option.bind_some,aDW hb.bE.Base,Option.bind_some,Option.bind_some,aCW hb.aD.Base,Option.bind_some]
end Go.Proofs.YtnhpbpnhmapeeaaGreat.gen
