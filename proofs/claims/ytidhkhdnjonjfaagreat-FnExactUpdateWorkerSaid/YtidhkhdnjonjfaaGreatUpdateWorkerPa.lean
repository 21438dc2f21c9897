/-
  Helper text. No conditions.
-/
import Derived.Test.YtidhkhdnjonjfaaGreatUpdateWorkerPm
set_option linter.unusedVariables false
set_option linter.unusedSimpArgs false
namespace Go.Proofs.YtidhkhdnjonjfaaGreat.gen
open Go Go.Sh
open Go.IntKind (i64)
theorem dC (x a b:Int):bF x a b=some (inR x a b):=by
 unfold bF inR
 by_cases h:a≤x
 ·rw [if_pos (by simpa using h)];simp [h]
 ·rw [if_neg (by simpa using h)];simp [h]
theorem bP (x a b:Int):aZ x a b=some (inR x a b):=by
 unfold aZ inR
 by_cases h:a≤x
 ·rw [if_pos (by simpa using h)];simp [h]
 ·rw [if_neg (by simpa using h)];simp [h]
def aId (r:M.Response) (b:Bool):Int:=if b=true then 76 else i64.wrap (16+(List.length r.Body:Int))
theorem aHO (r:M.Response) (b:Bool):tN r b=some (aId r b):=by unfold tN aId;cases b<;>rfl
theorem aGy (r:M.Response) (b:Bool):uL r b=some (aId r b):=by unfold uL aId;cases b<;>rfl
def aN7 (v:Int) (x:M.Cached):Int:=i64.wrap (v+aId x.Response (x.Response.Type_==3))
def aDD (s:M.aA):Int:=s.Caches.foldl (fun v c=>c.Entries.foldl aN7 v) 0
theorem aHS {s:M.aA} (hs:s.ok):tD s=some (aDD s):=by
 have hm:=le_max hs.Caches.1
 unfold tD aDD
 refine aFZ (L:=eH s) (E:=some) hs.Caches.1 (fun n v k hk => ?_) (fun n v => ?_) 0
 ·have hc:=hs.Caches.2 _ (qG hk)
  have hm2:=le_max hc.Entries.1
  simp only [eH]
  rw [if_pos (aY hk),bC (by omega)]
  refine aFZ (xs:=s.Caches[k].Entries) (L:=iA s (k:Int) (fun v3 _=>eH s n v3 ((k+1:Nat):Int))) (E:=fun v3=>eH s n v3 ((k+1:Nat):Int)) hc.Entries.1 (fun n v j hj => ?_) (fun n v => ?_) v
  ·simp only [iA]
   rw [aM hk,qA,if_pos (aY hj),aM hj,qA,aHO,qA,bC (by omega)]
   rfl
  ·simp only [iA]
   rw [aM hk,qA,if_neg (by rw [aO];simp)]
 ·simp only [eH]
  rw [if_neg (by rw [aO];simp)]
theorem aG3 {s:M.aA} (hs:s.ok):tZ s=some (aDD s):=by
 have hm:=le_max hs.Caches.1
 unfold tZ aDD
 refine aFZ (L:=eV s) (E:=some) hs.Caches.1 (fun n v k hk => ?_) (fun n v => ?_) 0
 ·have hc:=hs.Caches.2 _ (qG hk)
  have hm2:=le_max hc.Entries.1
  simp only [eV]
  rw [if_pos (aY hk),bC (by omega),aM hk,qA]
  refine aFZ (xs:=s.Caches[k].Entries) (L:=hY s.Caches[k] (fun v3 _=>eV s n v3 ((k+1:Nat):Int))) (E:=fun v3=>eV s n v3 ((k+1:Nat):Int)) hc.Entries.1 (fun n v j hj => ?_) (fun n v => ?_) v
  ·simp only [hY]
   rw [if_pos (aY hj),aM hj,qA,aGy,qA,bC (by omega)]
   rfl
  ·simp only [hY]
   rw [if_neg (by rw [aO];simp)]
 ·simp only [eV]
  rw [if_neg (by rw [aO];simp)]
def aLr (b:UInt8):Bool:=(decide (97≤b.toNat)&&decide (b.toNat≤122))||(decide (48≤b.toNat)&&decide (b.toNat≤57))
def aLB (s:ByteArray):Bool:=aPv s aLr&&decide (s.size≤12)
theorem aKY {s:ByteArray} (hs:s.size≤maxLen):aAM s=some (aLB s):=by
 have hm:=le_max hs
 unfold aAM aLB
 rw [aGe (L:=gW s) (g:=aLr) (F:=some false) (E:=some (decide (s.size≤12))) hs (fun n k hk => ?_) (fun n => ?_),bN]
 ·simp only [gW]
  rw [if_pos (aY hk),aF1 hk,qA,bC (by omega)]
  generalize s[k]=b
  unfold aLr
  generalize gW s n ((k+1:Nat):Int)=Z
  simp only [Bool.or_eq_true,qM,qL,Bool.not_eq_true',decide_eq_false_iff_not]
  repeat' split
  all_goals first | rfl | (exfalso;omega)
 ·simp only [gW]
  rw [if_neg (by rw [aO];simp)]
  simp;omega
theorem aHy {s:ByteArray} (hs:s.size≤maxLen):vY s=some (aLB s):=by
 have hm:=le_max hs
 unfold vY aLB
 rw [aGe (L:=dY s) (g:=aLr) (F:=some false) (E:=some (decide (s.size≤12))) hs (fun n k hk => ?_) (fun n => ?_),bN]
 ·simp only [dY]
  rw [if_pos (aY hk),aF1 hk,qA,bC (by omega)]
  generalize s[k]=b
  unfold aLr
  generalize dY s n ((k+1:Nat):Int)=Z
  simp only [Bool.or_eq_true,qM,qL,Bool.not_eq_true',decide_eq_false_iff_not]
  repeat' split
  all_goals first | rfl | (exfalso;omega)
 ·simp only [dY]
  rw [if_neg (by rw [aO];simp)]
  simp;omega
def aJn (k:M.Key):Bool:=inR k.Kind 1 3&&(inR k.N (-1000000000000) 1000000000000&&(aLB k.Text&&((k.Kind != 2||k.N==0)&&(k.Kind != 1||(k.Text.toList==(⟨#[]⟩:ByteArray).toList)))))
theorem aCl {k:M.Key} (hk:k.ok):pO k=some (aJn k):=by
 have ht:=aKY hk.Text
 unfold pO aJn
 simp only [dC,ht,qA]
 generalize inR k.Kind 1 3=a
 generalize inR k.N (-1000000000000) 1000000000000=b
 generalize aLB k.Text=c
 generalize (k.Text.toList==(⟨#[]⟩:ByteArray).toList)=g
 by_cases h1:k.Kind=2<;>by_cases h2:k.Kind=1<;>by_cases h3:k.N=0<;>cases a<;>cases b<;>cases c<;>cases g<;>simp [h1,h2,h3]<;>omega
theorem aCd {k:M.Key} (hk:k.ok):pY k=some (aJn k):=by
 have ht:=aHy hk.Text
 unfold pY aJn
 simp only [bP,ht,qA]
 generalize inR k.Kind 1 3=a
 generalize inR k.N (-1000000000000) 1000000000000=b
 generalize aLB k.Text=c
 generalize (k.Text.toList==(⟨#[]⟩:ByteArray).toList)=g
 by_cases h1:k.Kind=2<;>by_cases h2:k.Kind=1<;>by_cases h3:k.N=0<;>cases a<;>cases b<;>cases c<;>cases g<;>simp [h1,h2,h3]<;>omega
theorem aLQ {k:M.Key} (h:aJn k=true):k.Text.size≤12:=by
 unfold aJn aLB at h
 simp only [qM,qL] at h
 omega
def aIR (k:M.Key):Nat:=if aJn k=true then (if (k.Kind==2)=true then 1+k.Text.size else 7+k.Text.size) else 0
theorem aID {k:M.Key} (hk:k.ok) : ∃l,wG k=some l∧l.length=aIR k:=by
 unfold wG aIR
 rw [aCl hk,qA]
 by_cases h:aJn k=true
 ·have ht:=aLQ h
  have hl:=bG k.Text
  rw [if_neg (by simp [h]),if_pos h,aRc]
  by_cases h2:(k.Kind==2)=true
  ·have h3 : ¬(k.Kind != 2)=true:=by simp [bne,h2]
   rw [if_pos h2]
   have e0 : ∀n r,r.length≤7→dB k (n+1) 5 r=some (r++fJ k.Text):=by
    intro n r hr
    simp only [dB]
    rw [if_pos (by decide),if_neg h3,lM (by omega),qA]
   exact ⟨_,e0 (18446744073709551609+6) _ (by simp),by simp;omega⟩
  ·have h3:(k.Kind != 2)=true:=by simp [bne,h2]
   rw [if_neg h2]
   have st : ∀n (v:Nat) r,r.length≤7→v≤5 → ∃x:Int,dB k (n+1) (v:Int) r=dB k n ((v:Int)-1) (r++[x]):=by
    intro n v r hr hv
    apply Exists.intro
    simp only [dB]
    rw [if_pos (by simp),if_pos h3,if_pos (by rw [fB (by omega) (by omega)];simp;omega),lM (by simp;omega),qA,fB (n:=(v:Int)-1) (by omega) (by omega)]
   obtain ⟨x1,e1⟩:=st (18446744073709551609+6) 5 ([(IntKind.u8.wrap k.Kind)]) (by simp) (by simp)
   obtain ⟨x2,e2⟩:=st (18446744073709551609+5) 4 ([(IntKind.u8.wrap k.Kind)]++[x1]) (by simp) (by simp)
   obtain ⟨x3,e3⟩:=st (18446744073709551609+4) 3 ([(IntKind.u8.wrap k.Kind)]++[x1]++[x2]) (by simp) (by simp)
   obtain ⟨x4,e4⟩:=st (18446744073709551609+3) 2 ([(IntKind.u8.wrap k.Kind)]++[x1]++[x2]++[x3]) (by simp) (by simp)
   obtain ⟨x5,e5⟩:=st (18446744073709551609+2) 1 ([(IntKind.u8.wrap k.Kind)]++[x1]++[x2]++[x3]++[x4]) (by simp) (by simp)
   obtain ⟨x6,e6⟩:=st (18446744073709551609+1) 0 ([(IntKind.u8.wrap k.Kind)]++[x1]++[x2]++[x3]++[x4]++[x5]) (by simp) (by simp)
   have e7 : ∀n r,r.length≤7→dB k (n+1) (-1) r=some (r++fJ k.Text):=by
    intro n r hr
    simp only [dB]
    rw [if_neg (by decide),lM (by omega),qA]
   exact ⟨_,(e1.trans (e2.trans (e3.trans (e4.trans (e5.trans (e6.trans (e7 _ _ (by simp)))))))),by simp;omega⟩
 ·rw [if_pos (by simp [h]),if_neg h]
  exact ⟨_,rfl,rfl⟩
theorem aH1 {k:M.Key} (hk:k.ok) : ∃l,xG k=some l∧l.length=aIR k:=by
 unfold xG aIR
 rw [aCd hk,qA]
 by_cases h:aJn k=true
 ·have ht:=aLQ h
  have hl:=bG k.Text
  rw [if_neg (by simp [h]),if_pos h,aRc]
  by_cases h2:(k.Kind==2)=true
  ·have h3 : ¬(k.Kind != 2)=true:=by simp [bne,h2]
   rw [if_pos h2,if_neg h3,lM (by simp;omega),qA]
   exact ⟨_,rfl,by simp;omega⟩
  ·have h3:(k.Kind != 2)=true:=by simp [bne,h2]
   rw [if_neg h2,if_pos h3]
   have st : ∀n (v:Nat) r,r.length≤7→v≤5 → ∃x:Int,fM k (n+1) (v:Int) r=fM k n ((v:Int)-1) (r++[x]):=by
    intro n v r hr hv
    apply Exists.intro
    simp only [fM]
    rw [if_pos (by simp),if_pos (by rw [fB (by omega) (by omega)];simp;omega),lM (by simp;omega),qA,fB (n:=(v:Int)-1) (by omega) (by omega)]
   obtain ⟨x1,e1⟩:=st (18446744073709551609+6) 5 ([(IntKind.u8.wrap k.Kind)]) (by simp) (by simp)
   obtain ⟨x2,e2⟩:=st (18446744073709551609+5) 4 ([(IntKind.u8.wrap k.Kind)]++[x1]) (by simp) (by simp)
   obtain ⟨x3,e3⟩:=st (18446744073709551609+4) 3 ([(IntKind.u8.wrap k.Kind)]++[x1]++[x2]) (by simp) (by simp)
   obtain ⟨x4,e4⟩:=st (18446744073709551609+3) 2 ([(IntKind.u8.wrap k.Kind)]++[x1]++[x2]++[x3]) (by simp) (by simp)
   obtain ⟨x5,e5⟩:=st (18446744073709551609+2) 1 ([(IntKind.u8.wrap k.Kind)]++[x1]++[x2]++[x3]++[x4]) (by simp) (by simp)
   obtain ⟨x6,e6⟩:=st (18446744073709551609+1) 0 ([(IntKind.u8.wrap k.Kind)]++[x1]++[x2]++[x3]++[x4]++[x5]) (by simp) (by simp)
   have e7 : ∀n r,r.length≤7→fM k (n+1) (-1) r=some (r++fJ k.Text):=by
    intro n r hr
    simp only [fM]
    rw [if_neg (by decide),lM (by omega),qA]
   exact ⟨_,(e1.trans (e2.trans (e3.trans (e4.trans (e5.trans (e6.trans (e7 _ _ (by simp)))))))),by simp;omega⟩
 ·rw [if_pos (by simp [h]),if_neg h]
  exact ⟨_,rfl,rfl⟩
def aHh (sl:Bool) (b:UInt8):Bool:=(decide (97≤b.toNat)&&decide (b.toNat≤122))||(sl&&decide (b.toNat=47))
def aLa (s:ByteArray) (n:Int) (sl:Bool):Bool:=aPv s (aHh sl)&&inR (s.size:Int) 1 n
def sG (s:ByteArray):Bool:=aPv s (aHh false)&&inR (s.size:Int) 1 8
theorem eU {s:ByteArray} (hs:s.size≤maxLen):cP s=some (sG s):=by
 have hm:=le_max hs
 unfold cP sG
 rw [aGe (L:=kD s) (g:=aHh false) (F:=some false) (E:=some (inR (s.size:Int) 1 8)) hs (fun n k hk => ?_) (fun n => ?_),bN]
 ·simp only [kD]
  rw [if_pos (aY hk),aF1 hk,qA,bC (by omega)]
  generalize s[k]=b
  unfold aHh
  generalize kD s n ((k+1:Nat):Int)=Z
  simp only [Bool.or_eq_true,qM,qL,Bool.not_eq_true',decide_eq_false_iff_not,Bool.false_and,Bool.or_false]
  repeat' split
  all_goals first | rfl | (exfalso;omega)
 ·simp only [kD]
  rw [if_neg (by rw [aO];simp),dC,qA]
theorem aF7 {s:ByteArray} {m:Int} {sl:Bool} (hs:s.size≤maxLen):aAN s m sl=some (aLa s m sl):=by
 have hm:=le_max hs
 unfold aAN aLa
 rw [aGe (L:=gX s m sl) (g:=aHh sl) (F:=some false) (E:=some (inR (s.size:Int) 1 m)) hs (fun n k hk => ?_) (fun n => ?_),bN]
 ·simp only [gX]
  rw [if_pos (aY hk),aF1 hk,qA,bC (by omega)]
  generalize s[k]=b
  unfold aHh
  generalize gX s m sl n ((k+1:Nat):Int)=Z
  cases sl<;>simp only [Bool.or_eq_true,qM,qL,Bool.not_eq_true',decide_eq_false_iff_not,Bool.false_and,Bool.or_false,Bool.true_and,beq_eq_false_iff_ne,ne_eq,qD,if_true,if_false]
  all_goals repeat' split
  all_goals first | rfl | (exfalso;omega)
 ·simp only [gX]
  rw [if_neg (by rw [aO];simp),bP,qA]
theorem dV {s:ByteArray} (hs:s.size≤maxLen):cE s=some (sG s):=by
 unfold cE
 rw [aF7 hs,qA]
 rfl
def aMn (x:M.Field):Bool:=sG x.Name&&inR x.N 0 1000000000
def aE7 (l:List M.Field) (k:Nat):Bool:=(l[k]?).any aMn&&(decide (k=0)||(l[k-1]?).any fun y=>(l[k]?).any fun x=>Op.bytesLess y.Name.toList x.Name.toList)
def aCG (r:M.aU):Bool:=(List.range r.Fields.length).all (aE7 r.Fields)&&decide (r.Fields.length≤6)
theorem aE3 {r:M.aU} (hr:r.ok):uO r=some (aCG r):=by
 have hm:=le_max hr.Fields.1
 unfold uO aCG
 rw [lC (L:=gH r) (g:=aE7 r.Fields) (F:=some false) (E:=some (decide (r.Fields.length≤6))) hr.Fields.1 (fun n k hk => ?_) (fun n => ?_),bN]
 ·have hf:=hr.Fields.2 _ (qG hk)
  simp only [gH]
  rw [if_pos (aY hk),aM hk,qA,bC (by omega),eU hf.Name,qA,dC,qA]
  unfold aE7 aMn
  rw [qF hk]
  generalize gH r n ((k+1:Nat):Int)=Z
  by_cases h0:k=0
  ·subst h0
   simp only [Option.any_some]
   generalize sG r.Fields[0].Name=a
   generalize inR r.Fields[0].N 0 1000000000=b
   cases a<;>cases b<;>simp
  ·have e:i64.wrap ((k:Int)-1)=((k-1:Nat):Int):=by rw [fB (by omega) (by omega)];omega
   have hk1:k-1<r.Fields.length:=by omega
   rw [if_pos (c:=(decide ((k:Int)>0))=true) (by simp;omega),e,aM hk1,qA,qF hk1]
   simp only [Option.any_some,h0,decide_false,Bool.false_or]
   generalize sG r.Fields[k].Name=a
   generalize inR r.Fields[k].N 0 1000000000=b
   generalize Op.bytesLess r.Fields[k-1].Name.toList r.Fields[k].Name.toList=c
   cases a<;>cases b<;>cases c<;>simp
 ·simp only [gH]
  rw [if_neg (by rw [aO];simp)]
  simp;omega
theorem aEk {r:M.aU} (hr:r.ok):tH r=some (aCG r):=by
 have hm:=le_max hr.Fields.1
 unfold tH aCG
 rw [lC (L:=gL r) (g:=aE7 r.Fields) (F:=some false) (E:=some (decide (r.Fields.length≤6))) hr.Fields.1 (fun n k hk => ?_) (fun n => ?_),bN]
 ·have hf:=hr.Fields.2 _ (qG hk)
  simp only [gL]
  rw [if_pos (aY hk),aM hk,qA,bC (by omega),dV hf.Name,qA,bP,qA]
  unfold aE7 aMn
  rw [qF hk]
  generalize gL r n ((k+1:Nat):Int)=Z
  by_cases h0:k=0
  ·subst h0
   simp only [Option.any_some]
   generalize sG r.Fields[0].Name=a
   generalize inR r.Fields[0].N 0 1000000000=b
   cases a<;>cases b<;>simp
  ·have e:i64.wrap ((k:Int)-1)=((k-1:Nat):Int):=by rw [fB (by omega) (by omega)];omega
   have hk1:k-1<r.Fields.length:=by omega
   rw [if_pos (c:=(decide ((k:Int)>0))=true) (by simp;omega),e,aM hk1,qA,qF hk1]
   simp only [Option.any_some,h0,decide_false,Bool.false_or]
   rw [aEJ r.Fields[k-1].Name.toList r.Fields[k].Name.toList]
   generalize sG r.Fields[k].Name=a
   generalize inR r.Fields[k].N 0 1000000000=b
   generalize (Op.bytesLess r.Fields[k].Name.toList r.Fields[k-1].Name.toList||r.Fields[k].Name.toList==r.Fields[k-1].Name.toList)=c
   cases a<;>cases b<;>cases c<;>simp
 ·simp only [gL]
  rw [if_neg (by rw [aO];simp)]
  simp;omega
theorem aGQ {r:M.aU} (h:aCG r=true):r.Fields.length≤6 ∧ ∀x∈r.Fields,x.Name.size≤8∧0≤x.N∧x.N≤1000000000:=by
 unfold aCG at h
 simp only [qM,qL,qQ,qR] at h
 refine ⟨h.2,fun x hx => ?_⟩
 obtain ⟨k,hk,rfl⟩:=List.getElem_of_mem hx
 have:=h.1 k hk
 unfold aE7 aMn sG inR at this
 rw [qF hk] at this
 simp only [Option.any_some,qM,qL] at this
 omega
theorem aAZ {r:List Int} {n:Nat} (hr:r.length≤1048576) (hn:n≤1000000000000) : ∃l,iC r (n:Int)=some l∧l.length=r.length+(uv n).length:=by
 have hi:inR (n:Int) 0 1000000000000=true:=by unfold inR;simp;omega
 unfold iC
 rw [lM (by simp;omega),qA,dC,qA,hi,if_neg (by simp)]
 refine aOe (L:=fT) (b:=fun v=>IntKind.u8.wrap (i64.wrap (BitVec.ofInt (IntKind.i64.bits) (i64.wrap (BitVec.ofInt (IntKind.i64.bits) v&&&BitVec.ofInt (IntKind.i64.bits) 127).toNat)|||BitVec.ofInt (IntKind.i64.bits) 128).toNat)) (c:=fun v=>IntKind.u8.wrap v) (fun m n r h1 h2 => ?_) (fun m n r h1 => ?_) 8 fuel n r (by omega) (by omega) (by unfold fuel;omega) (by omega)
 ·simp only [fT]
  rw [if_pos (by simp;omega),uvf]
 ·simp only [fT]
  rw [if_neg (by simp;omega)]
theorem aAX {r:List Int} {n:Nat} (hr:r.length≤1048576) (hn:n≤1000000000000) : ∃l,hU r (n:Int)=some l∧l.length=r.length+(uv n).length:=by
 have hi:inR (n:Int) 0 1000000000000=true:=by unfold inR;simp;omega
 unfold hU kC
 rw [lM (by simp;omega),qA,qA,bP,qA,hi,if_neg (by simp)]
 refine aOe (L:=fN) (b:=fun v=>IntKind.u8.wrap (i64.wrap ((Int.tmod v 128)+128))) (c:=fun v=>IntKind.u8.wrap v) (fun m n r h1 h2 => ?_) (fun m n r h1 => ?_) 8 fuel n r (by omega) (by omega) (by unfold fuel;omega) (by omega)
 ·simp only [fN]
  rw [if_pos (by simp;omega),uvt h2]
 ·simp only [fN]
  rw [if_neg (by simp;omega)]
def aBy (x:M.Field):Nat:=(uv x.Name.size).length+x.Name.size+(uv x.N.toNat).length
def aIi (r:M.aU):Nat:=if aCG r=true then (uv r.Fields.length).length+aF aBy r.Fields else 0
theorem aGU {r b:List Int} (hr:r.length≤1000) (hb:b.length≤1000) : ∃l,pS r b=some l∧l.length=r.length+((uv b.length).length+b.length):=by
 obtain ⟨l,e,hl⟩:=aAZ (r:=r) (n:=b.length) (by omega) (by omega)
 have h9:=aFQ b.length (by omega)
 refine ⟨l++b,?_,by simp;omega⟩
 unfold pS
 rw [e,qA,lM (by omega),qA]
theorem aFf {r:M.aU} (hr:r.ok) : ∃l,oN r=some l∧l.length=aIi r:=by
 unfold oN aIi
 rw [aE3 hr,qA]
 by_cases h:aCG r=true
 ·obtain ⟨h6,hf⟩:=aGQ h
  have hw : ∀x∈r.Fields,aBy x≤26:=by
   intro x hx
   have:=hf x hx
   have h1:=aFQ x.Name.size (by omega)
   have h2:=aFQ x.N.toNat (by omega)
   unfold aBy
   omega
  have hsum:=aC8 hw
  obtain ⟨l,e,hl⟩:=aAZ (r:=[]) (n:=r.Fields.length) (by simp) (by omega)
  have h9:=aFQ r.Fields.length (by omega)
  rw [if_neg (by simp [h]),if_pos h,e,qA]
  have:=aMc (xs:=r.Fields) (w:=aBy) (B:=900) (L:=gE r) (fun n k hk q hq => ?_) (fun n q => ?_) fuel 0 l (by unfold fuel;omega) (by omega) (by simp at hl ⊢;omega)
  ·obtain ⟨z,e2,hz⟩:=this
   exact ⟨z,e2,by simp at hl hz;omega⟩
  ·have hx:=hf _ (qG hk)
   have hw2:=hw _ (qG hk)
   obtain ⟨a,ea,ha⟩:=aGU (r:=q) (b:=fJ r.Fields[k].Name) (by omega) (by rw [bG];omega)
   rw [bG] at ha
   have hn:=aFQ r.Fields[k].Name.size (by omega)
   obtain ⟨b,eb,hb⟩:=aAZ (r:=a) (n:=r.Fields[k].N.toNat) (by omega) (by omega)
   rw [Int.toNat_of_nonneg hx.2.1] at eb
   refine ⟨b,by unfold aBy;omega,?_⟩
   simp only [gE]
   rw [if_pos (aY hk),aM hk,qA,ea,qA,eb,qA,bC (by omega)]
  ·simp only [gE]
   rw [if_neg (by rw [aO];simp)]
 ·rw [if_pos (by simp [h]),if_neg h]
  exact ⟨_,rfl,rfl⟩
theorem aGM {r b:List Int} (hr:r.length≤1000) (hb:b.length≤1000) : ∃l,rP r b=some l∧l.length=r.length+((uv b.length).length+b.length):=by
 obtain ⟨l,e,hl⟩:=aAX (r:=r) (n:=b.length) (by omega) (by omega)
 have h9:=aFQ b.length (by omega)
 refine ⟨l++b,?_,by simp;omega⟩
 unfold rP
 rw [e,qA,lM (by omega),qA]
theorem aFk {r:M.aU} (hr:r.ok) : ∃l,oG r=some l∧l.length=aIi r:=by
 unfold oG aIi
 rw [aEk hr,qA]
 by_cases h:aCG r=true
 ·obtain ⟨h6,hf⟩:=aGQ h
  have hw : ∀x∈r.Fields,aBy x≤26:=by
   intro x hx
   have:=hf x hx
   have h1:=aFQ x.Name.size (by omega)
   have h2:=aFQ x.N.toNat (by omega)
   unfold aBy
   omega
  have hsum:=aC8 hw
  obtain ⟨l,e,hl⟩:=aAX (r:=[]) (n:=r.Fields.length) (by simp) (by omega)
  have h9:=aFQ r.Fields.length (by omega)
  rw [if_neg (by simp [h]),if_pos h,e,qA]
  have:=aMc (xs:=r.Fields) (w:=aBy) (B:=900) (L:=gG r) (fun n k hk q hq => ?_) (fun n q => ?_) fuel 0 l (by unfold fuel;omega) (by omega) (by simp at hl ⊢;omega)
  ·obtain ⟨z,e2,hz⟩:=this
   exact ⟨z,e2,by simp at hl hz;omega⟩
  ·have hx:=hf _ (qG hk)
   have hw2:=hw _ (qG hk)
   obtain ⟨a,ea,ha⟩:=aGM (r:=q) (b:=fJ r.Fields[k].Name) (by omega) (by rw [bG];omega)
   rw [bG] at ha
   have hn:=aFQ r.Fields[k].Name.size (by omega)
   obtain ⟨b,eb,hb⟩:=aAX (r:=a) (n:=r.Fields[k].N.toNat) (by omega) (by omega)
   rw [Int.toNat_of_nonneg hx.2.1] at eb
   refine ⟨b,by unfold aBy;omega,?_⟩
   simp only [gG]
   rw [if_pos (aY hk),aM hk,qA,ea,qA,eb,qA,bC (by omega)]
  ·simp only [gG]
   rw [if_neg (by rw [aO];simp)]
 ·rw [if_pos (by simp [h]),if_neg h]
  exact ⟨_,rfl,rfl⟩
def aIW (v:Int) (x:M.Item):Int:=i64.wrap (v+((aIR x.Key:Int)+(aIi x.aU:Int)))
def aC7 (s:M.aJ):Int:=s.Items.foldl aIW 0
def aBm (d:M.Database):Int:=d.Stores.foldl (fun v s=>i64.wrap (v+aC7 s)) 0
def aLX (b:M.Bucket):Int:=i64.wrap ((i64.wrap ((i64.wrap (aDD b.Caches+i64.wrap (aBm b.bB.Base+(List.length b.bB.Log:Int))))+aC7 b.aE.Base))+(i64.wrap (40*(List.length b.aE.Sync.aV.Writes:Int))))
theorem aEZ {s:M.aJ} (hs:s.ok):pI s=some (aC7 s):=by
 have hm:=le_max hs.Items.1
 unfold pI aC7
 refine aFZ (L:=iS s) (E:=some) hs.Items.1 (fun n v k hk => ?_) (fun n v => ?_) 0
 ·have hi:=hs.Items.2 _ (qG hk)
  obtain ⟨a,ea,ha⟩:=aID hi.Key
  obtain ⟨b,eb,hb⟩:=aFf hi.aU
  simp only [iS]
  rw [if_pos (aY hk),aM hk,qA,ea,qA,eb,qA,bC (by omega),ha,hb]
  unfold aIW
  rw [wrap_add,Int.add_assoc]
 ·simp only [iS]
  rw [if_neg (by rw [aO];simp)]
theorem aFr {d:M.Database} (hd:d.ok):oL d=some (aBm d):=by
 have hm:=le_max hd.Stores.1
 unfold oL aBm
 refine aFZ (L:=gD d) (E:=some) hd.Stores.1 (fun n v k hk => ?_) (fun n v => ?_) 0
 ·have hi:=hd.Stores.2 _ (qG hk)
  simp only [gD]
  rw [if_pos (aY hk),aM hk,qA,aEZ hi,qA,bC (by omega)]
 ·simp only [gD]
  rw [if_neg (by rw [aO];simp)]
theorem aJd {b:M.Bucket} (hb:b.ok):aBH b=some (aLX b):=by
 unfold aBH aCE aLX
 rw [aHS hb.Caches,qA,aFr hb.bB.Base,qA,qA,aEZ hb.aE.Base,qA]
theorem aEP {s:M.aJ} (hs:s.ok):pC s=some (aC7 s):=by
 have hm:=le_max hs.Items.1
 unfold pC aC7
 refine aFZ (L:=iN s) (E:=some) hs.Items.1 (fun n v k hk => ?_) (fun n v => ?_) 0
 ·have hi:=hs.Items.2 _ (qG hk)
  obtain ⟨a,ea,ha⟩:=aH1 hi.Key
  obtain ⟨b,eb,hb⟩:=aFk hi.aU
  simp only [iN]
  rw [if_pos (aY hk),aM hk,qA,ea,qA,eb,qA,bC (by omega),ha,hb]
  unfold aIW
  rw [aPZ]
 ·simp only [iN]
  rw [if_neg (by rw [aO];simp)]
theorem aFa {d:M.Database} (hd:d.ok):oD d=some (aBm d):=by
 have hm:=le_max hd.Stores.1
 unfold oD aBm
 refine aFZ (L:=gB d) (E:=some) hd.Stores.1 (fun n v k hk => ?_) (fun n v => ?_) 0
 ·have hi:=hd.Stores.2 _ (qG hk)
  simp only [gB]
  rw [if_pos (aY hk),aM hk,qA,aEP hi,qA,bC (by omega)]
 ·simp only [gB]
  rw [if_neg (by rw [aO];simp)]
theorem aJm {b:M.Bucket} (hb:b.ok):aAn b=some (aLX b):=by
 unfold aAn aBr aLX
 rw [aG3 hb.Caches,qA,aFa hb.bB.Base,qA,qA,aEP hb.aE.Base,qA]
end Go.Proofs.YtidhkhdnjonjfaaGreat.gen
