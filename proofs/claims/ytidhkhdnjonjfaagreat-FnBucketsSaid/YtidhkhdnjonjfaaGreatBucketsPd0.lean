/-
  Helper text. No conditions.
-/
import Derived.Test.YtidhkhdnjonjfaaGreatBucketsPz
set_option linter.unusedVariables false
set_option linter.unusedSimpArgs false
namespace Go.Proofs.YtidhkhdnjonjfaaGreat.gen
open Go Go.Sh
open Go.IntKind (i64)
theorem dQ (x a b:Int):bB x a b=some (inR x a b):=by
 unfold bB inR
 by_cases h:a≤x
 ·rw [if_pos (by simpa using h)];simp [h]
 ·rw [if_neg (by simpa using h)];simp [h]
theorem eH (x a b:Int):bA x a b=some (inR x a b):=by
 unfold bA inR
 by_cases h:a≤x
 ·rw [if_pos (by simpa using h)];simp [h]
 ·rw [if_neg (by simpa using h)];simp [h]
def aEH (r:M.Response) (b:Bool):Int:=if b=true then 76 else i64.wrap (16+(List.length r.Body:Int))
theorem aC1 (r:M.Response) (b:Bool):oM r b=some (aEH r b):=by unfold oM aEH;cases b<;>rfl
theorem aCh (r:M.Response) (b:Bool):oY r b=some (aEH r b):=by unfold oY aEH;cases b<;>rfl
def aJ2 (v:Int) (x:M.Cached):Int:=i64.wrap (v+aEH x.Response (x.Response.Type_==3))
def xP (s:M.aE):Int:=s.Caches.foldl (fun v c=>c.Entries.foldl aJ2 v) 0
theorem aC4 {s:M.aE} (hs:s.ok):oF s=some (xP s):=by
 have hm:=le_max hs.Caches.1
 unfold oF xP
 refine aCS (L:=dD s) (E:=some) hs.Caches.1 (fun n v k hk => ?_) (fun n v => ?_) 0
 ·have hc:=hs.Caches.2 _ (qG hk)
  have hm2:=le_max hc.Entries.1
  simp only [dD]
  rw [if_pos (bI hk),cU (by omega)]
  refine aCS (xs:=s.Caches[k].Entries) (L:=fO s (k:Int) (fun v3 _=>dD s n v3 ((k+1:Nat):Int))) (E:=fun v3=>dD s n v3 ((k+1:Nat):Int)) hc.Entries.1 (fun n v j hj => ?_) (fun n v => ?_) v
  ·simp only [fO]
   rw [aO hk,qA,if_pos (bI hj),aO hj,qA,aC1,qA,cU (by omega)]
   rfl
  ·simp only [fO]
   rw [aO hk,qA,if_neg (by rw [aW];simp)]
 ·simp only [dD]
  rw [if_neg (by rw [aW];simp)]
theorem aCl {s:M.aE} (hs:s.ok):oS s=some (xP s):=by
 have hm:=le_max hs.Caches.1
 unfold oS xP
 refine aCS (L:=dL s) (E:=some) hs.Caches.1 (fun n v k hk => ?_) (fun n v => ?_) 0
 ·have hc:=hs.Caches.2 _ (qG hk)
  have hm2:=le_max hc.Entries.1
  simp only [dL]
  rw [if_pos (bI hk),cU (by omega),aO hk,qA]
  refine aCS (xs:=s.Caches[k].Entries) (L:=fN s.Caches[k] (fun v3 _=>dL s n v3 ((k+1:Nat):Int))) (E:=fun v3=>dL s n v3 ((k+1:Nat):Int)) hc.Entries.1 (fun n v j hj => ?_) (fun n v => ?_) v
  ·simp only [fN]
   rw [if_pos (bI hj),aO hj,qA,aCh,qA,cU (by omega)]
   rfl
  ·simp only [fN]
   rw [if_neg (by rw [aW];simp)]
 ·simp only [dL]
  rw [if_neg (by rw [aW];simp)]
def aHb (b:UInt8):Bool:=(decide (97≤b.toNat)&&decide (b.toNat≤122))||(decide (48≤b.toNat)&&decide (b.toNat≤57))
def aE4 (s:ByteArray):Bool:=aMK s aHb&&decide (s.size≤12)
theorem aF1 {s:ByteArray} (hs:s.size≤maxLen):rZ s=some (aE4 s):=by
 have hm:=le_max hs
 unfold rZ aE4
 rw [aD4 (L:=eY s) (g:=aHb) (F:=some false) (E:=some (decide (s.size≤12))) hs (fun n k hk => ?_) (fun n => ?_),bK]
 ·simp only [eY]
  rw [if_pos (bI hk),aDw hk,qA,cU (by omega)]
  generalize s[k]=b
  unfold aHb
  generalize eY s n ((k+1:Nat):Int)=Z
  simp only [Bool.or_eq_true,qM,qL,Bool.not_eq_true',decide_eq_false_iff_not]
  repeat' split
  all_goals first | rfl | (exfalso;omega)
 ·simp only [eY]
  rw [if_neg (by rw [aW];simp)]
  simp;omega
theorem aDY {s:ByteArray} (hs:s.size≤maxLen):pG s=some (aE4 s):=by
 have hm:=le_max hs
 unfold pG aE4
 rw [aD4 (L:=dA s) (g:=aHb) (F:=some false) (E:=some (decide (s.size≤12))) hs (fun n k hk => ?_) (fun n => ?_),bK]
 ·simp only [dA]
  rw [if_pos (bI hk),aDw hk,qA,cU (by omega)]
  generalize s[k]=b
  unfold aHb
  generalize dA s n ((k+1:Nat):Int)=Z
  simp only [Bool.or_eq_true,qM,qL,Bool.not_eq_true',decide_eq_false_iff_not]
  repeat' split
  all_goals first | rfl | (exfalso;omega)
 ·simp only [dA]
  rw [if_neg (by rw [aW];simp)]
  simp;omega
def wR (k:M.Key):Bool:=inR k.Kind 1 3&&(inR k.N (-1000000000000) 1000000000000&&(aE4 k.Text&&((k.Kind != 2||k.N==0)&&(k.Kind != 1||(k.Text.toList==(⟨#[]⟩:ByteArray).toList)))))
theorem iA {k:M.Key} (hk:k.ok):dU k=some (wR k):=by
 have ht:=aF1 hk.Text
 unfold dU wR
 simp only [dQ,ht,qA]
 generalize inR k.Kind 1 3=a
 generalize inR k.N (-1000000000000) 1000000000000=b
 generalize aE4 k.Text=c
 generalize (k.Text.toList==(⟨#[]⟩:ByteArray).toList)=g
 by_cases h1:k.Kind=2<;>by_cases h2:k.Kind=1<;>by_cases h3:k.N=0<;>cases a<;>cases b<;>cases c<;>cases g<;>simp [h1,h2,h3]<;>omega
theorem vN {k:M.Key} (hk:k.ok):nD k=some (wR k):=by
 have ht:=aDY hk.Text
 unfold nD wR
 simp only [eH,ht,qA]
 generalize inR k.Kind 1 3=a
 generalize inR k.N (-1000000000000) 1000000000000=b
 generalize aE4 k.Text=c
 generalize (k.Text.toList==(⟨#[]⟩:ByteArray).toList)=g
 by_cases h1:k.Kind=2<;>by_cases h2:k.Kind=1<;>by_cases h3:k.N=0<;>cases a<;>cases b<;>cases c<;>cases g<;>simp [h1,h2,h3]<;>omega
theorem aAl {k:M.Key} (h:wR k=true):k.Text.size≤12:=by
 unfold wR aE4 at h
 simp only [qM,qL] at h
 omega
def aD6 (k:M.Key):Nat:=if wR k=true then (if (k.Kind==2)=true then 1+k.Text.size else 7+k.Text.size) else 0
theorem aDj {k:M.Key} (hk:k.ok) : ∃l,gF k=some l∧l.length=aD6 k:=by
 unfold gF aD6
 rw [iA hk,qA]
 by_cases h:wR k=true
 ·have ht:=aAl h
  have hl:=aQ k.Text
  rw [if_neg (by simp [h]),if_pos h,aOQ]
  by_cases h2:(k.Kind==2)=true
  ·have h3 : ¬(k.Kind != 2)=true:=by simp [bne,h2]
   rw [if_pos h2]
   have e0 : ∀n r,r.length≤7→aU k (n+1) 5 r=some (r++cH k.Text):=by
    intro n r hr
    simp only [aU]
    rw [if_pos (by decide),if_neg h3,fC (by omega),qA]
   exact ⟨_,e0 (18446744073709551609+6) _ (by simp),by simp;omega⟩
  ·have h3:(k.Kind != 2)=true:=by simp [bne,h2]
   rw [if_neg h2]
   have st : ∀n (v:Nat) r,r.length≤7→v≤5 → ∃x:Int,aU k (n+1) (v:Int) r=aU k n ((v:Int)-1) (r++[x]):=by
    intro n v r hr hv
    apply Exists.intro
    simp only [aU]
    rw [if_pos (by simp),if_pos h3,if_pos (by rw [bO (by omega) (by omega)];simp;omega),fC (by simp;omega),qA,bO (n:=(v:Int)-1) (by omega) (by omega)]
   obtain ⟨x1,e1⟩:=st (18446744073709551609+6) 5 ([(IntKind.u8.wrap k.Kind)]) (by simp) (by simp)
   obtain ⟨x2,e2⟩:=st (18446744073709551609+5) 4 ([(IntKind.u8.wrap k.Kind)]++[x1]) (by simp) (by simp)
   obtain ⟨x3,e3⟩:=st (18446744073709551609+4) 3 ([(IntKind.u8.wrap k.Kind)]++[x1]++[x2]) (by simp) (by simp)
   obtain ⟨x4,e4⟩:=st (18446744073709551609+3) 2 ([(IntKind.u8.wrap k.Kind)]++[x1]++[x2]++[x3]) (by simp) (by simp)
   obtain ⟨x5,e5⟩:=st (18446744073709551609+2) 1 ([(IntKind.u8.wrap k.Kind)]++[x1]++[x2]++[x3]++[x4]) (by simp) (by simp)
   obtain ⟨x6,e6⟩:=st (18446744073709551609+1) 0 ([(IntKind.u8.wrap k.Kind)]++[x1]++[x2]++[x3]++[x4]++[x5]) (by simp) (by simp)
   have e7 : ∀n r,r.length≤7→aU k (n+1) (-1) r=some (r++cH k.Text):=by
    intro n r hr
    simp only [aU]
    rw [if_neg (by decide),fC (by omega),qA]
   exact ⟨_,(e1.trans (e2.trans (e3.trans (e4.trans (e5.trans (e6.trans (e7 _ _ (by simp)))))))),by simp;omega⟩
 ·rw [if_pos (by simp [h]),if_neg h]
  exact ⟨_,rfl,rfl⟩
theorem aDc {k:M.Key} (hk:k.ok) : ∃l,pO k=some l∧l.length=aD6 k:=by
 unfold pO aD6
 rw [vN hk,qA]
 by_cases h:wR k=true
 ·have ht:=aAl h
  have hl:=aQ k.Text
  rw [if_neg (by simp [h]),if_pos h,aOQ]
  by_cases h2:(k.Kind==2)=true
  ·have h3 : ¬(k.Kind != 2)=true:=by simp [bne,h2]
   rw [if_pos h2,if_neg h3,fC (by simp;omega),qA]
   exact ⟨_,rfl,by simp;omega⟩
  ·have h3:(k.Kind != 2)=true:=by simp [bne,h2]
   rw [if_neg h2,if_pos h3]
   have st : ∀n (v:Nat) r,r.length≤7→v≤5 → ∃x:Int,dY k (n+1) (v:Int) r=dY k n ((v:Int)-1) (r++[x]):=by
    intro n v r hr hv
    apply Exists.intro
    simp only [dY]
    rw [if_pos (by simp),if_pos (by rw [bO (by omega) (by omega)];simp;omega),fC (by simp;omega),qA,bO (n:=(v:Int)-1) (by omega) (by omega)]
   obtain ⟨x1,e1⟩:=st (18446744073709551609+6) 5 ([(IntKind.u8.wrap k.Kind)]) (by simp) (by simp)
   obtain ⟨x2,e2⟩:=st (18446744073709551609+5) 4 ([(IntKind.u8.wrap k.Kind)]++[x1]) (by simp) (by simp)
   obtain ⟨x3,e3⟩:=st (18446744073709551609+4) 3 ([(IntKind.u8.wrap k.Kind)]++[x1]++[x2]) (by simp) (by simp)
   obtain ⟨x4,e4⟩:=st (18446744073709551609+3) 2 ([(IntKind.u8.wrap k.Kind)]++[x1]++[x2]++[x3]) (by simp) (by simp)
   obtain ⟨x5,e5⟩:=st (18446744073709551609+2) 1 ([(IntKind.u8.wrap k.Kind)]++[x1]++[x2]++[x3]++[x4]) (by simp) (by simp)
   obtain ⟨x6,e6⟩:=st (18446744073709551609+1) 0 ([(IntKind.u8.wrap k.Kind)]++[x1]++[x2]++[x3]++[x4]++[x5]) (by simp) (by simp)
   have e7 : ∀n r,r.length≤7→dY k (n+1) (-1) r=some (r++cH k.Text):=by
    intro n r hr
    simp only [dY]
    rw [if_neg (by decide),fC (by omega),qA]
   exact ⟨_,(e1.trans (e2.trans (e3.trans (e4.trans (e5.trans (e6.trans (e7 _ _ (by simp)))))))),by simp;omega⟩
 ·rw [if_pos (by simp [h]),if_neg h]
  exact ⟨_,rfl,rfl⟩
def aFU (sl:Bool) (b:UInt8):Bool:=(decide (97≤b.toNat)&&decide (b.toNat≤122))||(sl&&decide (b.toNat=47))
def aPV (s:ByteArray) (n:Int) (sl:Bool):Bool:=aMK s (aFU sl)&&inR (s.size:Int) 1 n
def nS (s:ByteArray):Bool:=aMK s (aFU false)&&inR (s.size:Int) 1 8
theorem fF {s:ByteArray} (hs:s.size≤maxLen):cX s=some (nS s):=by
 have hm:=le_max hs
 unfold cX nS
 rw [aD4 (L:=jB s) (g:=aFU false) (F:=some false) (E:=some (inR (s.size:Int) 1 8)) hs (fun n k hk => ?_) (fun n => ?_),bK]
 ·simp only [jB]
  rw [if_pos (bI hk),aDw hk,qA,cU (by omega)]
  generalize s[k]=b
  unfold aFU
  generalize jB s n ((k+1:Nat):Int)=Z
  simp only [Bool.or_eq_true,qM,qL,Bool.not_eq_true',decide_eq_false_iff_not,Bool.false_and,Bool.or_false]
  repeat' split
  all_goals first | rfl | (exfalso;omega)
 ·simp only [jB]
  rw [if_neg (by rw [aW];simp),dQ,qA]
theorem aFs {s:ByteArray} {m:Int} {sl:Bool} (hs:s.size≤maxLen):uC s m sl=some (aPV s m sl):=by
 have hm:=le_max hs
 unfold uC aPV
 rw [aD4 (L:=fA s m sl) (g:=aFU sl) (F:=some false) (E:=some (inR (s.size:Int) 1 m)) hs (fun n k hk => ?_) (fun n => ?_),bK]
 ·simp only [fA]
  rw [if_pos (bI hk),aDw hk,qA,cU (by omega)]
  generalize s[k]=b
  unfold aFU
  generalize fA s m sl n ((k+1:Nat):Int)=Z
  cases sl<;>simp only [Bool.or_eq_true,qM,qL,Bool.not_eq_true',decide_eq_false_iff_not,Bool.false_and,Bool.or_false,Bool.true_and,beq_eq_false_iff_ne,ne_eq,qD,if_true,if_false]
  all_goals repeat' split
  all_goals first | rfl | (exfalso;omega)
 ·simp only [fA]
  rw [if_neg (by rw [aW];simp),eH,qA]
theorem gG {s:ByteArray} (hs:s.size≤maxLen):dO s=some (nS s):=by
 unfold dO
 rw [aFs hs,qA]
 rfl
def aIh (x:M.Field):Bool:=nS x.Name&&inR x.N 0 1000000000
def zM (l:List M.Field) (k:Nat):Bool:=(l[k]?).any aIh&&(decide (k=0)||(l[k-1]?).any fun y=>(l[k]?).any fun x=>Op.bytesLess y.Name.toList x.Name.toList)
def bL (r:M.aC):Bool:=(List.range r.Fields.length).all (zM r.Fields)&&decide (r.Fields.length≤6)
theorem kI {r:M.aC} (hr:r.ok):aY r=some (bL r):=by
 have hm:=le_max hr.Fields.1
 unfold aY bL
 rw [tT (L:=eP r) (g:=zM r.Fields) (F:=some false) (E:=some (decide (r.Fields.length≤6))) hr.Fields.1 (fun n k hk => ?_) (fun n => ?_),bK]
 ·have hf:=hr.Fields.2 _ (qG hk)
  simp only [eP]
  rw [if_pos (bI hk),aO hk,qA,cU (by omega),fF hf.Name,qA,dQ,qA]
  unfold zM aIh
  rw [qF hk]
  generalize eP r n ((k+1:Nat):Int)=Z
  by_cases h0:k=0
  ·subst h0
   simp only [Option.any_some]
   generalize nS r.Fields[0].Name=a
   generalize inR r.Fields[0].N 0 1000000000=b
   cases a<;>cases b<;>simp
  ·have e:i64.wrap ((k:Int)-1)=((k-1:Nat):Int):=by rw [bO (by omega) (by omega)];omega
   have hk1:k-1<r.Fields.length:=by omega
   rw [if_pos (c:=(decide ((k:Int)>0))=true) (by simp;omega),e,aO hk1,qA,qF hk1]
   simp only [Option.any_some,h0,decide_false,Bool.false_or]
   generalize nS r.Fields[k].Name=a
   generalize inR r.Fields[k].N 0 1000000000=b
   generalize Op.bytesLess r.Fields[k-1].Name.toList r.Fields[k].Name.toList=c
   cases a<;>cases b<;>cases c<;>simp
 ·simp only [eP]
  rw [if_neg (by rw [aW];simp)]
  simp;omega
theorem aAb {r:M.aC} (hr:r.ok):oI r=some (bL r):=by
 have hm:=le_max hr.Fields.1
 unfold oI bL
 rw [tT (L:=eR r) (g:=zM r.Fields) (F:=some false) (E:=some (decide (r.Fields.length≤6))) hr.Fields.1 (fun n k hk => ?_) (fun n => ?_),bK]
 ·have hf:=hr.Fields.2 _ (qG hk)
  simp only [eR]
  rw [if_pos (bI hk),aO hk,qA,cU (by omega),gG hf.Name,qA,eH,qA]
  unfold zM aIh
  rw [qF hk]
  generalize eR r n ((k+1:Nat):Int)=Z
  by_cases h0:k=0
  ·subst h0
   simp only [Option.any_some]
   generalize nS r.Fields[0].Name=a
   generalize inR r.Fields[0].N 0 1000000000=b
   cases a<;>cases b<;>simp
  ·have e:i64.wrap ((k:Int)-1)=((k-1:Nat):Int):=by rw [bO (by omega) (by omega)];omega
   have hk1:k-1<r.Fields.length:=by omega
   rw [if_pos (c:=(decide ((k:Int)>0))=true) (by simp;omega),e,aO hk1,qA,qF hk1]
   simp only [Option.any_some,h0,decide_false,Bool.false_or]
   rw [xB r.Fields[k-1].Name.toList r.Fields[k].Name.toList]
   generalize nS r.Fields[k].Name=a
   generalize inR r.Fields[k].N 0 1000000000=b
   generalize (Op.bytesLess r.Fields[k].Name.toList r.Fields[k-1].Name.toList||r.Fields[k].Name.toList==r.Fields[k-1].Name.toList)=c
   cases a<;>cases b<;>cases c<;>simp
 ·simp only [eR]
  rw [if_neg (by rw [aW];simp)]
  simp;omega
theorem pD {r:M.aC} (h:bL r=true):r.Fields.length≤6 ∧ ∀x∈r.Fields,x.Name.size≤8∧0≤x.N∧x.N≤1000000000:=by
 unfold bL at h
 simp only [qM,qL,qQ,qR] at h
 refine ⟨h.2,fun x hx => ?_⟩
 obtain ⟨k,hk,rfl⟩:=List.getElem_of_mem hx
 have:=h.1 k hk
 unfold zM aIh nS inR at this
 rw [qF hk] at this
 simp only [Option.any_some,qM,qL] at this
 omega
theorem sP {r:List Int} {n:Nat} (hr:r.length≤1048576) (hn:n≤1000000000000) : ∃l,bD r (n:Int)=some l∧l.length=r.length+(uv n).length:=by
 have hi:inR (n:Int) 0 1000000000000=true:=by unfold inR;simp;omega
 unfold bD
 rw [fC (by simp;omega),qA,dQ,qA,hi,if_neg (by simp)]
 refine aKj (L:=bT) (b:=fun v=>IntKind.u8.wrap (i64.wrap (BitVec.ofInt (IntKind.i64.bits) (i64.wrap (BitVec.ofInt (IntKind.i64.bits) v&&&BitVec.ofInt (IntKind.i64.bits) 127).toNat)|||BitVec.ofInt (IntKind.i64.bits) 128).toNat)) (c:=fun v=>IntKind.u8.wrap v) (fun m n r h1 h2 => ?_) (fun m n r h1 => ?_) 8 fuel n r (by omega) (by omega) (by unfold fuel;omega) (by omega)
 ·simp only [bT]
  rw [if_pos (by simp;omega),uvf]
 ·simp only [bT]
  rw [if_neg (by simp;omega)]
theorem sN {r:List Int} {n:Nat} (hr:r.length≤1048576) (hn:n≤1000000000000) : ∃l,fM r (n:Int)=some l∧l.length=r.length+(uv n).length:=by
 have hi:inR (n:Int) 0 1000000000000=true:=by unfold inR;simp;omega
 unfold fM iZ
 rw [fC (by simp;omega),qA,qA,eH,qA,hi,if_neg (by simp)]
 refine aKj (L:=eA) (b:=fun v=>IntKind.u8.wrap (i64.wrap ((Int.tmod v 128)+128))) (c:=fun v=>IntKind.u8.wrap v) (fun m n r h1 h2 => ?_) (fun m n r h1 => ?_) 8 fuel n r (by omega) (by omega) (by unfold fuel;omega) (by omega)
 ·simp only [eA]
  rw [if_pos (by simp;omega),uvt h2]
 ·simp only [eA]
  rw [if_neg (by simp;omega)]
def uG (x:M.Field):Nat:=(uv x.Name.size).length+x.Name.size+(uv x.N.toNat).length
def aEL (r:M.aC):Nat:=if bL r=true then (uv r.Fields.length).length+lV uG r.Fields else 0
theorem aCK {r b:List Int} (hr:r.length≤1000) (hb:b.length≤1000) : ∃l,bC r b=some l∧l.length=r.length+((uv b.length).length+b.length):=by
 obtain ⟨l,e,hl⟩:=sP (r:=r) (n:=b.length) (by omega) (by omega)
 have h9:=aBK b.length (by omega)
 refine ⟨l++b,?_,by simp;omega⟩
 unfold bC
 rw [e,qA,fC (by omega),qA]
theorem aBb {r:M.aC} (hr:r.ok) : ∃l,eB r=some l∧l.length=aEL r:=by
 unfold eB aEL
 rw [kI hr,qA]
 by_cases h:bL r=true
 ·obtain ⟨h6,hf⟩:=pD h
  have hw : ∀x∈r.Fields,uG x≤26:=by
   intro x hx
   have:=hf x hx
   have h1:=aBK x.Name.size (by omega)
   have h2:=aBK x.N.toNat (by omega)
   unfold uG
   omega
  have hsum:=kU hw
  obtain ⟨l,e,hl⟩:=sP (r:=[]) (n:=r.Fields.length) (by simp) (by omega)
  have h9:=aBK r.Fields.length (by omega)
  rw [if_neg (by simp [h]),if_pos h,e,qA]
  have:=aIR (xs:=r.Fields) (w:=uG) (B:=900) (L:=bW r) (fun n k hk q hq => ?_) (fun n q => ?_) fuel 0 l (by unfold fuel;omega) (by omega) (by simp at hl ⊢;omega)
  ·obtain ⟨z,e2,hz⟩:=this
   exact ⟨z,e2,by simp at hl hz;omega⟩
  ·have hx:=hf _ (qG hk)
   have hw2:=hw _ (qG hk)
   obtain ⟨a,ea,ha⟩:=aCK (r:=q) (b:=cH r.Fields[k].Name) (by omega) (by rw [aQ];omega)
   rw [aQ] at ha
   have hn:=aBK r.Fields[k].Name.size (by omega)
   obtain ⟨b,eb,hb⟩:=sP (r:=a) (n:=r.Fields[k].N.toNat) (by omega) (by omega)
   rw [Int.toNat_of_nonneg hx.2.1] at eb
   refine ⟨b,by unfold uG;omega,?_⟩
   simp only [bW]
   rw [if_pos (bI hk),aO hk,qA,ea,qA,eb,qA,cU (by omega)]
  ·simp only [bW]
   rw [if_neg (by rw [aW];simp)]
 ·rw [if_pos (by simp [h]),if_neg h]
  exact ⟨_,rfl,rfl⟩
theorem aCF {r b:List Int} (hr:r.length≤1000) (hb:b.length≤1000) : ∃l,nH r b=some l∧l.length=r.length+((uv b.length).length+b.length):=by
 obtain ⟨l,e,hl⟩:=sN (r:=r) (n:=b.length) (by omega) (by omega)
 have h9:=aBK b.length (by omega)
 refine ⟨l++b,?_,by simp;omega⟩
 unfold nH
 rw [e,qA,fC (by omega),qA]
theorem aBe {r:M.aC} (hr:r.ok) : ∃l,mG r=some l∧l.length=aEL r:=by
 unfold mG aEL
 rw [aAb hr,qA]
 by_cases h:bL r=true
 ·obtain ⟨h6,hf⟩:=pD h
  have hw : ∀x∈r.Fields,uG x≤26:=by
   intro x hx
   have:=hf x hx
   have h1:=aBK x.Name.size (by omega)
   have h2:=aBK x.N.toNat (by omega)
   unfold uG
   omega
  have hsum:=kU hw
  obtain ⟨l,e,hl⟩:=sN (r:=[]) (n:=r.Fields.length) (by simp) (by omega)
  have h9:=aBK r.Fields.length (by omega)
  rw [if_neg (by simp [h]),if_pos h,e,qA]
  have:=aIR (xs:=r.Fields) (w:=uG) (B:=900) (L:=eO r) (fun n k hk q hq => ?_) (fun n q => ?_) fuel 0 l (by unfold fuel;omega) (by omega) (by simp at hl ⊢;omega)
  ·obtain ⟨z,e2,hz⟩:=this
   exact ⟨z,e2,by simp at hl hz;omega⟩
  ·have hx:=hf _ (qG hk)
   have hw2:=hw _ (qG hk)
   obtain ⟨a,ea,ha⟩:=aCF (r:=q) (b:=cH r.Fields[k].Name) (by omega) (by rw [aQ];omega)
   rw [aQ] at ha
   have hn:=aBK r.Fields[k].Name.size (by omega)
   obtain ⟨b,eb,hb⟩:=sN (r:=a) (n:=r.Fields[k].N.toNat) (by omega) (by omega)
   rw [Int.toNat_of_nonneg hx.2.1] at eb
   refine ⟨b,by unfold uG;omega,?_⟩
   simp only [eO]
   rw [if_pos (bI hk),aO hk,qA,ea,qA,eb,qA,cU (by omega)]
  ·simp only [eO]
   rw [if_neg (by rw [aW];simp)]
 ·rw [if_pos (by simp [h]),if_neg h]
  exact ⟨_,rfl,rfl⟩
def aD9 (v:Int) (x:M.Item):Int:=i64.wrap (v+((aD6 x.Key:Int)+(aEL x.aC:Int)))
def xF (s:M.aA):Int:=s.Items.foldl aD9 0
def uD (d:M.Database):Int:=d.Stores.foldl (fun v s=>i64.wrap (v+xF s)) 0
def aEc (b:M.Bucket):Int:=i64.wrap ((i64.wrap ((i64.wrap (xP b.Caches+i64.wrap (uD b.bF.Base+(List.length b.bF.Log:Int))))+xF b.aD.Base))+(i64.wrap (40*(List.length b.aD.Sync.aG.Writes:Int))))
theorem aAK {s:M.aA} (hs:s.ok):mX s=some (xF s):=by
 have hm:=le_max hs.Items.1
 unfold mX xF
 refine aCS (L:=gP s) (E:=some) hs.Items.1 (fun n v k hk => ?_) (fun n v => ?_) 0
 ·have hi:=hs.Items.2 _ (qG hk)
  obtain ⟨a,ea,ha⟩:=aDj hi.Key
  obtain ⟨b,eb,hb⟩:=aBb hi.aC
  simp only [gP]
  rw [if_pos (bI hk),aO hk,qA,ea,qA,eb,qA,cU (by omega),ha,hb]
  unfold aD9
  rw [wrap_add,Int.add_assoc]
 ·simp only [gP]
  rw [if_neg (by rw [aW];simp)]
theorem aBj {d:M.Database} (hd:d.ok):mJ d=some (uD d):=by
 have hm:=le_max hd.Stores.1
 unfold mJ uD
 refine aCS (L:=eN d) (E:=some) hd.Stores.1 (fun n v k hk => ?_) (fun n v => ?_) 0
 ·have hi:=hd.Stores.2 _ (qG hk)
  simp only [eN]
  rw [if_pos (bI hk),aO hk,qA,aAK hi,qA,cU (by omega)]
 ·simp only [eN]
  rw [if_neg (by rw [aW];simp)]
theorem aE9 {b:M.Bucket} (hb:b.ok):tD b=some (aEc b):=by
 unfold tD uL aEc
 rw [aC4 hb.Caches,qA,aBj hb.bF.Base,qA,qA,aAK hb.aD.Base,qA]
theorem aAE {s:M.aA} (hs:s.ok):mV s=some (xF s):=by
 have hm:=le_max hs.Items.1
 unfold mV xF
 refine aCS (L:=gJ s) (E:=some) hs.Items.1 (fun n v k hk => ?_) (fun n v => ?_) 0
 ·have hi:=hs.Items.2 _ (qG hk)
  obtain ⟨a,ea,ha⟩:=aDc hi.Key
  obtain ⟨b,eb,hb⟩:=aBe hi.aC
  simp only [gJ]
  rw [if_pos (bI hk),aO hk,qA,ea,qA,eb,qA,cU (by omega),ha,hb]
  unfold aD9
  rw [aLw]
 ·simp only [gJ]
  rw [if_neg (by rw [aW];simp)]
theorem aBW {d:M.Database} (hd:d.ok):mF d=some (uD d):=by
 have hm:=le_max hd.Stores.1
 unfold mF uD
 refine aCS (L:=eL d) (E:=some) hd.Stores.1 (fun n v k hk => ?_) (fun n v => ?_) 0
 ·have hi:=hd.Stores.2 _ (qG hk)
  simp only [eL]
  rw [if_pos (bI hk),aO hk,qA,aAE hi,qA,cU (by omega)]
 ·simp only [eL]
  rw [if_neg (by rw [aW];simp)]
theorem vH {b:M.Bucket} (hb:b.ok):lQ b=some (aEc b):=by
 unfold lQ uF aEc
 rw [aCl hb.Caches,qA,aBW hb.bF.Base,qA,qA,aAE hb.aD.Base,qA]
def cE (x y:M.Key):Int:=if wR x=true∧wR y=true then (if x.Kind=y.Kind then (if x.N=y.N then (if Op.bytesLess x.Text.toList y.Text.toList=true then -1 else if (x.Text.toList==y.Text.toList)=true then 0 else 1) else if x.N<y.N then -1 else 1) else if x.Kind<y.Kind then -1 else 1) else 0
theorem nK {x y:M.Key} (hx:x.ok) (hy:y.ok):aV x y=some (cE x y):=by
 unfold aV sA cE
 rw [iA hx,iA hy]
 simp only [qA]
 cases h1:wR x
 ·simp
 cases h2:wR y
 ·simp
 simp only [qB,qD,if_false,if_true,and_self,bne_iff_ne,ne_eq,qL,Bool.not_eq_true',Bool.or_eq_false_iff,ite_not,qA]
 repeat' split
 all_goals first | rfl | (exfalso;omega) | (simp_all;done) | (simp_all;omega)
theorem yB {x y:M.Key} (hx:x.ok) (hy:y.ok):kL x y=some (cE x y):=by
 have key:Lib.compareBytes x.Text.data.toList y.Text.data.toList=if Op.bytesLess x.Text.toList y.Text.toList=true then -1 else if (x.Text.toList==y.Text.toList)=true then 0 else 1:=by
  rw [aAS,←ByteArray.toList_eq,←ByteArray.toList_eq]
 unfold kL nB sB jE cE
 rw [vN hx,vN hy]
 simp only [qA,key]
 cases h1:wR x
 ·simp
 cases h2:wR y
 ·simp
 simp only [qB,qD,if_false,if_true,and_self,bne_iff_ne,ne_eq,qL,Bool.not_eq_true',Bool.or_eq_false_iff,ite_not,qA]
 repeat' split
 all_goals first | rfl | (exfalso;omega) | (simp_all;done) | (simp_all;omega)
theorem aB7 {p:M.Cached→Option Bool} {f:M.Cached→Bool} {xs:List M.Cached} (hx:xs.length≤maxLen) (hp : ∀x∈xs,p x=some (f x)):gC xs p=some (rD f xs):=by
 have hm:=le_max hx
 unfold gC
 rw [findAll (L:=bQ xs p) (f:=f) (A:=fun i=>some (i:Int)) (E:=some (-1)) hx (fun n k hk=>by
  simp only [bQ]
  rw [if_pos (bI hk),aO hk,qA,hp _ (qG hk),qA,cU (by omega)]) (fun n=>by
  simp only [bQ]
  rw [if_neg (by rw [aW];simp)]),vY]
theorem aCz {p:M.aA→Option Bool} {f:M.aA→Bool} {xs:List M.aA} (hx:xs.length≤maxLen) (hp : ∀x∈xs,p x=some (f x)):hH xs p=some (rD f xs):=by
 have hm:=le_max hx
 unfold hH
 rw [findAll (L:=bV xs p) (f:=f) (A:=fun i=>some (i:Int)) (E:=some (-1)) hx (fun n k hk=>by
  simp only [bV]
  rw [if_pos (bI hk),aO hk,qA,hp _ (qG hk),qA,cU (by omega)]) (fun n=>by
  simp only [bV]
  rw [if_neg (by rw [aW];simp)]),vY]
theorem aCv {p:M.Field→Option Bool} {f:M.Field→Bool} {xs:List M.Field} (hx:xs.length≤maxLen) (hp : ∀x∈xs,p x=some (f x)):hT xs p=some (rD f xs):=by
 have hm:=le_max hx
 unfold hT
 rw [findAll (L:=bU xs p) (f:=f) (A:=fun i=>some (i:Int)) (E:=some (-1)) hx (fun n k hk=>by
  simp only [bU]
  rw [if_pos (bI hk),aO hk,qA,hp _ (qG hk),qA,cU (by omega)]) (fun n=>by
  simp only [bU]
  rw [if_neg (by rw [aW];simp)]),vY]
def uU (l:List M.Item) (k:Nat):Bool:=(l[k]?).any (fun x=>wR x.Key&&bL x.aC)&&(decide (k=0)||(l[k-1]?).any fun y=>(l[k]?).any fun x=>decide (cE y.Key x.Key<0))
def fB (s:M.aA):Bool:=(List.range s.Items.length).all (uU s.Items)&&(nS s.Name&&(decide (s.Items.length≤16)&&inR s.Auto 0 1000000))
def yM (x:M.aT):Bool:=inR x.Device 1 1000000&&(inR x.Seq 1 1000000&&(wR x.Key&&(nS x.Field&&inR x.N 0 1000000000)))
def yI (o:M.aG) (k:Nat):Bool:=(o.Writes[k]?).any fun x=>yM x&&((x.Device==o.Device)&&(x.Seq==i64.wrap ((i64.wrap (o.Next-(List.length o.Writes:Int)))+(k:Int))))
def lL (o:M.aG):Bool:=(List.range o.Writes.length).all (yI o)&&(inR o.Device 1 1000000&&(inR o.Next 1 1000000&&decide (o.Writes.length≤20)))
theorem rA {s:M.aA} (hs:s.ok):iF s=some (fB s):=by
 have hm:=le_max hs.Items.1
 unfold iF fB
 rw [tT (L:=fG s) (g:=uU s.Items) (F:=some false) (E:=some (nS s.Name&&(decide (s.Items.length≤16)&&inR s.Auto 0 1000000))) hs.Items.1 (fun n k hk => ?_) (fun n => ?_),bK]
 ·have hf:=hs.Items.2 _ (qG hk)
  simp only [fG]
  rw [if_pos (bI hk),aO hk,qA,cU (by omega),iA hf.Key,qA,kI hf.aC,qA]
  unfold uU
  rw [qF hk]
  generalize fG s n ((k+1:Nat):Int)=Z
  by_cases h0:k=0
  ·subst h0
   simp only [Option.any_some]
   generalize wR s.Items[0].Key=a
   generalize bL s.Items[0].aC=b
   cases a<;>cases b<;>simp
  ·have e:i64.wrap ((k:Int)-1)=((k-1:Nat):Int):=by rw [bO (by omega) (by omega)];omega
   have hk1:k-1<s.Items.length:=by omega
   have hg:=hs.Items.2 _ (qG hk1)
   rw [if_pos (c:=(decide ((k:Int)>0))=true) (by simp;omega),e,aO hk1,qA,nK hg.Key hf.Key,qA,qF hk1]
   simp only [Option.any_some,h0,decide_false,Bool.false_or]
   generalize wR s.Items[k].Key=a
   generalize bL s.Items[k].aC=b
   by_cases hc:cE s.Items[k-1].Key s.Items[k].Key<0
   ·rw [if_neg (c:=(decide (cE s.Items[k-1].Key s.Items[k].Key≥0))=true) (by simp;omega)]
    cases a<;>cases b<;>simp [hc]
   ·rw [if_pos (c:=(decide (cE s.Items[k-1].Key s.Items[k].Key≥0))=true) (by simp;omega)]
    cases a<;>cases b<;>simp [hc]
 ·simp only [fG]
  rw [if_neg (by rw [aW];simp),fF hs.Name,qA,dQ,qA,bK,bK]
  congr 3
  simp;omega
theorem sO {x:M.aT} (hx:x.ok):fP x=some (yM x):=by
 unfold fP yM
 simp only [dQ,iA hx.Key,fF hx.Field,qA,bK]
theorem aBJ {s:M.aA} (hs:s.ok):pY s=some (fB s):=by
 have hm:=le_max hs.Items.1
 unfold pY fB
 rw [tT (L:=fH s) (g:=uU s.Items) (F:=some false) (E:=some (nS s.Name&&(decide (s.Items.length≤16)&&inR s.Auto 0 1000000))) hs.Items.1 (fun n k hk => ?_) (fun n => ?_),bK]
 ·have hf:=hs.Items.2 _ (qG hk)
  simp only [fH]
  rw [if_pos (bI hk),aO hk,qA,cU (by omega),vN hf.Key,qA,aAb hf.aC,qA]
  unfold uU
  rw [qF hk]
  generalize fH s n ((k+1:Nat):Int)=Z
  by_cases h0:k=0
  ·subst h0
   simp only [Option.any_some]
   generalize wR s.Items[0].Key=a
   generalize bL s.Items[0].aC=b
   cases a<;>cases b<;>simp
  ·have e:i64.wrap ((k:Int)-1)=((k-1:Nat):Int):=by rw [bO (by omega) (by omega)];omega
   have hk1:k-1<s.Items.length:=by omega
   have hg:=hs.Items.2 _ (qG hk1)
   rw [if_pos (c:=(decide ((k:Int)>0))=true) (by simp;omega),e,aO hk1,qA,yB hg.Key hf.Key,qA,qF hk1]
   simp only [Option.any_some,h0,decide_false,Bool.false_or]
   generalize wR s.Items[k].Key=a
   generalize bL s.Items[k].aC=b
   by_cases hc:cE s.Items[k-1].Key s.Items[k].Key<0
   ·rw [if_neg (c:=(decide (cE s.Items[k-1].Key s.Items[k].Key≥0))=true) (by simp;omega)]
    cases a<;>cases b<;>simp [hc]
   ·rw [if_pos (c:=(decide (cE s.Items[k-1].Key s.Items[k].Key≥0))=true) (by simp;omega)]
    cases a<;>cases b<;>simp [hc]
 ·simp only [fH]
  rw [if_neg (by rw [aW];simp),gG hs.Name,qA,eH,qA,bK,bK]
  congr 3
  simp;omega
theorem aBB {x:M.aT} (hx:x.ok):lD x=some (yM x):=by
 unfold lD yM
 simp only [eH,vN hx.Key,gG hx.Field,qA,bK]
theorem kH {o:M.aG} (ho:o.ok):eW o=some (lL o):=by
 have hm:=le_max ho.Writes.1
 unfold eW lL
 rw [tT (L:=iJ o) (g:=yI o) (F:=some false) (E:=some true) ho.Writes.1 (fun n k hk => ?_) (fun n => ?_)]
 ·simp only [dQ,qA]
  by_cases h:o.Writes.length≤20
  ·rw [if_neg (c:=(decide ((List.length o.Writes:Int)>20))=true) (by simp;omega)]
   cases (List.range o.Writes.length).all (yI o)<;>cases inR o.Device 1 1000000<;>cases inR o.Next 1 1000000<;>simp [h]
  ·rw [if_pos (c:=(decide ((List.length o.Writes:Int)>20))=true) (by simp;omega)]
   cases inR o.Device 1 1000000<;>cases inR o.Next 1 1000000<;>simp [h]
 ·have hf:=ho.Writes.2 _ (qG hk)
  simp only [iJ]
  rw [if_pos (bI hk),aO hk,qA,cU (by omega),sO hf,qA]
  unfold yI
  rw [qF hk,Option.any_some]
  simp only [yF,nZ,aO0]
 ·simp only [iJ]
  rw [if_neg (by rw [aW];simp)]
theorem aAs {o:M.aG} (ho:o.ok):oL o=some (lL o):=by
 have hm:=le_max ho.Writes.1
 unfold oL lL
 rw [tT (L:=iK o) (g:=yI o) (F:=some false) (E:=some (inR o.Device 1 1000000&&(inR o.Next 1 1000000&&decide (o.Writes.length≤20)))) ho.Writes.1 (fun n k hk => ?_) (fun n => ?_),bK]
 ·have hf:=ho.Writes.2 _ (qG hk)
  simp only [iK]
  rw [if_pos (bI hk),aO hk,qA,cU (by omega),aBB hf,qA]
  unfold yI
  rw [qF hk,Option.any_some]
  simp only [yF,nZ,aO0]
 ·simp only [iK]
  rw [if_neg (by rw [aW];simp)]
  simp only [eH,qA,bK]
  congr 3
  simp;omega
def vA (r:M.aD):Bool:=fB r.Base&&((r.Base.Name.toList==(⟨#[110,111,116,101,115]⟩:ByteArray).toList)&&(inR r.Seen 0 1000000000000&&lL r.Sync.aG))
theorem tI {r:M.aD} (hr:r.ok):iW r=some (vA r):=by
 unfold iW vA
 simp only [rA hr.Base,dQ,kH hr.Sync.aG,qA,bK]
theorem aDe {r:M.aD} (hr:r.ok):pQ r=some (vA r):=by
 unfold pQ vA
 simp only [aBJ hr.Base,eH,aAs hr.Sync.aG,qA,bK]
theorem aFl {α:Type} {f:α→Bool} {xs:List α} {k:Nat} (hk:k<xs.length) (hf:f xs[k]=true):(rD f xs==(k:Int))=(List.range k).all (fun j => !((xs[j]?).any f)):=by
 rw [Bool.eq_iff_iff]
 simp only [beq_iff_eq,qQ,qR]
 constructor
 ·intro h j hj
  unfold rD at h
  cases e:xs.findIdx? f with
  | none=>rw [e] at h;simp only at h;omega
  | some i =>
   rw [e] at h
   simp only at h
   have:i=k:=by omega
   subst this
   have:=(List.findIdx?_eq_some_iff_getElem.1 e).2.2 j hj
   rw [qF (by omega)]
   simpa using this
 ·intro h
  have e:xs.findIdx? f=some k:=List.findIdx?_eq_some_iff_getElem.2 ⟨hk,hf,fun j hj=>by
   have:=h j hj
   rw [qF (by omega)] at this
   simpa using this⟩
  unfold rD
  rw [e]
def aAR (a b:ByteArray) (x:M.Cached):Bool:=(x.Site.toList==a.toList)&&(x.Path.toList==b.toList)
theorem aAp {c:M.Cache} {a b:ByteArray} (hc:c.ok):pV c a b=some (rD (aAR a b) c.Entries):=by
 unfold pV
 rw [aB7 (f:=aAR a b) hc.Entries.1 (fun x _=>by simp only [pI,bK];rfl),qA]
def aAP (r:M.Response):Bool:=inR r.Type_ 1 4&&(inR r.Status 0 999&&(inR r.Version 0 1000000000000&&decide ((List.length r.Body:Int)≤60)))
theorem aCb (r:M.Response):oR r=some (aAP r):=by
 unfold oR aAP
 simp only [dQ,qA,bK]
theorem zC (r:M.Response):lT r=some (aAP r):=by
 unfold lT aAP
 simp only [eH,qA,bK]
def aNO (l:List M.Cached) (k:Nat) (x:M.Cached):Bool:=(List.range k).all fun j => !((l[j]?).any (aAR x.Site x.Path))
def uW (l:List M.Cached) (k:Nat):Bool:=(l[k]?).any fun x=>nS x.Site&&(nS x.Path&&(aAP x.Response&&aNO l k x))
def zO (l:List M.Cached):Bool:=(List.range l.length).all (uW l)&&decide (l.length≤12)
theorem aCn {l:List M.Cached} (hl:l.length≤maxLen ∧ ∀x∈l,M.Cached.ok x):lU l=some (zO l):=by
 have hm:=le_max hl.1
 unfold lU zO
 rw [tT (L:=dH l) (g:=uW l) (F:=some false) (E:=some (decide (l.length≤12))) hl.1 (fun n k hk => ?_) (fun n => ?_),bK]
 ·have hf:=hl.2 _ (qG hk)
  simp only [dH]
  rw [if_pos (bI hk),aO hk,qA,cU (by omega),fF hf.Site,qA,fF hf.Path,qA,aCb,qA]
  rw [tT (N:=k) (L:=eJ l (k:Int) l[k] (fun _=>dH l n ((k+1:Nat):Int))) (g:=fun j => !((l[j]?).any (aAR l[k].Site l[k].Path))) (F:=some false) (E:=dH l n ((k+1:Nat):Int)) (by have:=hl.1;omega) (fun n j hj => ?_) (fun n => ?_)]
  ·unfold uW aNO
   rw [qF hk,Option.any_some]
   simp only [nZ,aO0]
  ·have hj2:j<l.length:=by omega
   simp only [eJ]
   rw [if_pos (bI hj),aO hj2,qA,cU (by omega),aO0,qF hj2,Option.any_some,nZ]
   rfl
  ·simp only [eJ]
   rw [if_neg (by rw [aW];simp)]
 ·simp only [dH]
  rw [if_neg (by rw [aW];simp)]
  simp;omega
theorem aDh {c:M.Cache} {Z:Option Bool} (hc:c.ok):dP c (fun _=>Z) fuel 0=if (List.range c.Entries.length).all (uW c.Entries)=true then Z else some false:=by
 have hm:=le_max hc.Entries.1
 refine tT (L:=dP c (fun _=>Z)) hc.Entries.1 (fun n k hk => ?_) (fun n => ?_)
 ·have hf:=hc.Entries.2 _ (qG hk)
  simp only [dP]
  rw [if_pos (bI hk),aO hk,qA,cU (by omega),gG hf.Site,qA,gG hf.Path,qA,aAp hc,qA,zC,qA,yF,aFl hk (by simp [aAR])]
  unfold uW aNO
  rw [qF hk,Option.any_some]
  generalize dP c (fun _=>Z) n ((k+1:Nat):Int)=Y
  generalize nS c.Entries[k].Site=a
  generalize nS c.Entries[k].Path=b
  generalize aAP c.Entries[k].Response=d
  generalize (List.range k).all (fun j => !((c.Entries[j]?).any (aAR c.Entries[k].Site c.Entries[k].Path)))=e
  cases a<;>cases b<;>cases d<;>cases e<;>rfl
 ·simp only [dP]
  rw [if_neg (by rw [aW];simp)]
theorem aDi {c:M.Cache} {Z:Option Bool} (hc:c.ok):dE c (fun _=>Z) fuel 0=if (List.range c.Entries.length).all (uW c.Entries)=true then Z else some false:=by
 have hm:=le_max hc.Entries.1
 refine tT (L:=dE c (fun _=>Z)) hc.Entries.1 (fun n k hk => ?_) (fun n => ?_)
 ·have hf:=hc.Entries.2 _ (qG hk)
  simp only [dE]
  rw [if_pos (bI hk),aO hk,qA,cU (by omega),gG hf.Site,qA,gG hf.Path,qA,aAp hc,qA,zC,qA,yF,aFl hk (by simp [aAR])]
  unfold uW aNO
  rw [qF hk,Option.any_some]
  generalize dE c (fun _=>Z) n ((k+1:Nat):Int)=Y
  generalize nS c.Entries[k].Site=a
  generalize nS c.Entries[k].Path=b
  generalize aAP c.Entries[k].Response=d
  generalize (List.range k).all (fun j => !((c.Entries[j]?).any (aAR c.Entries[k].Site c.Entries[k].Path)))=e
  cases a<;>cases b<;>cases d<;>cases e<;>rfl
 ·simp only [dE]
  rw [if_neg (by rw [aW];simp)]
def aA3 (l:List M.Cache) (k:Nat):Bool:=(l[k]?).any (fun c=>inR c.Version 1 1000000000000&&zO c.Entries)&&(decide (k=0)||(l[k-1]?).any fun d=>(l[k]?).any fun c=>decide (d.Version<c.Version))
def gD (s:M.aE):Bool:=(List.range s.Caches.length).all (aA3 s.Caches)&&decide (s.Caches.length≤4)
theorem jW {s:M.aE} (hs:s.ok):bR s=some (gD s):=by
 have hm:=le_max hs.Caches.1
 unfold bR gD
 rw [tT (L:=dF s) (g:=aA3 s.Caches) (F:=some false) (E:=some (decide (s.Caches.length≤4))) hs.Caches.1 (fun n k hk => ?_) (fun n => ?_),bK]
 ·have hf:=hs.Caches.2 _ (qG hk)
  simp only [dF]
  rw [if_pos (bI hk),aO hk,qA,cU (by omega),dQ,qA,aCn hf.Entries]
  simp only [qA]
  unfold aA3
  rw [qF hk]
  generalize dF s n ((k+1:Nat):Int)=Z
  by_cases h0:k=0
  ·subst h0
   simp only [Option.any_some]
   generalize inR s.Caches[0].Version 1 1000000000000=a
   generalize zO s.Caches[0].Entries=b
   cases a<;>cases b<;>simp
  ·have e:i64.wrap ((k:Int)-1)=((k-1:Nat):Int):=by rw [bO (by omega) (by omega)];omega
   have hk1:k-1<s.Caches.length:=by omega
   rw [if_pos (c:=(decide ((k:Int)>0))=true) (by simp;omega),e,aO hk1,qA,qF hk1]
   simp only [Option.any_some,h0,decide_false,Bool.false_or]
   generalize inR s.Caches[k].Version 1 1000000000000=a
   generalize zO s.Caches[k].Entries=b
   by_cases hc:s.Caches[k-1].Version<s.Caches[k].Version
   ·rw [if_neg (c:=(decide (s.Caches[k-1].Version≥s.Caches[k].Version))=true) (by simp;omega)]
    cases a<;>cases b<;>simp [hc]
   ·rw [if_pos (c:=(decide (s.Caches[k-1].Version≥s.Caches[k].Version))=true) (by simp;omega)]
    cases a<;>cases b<;>simp [hc]
 ·simp only [dF]
  rw [if_neg (by rw [aW];simp)]
  simp;omega
theorem aCd {s:M.aE} (hs:s.ok):oD s=some (gD s):=by
 have hm:=le_max hs.Caches.1
 unfold oD gD
 rw [tT (L:=dN s) (g:=aA3 s.Caches) (F:=some false) (E:=some (decide (s.Caches.length≤4))) hs.Caches.1 (fun n k hk => ?_) (fun n => ?_),bK]
 ·have hf:=hs.Caches.2 _ (qG hk)
  simp only [dN]
  rw [if_pos (bI hk),aO hk,qA,cU (by omega),eH,qA,aDh hf,aDi hf]
  unfold aA3 zO
  rw [qF hk]
  generalize dN s n ((k+1:Nat):Int)=Z
  have h12:(decide ((List.length s.Caches[k].Entries:Int)>12)) = !decide (s.Caches[k].Entries.length≤12):=by
   by_cases h:s.Caches[k].Entries.length≤12
   ·simp [h];omega
   ·simp [h];omega
  rw [h12]
  by_cases h0:k=0
  ·subst h0
   simp only [Option.any_some]
   generalize inR s.Caches[0].Version 1 1000000000000=a
   generalize (List.range s.Caches[0].Entries.length).all (uW s.Caches[0].Entries)=b
   generalize decide (s.Caches[0].Entries.length≤12)=d
   cases a<;>cases b<;>cases d<;>simp
  ·have e:i64.wrap ((k:Int)-1)=((k-1:Nat):Int):=by rw [bO (by omega) (by omega)];omega
   have hk1:k-1<s.Caches.length:=by omega
   rw [if_pos (c:=(decide ((k:Int)>0))=true) (by simp;omega),e,aO hk1,qA,qF hk1]
   simp only [Option.any_some,h0,decide_false,Bool.false_or]
   generalize inR s.Caches[k].Version 1 1000000000000=a
   generalize (List.range s.Caches[k].Entries.length).all (uW s.Caches[k].Entries)=b
   generalize decide (s.Caches[k].Entries.length≤12)=d
   by_cases hc:s.Caches[k-1].Version<s.Caches[k].Version
   ·rw [if_neg (c:=(decide (s.Caches[k].Version≤s.Caches[k-1].Version))=true) (by simp;omega)]
    cases a<;>cases b<;>cases d<;>simp [hc]
   ·rw [if_pos (c:=(decide (s.Caches[k].Version≤s.Caches[k-1].Version))=true) (by simp;omega)]
    cases a<;>cases b<;>cases d<;>simp [hc]
 ·simp only [dN]
  rw [if_neg (by rw [aW];simp)]
  simp;omega
theorem aGL {p:M.Registration} (hs:p.Site.size≤maxLen) : ∀(n k:Nat) (v:Int),k≤3→3-k<n → ∃r,bM p n v (k:Int)=some r
 | 0,k,v,_,h=>by omega
 | n+1,k,v,h3,h=>by
  simp only [bM]
  have hl:(List.length ([p.Active,p.Waiting,p.Installing]))=3:=rfl
  by_cases hk:k<3
  ·rw [if_pos (by simp;omega),aO (by rw [hl];exact hk),qA,dQ,qA,cU (by omega)]
   obtain ⟨r1,e1⟩:=aGL hs n (k+1) ([p.Active,p.Waiting,p.Installing][k]'(by rw [hl];exact hk)) (by omega) (by omega)
   obtain ⟨r2,e2⟩:=aGL hs n (k+1) v (by omega) (by omega)
   rw [e1,e2]
   repeat' split
   all_goals exact ⟨_,rfl⟩
  ·have:k=3:=by omega
   subst this
   rw [if_neg (by simp),fF hs]
   exact ⟨_,rfl⟩
theorem aGK {p:M.Registration} (hs:p.Site.size≤maxLen) : ∀(n:Nat) (v k:Int),0≤v→cO p n v k=bM p n v k
 | 0,_,_,_=>rfl
 | n+1,v,k,hv=>by
  simp only [cO,bM]
  rw [fF hs,gG hs]
  cases hx:idx ([p.Active,p.Waiting,p.Installing]) k with
  | none=>rfl
  | some x =>
   simp only [qA,dQ,eH]
   cases hi:inR x 0 1000000000000 with
   | false=>rfl
   | true =>
    have h0:0≤x:=by unfold inR at hi;simp at hi;exact hi.1
    by_cases e0:x=0
    ·subst e0
     have:(if (0:Int)>v then (0:Int) else v)=v:=by rw [if_neg (by omega)]
     rw [this,aGK hs n v _ hv]
     rfl
    ·by_cases e1:x≤v
     ·have e2:(decide (x≤v))=true:=by simpa using e1
      simp [e0,e1]
     ·have:(if x>v then x else v)=x:=by rw [if_pos (by omega)]
      rw [this,aGK hs n x _ h0]
      simp [e0,e1]
def aPt (p:M.Registration):Bool:=(hU p).getD false
theorem vU {p:M.Registration} (hp:p.ok):hU p=some (aPt p):=by
 obtain ⟨r,e⟩:=aGL hp.Site fuel 0 0 (by omega) (by unfold fuel;omega)
 have e2:hU p=some r:=e
 unfold aPt
 rw [e2];rfl
theorem aAv {p:M.Registration} (hp:p.ok):nL p=some (aPt p):=by
 rw [←vU hp]
 exact aGK hp.Site fuel 0 0 (by omega)
def wA (a:ByteArray) (x:M.aA):Bool:=x.Name.toList==a.toList
theorem wG {d:M.Database} {a:ByteArray} (hd:d.ok):kV d a=some (rD (wA a) d.Stores):=by
 have hm:=le_max hd.Stores.1
 unfold kV
 rw [findAll (L:=gV d a) (f:=wA a) (A:=fun i=>some (i:Int)) (E:=some (-1)) hd.Stores.1 (fun m k hk => ?_) (fun m => ?_),vY]
 ·simp only [gV]
  rw [if_pos (bI hk),aO hk,qA,cU (by omega)]
  rfl
 ·simp only [gV]
  rw [if_neg (by rw [aW];simp)]
theorem aDf {d:M.Database} {a:ByteArray} (hd:d.ok):pH d a=some (rD (wA a) d.Stores):=by
 unfold pH
 rw [aCz (f:=wA a) hd.Stores.1 (fun x _=>by simp only [nE];rfl),qA]
def kN (a:ByteArray) (x:M.Field):Bool:=x.Name.toList==a.toList
def fJ (r:M.aC) (a:ByteArray):Int×Bool:=match r.Fields.find? (kN a) with | some x=>(x.N,true) | none=>(0,false)
theorem aCU {r:M.aC} {a:ByteArray} (hm:r.Fields.length≤9223372036854775807) : ∀(n k:Nat),r.Fields.length-k<n→k≤r.Fields.length→kM r a n (k:Int)=some (match (r.Fields.drop k).find? (kN a) with | some x=>(x.N,true) | none=>(0,false))
 | 0,k,h,_=>by omega
 | n+1,k,h,hk=>by
  simp only [kM]
  rcases Nat.lt_or_ge k r.Fields.length with h1 | h1
  ·rw [if_pos (bI h1),aO h1,qA,cU (by omega),aCU hm n (k+1) (by omega) h1,qV h1,List.find?_cons]
   cases e:kN a r.Fields[k] with
   | true=>rw [if_pos (show (r.Fields[k].Name.toList==a.toList)=true from e)]
   | false=>rw [if_neg (by rw [show (r.Fields[k].Name.toList==a.toList)=false from e];simp)]
  ·have:k=r.Fields.length:=by omega
   subst this
   rw [if_neg (by rw [aW];simp),qY]
   rfl
theorem mC {r:M.aC} {a:ByteArray} (hr:r.ok):gA r a=some (fJ r a):=by
 have hm:=le_max hr.Fields.1
 have:=aCU (a:=a) hm fuel 0 (by unfold fuel;omega) (by omega)
 exact this
theorem mL {r:M.aC} {a:ByteArray} (hr:r.ok):iM r a=some (fJ r a):=by
 unfold iM vG fJ
 rw [aCv (f:=kN a) hr.Fields.1 (fun x _=>by simp only [pF];rfl),qA,qA]
 by_cases h:rD (kN a) r.Fields<0
 ·rw [if_pos (by simpa using h)]
  have:r.Fields.find? (kN a)=none:=by
   have h2:=aGA (kN a) r.Fields
   rw [decide_eq_false (by omega)] at h2
   rw [List.find?_eq_none]
   intro x hx hf
   have h3:r.Fields.any (kN a)=true:=List.any_eq_true.2 ⟨x,hx,hf⟩
   rw [←h2] at h3
   cases h3
  rw [this]
 ·obtain ⟨k,e,hk⟩:=lM h
  rw [if_neg (by simpa using h),e,aO hk,qA]
  have e2:r.Fields.findIdx? (kN a)=some k:=by
   unfold rD at e
   cases e3:r.Fields.findIdx? (kN a) with
   | none=>rw [e3] at e;simp only at e;omega
   | some i=>rw [e3] at e;simp only at e;congr 1;omega
  have e4:=List.findIdx?_eq_some_iff_getElem.1 e2
  have:r.Fields.find? (kN a)=some r.Fields[k]:=by
   rw [List.find?_eq_some_iff_getElem]
   exact ⟨e4.2.1,k,hk,rfl,fun j hj=>by simpa using e4.2.2 j hj⟩
  rw [this]
def aBf (a:ByteArray) (x y:M.Item):Bool:=decide ((fJ x.aC a).1<(fJ y.aC a).1)||(((fJ x.aC a).1==(fJ y.aC a).1)&&decide (cE x.Key y.Key<0))
theorem aGG {x y:M.Item} {a:ByteArray} (hx:x.ok) (hy:y.ok):uN x y a=some (aBf a x y):=by
 unfold uN aBf
 simp only [mC hx.aC,mC hy.aC,nK hx.Key hy.Key,qA,bK]
 cases decide ((fJ x.aC a).1<(fJ y.aC a).1)<;>simp
theorem aCQ {x y:M.Item} {a:ByteArray} (hx:x.ok) (hy:y.ok):nF x y a=some (aBf a x y):=by
 unfold nF aBf
 simp only [mL hx.aC,mL hy.aC,yB hx.Key hy.Key,qA,bK]
 cases decide ((fJ x.aC a).1<(fJ y.aC a).1)<;>simp
theorem aAH (x:List Int) (hs:x.length≤1073741824):iZ x=some x:=by
 unfold iZ
 rw [aGS hs (by omega),qA]
theorem aBT (x:M.Response) (hs:M.Response.sz x≤1073741824):pX x=some x:=by
 simp only [M.Response.sz] at hs
 unfold pX
 rw [aGS (by omega) (by omega),qA]
theorem aBX (x:M.Response) (hs:M.Response.sz x≤1073741824):mI x=some x:=by
 simp only [M.Response.sz] at hs
 unfold mI
 rw [aAH _ (by omega),qA]
end Go.Proofs.YtidhkhdnjonjfaaGreat.gen
