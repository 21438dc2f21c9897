/-
  Helper text. No conditions.
-/
import Derived.Test.YtimblbmbfdopgaaGreatOpenPagePm
set_option linter.unusedVariables false
set_option linter.unusedSimpArgs false
namespace Go.Proofs.YtimblbmbfdopgaaGreat.gen
open Go Go.Sh
open Go.IntKind (i64)
theorem cZ (x a b:Int):bG x a b=some (inR x a b):=by
 unfold bG inR
 by_cases h:a≤x
 ·rw [if_pos (by simpa using h)];simp [h]
 ·rw [if_neg (by simpa using h)];simp [h]
theorem bN (x a b:Int):aY x a b=some (inR x a b):=by
 unfold aY inR
 by_cases h:a≤x
 ·rw [if_pos (by simpa using h)];simp [h]
 ·rw [if_neg (by simpa using h)];simp [h]
def aIF (r:M.Response) (b:Bool):Int:=if b=true then 76 else i64.wrap (16+(List.length r.Body:Int))
theorem aHB (r:M.Response) (b:Bool):tC r b=some (aIF r b):=by unfold tC aIF;cases b<;>rfl
theorem aGn (r:M.Response) (b:Bool):uJ r b=some (aIF r b):=by unfold uJ aIF;cases b<;>rfl
def aNW (v:Int) (x:M.Cached):Int:=i64.wrap (v+aIF x.Response (x.Response.Type_==3))
def aC9 (s:M.aO):Int:=s.Caches.foldl (fun v c=>c.Entries.foldl aNW v) 0
theorem aHD {s:M.aO} (hs:s.ok):sP s=some (aC9 s):=by
 have hm:=le_max hs.Caches.1
 unfold sP aC9
 refine aFQ (L:=eB s) (E:=some) hs.Caches.1 (fun n v k hk => ?_) (fun n v => ?_) 0
 ·have hc:=hs.Caches.2 _ (qG hk)
  have hm2:=le_max hc.Entries.1
  simp only [eB]
  rw [if_pos (bB hk),bF (by omega)]
  refine aFQ (xs:=s.Caches[k].Entries) (L:=hJ s (k:Int) (fun v3 _=>eB s n v3 ((k+1:Nat):Int))) (E:=fun v3=>eB s n v3 ((k+1:Nat):Int)) hc.Entries.1 (fun n v j hj => ?_) (fun n v => ?_) v
  ·simp only [hJ]
   rw [aN hk,qA,if_pos (bB hj),aN hj,qA,aHB,qA,bF (by omega)]
   rfl
  ·simp only [hJ]
   rw [aN hk,qA,if_neg (by rw [aP];simp)]
 ·simp only [eB]
  rw [if_neg (by rw [aP];simp)]
theorem aGt {s:M.aO} (hs:s.ok):tU s=some (aC9 s):=by
 have hm:=le_max hs.Caches.1
 unfold tU aC9
 refine aFQ (L:=eO s) (E:=some) hs.Caches.1 (fun n v k hk => ?_) (fun n v => ?_) 0
 ·have hc:=hs.Caches.2 _ (qG hk)
  have hm2:=le_max hc.Entries.1
  simp only [eO]
  rw [if_pos (bB hk),bF (by omega),aN hk,qA]
  refine aFQ (xs:=s.Caches[k].Entries) (L:=hH s.Caches[k] (fun v3 _=>eO s n v3 ((k+1:Nat):Int))) (E:=fun v3=>eO s n v3 ((k+1:Nat):Int)) hc.Entries.1 (fun n v j hj => ?_) (fun n v => ?_) v
  ·simp only [hH]
   rw [if_pos (bB hj),aN hj,qA,aGn,qA,bF (by omega)]
   rfl
  ·simp only [hH]
   rw [if_neg (by rw [aP];simp)]
 ·simp only [eO]
  rw [if_neg (by rw [aP];simp)]
def aLH (b:UInt8):Bool:=(decide (97≤b.toNat)&&decide (b.toNat≤122))||(decide (48≤b.toNat)&&decide (b.toNat≤57))
def aKf (s:ByteArray):Bool:=aPG s aLH&&decide (s.size≤12)
theorem aJ0 {s:ByteArray} (hs:s.size≤maxLen):aAC s=some (aKf s):=by
 have hm:=le_max hs
 unfold aAC aKf
 rw [aGU (L:=gK s) (g:=aLH) (F:=some false) (E:=some (decide (s.size≤12))) hs (fun n k hk => ?_) (fun n => ?_),bL]
 ·simp only [gK]
  rw [if_pos (bB hk),aFt hk,qA,bF (by omega)]
  generalize s[k]=b
  unfold aLH
  generalize gK s n ((k+1:Nat):Int)=Z
  simp only [Bool.or_eq_true,qM,qL,Bool.not_eq_true',decide_eq_false_iff_not]
  repeat' split
  all_goals first | rfl | (exfalso;omega)
 ·simp only [gK]
  rw [if_neg (by rw [aP];simp)]
  simp;omega
theorem aHe {s:ByteArray} (hs:s.size≤maxLen):vW s=some (aKf s):=by
 have hm:=le_max hs
 unfold vW aKf
 rw [aGU (L:=dR s) (g:=aLH) (F:=some false) (E:=some (decide (s.size≤12))) hs (fun n k hk => ?_) (fun n => ?_),bL]
 ·simp only [dR]
  rw [if_pos (bB hk),aFt hk,qA,bF (by omega)]
  generalize s[k]=b
  unfold aLH
  generalize dR s n ((k+1:Nat):Int)=Z
  simp only [Bool.or_eq_true,qM,qL,Bool.not_eq_true',decide_eq_false_iff_not]
  repeat' split
  all_goals first | rfl | (exfalso;omega)
 ·simp only [dR]
  rw [if_neg (by rw [aP];simp)]
  simp;omega
def aJJ (k:M.Key):Bool:=inR k.Kind 1 3&&(inR k.N (-1000000000000) 1000000000000&&(aKf k.Text&&((k.Kind != 2||k.N==0)&&(k.Kind != 1||(k.Text.toList==(⟨#[]⟩:ByteArray).toList)))))
theorem aCg {k:M.Key} (hk:k.ok):pE k=some (aJJ k):=by
 have ht:=aJ0 hk.Text
 unfold pE aJJ
 simp only [cZ,ht,qA]
 generalize inR k.Kind 1 3=a
 generalize inR k.N (-1000000000000) 1000000000000=b
 generalize aKf k.Text=c
 generalize (k.Text.toList==(⟨#[]⟩:ByteArray).toList)=g
 by_cases h1:k.Kind=2<;>by_cases h2:k.Kind=1<;>by_cases h3:k.N=0<;>cases a<;>cases b<;>cases c<;>cases g<;>simp [h1,h2,h3]<;>omega
theorem aCX {k:M.Key} (hk:k.ok):pO k=some (aJJ k):=by
 have ht:=aHe hk.Text
 unfold pO aJJ
 simp only [bN,ht,qA]
 generalize inR k.Kind 1 3=a
 generalize inR k.N (-1000000000000) 1000000000000=b
 generalize aKf k.Text=c
 generalize (k.Text.toList==(⟨#[]⟩:ByteArray).toList)=g
 by_cases h1:k.Kind=2<;>by_cases h2:k.Kind=1<;>by_cases h3:k.N=0<;>cases a<;>cases b<;>cases c<;>cases g<;>simp [h1,h2,h3]<;>omega
theorem aKs {k:M.Key} (h:aJJ k=true):k.Text.size≤12:=by
 unfold aJJ aKf at h
 simp only [qM,qL] at h
 omega
def aH7 (k:M.Key):Nat:=if aJJ k=true then (if (k.Kind==2)=true then 1+k.Text.size else 7+k.Text.size) else 0
theorem aHr {k:M.Key} (hk:k.ok) : ∃l,wD k=some l∧l.length=aH7 k:=by
 unfold wD aH7
 rw [aCg hk,qA]
 by_cases h:aJJ k=true
 ·have ht:=aKs h
  have hl:=bA k.Text
  rw [if_neg (by simp [h]),if_pos h,aQ4]
  by_cases h2:(k.Kind==2)=true
  ·have h3 : ¬(k.Kind != 2)=true:=by simp [bne,h2]
   rw [if_pos h2]
   have e0 : ∀n r,r.length≤7→cY k (n+1) 5 r=some (r++fD k.Text):=by
    intro n r hr
    simp only [cY]
    rw [if_pos (by decide),if_neg h3,oF (by omega),qA]
   exact ⟨_,e0 (18446744073709551609+6) _ (by simp),by simp;omega⟩
  ·have h3:(k.Kind != 2)=true:=by simp [bne,h2]
   rw [if_neg h2]
   have st : ∀n (v:Nat) r,r.length≤7→v≤5 → ∃x:Int,cY k (n+1) (v:Int) r=cY k n ((v:Int)-1) (r++[x]):=by
    intro n v r hr hv
    apply Exists.intro
    simp only [cY]
    rw [if_pos (by simp),if_pos h3,if_pos (by rw [eX (by omega) (by omega)];simp;omega),oF (by simp;omega),qA,eX (n:=(v:Int)-1) (by omega) (by omega)]
   obtain ⟨x1,e1⟩:=st (18446744073709551609+6) 5 ([(IntKind.u8.wrap k.Kind)]) (by simp) (by simp)
   obtain ⟨x2,e2⟩:=st (18446744073709551609+5) 4 ([(IntKind.u8.wrap k.Kind)]++[x1]) (by simp) (by simp)
   obtain ⟨x3,e3⟩:=st (18446744073709551609+4) 3 ([(IntKind.u8.wrap k.Kind)]++[x1]++[x2]) (by simp) (by simp)
   obtain ⟨x4,e4⟩:=st (18446744073709551609+3) 2 ([(IntKind.u8.wrap k.Kind)]++[x1]++[x2]++[x3]) (by simp) (by simp)
   obtain ⟨x5,e5⟩:=st (18446744073709551609+2) 1 ([(IntKind.u8.wrap k.Kind)]++[x1]++[x2]++[x3]++[x4]) (by simp) (by simp)
   obtain ⟨x6,e6⟩:=st (18446744073709551609+1) 0 ([(IntKind.u8.wrap k.Kind)]++[x1]++[x2]++[x3]++[x4]++[x5]) (by simp) (by simp)
   have e7 : ∀n r,r.length≤7→cY k (n+1) (-1) r=some (r++fD k.Text):=by
    intro n r hr
    simp only [cY]
    rw [if_neg (by decide),oF (by omega),qA]
   exact ⟨_,(e1.trans (e2.trans (e3.trans (e4.trans (e5.trans (e6.trans (e7 _ _ (by simp)))))))),by simp;omega⟩
 ·rw [if_pos (by simp [h]),if_neg h]
  exact ⟨_,rfl,rfl⟩
theorem aHh {k:M.Key} (hk:k.ok) : ∃l,wZ k=some l∧l.length=aH7 k:=by
 unfold wZ aH7
 rw [aCX hk,qA]
 by_cases h:aJJ k=true
 ·have ht:=aKs h
  have hl:=bA k.Text
  rw [if_neg (by simp [h]),if_pos h,aQ4]
  by_cases h2:(k.Kind==2)=true
  ·have h3 : ¬(k.Kind != 2)=true:=by simp [bne,h2]
   rw [if_pos h2,if_neg h3,oF (by simp;omega),qA]
   exact ⟨_,rfl,by simp;omega⟩
  ·have h3:(k.Kind != 2)=true:=by simp [bne,h2]
   rw [if_neg h2,if_pos h3]
   have st : ∀n (v:Nat) r,r.length≤7→v≤5 → ∃x:Int,fF k (n+1) (v:Int) r=fF k n ((v:Int)-1) (r++[x]):=by
    intro n v r hr hv
    apply Exists.intro
    simp only [fF]
    rw [if_pos (by simp),if_pos (by rw [eX (by omega) (by omega)];simp;omega),oF (by simp;omega),qA,eX (n:=(v:Int)-1) (by omega) (by omega)]
   obtain ⟨x1,e1⟩:=st (18446744073709551609+6) 5 ([(IntKind.u8.wrap k.Kind)]) (by simp) (by simp)
   obtain ⟨x2,e2⟩:=st (18446744073709551609+5) 4 ([(IntKind.u8.wrap k.Kind)]++[x1]) (by simp) (by simp)
   obtain ⟨x3,e3⟩:=st (18446744073709551609+4) 3 ([(IntKind.u8.wrap k.Kind)]++[x1]++[x2]) (by simp) (by simp)
   obtain ⟨x4,e4⟩:=st (18446744073709551609+3) 2 ([(IntKind.u8.wrap k.Kind)]++[x1]++[x2]++[x3]) (by simp) (by simp)
   obtain ⟨x5,e5⟩:=st (18446744073709551609+2) 1 ([(IntKind.u8.wrap k.Kind)]++[x1]++[x2]++[x3]++[x4]) (by simp) (by simp)
   obtain ⟨x6,e6⟩:=st (18446744073709551609+1) 0 ([(IntKind.u8.wrap k.Kind)]++[x1]++[x2]++[x3]++[x4]++[x5]) (by simp) (by simp)
   have e7 : ∀n r,r.length≤7→fF k (n+1) (-1) r=some (r++fD k.Text):=by
    intro n r hr
    simp only [fF]
    rw [if_neg (by decide),oF (by omega),qA]
   exact ⟨_,(e1.trans (e2.trans (e3.trans (e4.trans (e5.trans (e6.trans (e7 _ _ (by simp)))))))),by simp;omega⟩
 ·rw [if_pos (by simp [h]),if_neg h]
  exact ⟨_,rfl,rfl⟩
def aHU (sl:Bool) (b:UInt8):Bool:=(decide (97≤b.toNat)&&decide (b.toNat≤122))||(sl&&decide (b.toNat=47))
def aK0 (s:ByteArray) (n:Int) (sl:Bool):Bool:=aPG s (aHU sl)&&inR (s.size:Int) 1 n
def rR (s:ByteArray):Bool:=aPG s (aHU false)&&inR (s.size:Int) 1 8
theorem dP {s:ByteArray} (hs:s.size≤maxLen):cG s=some (rR s):=by
 have hm:=le_max hs
 unfold cG rR
 rw [aGU (L:=kA s) (g:=aHU false) (F:=some false) (E:=some (inR (s.size:Int) 1 8)) hs (fun n k hk => ?_) (fun n => ?_),bL]
 ·simp only [kA]
  rw [if_pos (bB hk),aFt hk,qA,bF (by omega)]
  generalize s[k]=b
  unfold aHU
  generalize kA s n ((k+1:Nat):Int)=Z
  simp only [Bool.or_eq_true,qM,qL,Bool.not_eq_true',decide_eq_false_iff_not,Bool.false_and,Bool.or_false]
  repeat' split
  all_goals first | rfl | (exfalso;omega)
 ·simp only [kA]
  rw [if_neg (by rw [aP];simp),cZ,qA]
theorem aFz {s:ByteArray} {m:Int} {sl:Bool} (hs:s.size≤maxLen):aAD s m sl=some (aK0 s m sl):=by
 have hm:=le_max hs
 unfold aAD aK0
 rw [aGU (L:=gL s m sl) (g:=aHU sl) (F:=some false) (E:=some (inR (s.size:Int) 1 m)) hs (fun n k hk => ?_) (fun n => ?_),bL]
 ·simp only [gL]
  rw [if_pos (bB hk),aFt hk,qA,bF (by omega)]
  generalize s[k]=b
  unfold aHU
  generalize gL s m sl n ((k+1:Nat):Int)=Z
  cases sl<;>simp only [Bool.or_eq_true,qM,qL,Bool.not_eq_true',decide_eq_false_iff_not,Bool.false_and,Bool.or_false,Bool.true_and,beq_eq_false_iff_ne,ne_eq,qD,if_true,if_false]
  all_goals repeat' split
  all_goals first | rfl | (exfalso;omega)
 ·simp only [gL]
  rw [if_neg (by rw [aP];simp),bN,qA]
theorem dA {s:ByteArray} (hs:s.size≤maxLen):bR s=some (rR s):=by
 unfold bR
 rw [aFz hs,qA]
 rfl
def aMF (x:M.Field):Bool:=rR x.Name&&inR x.N 0 1000000000
def aE4 (l:List M.Field) (k:Nat):Bool:=(l[k]?).any aMF&&(decide (k=0)||(l[k-1]?).any fun y=>(l[k]?).any fun x=>Op.bytesLess y.Name.toList x.Name.toList)
def aCB (r:M.aW):Bool:=(List.range r.Fields.length).all (aE4 r.Fields)&&decide (r.Fields.length≤6)
theorem aE1 {r:M.aW} (hr:r.ok):uM r=some (aCB r):=by
 have hm:=le_max hr.Fields.1
 unfold uM aCB
 rw [jY (L:=fZ r) (g:=aE4 r.Fields) (F:=some false) (E:=some (decide (r.Fields.length≤6))) hr.Fields.1 (fun n k hk => ?_) (fun n => ?_),bL]
 ·have hf:=hr.Fields.2 _ (qG hk)
  simp only [fZ]
  rw [if_pos (bB hk),aN hk,qA,bF (by omega),dP hf.Name,qA,cZ,qA]
  unfold aE4 aMF
  rw [qF hk]
  generalize fZ r n ((k+1:Nat):Int)=Z
  by_cases h0:k=0
  ·subst h0
   simp only [Option.any_some]
   generalize rR r.Fields[0].Name=a
   generalize inR r.Fields[0].N 0 1000000000=b
   cases a<;>cases b<;>simp
  ·have e:i64.wrap ((k:Int)-1)=((k-1:Nat):Int):=by rw [eX (by omega) (by omega)];omega
   have hk1:k-1<r.Fields.length:=by omega
   rw [if_pos (c:=(decide ((k:Int)>0))=true) (by simp;omega),e,aN hk1,qA,qF hk1]
   simp only [Option.any_some,h0,decide_false,Bool.false_or]
   generalize rR r.Fields[k].Name=a
   generalize inR r.Fields[k].N 0 1000000000=b
   generalize Op.bytesLess r.Fields[k-1].Name.toList r.Fields[k].Name.toList=c
   cases a<;>cases b<;>cases c<;>simp
 ·simp only [fZ]
  rw [if_neg (by rw [aP];simp)]
  simp;omega
theorem aEf {r:M.aW} (hr:r.ok):sU r=some (aCB r):=by
 have hm:=le_max hr.Fields.1
 unfold sU aCB
 rw [jY (L:=gE r) (g:=aE4 r.Fields) (F:=some false) (E:=some (decide (r.Fields.length≤6))) hr.Fields.1 (fun n k hk => ?_) (fun n => ?_),bL]
 ·have hf:=hr.Fields.2 _ (qG hk)
  simp only [gE]
  rw [if_pos (bB hk),aN hk,qA,bF (by omega),dA hf.Name,qA,bN,qA]
  unfold aE4 aMF
  rw [qF hk]
  generalize gE r n ((k+1:Nat):Int)=Z
  by_cases h0:k=0
  ·subst h0
   simp only [Option.any_some]
   generalize rR r.Fields[0].Name=a
   generalize inR r.Fields[0].N 0 1000000000=b
   cases a<;>cases b<;>simp
  ·have e:i64.wrap ((k:Int)-1)=((k-1:Nat):Int):=by rw [eX (by omega) (by omega)];omega
   have hk1:k-1<r.Fields.length:=by omega
   rw [if_pos (c:=(decide ((k:Int)>0))=true) (by simp;omega),e,aN hk1,qA,qF hk1]
   simp only [Option.any_some,h0,decide_false,Bool.false_or]
   rw [aEF r.Fields[k-1].Name.toList r.Fields[k].Name.toList]
   generalize rR r.Fields[k].Name=a
   generalize inR r.Fields[k].N 0 1000000000=b
   generalize (Op.bytesLess r.Fields[k].Name.toList r.Fields[k-1].Name.toList||r.Fields[k].Name.toList==r.Fields[k-1].Name.toList)=c
   cases a<;>cases b<;>cases c<;>simp
 ·simp only [gE]
  rw [if_neg (by rw [aP];simp)]
  simp;omega
theorem aGJ {r:M.aW} (h:aCB r=true):r.Fields.length≤6 ∧ ∀x∈r.Fields,x.Name.size≤8∧0≤x.N∧x.N≤1000000000:=by
 unfold aCB at h
 simp only [qM,qL,qP,qQ] at h
 refine ⟨h.2,fun x hx => ?_⟩
 obtain ⟨k,hk,rfl⟩:=List.getElem_of_mem hx
 have:=h.1 k hk
 unfold aE4 aMF rR inR at this
 rw [qF hk] at this
 simp only [Option.any_some,qM,qL] at this
 omega
theorem aAT {r:List Int} {n:Nat} (hr:r.length≤1048576) (hn:n≤1000000000000) : ∃l,hO r (n:Int)=some l∧l.length=r.length+(uv n).length:=by
 have hi:inR (n:Int) 0 1000000000000=true:=by unfold inR;simp;omega
 unfold hO
 rw [oF (by simp;omega),qA,cZ,qA,hi,if_neg (by simp)]
 refine aN8 (L:=fM) (b:=fun v=>IntKind.u8.wrap (i64.wrap (BitVec.ofInt (IntKind.i64.bits) (i64.wrap (BitVec.ofInt (IntKind.i64.bits) v&&&BitVec.ofInt (IntKind.i64.bits) 127).toNat)|||BitVec.ofInt (IntKind.i64.bits) 128).toNat)) (c:=fun v=>IntKind.u8.wrap v) (fun m n r h1 h2 => ?_) (fun m n r h1 => ?_) 8 fuel n r (by omega) (by omega) (by unfold fuel;omega) (by omega)
 ·simp only [fM]
  rw [if_pos (by simp;omega),uvf]
 ·simp only [fM]
  rw [if_neg (by simp;omega)]
theorem aAR {r:List Int} {n:Nat} (hr:r.length≤1048576) (hn:n≤1000000000000) : ∃l,hD r (n:Int)=some l∧l.length=r.length+(uv n).length:=by
 have hi:inR (n:Int) 0 1000000000000=true:=by unfold inR;simp;omega
 unfold hD iG
 rw [oF (by simp;omega),qA,qA,bN,qA,hi,if_neg (by simp)]
 refine aN8 (L:=fG) (b:=fun v=>IntKind.u8.wrap (i64.wrap ((Int.tmod v 128)+128))) (c:=fun v=>IntKind.u8.wrap v) (fun m n r h1 h2 => ?_) (fun m n r h1 => ?_) 8 fuel n r (by omega) (by omega) (by unfold fuel;omega) (by omega)
 ·simp only [fG]
  rw [if_pos (by simp;omega),uvt h2]
 ·simp only [fG]
  rw [if_neg (by simp;omega)]
def aBv (x:M.Field):Nat:=(uv x.Name.size).length+x.Name.size+(uv x.N.toNat).length
def aIK (r:M.aW):Nat:=if aCB r=true then (uv r.Fields.length).length+aF aBv r.Fields else 0
theorem aGL {r b:List Int} (hr:r.length≤1000) (hb:b.length≤1000) : ∃l,pI r b=some l∧l.length=r.length+((uv b.length).length+b.length):=by
 obtain ⟨l,e,hl⟩:=aAT (r:=r) (n:=b.length) (by omega) (by omega)
 have h9:=aFH b.length (by omega)
 refine ⟨l++b,?_,by simp;omega⟩
 unfold pI
 rw [e,qA,oF (by omega),qA]
theorem aFY {r:M.aW} (hr:r.ok) : ∃l,oH r=some l∧l.length=aIK r:=by
 unfold oH aIK
 rw [aE1 hr,qA]
 by_cases h:aCB r=true
 ·obtain ⟨h6,hf⟩:=aGJ h
  have hw : ∀x∈r.Fields,aBv x≤26:=by
   intro x hx
   have:=hf x hx
   have h1:=aFH x.Name.size (by omega)
   have h2:=aFH x.N.toNat (by omega)
   unfold aBv
   omega
  have hsum:=aFR hw
  obtain ⟨l,e,hl⟩:=aAT (r:=[]) (n:=r.Fields.length) (by simp) (by omega)
  have h9:=aFH r.Fields.length (by omega)
  rw [if_neg (by simp [h]),if_pos h,e,qA]
  have:=aL3 (xs:=r.Fields) (w:=aBv) (B:=900) (L:=fW r) (fun n k hk q hq => ?_) (fun n q => ?_) fuel 0 l (by unfold fuel;omega) (by omega) (by simp at hl ⊢;omega)
  ·obtain ⟨z,e2,hz⟩:=this
   exact ⟨z,e2,by simp at hl hz;omega⟩
  ·have hx:=hf _ (qG hk)
   have hw2:=hw _ (qG hk)
   obtain ⟨a,ea,ha⟩:=aGL (r:=q) (b:=fD r.Fields[k].Name) (by omega) (by rw [bA];omega)
   rw [bA] at ha
   have hn:=aFH r.Fields[k].Name.size (by omega)
   obtain ⟨b,eb,hb⟩:=aAT (r:=a) (n:=r.Fields[k].N.toNat) (by omega) (by omega)
   rw [Int.toNat_of_nonneg hx.2.1] at eb
   refine ⟨b,by unfold aBv;omega,?_⟩
   simp only [fW]
   rw [if_pos (bB hk),aN hk,qA,ea,qA,eb,qA,bF (by omega)]
  ·simp only [fW]
   rw [if_neg (by rw [aP];simp)]
 ·rw [if_pos (by simp [h]),if_neg h]
  exact ⟨_,rfl,rfl⟩
theorem aGD {r b:List Int} (hr:r.length≤1000) (hb:b.length≤1000) : ∃l,rC r b=some l∧l.length=r.length+((uv b.length).length+b.length):=by
 obtain ⟨l,e,hl⟩:=aAR (r:=r) (n:=b.length) (by omega) (by omega)
 have h9:=aFH b.length (by omega)
 refine ⟨l++b,?_,by simp;omega⟩
 unfold rC
 rw [e,qA,oF (by omega),qA]
theorem aFc {r:M.aW} (hr:r.ok) : ∃l,nW r=some l∧l.length=aIK r:=by
 unfold nW aIK
 rw [aEf hr,qA]
 by_cases h:aCB r=true
 ·obtain ⟨h6,hf⟩:=aGJ h
  have hw : ∀x∈r.Fields,aBv x≤26:=by
   intro x hx
   have:=hf x hx
   have h1:=aFH x.Name.size (by omega)
   have h2:=aFH x.N.toNat (by omega)
   unfold aBv
   omega
  have hsum:=aFR hw
  obtain ⟨l,e,hl⟩:=aAR (r:=[]) (n:=r.Fields.length) (by simp) (by omega)
  have h9:=aFH r.Fields.length (by omega)
  rw [if_neg (by simp [h]),if_pos h,e,qA]
  have:=aL3 (xs:=r.Fields) (w:=aBv) (B:=900) (L:=fY r) (fun n k hk q hq => ?_) (fun n q => ?_) fuel 0 l (by unfold fuel;omega) (by omega) (by simp at hl ⊢;omega)
  ·obtain ⟨z,e2,hz⟩:=this
   exact ⟨z,e2,by simp at hl hz;omega⟩
  ·have hx:=hf _ (qG hk)
   have hw2:=hw _ (qG hk)
   obtain ⟨a,ea,ha⟩:=aGD (r:=q) (b:=fD r.Fields[k].Name) (by omega) (by rw [bA];omega)
   rw [bA] at ha
   have hn:=aFH r.Fields[k].Name.size (by omega)
   obtain ⟨b,eb,hb⟩:=aAR (r:=a) (n:=r.Fields[k].N.toNat) (by omega) (by omega)
   rw [Int.toNat_of_nonneg hx.2.1] at eb
   refine ⟨b,by unfold aBv;omega,?_⟩
   simp only [fY]
   rw [if_pos (bB hk),aN hk,qA,ea,qA,eb,qA,bF (by omega)]
  ·simp only [fY]
   rw [if_neg (by rw [aP];simp)]
 ·rw [if_pos (by simp [h]),if_neg h]
  exact ⟨_,rfl,rfl⟩
def aH9 (v:Int) (x:M.Item):Int:=i64.wrap (v+((aH7 x.Key:Int)+(aIK x.aW:Int)))
def aC3 (s:M.aH):Int:=s.Items.foldl aH9 0
def aBl (d:M.Database):Int:=d.Stores.foldl (fun v s=>i64.wrap (v+aC3 s)) 0
def aKx (b:M.aC):Int:=i64.wrap ((i64.wrap ((i64.wrap (aC9 b.Caches+i64.wrap (aBl b.bC.Base+(List.length b.bC.Log:Int))))+aC3 b.aD.Base))+(i64.wrap (40*(List.length b.aD.Sync.aR.Writes:Int))))
theorem aES {s:M.aH} (hs:s.ok):pA s=some (aC3 s):=by
 have hm:=le_max hs.Items.1
 unfold pA aC3
 refine aFQ (L:=iL s) (E:=some) hs.Items.1 (fun n v k hk => ?_) (fun n v => ?_) 0
 ·have hi:=hs.Items.2 _ (qG hk)
  obtain ⟨a,ea,ha⟩:=aHr hi.Key
  obtain ⟨b,eb,hb⟩:=aFY hi.aW
  simp only [iL]
  rw [if_pos (bB hk),aN hk,qA,ea,qA,eb,qA,bF (by omega),ha,hb]
  unfold aH9
  rw [wrap_add,Int.add_assoc]
 ·simp only [iL]
  rw [if_neg (by rw [aP];simp)]
theorem aFj {d:M.Database} (hd:d.ok):oD d=some (aBl d):=by
 have hm:=le_max hd.Stores.1
 unfold oD aBl
 refine aFQ (L:=fV d) (E:=some) hd.Stores.1 (fun n v k hk => ?_) (fun n v => ?_) 0
 ·have hi:=hd.Stores.2 _ (qG hk)
  simp only [fV]
  rw [if_pos (bB hk),aN hk,qA,aES hi,qA,bF (by omega)]
 ·simp only [fV]
  rw [if_neg (by rw [aP];simp)]
theorem aI7 {b:M.aC} (hb:b.ok):aA8 b=some (aKx b):=by
 unfold aA8 aB9 aKx
 rw [aHD hb.Caches,qA,aFj hb.bC.Base,qA,qA,aES hb.aD.Base,qA]
theorem aEL {s:M.aH} (hs:s.ok):oT s=some (aC3 s):=by
 have hm:=le_max hs.Items.1
 unfold oT aC3
 refine aFQ (L:=iI s) (E:=some) hs.Items.1 (fun n v k hk => ?_) (fun n v => ?_) 0
 ·have hi:=hs.Items.2 _ (qG hk)
  obtain ⟨a,ea,ha⟩:=aHh hi.Key
  obtain ⟨b,eb,hb⟩:=aFc hi.aW
  simp only [iI]
  rw [if_pos (bB hk),aN hk,qA,ea,qA,eb,qA,bF (by omega),ha,hb]
  unfold aH9
  rw [aOw]
 ·simp only [iI]
  rw [if_neg (by rw [aP];simp)]
theorem aFT {d:M.Database} (hd:d.ok):nU d=some (aBl d):=by
 have hm:=le_max hd.Stores.1
 unfold nU aBl
 refine aFQ (L:=fT d) (E:=some) hd.Stores.1 (fun n v k hk => ?_) (fun n v => ?_) 0
 ·have hi:=hd.Stores.2 _ (qG hk)
  simp only [fT]
  rw [if_pos (bB hk),aN hk,qA,aEL hi,qA,bF (by omega)]
 ·simp only [fT]
  rw [if_neg (by rw [aP];simp)]
theorem aJI {b:M.aC} (hb:b.ok):aAi b=some (aKx b):=by
 unfold aAi aBp aKx
 rw [aGt hb.Caches,qA,aFT hb.bC.Base,qA,qA,aEL hb.aD.Base,qA]
end Go.Proofs.YtimblbmbfdopgaaGreat.gen
