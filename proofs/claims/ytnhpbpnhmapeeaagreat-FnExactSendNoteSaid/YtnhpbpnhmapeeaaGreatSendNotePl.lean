/-
  Helper text. No conditions.
-/
import Derived.Test.YtnhpbpnhmapeeaaGreatSendNotePk
namespace Go.Proofs.YtnhpbpnhmapeeaaGreat.gen
open Go Go.Sh
set_option linter.unusedVariables false
set_option linter.unusedSimpArgs false
theorem aFV {α R:Type} {l:List α} {f:α→Bool} {L:Nat→Int→Option R} {S:Nat→Option R} (hl:l.length≤maxLen)
  (h1 : ∀n (k:Nat) (hk:k<l.length),L (n+1) (k:Int)=if f l[k]=true then L n ((k+1:Nat):Int) else S k) (h2 : ∀n,L (n+1) (l.length:Int)=S l.length):L fuel 0=S (l.takeWhile f).length:=by
 have hm:=le_max hl
 have key : ∀(n k:Nat),l.length-k<n→k≤l.length→L n (k:Int)=S (k+((l.drop k).takeWhile f).length):=by
  intro n
  induction n with
  | zero=>intro k h _;omega
  | succ n ih =>
   intro k hn hk
   rcases Nat.lt_or_ge k l.length with h | h
   ·rw [h1 n k h,List.drop_eq_getElem_cons h,List.takeWhile_cons]
    by_cases hf:f l[k]=true
    ·rw [if_pos hf,if_pos hf,ih (k+1) (by omega) h,List.length_cons]
     congr 1
     omega
    ·rw [if_neg hf,if_neg hf]
     simp
   ·have:k=l.length:=by omega
    subst this
    rw [h2 n]
    simp
 have:=key fuel 0 (by unfold fuel;omega) (by omega)
 simpa using this
def aMX (s:M.aF) (b:M.aA):Nat:=(s.Buckets.takeWhile (fun x=>aCF x b)).length
theorem aKL (s:M.aF) (b:M.aA):aMX s b≤s.Buckets.length:=(List.takeWhile_prefix _).length_le
def aC1 (s:M.aF) (b:M.aA):List M.aA:=if aAM (nAt b.Site b.Top) s.Buckets≥0 then s.Buckets.set (aAM (nAt b.Site b.Top) s.Buckets).toNat b else s.Buckets.take (aMX s b)++([b]++s.Buckets.drop (aMX s b))
def aJ6 (s:M.aF) (l:List M.aA):M.aF×Bool:=if zW s=true then (if zW (⟨l⟩:M.aF)=true then ((⟨l⟩:M.aF),true) else (s,false)) else (s,false)
def aLo (s:M.aF) (b:M.aA):M.aF×Bool:=aJ6 s (aC1 s b)
theorem aJl {s:M.aF} {b x:M.aA} (h:x∈aC1 s b):x=b∨x∈s.Buckets:=by
 unfold aC1 at h
 split at h
 ·rcases List.mem_or_eq_of_mem_set h with h | h
  ·exact .inr h
  ·exact .inl h
 ·simp only [List.mem_append,List.mem_cons,List.not_mem_nil,or_false] at h
  rcases h with h | h | h
  ·exact .inr (List.mem_of_mem_take h)
  ·exact .inl h
  ·exact .inr (List.mem_of_mem_drop h)
theorem aIr (s:M.aF) (b:M.aA):(aC1 s b).length≤s.Buckets.length+1:=by
 have:=aKL s b
 unfold aC1
 split
 ·simp
 ·simp only [List.length_append,List.length_take,List.length_cons,List.length_nil,List.length_drop];omega
theorem aN1 (s:M.aF) (b:M.aA):aG M.aA.sz (aC1 s b)≤aG M.aA.sz s.Buckets+M.aA.sz b:=by
 unfold aC1
 split
 ·exact aJo
 ·rw [aC7,aC7]
  have:=aC7 (f:=M.aA.sz) (s.Buckets.take (aMX s b)) (s.Buckets.drop (aMX s b))
  rw [List.take_append_drop] at this
  simp only [aG]
  omega
theorem aOR {s:M.aF} (hz:M.aF.sz s≤1048576) : ∀x∈s.Buckets,M.aA.sz x≤1048576:=fun x hx=>by
 have:=cH (f:=M.aA.sz) hx
 simp only [M.aF.sz] at hz
 omega
theorem aIJ {s:M.aF} {b:M.aA} (hs:s.ok) (hb:b.ok) (hz:M.aF.sz s≤1048576):M.aF.ok (⟨aC1 s b⟩:M.aF):=
 ⟨⟨by show (aC1 s b).length≤maxLen;have:=aIr s b;simp only [M.aF.sz] at hz;unfold maxLen;omega,fun x hx=>by
  rcases aJl hx with rfl | h
  ·exact hb
  ·exact hs.Buckets.2 x h⟩⟩
theorem aJn {s:M.aF} {b:M.aA} (hz:M.aF.sz s≤1048576) (zb:M.Database.sz b.bD.Base≤1048576) : ∀x∈aC1 s b,M.Database.sz x.bD.Base≤1048576:=fun x hx=>by
 rcases aJl hx with rfl | h
 ·exact zb
 ·exact aBL (aOR hz x h)
theorem aOJ {s:M.aF} {b:M.aA} (hs:s.ok) (hb:b.ok) (hz:M.aF.sz s≤1048576):M.aF.ok (aLo s b).1:=by
 unfold aLo aJ6
 split
 ·split
  ·exact aIJ hs hb hz
  ·exact hs
 ·exact hs
theorem aOY (s:M.aF) (b:M.aA):M.aF.sz (aLo s b).1≤M.aF.sz s+M.aA.sz b+1:=by
 have h1:=aIr s b
 have h2:=aN1 s b
 unfold aLo aJ6
 simp only [M.aF.sz]
 split
 ·split<;>simp only<;>omega
 ·simp only;omega
theorem aKb {s:M.aF} {l:List M.aA} (hs:s.ok) (hz:M.aF.sz s≤1048576) (hl:M.aF.ok (⟨l⟩:M.aF)) (zl : ∀x∈l,M.Database.sz x.bD.Base≤1048576) :
  ((cC s).bind fun x93=>(if (!x93)=true then ((some s).bind fun x96=>(some (x96,false))) else ((cC (⟨l⟩:M.aF)).bind fun x98=>(if (!x98)=true then ((some s).bind fun x101=>(some (x101,false))) else (some ((⟨l⟩:M.aF),true))))))=some (aJ6 s l):=by
 rw [aGC hs hz,Option.bind_some,aCO hl zl]
 unfold aJ6
 cases zW s
 ·simp
 ·cases zW (⟨l⟩:M.aF)<;>simp
theorem aLE {s:M.aF} {l:List M.aA} (hs:s.ok) (hz:M.aF.sz s≤1048576) (hl:M.aF.ok (⟨l⟩:M.aF)) (zl : ∀x∈l,M.Database.sz x.bD.Base≤1048576) :
  ((cD s).bind fun x93=>(if (!x93)=true then ((some s).bind fun x96=>(some (x96,false))) else ((cD (⟨l⟩:M.aF)).bind fun x98=>(if (!x98)=true then ((some s).bind fun x101=>(some (x101,false))) else (some ((⟨l⟩:M.aF),true))))))=some (aJ6 s l):=by
 rw [aF4 hs hz,Option.bind_some,aCU hl zl]
 unfold aJ6
 cases zW s
 ·simp
 ·cases zW (⟨l⟩:M.aF)<;>simp
def tS (s:M.aF) (b:M.aA) (k:Nat):Option (M.aF×Bool):=(aDO s.Buckets (k:Int)).bind fun _=>((app 328 ([]:List M.aA) (List.take (k:Int).toNat s.Buckets)).bind fun _=>((gE b).bind fun x68=>((app 328 (List.take (k:Int).toNat s.Buckets) ([x68])).bind fun _=>((app 328 ((List.take (k:Int).toNat s.Buckets)++[x68]) (List.drop (k:Int).toNat s.Buckets)).bind fun _=>((cC s).bind fun x93=>(if (!x93)=true then ((eQ s).bind fun x96=>(some (x96,false))) else ((cC (⟨(((List.take (k:Int).toNat s.Buckets)++[x68])++(List.drop (k:Int).toNat s.Buckets))⟩:M.aF)).bind fun x98=>(if (!x98)=true then ((eQ s).bind fun x101=>(some (x101,false))) else (some ((⟨(((List.take (k:Int).toNat s.Buckets)++[x68])++(List.drop (k:Int).toNat s.Buckets))⟩:M.aF),true))))))))))
def tI (s:M.aF) (b:M.aA) (k:Nat):Option (M.aF×Bool):=(dE b).bind fun x51=>((aEw 328 s.Buckets (k:Int) ([x51])).bind fun x53=>((cD s).bind fun x63=>(if (!x63)=true then ((bR s).bind fun x66=>(some (x66,false))) else ((cD (⟨(List.take (k:Int).toNat s.Buckets++([x51]++List.drop (k:Int).toNat s.Buckets))⟩:M.aF)).bind fun x68=>(if (!x68)=true then ((bR s).bind fun x71=>(some (x71,false))) else (some ((⟨(List.take (k:Int).toNat s.Buckets++([x51]++List.drop (k:Int).toNat s.Buckets))⟩:M.aF),true)))))))
theorem aFG {s:M.aF} {b:M.aA} (hs:s.ok) (hb:b.ok) (hz:M.aF.sz s≤1048576) (zc:M.aA.sz b≤1073741824) (zb:M.Database.sz b.bD.Base≤1048576):sQ s b=some (aLo s b):=by
 have hm:=le_max hs.Buckets.1
 have hlen:s.Buckets.length≤1048576:=by simp only [M.aF.sz] at hz;omega
 have ok:=aIJ hs hb hz
 have all:=aJn (s:=s) hz zb
 have hle:=aKL s b
 unfold sQ aLo
 rw [aCG s (by omega),Option.bind_some,aCN hs,Option.bind_some]
 by_cases h:aAM (nAt b.Site b.Top) s.Buckets≥0
 ·obtain ⟨j,hj,hlt⟩:=oZ (show ¬aAM (nAt b.Site b.Top) s.Buckets<0 by omega)
  have e:aC1 s b=s.Buckets.set (aAM (nAt b.Site b.Top) s.Buckets).toNat b:=by unfold aC1;rw [if_pos h]
  rw [if_pos (by simpa using h),zL b (by omega),Option.bind_some]
  rw [e] at ok all ⊢
  rw [hj] at ok all ⊢
  rw [aQ hlt,Option.bind_some]
  exact aKb hs hz ok all
 ·have e:aC1 s b=s.Buckets.take (aMX s b)++([b]++s.Buckets.drop (aMX s b)):=by unfold aC1;rw [if_neg h]
  rw [if_neg (by simpa using h),aFV (l:=s.Buckets) (f:=fun x=>aCF x b) (L:=gC s b s) (S:=tS s b) hs.Buckets.1 (fun n k hk => ?_) (fun n => ?_)]
  ·show tS s b (aMX s b)=_
   unfold tS
   rw [aGq hle,Option.bind_some,Int.toNat_natCast,aE6 (by simp;omega) (by omega),Option.bind_some,zL b (by omega),Option.bind_some,rR (by simp only [List.length_take,List.length_cons,List.length_nil];omega),Option.bind_some,rR (by simp only [List.length_append,List.length_take,List.length_drop,List.length_cons,List.length_nil];omega),Option.bind_some,List.append_assoc,←e]
   rw [aCG s (by omega)]
   exact aKb hs hz ok all
  ·simp only [gC]
   rw [if_pos (bF hk),aQ hk,Option.bind_some,aDx,Option.bind_some,bH (by omega)]
   rfl
  ·simp only [gC]
   rw [if_neg (by rw [aT];simp)]
   rfl
theorem aFU {s:M.aF} {b:M.aA} (hs:s.ok) (hb:b.ok) (hz:M.aF.sz s≤1048576) (zc:M.aA.sz b≤1073741824) (zb:M.Database.sz b.bD.Base≤1048576):sX s b=some (aLo s b):=by
 have hm:=le_max hs.Buckets.1
 have hlen:s.Buckets.length≤1048576:=by simp only [M.aF.sz] at hz;omega
 have ok:=aIJ hs hb hz
 have all:=aJn (s:=s) hz zb
 have hle:=aKL s b
 unfold sX aLo
 rw [aA3 s (by omega),Option.bind_some,aCb hs,Option.bind_some]
 by_cases h:aAM (nAt b.Site b.Top) s.Buckets≥0
 ·obtain ⟨j,hj,hlt⟩:=oZ (show ¬aAM (nAt b.Site b.Top) s.Buckets<0 by omega)
  have e:aC1 s b=s.Buckets.set (aAM (nAt b.Site b.Top) s.Buckets).toNat b:=by unfold aC1;rw [if_pos h]
  rw [if_pos (by simpa using h),rP b (by omega),Option.bind_some]
  rw [e] at ok all ⊢
  rw [hj] at ok all ⊢
  rw [aQ hlt,Option.bind_some]
  exact aLE hs hz ok all
 ·have e:aC1 s b=s.Buckets.take (aMX s b)++([b]++s.Buckets.drop (aMX s b)):=by unfold aC1;rw [if_neg h]
  rw [if_neg (by simpa using h),aFV (l:=s.Buckets) (f:=fun x=>aCF x b) (L:=gA s b s) (S:=tI s b) hs.Buckets.1 (fun n k hk => ?_) (fun n => ?_)]
  ·show tI s b (aMX s b)=_
   unfold tI
   rw [rP b (by omega),Option.bind_some,aGG (by simp only [Int.toNat_natCast,List.length_cons,List.length_nil];omega),Option.bind_some,Int.toNat_natCast,←e]
   rw [aA3 s (by omega)]
   exact aLE hs hz ok all
  ·simp only [gA]
   rw [if_pos (bF hk),aQ hk,Option.bind_some,aBt,Option.bind_some,bH (by omega)]
   rfl
  ·simp only [gA]
   rw [if_neg (by rw [aT];simp)]
   rfl
end Go.Proofs.YtnhpbpnhmapeeaaGreat.gen
