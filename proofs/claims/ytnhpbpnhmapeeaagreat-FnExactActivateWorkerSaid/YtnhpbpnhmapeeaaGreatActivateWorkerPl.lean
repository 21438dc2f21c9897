/-
  Helper text. No conditions.
-/
import Derived.Test.YtnhpbpnhmapeeaaGreatActivateWorkerPk
namespace Go.Proofs.YtnhpbpnhmapeeaaGreat.gen
open Go Go.Sh
set_option linter.unusedVariables false
set_option linter.unusedSimpArgs false
theorem aND {α R:Type} {l:List α} {f:α→Bool} {L:Nat→Int→Option R} {S:Nat→Option R} (hl:l.length≤maxLen)
  (h1 : ∀n (k:Nat) (hk:k<l.length),L (n+1) (k:Int)=if f l[k]=true then L n ((k+1:Nat):Int) else S k) (h2 : ∀n,L (n+1) (l.length:Int)=S l.length):L fuel 0=S (l.takeWhile f).length:=by
 have hm:=le_max hl
 have key : ∀(n k:Nat),l.length-k<n→k≤l.length→L n (k:Int)=S (k+((l.drop k).takeWhile f).length):=by
  intro n
  induction n with
  | zero=>intro k h _;omega
  | succ n ih =>
   intro k hn hk
   rcases Nat.lt_or_ge k l.length with h | h
   ·rw [h1 n k h,List.drop_eq_getElem_cons h,List.takeWhile_cons]
    by_cases hf:f l[k]=true
    ·rw [if_pos hf,if_pos hf,ih (k+1) (by omega) h,List.length_cons]
     congr 1
     omega
    ·rw [if_neg hf,if_neg hf]
     simp
   ·have:k=l.length:=by omega
    subst this
    rw [h2 n]
    simp
 have:=key fuel 0 (by unfold fuel;omega) (by omega)
 simpa using this
def aMq (s:M.aC) (b:M.aA):Nat:=(s.Buckets.takeWhile (fun x=>aCP x b)).length
theorem aKd (s:M.aC) (b:M.aA):aMq s b≤s.Buckets.length:=(List.takeWhile_prefix _).length_le
def aC6 (s:M.aC) (b:M.aA):List M.aA:=if aBN (nAt b.Site b.Top) s.Buckets≥0 then s.Buckets.set (aBN (nAt b.Site b.Top) s.Buckets).toNat b else s.Buckets.take (aMq s b)++([b]++s.Buckets.drop (aMq s b))
def aKM (s:M.aC) (l:List M.aA):M.aC×Bool:=if oT s=true then (if oT (⟨l⟩:M.aC)=true then ((⟨l⟩:M.aC),true) else (s,false)) else (s,false)
def aL9 (s:M.aC) (b:M.aA):M.aC×Bool:=aKM s (aC6 s b)
theorem aJ7 {s:M.aC} {b x:M.aA} (h:x∈aC6 s b):x=b∨x∈s.Buckets:=by
 unfold aC6 at h
 split at h
 ·rcases List.mem_or_eq_of_mem_set h with h | h
  ·exact .inr h
  ·exact .inl h
 ·simp only [List.mem_append,List.mem_cons,List.not_mem_nil,or_false] at h
  rcases h with h | h | h
  ·exact .inr (List.mem_of_mem_take h)
  ·exact .inl h
  ·exact .inr (List.mem_of_mem_drop h)
theorem aJK (s:M.aC) (b:M.aA):(aC6 s b).length≤s.Buckets.length+1:=by
 have:=aKd s b
 unfold aC6
 split
 ·simp
 ·simp only [List.length_append,List.length_take,List.length_cons,List.length_nil,List.length_drop];omega
theorem aOJ (s:M.aC) (b:M.aA):aF M.aA.sz (aC6 s b)≤aF M.aA.sz s.Buckets+M.aA.sz b:=by
 unfold aC6
 split
 ·exact aKA
 ·rw [aCX,aCX]
  have:=aCX (f:=M.aA.sz) (s.Buckets.take (aMq s b)) (s.Buckets.drop (aMq s b))
  rw [List.take_append_drop] at this
  simp only [aF]
  omega
theorem aOf {s:M.aC} (hz:M.aC.sz s≤1048576) : ∀x∈s.Buckets,M.aA.sz x≤1048576:=fun x hx=>by
 have:=cC (f:=M.aA.sz) hx
 simp only [M.aC.sz] at hz
 omega
theorem aIk {s:M.aC} {b:M.aA} (hs:s.ok) (hb:b.ok) (hz:M.aC.sz s≤1048576):M.aC.ok (⟨aC6 s b⟩:M.aC):=
 ⟨⟨by show (aC6 s b).length≤maxLen;have:=aJK s b;simp only [M.aC.sz] at hz;unfold maxLen;omega,fun x hx=>by
  rcases aJ7 hx with rfl | h
  ·exact hb
  ·exact hs.Buckets.2 x h⟩⟩
theorem aJ9 {s:M.aC} {b:M.aA} (hz:M.aC.sz s≤1048576) (zb:M.Database.sz b.bB.Base≤1048576) : ∀x∈aC6 s b,M.Database.sz x.bB.Base≤1048576:=fun x hx=>by
 rcases aJ7 hx with rfl | h
 ·exact zb
 ·exact zK (aOf hz x h)
theorem aOY {s:M.aC} {b:M.aA} (hs:s.ok) (hb:b.ok) (hz:M.aC.sz s≤1048576):M.aC.ok (aL9 s b).1:=by
 unfold aL9 aKM
 split
 ·split
  ·exact aIk hs hb hz
  ·exact hs
 ·exact hs
theorem aOm (s:M.aC) (b:M.aA):M.aC.sz (aL9 s b).1≤M.aC.sz s+M.aA.sz b+1:=by
 have h1:=aJK s b
 have h2:=aOJ s b
 unfold aL9 aKM
 simp only [M.aC.sz]
 split
 ·split<;>simp only<;>omega
 ·simp only;omega
theorem aKs {s:M.aC} {l:List M.aA} (hs:s.ok) (hz:M.aC.sz s≤1048576) (hl:M.aC.ok (⟨l⟩:M.aC)) (zl : ∀x∈l,M.Database.sz x.bB.Base≤1048576) :
  ((bS s).bind fun x93=>(if (!x93)=true then ((some s).bind fun x96=>(some (x96,false))) else ((bS (⟨l⟩:M.aC)).bind fun x98=>(if (!x98)=true then ((some s).bind fun x101=>(some (x101,false))) else (some ((⟨l⟩:M.aC),true))))))=some (aKM s l):=by
 rw [aGX hs hz,Option.bind_some,aBP hl zl]
 unfold aKM
 cases oT s
 ·simp
 ·cases oT (⟨l⟩:M.aC)<;>simp
theorem aLW {s:M.aC} {l:List M.aA} (hs:s.ok) (hz:M.aC.sz s≤1048576) (hl:M.aC.ok (⟨l⟩:M.aC)) (zl : ∀x∈l,M.Database.sz x.bB.Base≤1048576) :
  ((bT s).bind fun x93=>(if (!x93)=true then ((some s).bind fun x96=>(some (x96,false))) else ((bT (⟨l⟩:M.aC)).bind fun x98=>(if (!x98)=true then ((some s).bind fun x101=>(some (x101,false))) else (some ((⟨l⟩:M.aC),true))))))=some (aKM s l):=by
 rw [aGN hs hz,Option.bind_some,aBR hl zl]
 unfold aKM
 cases oT s
 ·simp
 ·cases oT (⟨l⟩:M.aC)<;>simp
def tS (s:M.aC) (b:M.aA) (k:Nat):Option (M.aC×Bool):=(aEH s.Buckets (k:Int)).bind fun _=>((app 328 ([]:List M.aA) (List.take (k:Int).toNat s.Buckets)).bind fun _=>((gK b).bind fun x68=>((app 328 (List.take (k:Int).toNat s.Buckets) ([x68])).bind fun _=>((app 328 ((List.take (k:Int).toNat s.Buckets)++[x68]) (List.drop (k:Int).toNat s.Buckets)).bind fun _=>((bS s).bind fun x93=>(if (!x93)=true then ((eX s).bind fun x96=>(some (x96,false))) else ((bS (⟨(((List.take (k:Int).toNat s.Buckets)++[x68])++(List.drop (k:Int).toNat s.Buckets))⟩:M.aC)).bind fun x98=>(if (!x98)=true then ((eX s).bind fun x101=>(some (x101,false))) else (some ((⟨(((List.take (k:Int).toNat s.Buckets)++[x68])++(List.drop (k:Int).toNat s.Buckets))⟩:M.aC),true))))))))))
def tI (s:M.aC) (b:M.aA) (k:Nat):Option (M.aC×Bool):=(dI b).bind fun x51=>((aJ3 328 s.Buckets (k:Int) ([x51])).bind fun x53=>((bT s).bind fun x63=>(if (!x63)=true then ((bP s).bind fun x66=>(some (x66,false))) else ((bT (⟨(List.take (k:Int).toNat s.Buckets++([x51]++List.drop (k:Int).toNat s.Buckets))⟩:M.aC)).bind fun x68=>(if (!x68)=true then ((bP s).bind fun x71=>(some (x71,false))) else (some ((⟨(List.take (k:Int).toNat s.Buckets++([x51]++List.drop (k:Int).toNat s.Buckets))⟩:M.aC),true)))))))
theorem aFO {s:M.aC} {b:M.aA} (hs:s.ok) (hb:b.ok) (hz:M.aC.sz s≤1048576) (zc:M.aA.sz b≤1073741824) (zb:M.Database.sz b.bB.Base≤1048576):sW s b=some (aL9 s b):=by
 have hm:=le_max hs.Buckets.1
 have hlen:s.Buckets.length≤1048576:=by simp only [M.aC.sz] at hz;omega
 have ok:=aIk hs hb hz
 have all:=aJ9 (s:=s) hz zb
 have hle:=aKd s b
 unfold sW aL9
 rw [aCQ s (by omega),Option.bind_some,aBO hs,Option.bind_some]
 by_cases h:aBN (nAt b.Site b.Top) s.Buckets≥0
 ·obtain ⟨j,hj,hlt⟩:=aBx (show ¬aBN (nAt b.Site b.Top) s.Buckets<0 by omega)
  have e:aC6 s b=s.Buckets.set (aBN (nAt b.Site b.Top) s.Buckets).toNat b:=by unfold aC6;rw [if_pos h]
  rw [if_pos (by simpa using h),zW b (by omega),Option.bind_some]
  rw [e] at ok all ⊢
  rw [hj] at ok all ⊢
  rw [aO hlt,Option.bind_some]
  exact aKs hs hz ok all
 ·have e:aC6 s b=s.Buckets.take (aMq s b)++([b]++s.Buckets.drop (aMq s b)):=by unfold aC6;rw [if_neg h]
  rw [if_neg (by simpa using h),aND (l:=s.Buckets) (f:=fun x=>aCP x b) (L:=gH s b s) (S:=tS s b) hs.Buckets.1 (fun n k hk => ?_) (fun n => ?_)]
  ·show tS s b (aMq s b)=_
   unfold tS
   rw [aG6 hle,Option.bind_some,Int.toNat_natCast,aF2 (by simp;omega) (by omega),Option.bind_some,zW b (by omega),Option.bind_some,yF (by simp only [List.length_take,List.length_cons,List.length_nil];omega),Option.bind_some,yF (by simp only [List.length_append,List.length_take,List.length_drop,List.length_cons,List.length_nil];omega),Option.bind_some,List.append_assoc,←e]
   rw [aCQ s (by omega)]
   exact aKs hs hz ok all
  ·simp only [gH]
   rw [if_pos (aZ hk),aO hk,Option.bind_some,aDx,Option.bind_some,bD (by omega)]
   rfl
  ·simp only [gH]
   rw [if_neg (by rw [aP];simp)]
   rfl
theorem aFi {s:M.aC} {b:M.aA} (hs:s.ok) (hb:b.ok) (hz:M.aC.sz s≤1048576) (zc:M.aA.sz b≤1073741824) (zb:M.Database.sz b.bB.Base≤1048576):tC s b=some (aL9 s b):=by
 have hm:=le_max hs.Buckets.1
 have hlen:s.Buckets.length≤1048576:=by simp only [M.aC.sz] at hz;omega
 have ok:=aIk hs hb hz
 have all:=aJ9 (s:=s) hz zb
 have hle:=aKd s b
 unfold tC aL9
 rw [aBE s (by omega),Option.bind_some,aBS hs,Option.bind_some]
 by_cases h:aBN (nAt b.Site b.Top) s.Buckets≥0
 ·obtain ⟨j,hj,hlt⟩:=aBx (show ¬aBN (nAt b.Site b.Top) s.Buckets<0 by omega)
  have e:aC6 s b=s.Buckets.set (aBN (nAt b.Site b.Top) s.Buckets).toNat b:=by unfold aC6;rw [if_pos h]
  rw [if_pos (by simpa using h),rU b (by omega),Option.bind_some]
  rw [e] at ok all ⊢
  rw [hj] at ok all ⊢
  rw [aO hlt,Option.bind_some]
  exact aLW hs hz ok all
 ·have e:aC6 s b=s.Buckets.take (aMq s b)++([b]++s.Buckets.drop (aMq s b)):=by unfold aC6;rw [if_neg h]
  rw [if_neg (by simpa using h),aND (l:=s.Buckets) (f:=fun x=>aCP x b) (L:=gF s b s) (S:=tI s b) hs.Buckets.1 (fun n k hk => ?_) (fun n => ?_)]
  ·show tI s b (aMq s b)=_
   unfold tI
   rw [rU b (by omega),Option.bind_some,aKt (by simp only [Int.toNat_natCast,List.length_cons,List.length_nil];omega),Option.bind_some,Int.toNat_natCast,←e]
   rw [aBE s (by omega)]
   exact aLW hs hz ok all
  ·simp only [gF]
   rw [if_pos (aZ hk),aO hk,Option.bind_some,aB6,Option.bind_some,bD (by omega)]
   rfl
  ·simp only [gF]
   rw [if_neg (by rw [aP];simp)]
   rfl
end Go.Proofs.YtnhpbpnhmapeeaaGreat.gen
