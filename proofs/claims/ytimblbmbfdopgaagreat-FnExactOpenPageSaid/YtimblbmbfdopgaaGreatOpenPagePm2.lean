/-
  Helper text. No conditions.
-/
import Derived.Test.YtimblbmbfdopgaaGreatOpenPagePl
set_option linter.unusedVariables false
set_option linter.unusedSimpArgs false
namespace Go.Proofs.YtimblbmbfdopgaaGreat.gen
open Go Go.Sh
def oC:M.aC:=(⟨(⟨#[]⟩:ByteArray),(⟨#[]⟩:ByteArray),(⟨(⟨#[]⟩:ByteArray),0,0,0⟩:M.Registration),(⟨([]:List M.Cache)⟩:M.aO),(⟨(⟨(⟨#[]⟩:ByteArray),0,([]:List M.aH),([]:List M.aE)⟩:M.Database),([]:List Int),0⟩:M.bC),(⟨(⟨(⟨#[]⟩:ByteArray),([]:List M.Item),0⟩:M.aH),0,(⟨(⟨0,0,([]:List M.aZ)⟩:M.aR),0,0⟩:M.Sync)⟩:M.aD),0,false⟩:M.aC)
def aDo (a b:ByteArray) (d:Int):M.aC:=(⟨a,b,(⟨a,0,0,0⟩:M.Registration),(⟨([]:List M.Cache)⟩:M.aO),(⟨(⟨(⟨#[97,112,112]⟩:ByteArray),1,[(⟨(⟨#[110,111,116,101,115]⟩:ByteArray),([]:List M.Item),0⟩:M.aH)],([]:List M.aE)⟩:M.Database),([]:List Int),0⟩:M.bC),(⟨(⟨(⟨#[110,111,116,101,115]⟩:ByteArray),([]:List M.Item),0⟩:M.aH),0,(⟨(⟨d,1,([]:List M.aZ)⟩:M.aR),0,0⟩:M.Sync)⟩:M.aD),0,false⟩:M.aC)
theorem aFg:inI 0:=by unfold inI;omega
theorem aRy:inI 1:=by unfold inI;omega
theorem aKV (n:Nat) (h:n≤1048576):n≤maxLen:=by unfold maxLen;omega
theorem sz0:((⟨#[]⟩:ByteArray)).size≤maxLen:=aKV _ (by decide)
theorem sz5:((⟨#[110,111,116,101,115]⟩:ByteArray)).size≤maxLen:=aKV _ (by decide)
theorem sz3:((⟨#[97,112,112]⟩:ByteArray)).size≤maxLen:=aKV _ (by decide)
theorem aNa {d:Int} (n:Int) (hd:inI d) (hn:inI n):M.aR.ok (⟨d,n,([]:List M.aZ)⟩:M.aR):=⟨hd,hn,⟨by simp,by simp⟩⟩
theorem aKa:oC.ok:=⟨sz0,sz0,⟨sz0,aFg,aFg,aFg⟩,⟨⟨by simp [oC],by simp [oC]⟩⟩,⟨⟨sz0,aFg,⟨by simp [oC],by simp [oC]⟩,⟨by simp [oC],by simp [oC]⟩⟩,⟨by simp [oC],by simp [oC]⟩,aFg⟩,⟨⟨sz0,⟨by simp [oC],by simp [oC]⟩,aFg⟩,aFg,⟨⟨aFg,aFg,⟨by simp [oC],by simp [oC]⟩⟩,aFg,aFg⟩⟩,aFg⟩
theorem aOV:M.aH.ok (⟨(⟨#[110,111,116,101,115]⟩:ByteArray),([]:List M.Item),0⟩:M.aH):=⟨sz5,⟨by simp,by simp⟩,aFg⟩
theorem aJw {a b:ByteArray} {d:Int} (ha:a.size≤maxLen) (hb:b.size≤maxLen) (hd:inI d):(aDo a b d).ok:=
 ⟨ha,hb,⟨ha,aFg,aFg,aFg⟩,⟨⟨by simp [aDo],by simp [aDo]⟩⟩,⟨⟨sz3,aRy,⟨aKV _ (by simp [aDo]),fun y hy=>by
  simp only [aDo,List.mem_cons,List.not_mem_nil,or_false] at hy
  subst hy
  exact aOV⟩,⟨by simp [aDo],by simp [aDo]⟩⟩,⟨by simp [aDo],by simp [aDo]⟩,aFg⟩,⟨aOV,aFg,⟨aNa 1 hd aRy,aFg,aFg⟩⟩,aFg⟩
theorem aJm (a b:ByteArray) (d:Int):M.Database.sz (aDo a b d).bC.Base≤1048576:=by
 simp only [aDo]
 decide
def aDE (a b:ByteArray) (d:Int):M.aC×Bool:=if aEY (⟨d,1,([]:List M.aZ)⟩:M.aR)=true then (if aBK (aDo a b d)=true then (aDo a b d,true) else (oC,false)) else (oC,false)
theorem aH2 {a b:ByteArray} {d:Int} (ha:a.size≤maxLen) (hb:b.size≤maxLen) (hd:inI d):vV a b d=some (aDE a b d):=by
 unfold vV aBF aDE
 rw [aE0 (aNa 1 hd aRy),qA]
 cases hn:aEY (⟨d,1,([]:List M.aZ)⟩:M.aR) with
 | false=>simp [oC]
 | true =>
  have hI:=aEP (aJw ha hb hd) (aJm a b d)
  unfold aDo at hI
  simp only [qB,qD,if_false,qA,hI,if_true]
  unfold aDo
  generalize aBK _=c
  cases c<;>simp [oC]
theorem aHs {a b:ByteArray} {d:Int} (ha:a.size≤maxLen) (hb:b.size≤maxLen) (hd:inI d):wW a b d=some (aDE a b d):=by
 unfold wW aBH aDE
 rw [aEr (aNa 1 hd aRy),qA]
 cases hn:aEY (⟨d,1,([]:List M.aZ)⟩:M.aR) with
 | false=>simp [oC]
 | true =>
  have hI:=aER (aJw ha hb hd) (aJm a b d)
  unfold aDo at hI
  simp only [qB,qD,if_false,qA,hI,if_true]
  unfold aDo
  generalize aBK _=c
  cases c<;>simp [oC]
theorem aPh {a b:ByteArray} {d:Int} (ha:a.size≤maxLen) (hb:b.size≤maxLen) (hd:inI d):(aDE a b d).1.ok:=by
 unfold aDE
 split
 ·split
  ·exact aJw ha hb hd
  ·exact aKa
 ·exact aKa
end Go.Proofs.YtimblbmbfdopgaaGreat.gen
