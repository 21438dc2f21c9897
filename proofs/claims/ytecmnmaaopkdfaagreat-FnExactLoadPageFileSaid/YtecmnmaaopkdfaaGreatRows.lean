/-
  No cell of these rows narrows 'for every input' (looked for: loops, veiled, ifaces, maps, wideKeys, modest, calm, conditions, laid).
  DERIVED. THE GIVEN ROWS OF THIS SEAT. 4 by the template 'for every input the law returns true; each argument reads behind the call as it read before'; 0 by the template 'total and deterministic' (their statements: YtecmnmaaopkdfaaGreatTotals.lean).
  GIVEN WITH THE SEED: the statements are not yours to turn. If you find one false, say at which input.
  Laid BY PROGRAM, IN A SANDBOX (cutbox-rows.mjs): the forced cells as the released guide's own fill.sh prints them over the translation 9c5c5862bcf0c210… (all of the seat's roots in one cut). By AI agents, Wed Nov 11 2026. No macro, syntax, notation, axiom, sorry.
-/
import Derived.Test.YtecmnmaaopkdfaaGreatChecked
import GoSem.Claim
import GoSem.ClaimJoined
import GoSem.ClaimMapViews
import Derived.JoinedTies
import Derived.KernelRfl
namespace Go.Proofs.YtecmnmaaopkdfaaGreat
/- THE CELL 'sum', in the pinned program and in every row, IS THE sha256 OF THE DUMP (.gsa) THAT YtecmnmaaopkdfaaGreatProg.lean LOADS. Nothing in Lean hashes anything: it is a label: what it is worth is what the hold of that sum in a sandbox is worth. -/
noncomputable def Tryz.pinned : Pinned := { name := "ytecmnmaaopkdfaagreat", sum := "9c5c5862bcf0c21068d01c3c91253fbda69da7b8920256dc97650d2ffdde69a2", checked := Tryz.checked }
namespace Rows
def none {H : Type} : Left H := { results := [], args := [] }

/-- 'laws.FnExactReleaseSite': WHATEVER THE INPUT: true; the input reads as it did. -/
def fnExactReleaseSiteSpec : ChangeSpec := { name := "fnExactReleaseSite", fn := fun _ => fun
  | [d1, d2] => { results := [.lit (.bool true)], args := [d1, d2] }
  | _ => none }
def fnExactReleaseSiteRow : OpenClaim := { program := "ytecmnmaaopkdfaagreat", sum := "9c5c5862bcf0c21068d01c3c91253fbda69da7b8920256dc97650d2ffdde69a2", func := "loop.example/g00583/laws.FnExactReleaseSite", spec := "fnExactReleaseSite", inPlace := ["internal/bytealg.abigen_runtime_cmpstring", "slices.overlaps[loop.example/g00583/impl.Item]"], unfollowed := true, recurses := true, apart := false }
def FnExactReleaseSiteSaid : Prop := fnExactReleaseSiteRow.holds Tryz.pinned (OpenSpec.ofChange fnExactReleaseSiteSpec)

/-- ITS FALSE NEIGHBOUR: 'it returns false'. Refute it at one input. -/
def fnExactReleaseSiteWrong : ChangeSpec := { name := "fnExactReleaseSite", fn := fun _ => fun
  | [d1, d2] => { results := [.lit (.bool false)], args := [d1, d2] }
  | _ => none }
def FnExactReleaseSiteWrongFalsely : Prop := fnExactReleaseSiteRow.holds Tryz.pinned (OpenSpec.ofChange fnExactReleaseSiteWrong)

/-- 'laws.FnExactPageSend': WHATEVER THE INPUT: true; the input reads as it did. -/
def fnExactPageSendSpec : ChangeSpec := { name := "fnExactPageSend", fn := fun _ => fun
  | [d1, d2, d3] => { results := [.lit (.bool true)], args := [d1, d2, d3] }
  | _ => none }
def fnExactPageSendRow : OpenClaim := { program := "ytecmnmaaopkdfaagreat", sum := "9c5c5862bcf0c21068d01c3c91253fbda69da7b8920256dc97650d2ffdde69a2", func := "loop.example/g00583/laws.FnExactPageSend", spec := "fnExactPageSend", inPlace := ["internal/bytealg.abigen_runtime_cmpstring", "slices.overlaps[loop.example/g00583/impl.Item]"], unfollowed := true, recurses := true, apart := false }
def FnExactPageSendSaid : Prop := fnExactPageSendRow.holds Tryz.pinned (OpenSpec.ofChange fnExactPageSendSpec)

/-- ITS FALSE NEIGHBOUR: 'it returns false'. Refute it at one input. -/
def fnExactPageSendWrong : ChangeSpec := { name := "fnExactPageSend", fn := fun _ => fun
  | [d1, d2, d3] => { results := [.lit (.bool false)], args := [d1, d2, d3] }
  | _ => none }
def FnExactPageSendWrongFalsely : Prop := fnExactPageSendRow.holds Tryz.pinned (OpenSpec.ofChange fnExactPageSendWrong)

/-- 'laws.FnExactPageLock': WHATEVER THE INPUT: true; the input reads as it did. -/
def fnExactPageLockSpec : ChangeSpec := { name := "fnExactPageLock", fn := fun _ => fun
  | [d1, d2, d3, d4] => { results := [.lit (.bool true)], args := [d1, d2, d3, d4] }
  | _ => none }
def fnExactPageLockRow : OpenClaim := { program := "ytecmnmaaopkdfaagreat", sum := "9c5c5862bcf0c21068d01c3c91253fbda69da7b8920256dc97650d2ffdde69a2", func := "loop.example/g00583/laws.FnExactPageLock", spec := "fnExactPageLock", inPlace := ["internal/bytealg.abigen_runtime_cmpstring", "slices.overlaps[loop.example/g00583/impl.Item]"], unfollowed := true, recurses := true, apart := false }
def FnExactPageLockSaid : Prop := fnExactPageLockRow.holds Tryz.pinned (OpenSpec.ofChange fnExactPageLockSpec)

/-- ITS FALSE NEIGHBOUR: 'it returns false'. Refute it at one input. -/
def fnExactPageLockWrong : ChangeSpec := { name := "fnExactPageLock", fn := fun _ => fun
  | [d1, d2, d3, d4] => { results := [.lit (.bool false)], args := [d1, d2, d3, d4] }
  | _ => none }
def FnExactPageLockWrongFalsely : Prop := fnExactPageLockRow.holds Tryz.pinned (OpenSpec.ofChange fnExactPageLockWrong)

/-- 'laws.FnExactLoadPageFile': WHATEVER THE INPUT: true; the input reads as it did. -/
def fnExactLoadPageFileSpec : ChangeSpec := { name := "fnExactLoadPageFile", fn := fun _ => fun
  | [d1, d2, d3] => { results := [.lit (.bool true)], args := [d1, d2, d3] }
  | _ => none }
def fnExactLoadPageFileRow : OpenClaim := { program := "ytecmnmaaopkdfaagreat", sum := "9c5c5862bcf0c21068d01c3c91253fbda69da7b8920256dc97650d2ffdde69a2", func := "loop.example/g00583/laws.FnExactLoadPageFile", spec := "fnExactLoadPageFile", inPlace := ["internal/bytealg.abigen_runtime_cmpstring", "slices.overlaps[loop.example/g00583/impl.Item]"], unfollowed := true, recurses := true, apart := false }
def FnExactLoadPageFileSaid : Prop := fnExactLoadPageFileRow.holds Tryz.pinned (OpenSpec.ofChange fnExactLoadPageFileSpec)

/-- ITS FALSE NEIGHBOUR: 'it returns false'. Refute it at one input. -/
def fnExactLoadPageFileWrong : ChangeSpec := { name := "fnExactLoadPageFile", fn := fun _ => fun
  | [d1, d2, d3] => { results := [.lit (.bool false)], args := [d1, d2, d3] }
  | _ => none }
def FnExactLoadPageFileWrongFalsely : Prop := fnExactLoadPageFileRow.holds Tryz.pinned (OpenSpec.ofChange fnExactLoadPageFileWrong)

/- THE SECOND FORM. 'bulk': how many values and letters a reading holds, each counted each time it is reached (what is shared counts as often as it is met; a slice's spare places count too). A statement '..UptoSaid' is the law's where the arguments, and the package variables that the reading takes, are together of bulk at most 1048576: NARROWER than '..Said'. Prove '..Said' where nothing that the law and all that it calls make is longer than what came in: it says more and counts as full. Else prove '..UptoSaid'. A law counts once. -/
mutual
def uptoBulk {H : Type} : DataW H → Nat
  | .lit (.string bytes) => bytes.length + 1
  | .lit _ => 1
  | .nil => 1
  | .ptr d => uptoBulk d + 1
  | .slice elems spare => uptoBulkAll elems + uptoBulkAll spare + 1
  | .agg parts => uptoBulkAll parts + 1
  | .iface _ d => uptoBulk d + 1
  | .map entries => uptoBulkEntries entries + 1
  | .held _ => 1
def uptoBulkAll {H : Type} : List (DataW H) → Nat
  | [] => 0
  | d :: r => uptoBulk d + uptoBulkAll r
def uptoBulkEntries {H : Type} : List (Lit × DataW H) → Nat
  | [] => 0
  | x :: r => uptoBulkEntry x + uptoBulkEntries r
def uptoBulkEntry {H : Type} : Lit × DataW H → Nat
  | (.string bytes, d) => bytes.length + uptoBulk d + 1
  | (_, d) => uptoBulk d + 1
 end
def uptoSmall : (H : Type) → List (DataW H) → Bool := fun _ ds => decide (uptoBulkAll ds ≤ 1048576)
def OpenSpec.upto (s : _root_.Go.ChangeSpec) : _root_.Go.OpenSpec := { _root_.Go.OpenSpec.ofChange s with cond := some uptoSmall }

/-- 'laws.FnExactReleaseSite', WHERE WHAT IT READS IS OF BULK AT MOST 1048576: true; the input reads as it did. -/
def fnExactReleaseSiteUptoRow : OpenClaim := { program := "ytecmnmaaopkdfaagreat", sum := "9c5c5862bcf0c21068d01c3c91253fbda69da7b8920256dc97650d2ffdde69a2", func := "loop.example/g00583/laws.FnExactReleaseSite", spec := "fnExactReleaseSite", inPlace := ["internal/bytealg.abigen_runtime_cmpstring", "slices.overlaps[loop.example/g00583/impl.Item]"], unfollowed := true, recurses := true, apart := false, narrowed := true }
def FnExactReleaseSiteUptoSaid : Prop := fnExactReleaseSiteUptoRow.holds Tryz.pinned (OpenSpec.upto fnExactReleaseSiteSpec)

/-- 'laws.FnExactPageSend', WHERE WHAT IT READS IS OF BULK AT MOST 1048576: true; the input reads as it did. -/
def fnExactPageSendUptoRow : OpenClaim := { program := "ytecmnmaaopkdfaagreat", sum := "9c5c5862bcf0c21068d01c3c91253fbda69da7b8920256dc97650d2ffdde69a2", func := "loop.example/g00583/laws.FnExactPageSend", spec := "fnExactPageSend", inPlace := ["internal/bytealg.abigen_runtime_cmpstring", "slices.overlaps[loop.example/g00583/impl.Item]"], unfollowed := true, recurses := true, apart := false, narrowed := true }
def FnExactPageSendUptoSaid : Prop := fnExactPageSendUptoRow.holds Tryz.pinned (OpenSpec.upto fnExactPageSendSpec)

/-- 'laws.FnExactPageLock', WHERE WHAT IT READS IS OF BULK AT MOST 1048576: true; the input reads as it did. -/
def fnExactPageLockUptoRow : OpenClaim := { program := "ytecmnmaaopkdfaagreat", sum := "9c5c5862bcf0c21068d01c3c91253fbda69da7b8920256dc97650d2ffdde69a2", func := "loop.example/g00583/laws.FnExactPageLock", spec := "fnExactPageLock", inPlace := ["internal/bytealg.abigen_runtime_cmpstring", "slices.overlaps[loop.example/g00583/impl.Item]"], unfollowed := true, recurses := true, apart := false, narrowed := true }
def FnExactPageLockUptoSaid : Prop := fnExactPageLockUptoRow.holds Tryz.pinned (OpenSpec.upto fnExactPageLockSpec)

/-- 'laws.FnExactLoadPageFile', WHERE WHAT IT READS IS OF BULK AT MOST 1048576: true; the input reads as it did. -/
def fnExactLoadPageFileUptoRow : OpenClaim := { program := "ytecmnmaaopkdfaagreat", sum := "9c5c5862bcf0c21068d01c3c91253fbda69da7b8920256dc97650d2ffdde69a2", func := "loop.example/g00583/laws.FnExactLoadPageFile", spec := "fnExactLoadPageFile", inPlace := ["internal/bytealg.abigen_runtime_cmpstring", "slices.overlaps[loop.example/g00583/impl.Item]"], unfollowed := true, recurses := true, apart := false, narrowed := true }
def FnExactLoadPageFileUptoSaid : Prop := fnExactLoadPageFileUptoRow.holds Tryz.pinned (OpenSpec.upto fnExactLoadPageFileSpec)

end Rows
end Go.Proofs.YtecmnmaaopkdfaaGreat
