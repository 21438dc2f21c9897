/-
  No cell of these rows narrows 'for every input' (looked for: loops, veiled, ifaces, maps, wideKeys, modest, calm, conditions, laid).
  DERIVED. THE GIVEN ROWS OF THIS SEAT. 3 by the template 'for every input the law returns true; each argument reads behind the call as it read before'; 0 by the template 'total and deterministic' (their statements: YtbpbocchokbggaaGreatTotals.lean).
  GIVEN WITH THE SEED: the statements are not yours to turn. If you find one false, say at which input.
  Laid BY PROGRAM, IN A SANDBOX (cutbox-rows.mjs): the forced cells as the released guide's own fill.sh prints them over the translation 6de843da7f95607a… (all of the seat's roots in one cut). By AI agents, Wed Nov 11 2026. No macro, syntax, notation, axiom, sorry.
-/
import Derived.Test.YtbpbocchokbggaaGreatChecked
import GoSem.Claim
import GoSem.ClaimJoined
import GoSem.ClaimMapViews
import Derived.JoinedTies
import Derived.KernelRfl
namespace Go.Proofs.YtbpbocchokbggaaGreat
/- THE CELL 'sum', in the pinned program and in every row, IS THE sha256 OF THE DUMP (.gsa) THAT YtbpbocchokbggaaGreatProg.lean LOADS. Nothing in Lean hashes anything: it is a label: what it is worth is what the hold of that sum in a sandbox is worth. -/
noncomputable def Tryz.pinned : Pinned := { name := "ytbpbocchokbggaagreat", sum := "6de843da7f95607ad9254fd3bd2e15036c6e9d80530107b7d31ee51c5b30a11a", checked := Tryz.checked }
namespace Rows
def none {H : Type} : Left H := { results := [], args := [] }

/-- 'laws.FnExactWriteNote': WHATEVER THE INPUT: true; the input reads as it did. -/
def fnExactWriteNoteSpec : ChangeSpec := { name := "fnExactWriteNote", fn := fun _ => fun
  | [d1, d2, d3, d4, d5] => { results := [.lit (.bool true)], args := [d1, d2, d3, d4, d5] }
  | _ => none }
def fnExactWriteNoteRow : OpenClaim := { program := "ytbpbocchokbggaagreat", sum := "6de843da7f95607ad9254fd3bd2e15036c6e9d80530107b7d31ee51c5b30a11a", func := "loop.example/g00583/laws.FnExactWriteNote", spec := "fnExactWriteNote", inPlace := ["internal/bytealg.abigen_runtime_cmpstring", "slices.overlaps[loop.example/g00583/impl.Item]", "slices.overlaps[loop.example/g00583/impl.Field]", "slices.overlaps[loop.example/g00583/impl.Bucket]"], unfollowed := true, recurses := true, apart := false }
def FnExactWriteNoteSaid : Prop := fnExactWriteNoteRow.holds Tryz.pinned (OpenSpec.ofChange fnExactWriteNoteSpec)

/-- ITS FALSE NEIGHBOUR: 'it returns false'. Refute it at one input. -/
def fnExactWriteNoteWrong : ChangeSpec := { name := "fnExactWriteNote", fn := fun _ => fun
  | [d1, d2, d3, d4, d5] => { results := [.lit (.bool false)], args := [d1, d2, d3, d4, d5] }
  | _ => none }
def FnExactWriteNoteWrongFalsely : Prop := fnExactWriteNoteRow.holds Tryz.pinned (OpenSpec.ofChange fnExactWriteNoteWrong)

/-- 'laws.FnOpened': WHATEVER THE INPUT: true; the input reads as it did. -/
def fnOpenedSpec : ChangeSpec := { name := "fnOpened", fn := fun _ => fun
  | [d] => { results := [.lit (.bool true)], args := [d] }
  | _ => none }
def fnOpenedRow : OpenClaim := { program := "ytbpbocchokbggaagreat", sum := "6de843da7f95607ad9254fd3bd2e15036c6e9d80530107b7d31ee51c5b30a11a", func := "loop.example/g00583/laws.FnOpened", spec := "fnOpened", inPlace := ["internal/bytealg.abigen_runtime_cmpstring", "slices.overlaps[loop.example/g00583/impl.Item]", "slices.overlaps[loop.example/g00583/impl.Bucket]"], unfollowed := true, recurses := true, apart := false }
def FnOpenedSaid : Prop := fnOpenedRow.holds Tryz.pinned (OpenSpec.ofChange fnOpenedSpec)

/-- ITS FALSE NEIGHBOUR: 'it returns false'. Refute it at one input. -/
def fnOpenedWrong : ChangeSpec := { name := "fnOpened", fn := fun _ => fun
  | [d] => { results := [.lit (.bool false)], args := [d] }
  | _ => none }
def FnOpenedWrongFalsely : Prop := fnOpenedRow.holds Tryz.pinned (OpenSpec.ofChange fnOpenedWrong)

/-- 'laws.FnUpdates': WHATEVER THE INPUT: true; the input reads as it did. -/
def fnUpdatesSpec : ChangeSpec := { name := "fnUpdates", fn := fun _ => fun
  | [d] => { results := [.lit (.bool true)], args := [d] }
  | _ => none }
def fnUpdatesRow : OpenClaim := { program := "ytbpbocchokbggaagreat", sum := "6de843da7f95607ad9254fd3bd2e15036c6e9d80530107b7d31ee51c5b30a11a", func := "loop.example/g00583/laws.FnUpdates", spec := "fnUpdates", inPlace := ["internal/bytealg.abigen_runtime_cmpstring", "slices.overlaps[loop.example/g00583/impl.Item]", "slices.overlaps[loop.example/g00583/impl.Cache]", "slices.overlaps[loop.example/g00583/impl.Bucket]"], unfollowed := true, recurses := true, apart := false }
def FnUpdatesSaid : Prop := fnUpdatesRow.holds Tryz.pinned (OpenSpec.ofChange fnUpdatesSpec)

/-- ITS FALSE NEIGHBOUR: 'it returns false'. Refute it at one input. -/
def fnUpdatesWrong : ChangeSpec := { name := "fnUpdates", fn := fun _ => fun
  | [d] => { results := [.lit (.bool false)], args := [d] }
  | _ => none }
def FnUpdatesWrongFalsely : Prop := fnUpdatesRow.holds Tryz.pinned (OpenSpec.ofChange fnUpdatesWrong)

/- THE SECOND FORM. 'bulk': how many values and letters a reading holds, each counted each time it is reached (what is shared counts as often as it is met; a slice's spare places count too). A statement '..UptoSaid' is the law's where the arguments, and the package variables that the reading takes, are together of bulk at most 1048576: NARROWER than '..Said'. Prove '..Said' where nothing that the law and all that it calls make is longer than what came in: it says more and counts as full. Else prove '..UptoSaid'. A law counts once. -/
mutual
def uptoBulk {H : Type} : DataW H → Nat
  | .lit (.string bytes) => bytes.length + 1
  | .lit _ => 1
  | .nil => 1
  | .ptr d => uptoBulk d + 1
  | .slice elems spare => uptoBulkAll elems + uptoBulkAll spare + 1
  | .agg parts => uptoBulkAll parts + 1
  | .iface _ d => uptoBulk d + 1
  | .map entries => uptoBulkEntries entries + 1
  | .held _ => 1
def uptoBulkAll {H : Type} : List (DataW H) → Nat
  | [] => 0
  | d :: r => uptoBulk d + uptoBulkAll r
def uptoBulkEntries {H : Type} : List (Lit × DataW H) → Nat
  | [] => 0
  | x :: r => uptoBulkEntry x + uptoBulkEntries r
def uptoBulkEntry {H : Type} : Lit × DataW H → Nat
  | (.string bytes, d) => bytes.length + uptoBulk d + 1
  | (_, d) => uptoBulk d + 1
 end
def uptoSmall : (H : Type) → List (DataW H) → Bool := fun _ ds => decide (uptoBulkAll ds ≤ 1048576)
def OpenSpec.upto (s : _root_.Go.ChangeSpec) : _root_.Go.OpenSpec := { _root_.Go.OpenSpec.ofChange s with cond := some uptoSmall }

/-- 'laws.FnExactWriteNote', WHERE WHAT IT READS IS OF BULK AT MOST 1048576: true; the input reads as it did. -/
def fnExactWriteNoteUptoRow : OpenClaim := { program := "ytbpbocchokbggaagreat", sum := "6de843da7f95607ad9254fd3bd2e15036c6e9d80530107b7d31ee51c5b30a11a", func := "loop.example/g00583/laws.FnExactWriteNote", spec := "fnExactWriteNote", inPlace := ["internal/bytealg.abigen_runtime_cmpstring", "slices.overlaps[loop.example/g00583/impl.Item]", "slices.overlaps[loop.example/g00583/impl.Field]", "slices.overlaps[loop.example/g00583/impl.Bucket]"], unfollowed := true, recurses := true, apart := false, narrowed := true }
def FnExactWriteNoteUptoSaid : Prop := fnExactWriteNoteUptoRow.holds Tryz.pinned (OpenSpec.upto fnExactWriteNoteSpec)

/-- 'laws.FnOpened', WHERE WHAT IT READS IS OF BULK AT MOST 1048576: true; the input reads as it did. -/
def fnOpenedUptoRow : OpenClaim := { program := "ytbpbocchokbggaagreat", sum := "6de843da7f95607ad9254fd3bd2e15036c6e9d80530107b7d31ee51c5b30a11a", func := "loop.example/g00583/laws.FnOpened", spec := "fnOpened", inPlace := ["internal/bytealg.abigen_runtime_cmpstring", "slices.overlaps[loop.example/g00583/impl.Item]", "slices.overlaps[loop.example/g00583/impl.Bucket]"], unfollowed := true, recurses := true, apart := false, narrowed := true }
def FnOpenedUptoSaid : Prop := fnOpenedUptoRow.holds Tryz.pinned (OpenSpec.upto fnOpenedSpec)

/-- 'laws.FnUpdates', WHERE WHAT IT READS IS OF BULK AT MOST 1048576: true; the input reads as it did. -/
def fnUpdatesUptoRow : OpenClaim := { program := "ytbpbocchokbggaagreat", sum := "6de843da7f95607ad9254fd3bd2e15036c6e9d80530107b7d31ee51c5b30a11a", func := "loop.example/g00583/laws.FnUpdates", spec := "fnUpdates", inPlace := ["internal/bytealg.abigen_runtime_cmpstring", "slices.overlaps[loop.example/g00583/impl.Item]", "slices.overlaps[loop.example/g00583/impl.Cache]", "slices.overlaps[loop.example/g00583/impl.Bucket]"], unfollowed := true, recurses := true, apart := false, narrowed := true }
def FnUpdatesUptoSaid : Prop := fnUpdatesUptoRow.holds Tryz.pinned (OpenSpec.upto fnUpdatesSpec)

end Rows
end Go.Proofs.YtbpbocchokbggaaGreat
