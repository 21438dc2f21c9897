/-
  No cell of these rows narrows 'for every input' (looked for: loops, veiled, ifaces, maps, wideKeys, modest, calm, conditions, laid).
  DERIVED. THE GIVEN ROWS OF THIS SEAT. 3 by the template 'for every input the law returns true; each argument reads behind the call as it read before'; 0 by the template 'total and deterministic' (their statements: YtidhkhdnjonjfaaGreatTotals.lean).
  GIVEN WITH THE SEED: the statements are not yours to turn. If you find one false, say at which input.
  Laid BY PROGRAM, IN A SANDBOX (cutbox-rows.mjs): the forced cells as the released guide's own fill.sh prints them over the translation 63a75675208bd6a4… (all of the seat's roots in one cut). By AI agents, Wed Nov 11 2026. No macro, syntax, notation, axiom, sorry.
-/
import Derived.Test.YtidhkhdnjonjfaaGreatChecked
import GoSem.Claim
import GoSem.ClaimJoined
import GoSem.ClaimMapViews
import Derived.JoinedTies
import Derived.KernelRfl
namespace Go.Proofs.YtidhkhdnjonjfaaGreat
/- THE CELL 'sum', in the pinned program and in every row, IS THE sha256 OF THE DUMP (.gsa) THAT YtidhkhdnjonjfaaGreatProg.lean LOADS. Nothing in Lean hashes anything: it is a label: what it is worth is what the hold of that sum in a sandbox is worth. -/
noncomputable def Tryz.pinned : Pinned := { name := "ytidhkhdnjonjfaagreat", sum := "63a75675208bd6a40dfb4d5fd1dc6d3fbdff07590f6fd861bc5c0bb03d5c923a", checked := Tryz.checked }
namespace Rows
def none {H : Type} : Left H := { results := [], args := [] }

/-- 'laws.FnBuckets': WHATEVER THE INPUT: true; the input reads as it did. -/
def fnBucketsSpec : ChangeSpec := { name := "fnBuckets", fn := fun _ => fun
  | [d] => { results := [.lit (.bool true)], args := [d] }
  | _ => none }
def fnBucketsRow : OpenClaim := { program := "ytidhkhdnjonjfaagreat", sum := "63a75675208bd6a40dfb4d5fd1dc6d3fbdff07590f6fd861bc5c0bb03d5c923a", func := "loop.example/g00583/laws.FnBuckets", spec := "fnBuckets", inPlace := ["internal/bytealg.abigen_runtime_cmpstring", "slices.overlaps[loop.example/g00583/impl.Item]"], unfollowed := true, recurses := true, apart := false }
def FnBucketsSaid : Prop := fnBucketsRow.holds Tryz.pinned (OpenSpec.ofChange fnBucketsSpec)

/-- ITS FALSE NEIGHBOUR: 'it returns false'. Refute it at one input. -/
def fnBucketsWrong : ChangeSpec := { name := "fnBuckets", fn := fun _ => fun
  | [d] => { results := [.lit (.bool false)], args := [d] }
  | _ => none }
def FnBucketsWrongFalsely : Prop := fnBucketsRow.holds Tryz.pinned (OpenSpec.ofChange fnBucketsWrong)

/-- 'laws.FnExactReadNote': WHATEVER THE INPUT: true; the input reads as it did. -/
def fnExactReadNoteSpec : ChangeSpec := { name := "fnExactReadNote", fn := fun _ => fun
  | [d1, d2, d3, d4] => { results := [.lit (.bool true)], args := [d1, d2, d3, d4] }
  | _ => none }
def fnExactReadNoteRow : OpenClaim := { program := "ytidhkhdnjonjfaagreat", sum := "63a75675208bd6a40dfb4d5fd1dc6d3fbdff07590f6fd861bc5c0bb03d5c923a", func := "loop.example/g00583/laws.FnExactReadNote", spec := "fnExactReadNote", inPlace := ["internal/bytealg.abigen_runtime_cmpstring", "slices.overlaps[loop.example/g00583/impl.Item]", "slices.overlaps[loop.example/g00583/impl.Field]"], unfollowed := true, recurses := true, apart := false }
def FnExactReadNoteSaid : Prop := fnExactReadNoteRow.holds Tryz.pinned (OpenSpec.ofChange fnExactReadNoteSpec)

/-- ITS FALSE NEIGHBOUR: 'it returns false'. Refute it at one input. -/
def fnExactReadNoteWrong : ChangeSpec := { name := "fnExactReadNote", fn := fun _ => fun
  | [d1, d2, d3, d4] => { results := [.lit (.bool false)], args := [d1, d2, d3, d4] }
  | _ => none }
def FnExactReadNoteWrongFalsely : Prop := fnExactReadNoteRow.holds Tryz.pinned (OpenSpec.ofChange fnExactReadNoteWrong)

/-- 'laws.FnExactUpdateWorker': WHATEVER THE INPUT: true; the input reads as it did. -/
def fnExactUpdateWorkerSpec : ChangeSpec := { name := "fnExactUpdateWorker", fn := fun _ => fun
  | [d1, d2, d3] => { results := [.lit (.bool true)], args := [d1, d2, d3] }
  | _ => none }
def fnExactUpdateWorkerRow : OpenClaim := { program := "ytidhkhdnjonjfaagreat", sum := "63a75675208bd6a40dfb4d5fd1dc6d3fbdff07590f6fd861bc5c0bb03d5c923a", func := "loop.example/g00583/laws.FnExactUpdateWorker", spec := "fnExactUpdateWorker", inPlace := ["internal/bytealg.abigen_runtime_cmpstring", "slices.overlaps[loop.example/g00583/impl.Item]", "slices.overlaps[loop.example/g00583/impl.Cache]", "slices.overlaps[loop.example/g00583/impl.Bucket]"], unfollowed := true, recurses := true, apart := false }
def FnExactUpdateWorkerSaid : Prop := fnExactUpdateWorkerRow.holds Tryz.pinned (OpenSpec.ofChange fnExactUpdateWorkerSpec)

/-- ITS FALSE NEIGHBOUR: 'it returns false'. Refute it at one input. -/
def fnExactUpdateWorkerWrong : ChangeSpec := { name := "fnExactUpdateWorker", fn := fun _ => fun
  | [d1, d2, d3] => { results := [.lit (.bool false)], args := [d1, d2, d3] }
  | _ => none }
def FnExactUpdateWorkerWrongFalsely : Prop := fnExactUpdateWorkerRow.holds Tryz.pinned (OpenSpec.ofChange fnExactUpdateWorkerWrong)

/- THE SECOND FORM. 'bulk': how many values and letters a reading holds, each counted each time it is reached (what is shared counts as often as it is met; a slice's spare places count too). A statement '..UptoSaid' is the law's where the arguments, and the package variables that the reading takes, are together of bulk at most 1048576: NARROWER than '..Said'. Prove '..Said' where nothing that the law and all that it calls make is longer than what came in: it says more and counts as full. Else prove '..UptoSaid'. A law counts once. -/
mutual
def uptoBulk {H : Type} : DataW H → Nat
  | .lit (.string bytes) => bytes.length + 1
  | .lit _ => 1
  | .nil => 1
  | .ptr d => uptoBulk d + 1
  | .slice elems spare => uptoBulkAll elems + uptoBulkAll spare + 1
  | .agg parts => uptoBulkAll parts + 1
  | .iface _ d => uptoBulk d + 1
  | .map entries => uptoBulkEntries entries + 1
  | .held _ => 1
def uptoBulkAll {H : Type} : List (DataW H) → Nat
  | [] => 0
  | d :: r => uptoBulk d + uptoBulkAll r
def uptoBulkEntries {H : Type} : List (Lit × DataW H) → Nat
  | [] => 0
  | x :: r => uptoBulkEntry x + uptoBulkEntries r
def uptoBulkEntry {H : Type} : Lit × DataW H → Nat
  | (.string bytes, d) => bytes.length + uptoBulk d + 1
  | (_, d) => uptoBulk d + 1
 end
def uptoSmall : (H : Type) → List (DataW H) → Bool := fun _ ds => decide (uptoBulkAll ds ≤ 1048576)
def OpenSpec.upto (s : _root_.Go.ChangeSpec) : _root_.Go.OpenSpec := { _root_.Go.OpenSpec.ofChange s with cond := some uptoSmall }

/-- 'laws.FnBuckets', WHERE WHAT IT READS IS OF BULK AT MOST 1048576: true; the input reads as it did. -/
def fnBucketsUptoRow : OpenClaim := { program := "ytidhkhdnjonjfaagreat", sum := "63a75675208bd6a40dfb4d5fd1dc6d3fbdff07590f6fd861bc5c0bb03d5c923a", func := "loop.example/g00583/laws.FnBuckets", spec := "fnBuckets", inPlace := ["internal/bytealg.abigen_runtime_cmpstring", "slices.overlaps[loop.example/g00583/impl.Item]"], unfollowed := true, recurses := true, apart := false, narrowed := true }
def FnBucketsUptoSaid : Prop := fnBucketsUptoRow.holds Tryz.pinned (OpenSpec.upto fnBucketsSpec)

/-- 'laws.FnExactReadNote', WHERE WHAT IT READS IS OF BULK AT MOST 1048576: true; the input reads as it did. -/
def fnExactReadNoteUptoRow : OpenClaim := { program := "ytidhkhdnjonjfaagreat", sum := "63a75675208bd6a40dfb4d5fd1dc6d3fbdff07590f6fd861bc5c0bb03d5c923a", func := "loop.example/g00583/laws.FnExactReadNote", spec := "fnExactReadNote", inPlace := ["internal/bytealg.abigen_runtime_cmpstring", "slices.overlaps[loop.example/g00583/impl.Item]", "slices.overlaps[loop.example/g00583/impl.Field]"], unfollowed := true, recurses := true, apart := false, narrowed := true }
def FnExactReadNoteUptoSaid : Prop := fnExactReadNoteUptoRow.holds Tryz.pinned (OpenSpec.upto fnExactReadNoteSpec)

/-- 'laws.FnExactUpdateWorker', WHERE WHAT IT READS IS OF BULK AT MOST 1048576: true; the input reads as it did. -/
def fnExactUpdateWorkerUptoRow : OpenClaim := { program := "ytidhkhdnjonjfaagreat", sum := "63a75675208bd6a40dfb4d5fd1dc6d3fbdff07590f6fd861bc5c0bb03d5c923a", func := "loop.example/g00583/laws.FnExactUpdateWorker", spec := "fnExactUpdateWorker", inPlace := ["internal/bytealg.abigen_runtime_cmpstring", "slices.overlaps[loop.example/g00583/impl.Item]", "slices.overlaps[loop.example/g00583/impl.Cache]", "slices.overlaps[loop.example/g00583/impl.Bucket]"], unfollowed := true, recurses := true, apart := false, narrowed := true }
def FnExactUpdateWorkerUptoSaid : Prop := fnExactUpdateWorkerUptoRow.holds Tryz.pinned (OpenSpec.upto fnExactUpdateWorkerSpec)

end Rows
end Go.Proofs.YtidhkhdnjonjfaaGreat
