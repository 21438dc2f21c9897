/-
  No cell of these rows narrows 'for every input' (looked for: loops, veiled, ifaces, maps, wideKeys, modest, calm, conditions, laid).
  DERIVED. THE GIVEN ROWS OF THIS SEAT. 3 by the template 'for every input the law returns true; each argument reads behind the call as it read before'; 0 by the template 'total and deterministic' (their statements: YtmpbibngijnfeaaGreatTotals.lean).
  GIVEN WITH THE SEED: the statements are not yours to turn. If you find one false, say at which input.
  Laid BY PROGRAM, IN A SANDBOX (cutbox-rows.mjs): the forced cells as the released guide's own fill.sh prints them over the translation c3359df7f2e71fd4… (all of the seat's roots in one cut). By AI agents, Wed Nov 11 2026. No macro, syntax, notation, axiom, sorry.
-/
import Derived.Test.YtmpbibngijnfeaaGreatChecked
import GoSem.Claim
import GoSem.ClaimJoined
import GoSem.ClaimMapViews
import Derived.JoinedTies
import Derived.KernelRfl
namespace Go.Proofs.YtmpbibngijnfeaaGreat
/- THE CELL 'sum', in the pinned program and in every row, IS THE sha256 OF THE DUMP (.gsa) THAT YtmpbibngijnfeaaGreatProg.lean LOADS. Nothing in Lean hashes anything: it is a label: what it is worth is what the hold of that sum in a sandbox is worth. -/
noncomputable def Tryz.pinned : Pinned := { name := "ytmpbibngijnfeaagreat", sum := "c3359df7f2e71fd4ed206a85cd983e8e6c0014c53fa188d3a3f0ff9da5381943", checked := Tryz.checked }
namespace Rows
def none {H : Type} : Left H := { results := [], args := [] }

/-- 'laws.FnExactReplaceDisk': WHATEVER THE INPUT: true; the input reads as it did. -/
def fnExactReplaceDiskSpec : ChangeSpec := { name := "fnExactReplaceDisk", fn := fun _ => fun
  | [d1, d2] => { results := [.lit (.bool true)], args := [d1, d2] }
  | _ => none }
def fnExactReplaceDiskRow : OpenClaim := { program := "ytmpbibngijnfeaagreat", sum := "c3359df7f2e71fd4ed206a85cd983e8e6c0014c53fa188d3a3f0ff9da5381943", func := "loop.example/g00583/laws.FnExactReplaceDisk", spec := "fnExactReplaceDisk", inPlace := ["internal/bytealg.abigen_runtime_cmpstring", "slices.overlaps[loop.example/g00583/impl.Item]"], unfollowed := true, recurses := true, apart := false }
def FnExactReplaceDiskSaid : Prop := fnExactReplaceDiskRow.holds Tryz.pinned (OpenSpec.ofChange fnExactReplaceDiskSpec)

/-- ITS FALSE NEIGHBOUR: 'it returns false'. Refute it at one input. -/
def fnExactReplaceDiskWrong : ChangeSpec := { name := "fnExactReplaceDisk", fn := fun _ => fun
  | [d1, d2] => { results := [.lit (.bool false)], args := [d1, d2] }
  | _ => none }
def FnExactReplaceDiskWrongFalsely : Prop := fnExactReplaceDiskRow.holds Tryz.pinned (OpenSpec.ofChange fnExactReplaceDiskWrong)

/-- 'laws.FnExactReplaceReplica': WHATEVER THE INPUT: true; the input reads as it did. -/
def fnExactReplaceReplicaSpec : ChangeSpec := { name := "fnExactReplaceReplica", fn := fun _ => fun
  | [d1, d2] => { results := [.lit (.bool true)], args := [d1, d2] }
  | _ => none }
def fnExactReplaceReplicaRow : OpenClaim := { program := "ytmpbibngijnfeaagreat", sum := "c3359df7f2e71fd4ed206a85cd983e8e6c0014c53fa188d3a3f0ff9da5381943", func := "loop.example/g00583/laws.FnExactReplaceReplica", spec := "fnExactReplaceReplica", inPlace := ["internal/bytealg.abigen_runtime_cmpstring", "slices.overlaps[loop.example/g00583/impl.Item]"], unfollowed := true, recurses := true, apart := false }
def FnExactReplaceReplicaSaid : Prop := fnExactReplaceReplicaRow.holds Tryz.pinned (OpenSpec.ofChange fnExactReplaceReplicaSpec)

/-- ITS FALSE NEIGHBOUR: 'it returns false'. Refute it at one input. -/
def fnExactReplaceReplicaWrong : ChangeSpec := { name := "fnExactReplaceReplica", fn := fun _ => fun
  | [d1, d2] => { results := [.lit (.bool false)], args := [d1, d2] }
  | _ => none }
def FnExactReplaceReplicaWrongFalsely : Prop := fnExactReplaceReplicaRow.holds Tryz.pinned (OpenSpec.ofChange fnExactReplaceReplicaWrong)

/-- 'laws.FnExactReplaceCaches': WHATEVER THE INPUT: true; the input reads as it did. -/
def fnExactReplaceCachesSpec : ChangeSpec := { name := "fnExactReplaceCaches", fn := fun _ => fun
  | [d1, d2, d3] => { results := [.lit (.bool true)], args := [d1, d2, d3] }
  | _ => none }
def fnExactReplaceCachesRow : OpenClaim := { program := "ytmpbibngijnfeaagreat", sum := "c3359df7f2e71fd4ed206a85cd983e8e6c0014c53fa188d3a3f0ff9da5381943", func := "loop.example/g00583/laws.FnExactReplaceCaches", spec := "fnExactReplaceCaches", inPlace := ["internal/bytealg.abigen_runtime_cmpstring", "slices.overlaps[loop.example/g00583/impl.Item]"], unfollowed := true, recurses := true, apart := false }
def FnExactReplaceCachesSaid : Prop := fnExactReplaceCachesRow.holds Tryz.pinned (OpenSpec.ofChange fnExactReplaceCachesSpec)

/-- ITS FALSE NEIGHBOUR: 'it returns false'. Refute it at one input. -/
def fnExactReplaceCachesWrong : ChangeSpec := { name := "fnExactReplaceCaches", fn := fun _ => fun
  | [d1, d2, d3] => { results := [.lit (.bool false)], args := [d1, d2, d3] }
  | _ => none }
def FnExactReplaceCachesWrongFalsely : Prop := fnExactReplaceCachesRow.holds Tryz.pinned (OpenSpec.ofChange fnExactReplaceCachesWrong)

/- THE SECOND FORM. 'bulk': how many values and letters a reading holds, each counted each time it is reached (what is shared counts as often as it is met; a slice's spare places count too). A statement '..UptoSaid' is the law's where the arguments, and the package variables that the reading takes, are together of bulk at most 1048576: NARROWER than '..Said'. Prove '..Said' where nothing that the law and all that it calls make is longer than what came in: it says more and counts as full. Else prove '..UptoSaid'. A law counts once. -/
mutual
def uptoBulk {H : Type} : DataW H → Nat
  | .lit (.string bytes) => bytes.length + 1
  | .lit _ => 1
  | .nil => 1
  | .ptr d => uptoBulk d + 1
  | .slice elems spare => uptoBulkAll elems + uptoBulkAll spare + 1
  | .agg parts => uptoBulkAll parts + 1
  | .iface _ d => uptoBulk d + 1
  | .map entries => uptoBulkEntries entries + 1
  | .held _ => 1
def uptoBulkAll {H : Type} : List (DataW H) → Nat
  | [] => 0
  | d :: r => uptoBulk d + uptoBulkAll r
def uptoBulkEntries {H : Type} : List (Lit × DataW H) → Nat
  | [] => 0
  | x :: r => uptoBulkEntry x + uptoBulkEntries r
def uptoBulkEntry {H : Type} : Lit × DataW H → Nat
  | (.string bytes, d) => bytes.length + uptoBulk d + 1
  | (_, d) => uptoBulk d + 1
 end
def uptoSmall : (H : Type) → List (DataW H) → Bool := fun _ ds => decide (uptoBulkAll ds ≤ 1048576)
def OpenSpec.upto (s : _root_.Go.ChangeSpec) : _root_.Go.OpenSpec := { _root_.Go.OpenSpec.ofChange s with cond := some uptoSmall }

/-- 'laws.FnExactReplaceDisk', WHERE WHAT IT READS IS OF BULK AT MOST 1048576: true; the input reads as it did. -/
def fnExactReplaceDiskUptoRow : OpenClaim := { program := "ytmpbibngijnfeaagreat", sum := "c3359df7f2e71fd4ed206a85cd983e8e6c0014c53fa188d3a3f0ff9da5381943", func := "loop.example/g00583/laws.FnExactReplaceDisk", spec := "fnExactReplaceDisk", inPlace := ["internal/bytealg.abigen_runtime_cmpstring", "slices.overlaps[loop.example/g00583/impl.Item]"], unfollowed := true, recurses := true, apart := false, narrowed := true }
def FnExactReplaceDiskUptoSaid : Prop := fnExactReplaceDiskUptoRow.holds Tryz.pinned (OpenSpec.upto fnExactReplaceDiskSpec)

/-- 'laws.FnExactReplaceReplica', WHERE WHAT IT READS IS OF BULK AT MOST 1048576: true; the input reads as it did. -/
def fnExactReplaceReplicaUptoRow : OpenClaim := { program := "ytmpbibngijnfeaagreat", sum := "c3359df7f2e71fd4ed206a85cd983e8e6c0014c53fa188d3a3f0ff9da5381943", func := "loop.example/g00583/laws.FnExactReplaceReplica", spec := "fnExactReplaceReplica", inPlace := ["internal/bytealg.abigen_runtime_cmpstring", "slices.overlaps[loop.example/g00583/impl.Item]"], unfollowed := true, recurses := true, apart := false, narrowed := true }
def FnExactReplaceReplicaUptoSaid : Prop := fnExactReplaceReplicaUptoRow.holds Tryz.pinned (OpenSpec.upto fnExactReplaceReplicaSpec)

/-- 'laws.FnExactReplaceCaches', WHERE WHAT IT READS IS OF BULK AT MOST 1048576: true; the input reads as it did. -/
def fnExactReplaceCachesUptoRow : OpenClaim := { program := "ytmpbibngijnfeaagreat", sum := "c3359df7f2e71fd4ed206a85cd983e8e6c0014c53fa188d3a3f0ff9da5381943", func := "loop.example/g00583/laws.FnExactReplaceCaches", spec := "fnExactReplaceCaches", inPlace := ["internal/bytealg.abigen_runtime_cmpstring", "slices.overlaps[loop.example/g00583/impl.Item]"], unfollowed := true, recurses := true, apart := false, narrowed := true }
def FnExactReplaceCachesUptoSaid : Prop := fnExactReplaceCachesUptoRow.holds Tryz.pinned (OpenSpec.upto fnExactReplaceCachesSpec)

end Rows
end Go.Proofs.YtmpbibngijnfeaaGreat
