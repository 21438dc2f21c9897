/-
  No cell of these rows narrows 'for every input' (looked for: loops, veiled, ifaces, maps, wideKeys, modest, calm, conditions, laid).
  DERIVED. THE GIVEN ROWS OF THIS SEAT. 3 by the template 'for every input the law returns true; each argument reads behind the call as it read before'; 0 by the template 'total and deterministic' (their statements: YtkplkdhaclhgaaaGreatTotals.lean).
  GIVEN WITH THE SEED: the statements are not yours to turn. If you find one false, say at which input.
  Laid BY PROGRAM, IN A SANDBOX (cutbox-rows.mjs): the forced cells as the released guide's own fill.sh prints them over the translation 4ff2cdb62d1e33f4… (all of the seat's roots in one cut). By AI agents, Wed Nov 11 2026. No macro, syntax, notation, axiom, sorry.
-/
import Derived.Test.YtkplkdhaclhgaaaGreatChecked
import GoSem.Claim
import GoSem.ClaimJoined
import GoSem.ClaimMapViews
import Derived.JoinedTies
import Derived.KernelRfl
namespace Go.Proofs.YtkplkdhaclhgaaaGreat
/- THE CELL 'sum', in the pinned program and in every row, IS THE sha256 OF THE DUMP (.gsa) THAT YtkplkdhaclhgaaaGreatProg.lean LOADS. Nothing in Lean hashes anything: it is a label: what it is worth is what the hold of that sum in a sandbox is worth. -/
noncomputable def Tryz.pinned : Pinned := { name := "ytkplkdhaclhgaaagreat", sum := "4ff2cdb62d1e33f42fdef0e86885042f190e8b00844a60288522eaafa20a9450", checked := Tryz.checked }
namespace Rows
def none {H : Type} : Left H := { results := [], args := [] }

/-- 'laws.FnExactNewBucket': WHATEVER THE INPUT: true; the input reads as it did. -/
def fnExactNewBucketSpec : ChangeSpec := { name := "fnExactNewBucket", fn := fun _ => fun
  | [d1, d2, d3] => { results := [.lit (.bool true)], args := [d1, d2, d3] }
  | _ => none }
def fnExactNewBucketRow : OpenClaim := { program := "ytkplkdhaclhgaaagreat", sum := "4ff2cdb62d1e33f42fdef0e86885042f190e8b00844a60288522eaafa20a9450", func := "loop.example/g00583/laws.FnExactNewBucket", spec := "fnExactNewBucket", inPlace := ["internal/bytealg.abigen_runtime_cmpstring", "slices.overlaps[loop.example/g00583/impl.Item]"], unfollowed := true, recurses := true, apart := false }
def FnExactNewBucketSaid : Prop := fnExactNewBucketRow.holds Tryz.pinned (OpenSpec.ofChange fnExactNewBucketSpec)

/-- ITS FALSE NEIGHBOUR: 'it returns false'. Refute it at one input. -/
def fnExactNewBucketWrong : ChangeSpec := { name := "fnExactNewBucket", fn := fun _ => fun
  | [d1, d2, d3] => { results := [.lit (.bool false)], args := [d1, d2, d3] }
  | _ => none }
def FnExactNewBucketWrongFalsely : Prop := fnExactNewBucketRow.holds Tryz.pinned (OpenSpec.ofChange fnExactNewBucketWrong)

/-- 'laws.FnExactIsBucket': WHATEVER THE INPUT: true; the input reads as it did. -/
def fnExactIsBucketSpec : ChangeSpec := { name := "fnExactIsBucket", fn := fun _ => fun
  | [d] => { results := [.lit (.bool true)], args := [d] }
  | _ => none }
def fnExactIsBucketRow : OpenClaim := { program := "ytkplkdhaclhgaaagreat", sum := "4ff2cdb62d1e33f42fdef0e86885042f190e8b00844a60288522eaafa20a9450", func := "loop.example/g00583/laws.FnExactIsBucket", spec := "fnExactIsBucket", inPlace := ["internal/bytealg.abigen_runtime_cmpstring", "slices.overlaps[loop.example/g00583/impl.Item]"], unfollowed := true, recurses := true, apart := false }
def FnExactIsBucketSaid : Prop := fnExactIsBucketRow.holds Tryz.pinned (OpenSpec.ofChange fnExactIsBucketSpec)

/-- ITS FALSE NEIGHBOUR: 'it returns false'. Refute it at one input. -/
def fnExactIsBucketWrong : ChangeSpec := { name := "fnExactIsBucket", fn := fun _ => fun
  | [d] => { results := [.lit (.bool false)], args := [d] }
  | _ => none }
def FnExactIsBucketWrongFalsely : Prop := fnExactIsBucketRow.holds Tryz.pinned (OpenSpec.ofChange fnExactIsBucketWrong)

/-- 'laws.FnExactIsStorage': WHATEVER THE INPUT: true; the input reads as it did. -/
def fnExactIsStorageSpec : ChangeSpec := { name := "fnExactIsStorage", fn := fun _ => fun
  | [d] => { results := [.lit (.bool true)], args := [d] }
  | _ => none }
def fnExactIsStorageRow : OpenClaim := { program := "ytkplkdhaclhgaaagreat", sum := "4ff2cdb62d1e33f42fdef0e86885042f190e8b00844a60288522eaafa20a9450", func := "loop.example/g00583/laws.FnExactIsStorage", spec := "fnExactIsStorage", inPlace := ["internal/bytealg.abigen_runtime_cmpstring", "slices.overlaps[loop.example/g00583/impl.Item]"], unfollowed := true, recurses := true, apart := false }
def FnExactIsStorageSaid : Prop := fnExactIsStorageRow.holds Tryz.pinned (OpenSpec.ofChange fnExactIsStorageSpec)

/-- ITS FALSE NEIGHBOUR: 'it returns false'. Refute it at one input. -/
def fnExactIsStorageWrong : ChangeSpec := { name := "fnExactIsStorage", fn := fun _ => fun
  | [d] => { results := [.lit (.bool false)], args := [d] }
  | _ => none }
def FnExactIsStorageWrongFalsely : Prop := fnExactIsStorageRow.holds Tryz.pinned (OpenSpec.ofChange fnExactIsStorageWrong)

/- THE SECOND FORM. 'bulk': how many values and letters a reading holds, each counted each time it is reached (what is shared counts as often as it is met; a slice's spare places count too). A statement '..UptoSaid' is the law's where the arguments, and the package variables that the reading takes, are together of bulk at most 1048576: NARROWER than '..Said'. Prove '..Said' where nothing that the law and all that it calls make is longer than what came in: it says more and counts as full. Else prove '..UptoSaid'. A law counts once. -/
mutual
def uptoBulk {H : Type} : DataW H → Nat
  | .lit (.string bytes) => bytes.length + 1
  | .lit _ => 1
  | .nil => 1
  | .ptr d => uptoBulk d + 1
  | .slice elems spare => uptoBulkAll elems + uptoBulkAll spare + 1
  | .agg parts => uptoBulkAll parts + 1
  | .iface _ d => uptoBulk d + 1
  | .map entries => uptoBulkEntries entries + 1
  | .held _ => 1
def uptoBulkAll {H : Type} : List (DataW H) → Nat
  | [] => 0
  | d :: r => uptoBulk d + uptoBulkAll r
def uptoBulkEntries {H : Type} : List (Lit × DataW H) → Nat
  | [] => 0
  | x :: r => uptoBulkEntry x + uptoBulkEntries r
def uptoBulkEntry {H : Type} : Lit × DataW H → Nat
  | (.string bytes, d) => bytes.length + uptoBulk d + 1
  | (_, d) => uptoBulk d + 1
 end
def uptoSmall : (H : Type) → List (DataW H) → Bool := fun _ ds => decide (uptoBulkAll ds ≤ 1048576)
def OpenSpec.upto (s : _root_.Go.ChangeSpec) : _root_.Go.OpenSpec := { _root_.Go.OpenSpec.ofChange s with cond := some uptoSmall }

/-- 'laws.FnExactNewBucket', WHERE WHAT IT READS IS OF BULK AT MOST 1048576: true; the input reads as it did. -/
def fnExactNewBucketUptoRow : OpenClaim := { program := "ytkplkdhaclhgaaagreat", sum := "4ff2cdb62d1e33f42fdef0e86885042f190e8b00844a60288522eaafa20a9450", func := "loop.example/g00583/laws.FnExactNewBucket", spec := "fnExactNewBucket", inPlace := ["internal/bytealg.abigen_runtime_cmpstring", "slices.overlaps[loop.example/g00583/impl.Item]"], unfollowed := true, recurses := true, apart := false, narrowed := true }
def FnExactNewBucketUptoSaid : Prop := fnExactNewBucketUptoRow.holds Tryz.pinned (OpenSpec.upto fnExactNewBucketSpec)

/-- 'laws.FnExactIsBucket', WHERE WHAT IT READS IS OF BULK AT MOST 1048576: true; the input reads as it did. -/
def fnExactIsBucketUptoRow : OpenClaim := { program := "ytkplkdhaclhgaaagreat", sum := "4ff2cdb62d1e33f42fdef0e86885042f190e8b00844a60288522eaafa20a9450", func := "loop.example/g00583/laws.FnExactIsBucket", spec := "fnExactIsBucket", inPlace := ["internal/bytealg.abigen_runtime_cmpstring", "slices.overlaps[loop.example/g00583/impl.Item]"], unfollowed := true, recurses := true, apart := false, narrowed := true }
def FnExactIsBucketUptoSaid : Prop := fnExactIsBucketUptoRow.holds Tryz.pinned (OpenSpec.upto fnExactIsBucketSpec)

/-- 'laws.FnExactIsStorage', WHERE WHAT IT READS IS OF BULK AT MOST 1048576: true; the input reads as it did. -/
def fnExactIsStorageUptoRow : OpenClaim := { program := "ytkplkdhaclhgaaagreat", sum := "4ff2cdb62d1e33f42fdef0e86885042f190e8b00844a60288522eaafa20a9450", func := "loop.example/g00583/laws.FnExactIsStorage", spec := "fnExactIsStorage", inPlace := ["internal/bytealg.abigen_runtime_cmpstring", "slices.overlaps[loop.example/g00583/impl.Item]"], unfollowed := true, recurses := true, apart := false, narrowed := true }
def FnExactIsStorageUptoSaid : Prop := fnExactIsStorageUptoRow.holds Tryz.pinned (OpenSpec.upto fnExactIsStorageSpec)

end Rows
end Go.Proofs.YtkplkdhaclhgaaaGreat
