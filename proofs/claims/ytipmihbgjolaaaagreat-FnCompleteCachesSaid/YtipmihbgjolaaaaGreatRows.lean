/-
  No cell of these rows narrows 'for every input' (looked for: loops, veiled, ifaces, maps, wideKeys, modest, calm, conditions, laid).
  DERIVED. THE GIVEN ROWS OF THIS SEAT. 4 by the template 'for every input the law returns true; each argument reads behind the call as it read before'; 0 by the template 'total and deterministic' (their statements: YtipmihbgjolaaaaGreatTotals.lean).
  GIVEN WITH THE SEED: the statements are not yours to turn. If you find one false, say at which input.
  Laid BY PROGRAM, IN A SANDBOX (cutbox-rows.mjs): the forced cells as the released guide's own fill.sh prints them over the translation 815e69629762e96b… (all of the seat's roots in one cut). By AI agents, Wed Nov 11 2026. No macro, syntax, notation, axiom, sorry.
-/
import Derived.Test.YtipmihbgjolaaaaGreatChecked
import GoSem.Claim
import GoSem.ClaimJoined
import GoSem.ClaimMapViews
import Derived.JoinedTies
import Derived.KernelRfl
namespace Go.Proofs.YtipmihbgjolaaaaGreat
/- THE CELL 'sum', in the pinned program and in every row, IS THE sha256 OF THE DUMP (.gsa) THAT YtipmihbgjolaaaaGreatProg.lean LOADS. Nothing in Lean hashes anything: it is a label: what it is worth is what the hold of that sum in a sandbox is worth. -/
noncomputable def Tryz.pinned : Pinned := { name := "ytipmihbgjolaaaagreat", sum := "815e69629762e96ba09812d8333e50ad444af60c50c7be316d5f13ea43cb9ed3", checked := Tryz.checked }
namespace Rows
def none {H : Type} : Left H := { results := [], args := [] }

/-- 'laws.FnStorage': WHATEVER THE INPUT: true; the input reads as it did. -/
def fnStorageSpec : ChangeSpec := { name := "fnStorage", fn := fun _ => fun
  | [d] => { results := [.lit (.bool true)], args := [d] }
  | _ => none }
def fnStorageRow : OpenClaim := { program := "ytipmihbgjolaaaagreat", sum := "815e69629762e96ba09812d8333e50ad444af60c50c7be316d5f13ea43cb9ed3", func := "loop.example/g00583/laws.FnStorage", spec := "fnStorage", inPlace := ["slices.overlaps[loop.example/g00583/impl.Bucket]", "internal/bytealg.abigen_runtime_cmpstring", "slices.overlaps[loop.example/g00583/impl.Item]"], unfollowed := true, recurses := true, apart := false }
def FnStorageSaid : Prop := fnStorageRow.holds Tryz.pinned (OpenSpec.ofChange fnStorageSpec)

/-- ITS FALSE NEIGHBOUR: 'it returns false'. Refute it at one input. -/
def fnStorageWrong : ChangeSpec := { name := "fnStorage", fn := fun _ => fun
  | [d] => { results := [.lit (.bool false)], args := [d] }
  | _ => none }
def FnStorageWrongFalsely : Prop := fnStorageRow.holds Tryz.pinned (OpenSpec.ofChange fnStorageWrong)

/-- 'laws.FnWorlds': WHATEVER THE INPUT: true; the input reads as it did. -/
def fnWorldsSpec : ChangeSpec := { name := "fnWorlds", fn := fun _ => fun
  | [d] => { results := [.lit (.bool true)], args := [d] }
  | _ => none }
def fnWorldsRow : OpenClaim := { program := "ytipmihbgjolaaaagreat", sum := "815e69629762e96ba09812d8333e50ad444af60c50c7be316d5f13ea43cb9ed3", func := "loop.example/g00583/laws.FnWorlds", spec := "fnWorlds", inPlace := ["internal/bytealg.abigen_runtime_cmpstring", "slices.overlaps[loop.example/g00583/impl.Item]"], unfollowed := true, recurses := true, apart := false }
def FnWorldsSaid : Prop := fnWorldsRow.holds Tryz.pinned (OpenSpec.ofChange fnWorldsSpec)

/-- ITS FALSE NEIGHBOUR: 'it returns false'. Refute it at one input. -/
def fnWorldsWrong : ChangeSpec := { name := "fnWorlds", fn := fun _ => fun
  | [d] => { results := [.lit (.bool false)], args := [d] }
  | _ => none }
def FnWorldsWrongFalsely : Prop := fnWorldsRow.holds Tryz.pinned (OpenSpec.ofChange fnWorldsWrong)

/-- 'laws.FnLoadedFiles': WHATEVER THE INPUT: true; the input reads as it did. -/
def fnLoadedFilesSpec : ChangeSpec := { name := "fnLoadedFiles", fn := fun _ => fun
  | [d] => { results := [.lit (.bool true)], args := [d] }
  | _ => none }
def fnLoadedFilesRow : OpenClaim := { program := "ytipmihbgjolaaaagreat", sum := "815e69629762e96ba09812d8333e50ad444af60c50c7be316d5f13ea43cb9ed3", func := "loop.example/g00583/laws.FnLoadedFiles", spec := "fnLoadedFiles", inPlace := ["internal/bytealg.abigen_runtime_cmpstring", "slices.overlaps[loop.example/g00583/impl.Item]"], unfollowed := true, recurses := true, apart := false }
def FnLoadedFilesSaid : Prop := fnLoadedFilesRow.holds Tryz.pinned (OpenSpec.ofChange fnLoadedFilesSpec)

/-- ITS FALSE NEIGHBOUR: 'it returns false'. Refute it at one input. -/
def fnLoadedFilesWrong : ChangeSpec := { name := "fnLoadedFiles", fn := fun _ => fun
  | [d] => { results := [.lit (.bool false)], args := [d] }
  | _ => none }
def FnLoadedFilesWrongFalsely : Prop := fnLoadedFilesRow.holds Tryz.pinned (OpenSpec.ofChange fnLoadedFilesWrong)

/-- 'laws.FnCompleteCaches': WHATEVER THE INPUT: true; the input reads as it did. -/
def fnCompleteCachesSpec : ChangeSpec := { name := "fnCompleteCaches", fn := fun _ => fun
  | [d] => { results := [.lit (.bool true)], args := [d] }
  | _ => none }
def fnCompleteCachesRow : OpenClaim := { program := "ytipmihbgjolaaaagreat", sum := "815e69629762e96ba09812d8333e50ad444af60c50c7be316d5f13ea43cb9ed3", func := "loop.example/g00583/laws.FnCompleteCaches", spec := "fnCompleteCaches", inPlace := ["internal/bytealg.abigen_runtime_cmpstring", "slices.overlaps[loop.example/g00583/impl.Item]"], unfollowed := true, recurses := true, apart := false }
def FnCompleteCachesSaid : Prop := fnCompleteCachesRow.holds Tryz.pinned (OpenSpec.ofChange fnCompleteCachesSpec)

/-- ITS FALSE NEIGHBOUR: 'it returns false'. Refute it at one input. -/
def fnCompleteCachesWrong : ChangeSpec := { name := "fnCompleteCaches", fn := fun _ => fun
  | [d] => { results := [.lit (.bool false)], args := [d] }
  | _ => none }
def FnCompleteCachesWrongFalsely : Prop := fnCompleteCachesRow.holds Tryz.pinned (OpenSpec.ofChange fnCompleteCachesWrong)

/- THE SECOND FORM. 'bulk': how many values and letters a reading holds, each counted each time it is reached (what is shared counts as often as it is met; a slice's spare places count too). A statement '..UptoSaid' is the law's where the arguments, and the package variables that the reading takes, are together of bulk at most 1048576: NARROWER than '..Said'. Prove '..Said' where nothing that the law and all that it calls make is longer than what came in: it says more and counts as full. Else prove '..UptoSaid'. A law counts once. -/
mutual
def uptoBulk {H : Type} : DataW H → Nat
  | .lit (.string bytes) => bytes.length + 1
  | .lit _ => 1
  | .nil => 1
  | .ptr d => uptoBulk d + 1
  | .slice elems spare => uptoBulkAll elems + uptoBulkAll spare + 1
  | .agg parts => uptoBulkAll parts + 1
  | .iface _ d => uptoBulk d + 1
  | .map entries => uptoBulkEntries entries + 1
  | .held _ => 1
def uptoBulkAll {H : Type} : List (DataW H) → Nat
  | [] => 0
  | d :: r => uptoBulk d + uptoBulkAll r
def uptoBulkEntries {H : Type} : List (Lit × DataW H) → Nat
  | [] => 0
  | x :: r => uptoBulkEntry x + uptoBulkEntries r
def uptoBulkEntry {H : Type} : Lit × DataW H → Nat
  | (.string bytes, d) => bytes.length + uptoBulk d + 1
  | (_, d) => uptoBulk d + 1
 end
def uptoSmall : (H : Type) → List (DataW H) → Bool := fun _ ds => decide (uptoBulkAll ds ≤ 1048576)
def OpenSpec.upto (s : _root_.Go.ChangeSpec) : _root_.Go.OpenSpec := { _root_.Go.OpenSpec.ofChange s with cond := some uptoSmall }

/-- 'laws.FnStorage', WHERE WHAT IT READS IS OF BULK AT MOST 1048576: true; the input reads as it did. -/
def fnStorageUptoRow : OpenClaim := { program := "ytipmihbgjolaaaagreat", sum := "815e69629762e96ba09812d8333e50ad444af60c50c7be316d5f13ea43cb9ed3", func := "loop.example/g00583/laws.FnStorage", spec := "fnStorage", inPlace := ["slices.overlaps[loop.example/g00583/impl.Bucket]", "internal/bytealg.abigen_runtime_cmpstring", "slices.overlaps[loop.example/g00583/impl.Item]"], unfollowed := true, recurses := true, apart := false, narrowed := true }
def FnStorageUptoSaid : Prop := fnStorageUptoRow.holds Tryz.pinned (OpenSpec.upto fnStorageSpec)

/-- 'laws.FnWorlds', WHERE WHAT IT READS IS OF BULK AT MOST 1048576: true; the input reads as it did. -/
def fnWorldsUptoRow : OpenClaim := { program := "ytipmihbgjolaaaagreat", sum := "815e69629762e96ba09812d8333e50ad444af60c50c7be316d5f13ea43cb9ed3", func := "loop.example/g00583/laws.FnWorlds", spec := "fnWorlds", inPlace := ["internal/bytealg.abigen_runtime_cmpstring", "slices.overlaps[loop.example/g00583/impl.Item]"], unfollowed := true, recurses := true, apart := false, narrowed := true }
def FnWorldsUptoSaid : Prop := fnWorldsUptoRow.holds Tryz.pinned (OpenSpec.upto fnWorldsSpec)

/-- 'laws.FnLoadedFiles', WHERE WHAT IT READS IS OF BULK AT MOST 1048576: true; the input reads as it did. -/
def fnLoadedFilesUptoRow : OpenClaim := { program := "ytipmihbgjolaaaagreat", sum := "815e69629762e96ba09812d8333e50ad444af60c50c7be316d5f13ea43cb9ed3", func := "loop.example/g00583/laws.FnLoadedFiles", spec := "fnLoadedFiles", inPlace := ["internal/bytealg.abigen_runtime_cmpstring", "slices.overlaps[loop.example/g00583/impl.Item]"], unfollowed := true, recurses := true, apart := false, narrowed := true }
def FnLoadedFilesUptoSaid : Prop := fnLoadedFilesUptoRow.holds Tryz.pinned (OpenSpec.upto fnLoadedFilesSpec)

/-- 'laws.FnCompleteCaches', WHERE WHAT IT READS IS OF BULK AT MOST 1048576: true; the input reads as it did. -/
def fnCompleteCachesUptoRow : OpenClaim := { program := "ytipmihbgjolaaaagreat", sum := "815e69629762e96ba09812d8333e50ad444af60c50c7be316d5f13ea43cb9ed3", func := "loop.example/g00583/laws.FnCompleteCaches", spec := "fnCompleteCaches", inPlace := ["internal/bytealg.abigen_runtime_cmpstring", "slices.overlaps[loop.example/g00583/impl.Item]"], unfollowed := true, recurses := true, apart := false, narrowed := true }
def FnCompleteCachesUptoSaid : Prop := fnCompleteCachesUptoRow.holds Tryz.pinned (OpenSpec.upto fnCompleteCachesSpec)

end Rows
end Go.Proofs.YtipmihbgjolaaaaGreat
