/-
  No cell of these rows narrows 'for every input' (looked for: loops, veiled, ifaces, maps, wideKeys, modest, calm, conditions, laid).
  DERIVED. THE GIVEN ROWS OF THIS SEAT. 7 by the template 'for every input the law returns true; each argument reads behind the call as it read before'; 0 by the template 'total and deterministic' (their statements: YtimblbmbfdopgaaGreatTotals.lean).
  GIVEN WITH THE SEED: the statements are not yours to turn. If you find one false, say at which input.
  Laid BY PROGRAM, IN A SANDBOX (cutbox-rows.mjs): the forced cells as the released guide's own fill.sh prints them over the translation 8d6173ab9285366a… (all of the seat's roots in one cut). By AI agents, Wed Nov 11 2026. No macro, syntax, notation, axiom, sorry.
-/
import Derived.Test.YtimblbmbfdopgaaGreatChecked
import GoSem.Claim
import GoSem.ClaimJoined
import GoSem.ClaimMapViews
import Derived.JoinedTies
import Derived.KernelRfl
namespace Go.Proofs.YtimblbmbfdopgaaGreat
/- THE CELL 'sum', in the pinned program and in every row, IS THE sha256 OF THE DUMP (.gsa) THAT YtimblbmbfdopgaaGreatProg.lean LOADS. Nothing in Lean hashes anything: it is a label: what it is worth is what the hold of that sum in a sandbox is worth. -/
noncomputable def Tryz.pinned : Pinned := { name := "ytimblbmbfdopgaagreat", sum := "8d6173ab9285366a121ae2fbdcddfab64a91ded80a93cad6082e3722e0ad2fd3", checked := Tryz.checked }
namespace Rows
def none {H : Type} : Left H := { results := [], args := [] }

/-- 'laws.FnExactWriteNote': WHATEVER THE INPUT: true; the input reads as it did. -/
def fnExactWriteNoteSpec : ChangeSpec := { name := "fnExactWriteNote", fn := fun _ => fun
  | [d1, d2, d3, d4, d5] => { results := [.lit (.bool true)], args := [d1, d2, d3, d4, d5] }
  | _ => none }
def fnExactWriteNoteRow : OpenClaim := { program := "ytimblbmbfdopgaagreat", sum := "8d6173ab9285366a121ae2fbdcddfab64a91ded80a93cad6082e3722e0ad2fd3", func := "loop.example/g00583/laws.FnExactWriteNote", spec := "fnExactWriteNote", inPlace := ["internal/bytealg.abigen_runtime_cmpstring", "slices.overlaps[loop.example/g00583/impl.Item]", "slices.overlaps[loop.example/g00583/impl.Field]", "slices.overlaps[loop.example/g00583/impl.Bucket]"], unfollowed := true, recurses := true, apart := false }
def FnExactWriteNoteSaid : Prop := fnExactWriteNoteRow.holds Tryz.pinned (OpenSpec.ofChange fnExactWriteNoteSpec)

/-- ITS FALSE NEIGHBOUR: 'it returns false'. Refute it at one input. -/
def fnExactWriteNoteWrong : ChangeSpec := { name := "fnExactWriteNote", fn := fun _ => fun
  | [d1, d2, d3, d4, d5] => { results := [.lit (.bool false)], args := [d1, d2, d3, d4, d5] }
  | _ => none }
def FnExactWriteNoteWrongFalsely : Prop := fnExactWriteNoteRow.holds Tryz.pinned (OpenSpec.ofChange fnExactWriteNoteWrong)

/-- 'laws.FnBuckets': WHATEVER THE INPUT: true; the input reads as it did. -/
def fnBucketsSpec : ChangeSpec := { name := "fnBuckets", fn := fun _ => fun
  | [d] => { results := [.lit (.bool true)], args := [d] }
  | _ => none }
def fnBucketsRow : OpenClaim := { program := "ytimblbmbfdopgaagreat", sum := "8d6173ab9285366a121ae2fbdcddfab64a91ded80a93cad6082e3722e0ad2fd3", func := "loop.example/g00583/laws.FnBuckets", spec := "fnBuckets", inPlace := ["internal/bytealg.abigen_runtime_cmpstring", "slices.overlaps[loop.example/g00583/impl.Item]"], unfollowed := true, recurses := true, apart := false }
def FnBucketsSaid : Prop := fnBucketsRow.holds Tryz.pinned (OpenSpec.ofChange fnBucketsSpec)

/-- ITS FALSE NEIGHBOUR: 'it returns false'. Refute it at one input. -/
def fnBucketsWrong : ChangeSpec := { name := "fnBuckets", fn := fun _ => fun
  | [d] => { results := [.lit (.bool false)], args := [d] }
  | _ => none }
def FnBucketsWrongFalsely : Prop := fnBucketsRow.holds Tryz.pinned (OpenSpec.ofChange fnBucketsWrong)

/-- 'laws.FnStorage': WHATEVER THE INPUT: true; the input reads as it did. -/
def fnStorageSpec : ChangeSpec := { name := "fnStorage", fn := fun _ => fun
  | [d] => { results := [.lit (.bool true)], args := [d] }
  | _ => none }
def fnStorageRow : OpenClaim := { program := "ytimblbmbfdopgaagreat", sum := "8d6173ab9285366a121ae2fbdcddfab64a91ded80a93cad6082e3722e0ad2fd3", func := "loop.example/g00583/laws.FnStorage", spec := "fnStorage", inPlace := ["slices.overlaps[loop.example/g00583/impl.Bucket]", "internal/bytealg.abigen_runtime_cmpstring", "slices.overlaps[loop.example/g00583/impl.Item]"], unfollowed := true, recurses := true, apart := false }
def FnStorageSaid : Prop := fnStorageRow.holds Tryz.pinned (OpenSpec.ofChange fnStorageSpec)

/-- ITS FALSE NEIGHBOUR: 'it returns false'. Refute it at one input. -/
def fnStorageWrong : ChangeSpec := { name := "fnStorage", fn := fun _ => fun
  | [d] => { results := [.lit (.bool false)], args := [d] }
  | _ => none }
def FnStorageWrongFalsely : Prop := fnStorageRow.holds Tryz.pinned (OpenSpec.ofChange fnStorageWrong)

/-- 'laws.FnWorlds': WHATEVER THE INPUT: true; the input reads as it did. -/
def fnWorldsSpec : ChangeSpec := { name := "fnWorlds", fn := fun _ => fun
  | [d] => { results := [.lit (.bool true)], args := [d] }
  | _ => none }
def fnWorldsRow : OpenClaim := { program := "ytimblbmbfdopgaagreat", sum := "8d6173ab9285366a121ae2fbdcddfab64a91ded80a93cad6082e3722e0ad2fd3", func := "loop.example/g00583/laws.FnWorlds", spec := "fnWorlds", inPlace := ["internal/bytealg.abigen_runtime_cmpstring", "slices.overlaps[loop.example/g00583/impl.Item]"], unfollowed := true, recurses := true, apart := false }
def FnWorldsSaid : Prop := fnWorldsRow.holds Tryz.pinned (OpenSpec.ofChange fnWorldsSpec)

/-- ITS FALSE NEIGHBOUR: 'it returns false'. Refute it at one input. -/
def fnWorldsWrong : ChangeSpec := { name := "fnWorlds", fn := fun _ => fun
  | [d] => { results := [.lit (.bool false)], args := [d] }
  | _ => none }
def FnWorldsWrongFalsely : Prop := fnWorldsRow.holds Tryz.pinned (OpenSpec.ofChange fnWorldsWrong)

/-- 'laws.FnExactReadNote': WHATEVER THE INPUT: true; the input reads as it did. -/
def fnExactReadNoteSpec : ChangeSpec := { name := "fnExactReadNote", fn := fun _ => fun
  | [d1, d2, d3, d4] => { results := [.lit (.bool true)], args := [d1, d2, d3, d4] }
  | _ => none }
def fnExactReadNoteRow : OpenClaim := { program := "ytimblbmbfdopgaagreat", sum := "8d6173ab9285366a121ae2fbdcddfab64a91ded80a93cad6082e3722e0ad2fd3", func := "loop.example/g00583/laws.FnExactReadNote", spec := "fnExactReadNote", inPlace := ["internal/bytealg.abigen_runtime_cmpstring", "slices.overlaps[loop.example/g00583/impl.Item]", "slices.overlaps[loop.example/g00583/impl.Field]"], unfollowed := true, recurses := true, apart := false }
def FnExactReadNoteSaid : Prop := fnExactReadNoteRow.holds Tryz.pinned (OpenSpec.ofChange fnExactReadNoteSpec)

/-- ITS FALSE NEIGHBOUR: 'it returns false'. Refute it at one input. -/
def fnExactReadNoteWrong : ChangeSpec := { name := "fnExactReadNote", fn := fun _ => fun
  | [d1, d2, d3, d4] => { results := [.lit (.bool false)], args := [d1, d2, d3, d4] }
  | _ => none }
def FnExactReadNoteWrongFalsely : Prop := fnExactReadNoteRow.holds Tryz.pinned (OpenSpec.ofChange fnExactReadNoteWrong)

/-- 'laws.FnExactUpdateWorker': WHATEVER THE INPUT: true; the input reads as it did. -/
def fnExactUpdateWorkerSpec : ChangeSpec := { name := "fnExactUpdateWorker", fn := fun _ => fun
  | [d1, d2, d3] => { results := [.lit (.bool true)], args := [d1, d2, d3] }
  | _ => none }
def fnExactUpdateWorkerRow : OpenClaim := { program := "ytimblbmbfdopgaagreat", sum := "8d6173ab9285366a121ae2fbdcddfab64a91ded80a93cad6082e3722e0ad2fd3", func := "loop.example/g00583/laws.FnExactUpdateWorker", spec := "fnExactUpdateWorker", inPlace := ["internal/bytealg.abigen_runtime_cmpstring", "slices.overlaps[loop.example/g00583/impl.Item]", "slices.overlaps[loop.example/g00583/impl.Cache]", "slices.overlaps[loop.example/g00583/impl.Bucket]"], unfollowed := true, recurses := true, apart := false }
def FnExactUpdateWorkerSaid : Prop := fnExactUpdateWorkerRow.holds Tryz.pinned (OpenSpec.ofChange fnExactUpdateWorkerSpec)

/-- ITS FALSE NEIGHBOUR: 'it returns false'. Refute it at one input. -/
def fnExactUpdateWorkerWrong : ChangeSpec := { name := "fnExactUpdateWorker", fn := fun _ => fun
  | [d1, d2, d3] => { results := [.lit (.bool false)], args := [d1, d2, d3] }
  | _ => none }
def FnExactUpdateWorkerWrongFalsely : Prop := fnExactUpdateWorkerRow.holds Tryz.pinned (OpenSpec.ofChange fnExactUpdateWorkerWrong)

/-- 'laws.FnExactOpenPage': WHATEVER THE INPUT: true; the input reads as it did. -/
def fnExactOpenPageSpec : ChangeSpec := { name := "fnExactOpenPage", fn := fun _ => fun
  | [d1, d2, d3, d4] => { results := [.lit (.bool true)], args := [d1, d2, d3, d4] }
  | _ => none }
def fnExactOpenPageRow : OpenClaim := { program := "ytimblbmbfdopgaagreat", sum := "8d6173ab9285366a121ae2fbdcddfab64a91ded80a93cad6082e3722e0ad2fd3", func := "loop.example/g00583/laws.FnExactOpenPage", spec := "fnExactOpenPage", inPlace := ["internal/bytealg.abigen_runtime_cmpstring", "slices.overlaps[loop.example/g00583/impl.Item]", "slices.overlaps[loop.example/g00583/impl.Bucket]"], unfollowed := true, recurses := true, apart := false }
def FnExactOpenPageSaid : Prop := fnExactOpenPageRow.holds Tryz.pinned (OpenSpec.ofChange fnExactOpenPageSpec)

/-- ITS FALSE NEIGHBOUR: 'it returns false'. Refute it at one input. -/
def fnExactOpenPageWrong : ChangeSpec := { name := "fnExactOpenPage", fn := fun _ => fun
  | [d1, d2, d3, d4] => { results := [.lit (.bool false)], args := [d1, d2, d3, d4] }
  | _ => none }
def FnExactOpenPageWrongFalsely : Prop := fnExactOpenPageRow.holds Tryz.pinned (OpenSpec.ofChange fnExactOpenPageWrong)

/- THE SECOND FORM. 'bulk': how many values and letters a reading holds, each counted each time it is reached (what is shared counts as often as it is met; a slice's spare places count too). A statement '..UptoSaid' is the law's where the arguments, and the package variables that the reading takes, are together of bulk at most 1048576: NARROWER than '..Said'. Prove '..Said' where nothing that the law and all that it calls make is longer than what came in: it says more and counts as full. Else prove '..UptoSaid'. A law counts once. -/
mutual
def uptoBulk {H : Type} : DataW H → Nat
  | .lit (.string bytes) => bytes.length + 1
  | .lit _ => 1
  | .nil => 1
  | .ptr d => uptoBulk d + 1
  | .slice elems spare => uptoBulkAll elems + uptoBulkAll spare + 1
  | .agg parts => uptoBulkAll parts + 1
  | .iface _ d => uptoBulk d + 1
  | .map entries => uptoBulkEntries entries + 1
  | .held _ => 1
def uptoBulkAll {H : Type} : List (DataW H) → Nat
  | [] => 0
  | d :: r => uptoBulk d + uptoBulkAll r
def uptoBulkEntries {H : Type} : List (Lit × DataW H) → Nat
  | [] => 0
  | x :: r => uptoBulkEntry x + uptoBulkEntries r
def uptoBulkEntry {H : Type} : Lit × DataW H → Nat
  | (.string bytes, d) => bytes.length + uptoBulk d + 1
  | (_, d) => uptoBulk d + 1
 end
def uptoSmall : (H : Type) → List (DataW H) → Bool := fun _ ds => decide (uptoBulkAll ds ≤ 1048576)
def OpenSpec.upto (s : _root_.Go.ChangeSpec) : _root_.Go.OpenSpec := { _root_.Go.OpenSpec.ofChange s with cond := some uptoSmall }

/-- 'laws.FnExactWriteNote', WHERE WHAT IT READS IS OF BULK AT MOST 1048576: true; the input reads as it did. -/
def fnExactWriteNoteUptoRow : OpenClaim := { program := "ytimblbmbfdopgaagreat", sum := "8d6173ab9285366a121ae2fbdcddfab64a91ded80a93cad6082e3722e0ad2fd3", func := "loop.example/g00583/laws.FnExactWriteNote", spec := "fnExactWriteNote", inPlace := ["internal/bytealg.abigen_runtime_cmpstring", "slices.overlaps[loop.example/g00583/impl.Item]", "slices.overlaps[loop.example/g00583/impl.Field]", "slices.overlaps[loop.example/g00583/impl.Bucket]"], unfollowed := true, recurses := true, apart := false, narrowed := true }
def FnExactWriteNoteUptoSaid : Prop := fnExactWriteNoteUptoRow.holds Tryz.pinned (OpenSpec.upto fnExactWriteNoteSpec)

/-- 'laws.FnBuckets', WHERE WHAT IT READS IS OF BULK AT MOST 1048576: true; the input reads as it did. -/
def fnBucketsUptoRow : OpenClaim := { program := "ytimblbmbfdopgaagreat", sum := "8d6173ab9285366a121ae2fbdcddfab64a91ded80a93cad6082e3722e0ad2fd3", func := "loop.example/g00583/laws.FnBuckets", spec := "fnBuckets", inPlace := ["internal/bytealg.abigen_runtime_cmpstring", "slices.overlaps[loop.example/g00583/impl.Item]"], unfollowed := true, recurses := true, apart := false, narrowed := true }
def FnBucketsUptoSaid : Prop := fnBucketsUptoRow.holds Tryz.pinned (OpenSpec.upto fnBucketsSpec)

/-- 'laws.FnStorage', WHERE WHAT IT READS IS OF BULK AT MOST 1048576: true; the input reads as it did. -/
def fnStorageUptoRow : OpenClaim := { program := "ytimblbmbfdopgaagreat", sum := "8d6173ab9285366a121ae2fbdcddfab64a91ded80a93cad6082e3722e0ad2fd3", func := "loop.example/g00583/laws.FnStorage", spec := "fnStorage", inPlace := ["slices.overlaps[loop.example/g00583/impl.Bucket]", "internal/bytealg.abigen_runtime_cmpstring", "slices.overlaps[loop.example/g00583/impl.Item]"], unfollowed := true, recurses := true, apart := false, narrowed := true }
def FnStorageUptoSaid : Prop := fnStorageUptoRow.holds Tryz.pinned (OpenSpec.upto fnStorageSpec)

/-- 'laws.FnWorlds', WHERE WHAT IT READS IS OF BULK AT MOST 1048576: true; the input reads as it did. -/
def fnWorldsUptoRow : OpenClaim := { program := "ytimblbmbfdopgaagreat", sum := "8d6173ab9285366a121ae2fbdcddfab64a91ded80a93cad6082e3722e0ad2fd3", func := "loop.example/g00583/laws.FnWorlds", spec := "fnWorlds", inPlace := ["internal/bytealg.abigen_runtime_cmpstring", "slices.overlaps[loop.example/g00583/impl.Item]"], unfollowed := true, recurses := true, apart := false, narrowed := true }
def FnWorldsUptoSaid : Prop := fnWorldsUptoRow.holds Tryz.pinned (OpenSpec.upto fnWorldsSpec)

/-- 'laws.FnExactReadNote', WHERE WHAT IT READS IS OF BULK AT MOST 1048576: true; the input reads as it did. -/
def fnExactReadNoteUptoRow : OpenClaim := { program := "ytimblbmbfdopgaagreat", sum := "8d6173ab9285366a121ae2fbdcddfab64a91ded80a93cad6082e3722e0ad2fd3", func := "loop.example/g00583/laws.FnExactReadNote", spec := "fnExactReadNote", inPlace := ["internal/bytealg.abigen_runtime_cmpstring", "slices.overlaps[loop.example/g00583/impl.Item]", "slices.overlaps[loop.example/g00583/impl.Field]"], unfollowed := true, recurses := true, apart := false, narrowed := true }
def FnExactReadNoteUptoSaid : Prop := fnExactReadNoteUptoRow.holds Tryz.pinned (OpenSpec.upto fnExactReadNoteSpec)

/-- 'laws.FnExactUpdateWorker', WHERE WHAT IT READS IS OF BULK AT MOST 1048576: true; the input reads as it did. -/
def fnExactUpdateWorkerUptoRow : OpenClaim := { program := "ytimblbmbfdopgaagreat", sum := "8d6173ab9285366a121ae2fbdcddfab64a91ded80a93cad6082e3722e0ad2fd3", func := "loop.example/g00583/laws.FnExactUpdateWorker", spec := "fnExactUpdateWorker", inPlace := ["internal/bytealg.abigen_runtime_cmpstring", "slices.overlaps[loop.example/g00583/impl.Item]", "slices.overlaps[loop.example/g00583/impl.Cache]", "slices.overlaps[loop.example/g00583/impl.Bucket]"], unfollowed := true, recurses := true, apart := false, narrowed := true }
def FnExactUpdateWorkerUptoSaid : Prop := fnExactUpdateWorkerUptoRow.holds Tryz.pinned (OpenSpec.upto fnExactUpdateWorkerSpec)

/-- 'laws.FnExactOpenPage', WHERE WHAT IT READS IS OF BULK AT MOST 1048576: true; the input reads as it did. -/
def fnExactOpenPageUptoRow : OpenClaim := { program := "ytimblbmbfdopgaagreat", sum := "8d6173ab9285366a121ae2fbdcddfab64a91ded80a93cad6082e3722e0ad2fd3", func := "loop.example/g00583/laws.FnExactOpenPage", spec := "fnExactOpenPage", inPlace := ["internal/bytealg.abigen_runtime_cmpstring", "slices.overlaps[loop.example/g00583/impl.Item]", "slices.overlaps[loop.example/g00583/impl.Bucket]"], unfollowed := true, recurses := true, apart := false, narrowed := true }
def FnExactOpenPageUptoSaid : Prop := fnExactOpenPageUptoRow.holds Tryz.pinned (OpenSpec.upto fnExactOpenPageSpec)

end Rows
end Go.Proofs.YtimblbmbfdopgaaGreat
