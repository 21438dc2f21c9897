/-
  No cell of these rows narrows 'for every input' (looked for: loops, veiled, ifaces, maps, wideKeys, modest, calm, conditions, laid).
  DERIVED. THE GIVEN ROWS OF THIS SEAT. 11 by the template 'for every input the law returns true; each argument reads behind the call as it read before'; 0 by the template 'total and deterministic' (their statements: YtgpiencmneiblaaGreatTotals.lean).
  GIVEN WITH THE SEED: the statements are not yours to turn. If you find one false, say at which input.
  Laid BY PROGRAM, IN A SANDBOX (cutbox-rows.mjs): the forced cells as the released guide's own fill.sh prints them over the translation 62221daa46617f25… (all of the seat's roots in one cut). By AI agents, Wed Nov 11 2026. No macro, syntax, notation, axiom, sorry.
-/
import Derived.Test.YtgpiencmneiblaaGreatChecked
import GoSem.Claim
import GoSem.ClaimJoined
import GoSem.ClaimMapViews
import Derived.JoinedTies
import Derived.KernelRfl
namespace Go.Proofs.YtgpiencmneiblaaGreat
/- THE CELL 'sum', in the pinned program and in every row, IS THE sha256 OF THE DUMP (.gsa) THAT YtgpiencmneiblaaGreatProg.lean LOADS. Nothing in Lean hashes anything: it is a label: what it is worth is what the hold of that sum in a sandbox is worth. -/
noncomputable def Tryz.pinned : Pinned := { name := "ytgpiencmneiblaagreat", sum := "62221daa46617f257e9cac545ac768dc2bbf48c03db3dc3179bb30db7c014c37", checked := Tryz.checked }
namespace Rows
def none {H : Type} : Left H := { results := [], args := [] }

/-- 'laws.FnExactEqualBuckets': WHATEVER THE INPUT: true; the input reads as it did. -/
def fnExactEqualBucketsSpec : ChangeSpec := { name := "fnExactEqualBuckets", fn := fun _ => fun
  | [d1, d2] => { results := [.lit (.bool true)], args := [d1, d2] }
  | _ => none }
def fnExactEqualBucketsRow : OpenClaim := { program := "ytgpiencmneiblaagreat", sum := "62221daa46617f257e9cac545ac768dc2bbf48c03db3dc3179bb30db7c014c37", func := "loop.example/g00583/laws.FnExactEqualBuckets", spec := "fnExactEqualBuckets", unfollowed := true, recurses := true, apart := false }
def FnExactEqualBucketsSaid : Prop := fnExactEqualBucketsRow.holds Tryz.pinned (OpenSpec.ofChange fnExactEqualBucketsSpec)

/-- ITS FALSE NEIGHBOUR: 'it returns false'. Refute it at one input. -/
def fnExactEqualBucketsWrong : ChangeSpec := { name := "fnExactEqualBuckets", fn := fun _ => fun
  | [d1, d2] => { results := [.lit (.bool false)], args := [d1, d2] }
  | _ => none }
def FnExactEqualBucketsWrongFalsely : Prop := fnExactEqualBucketsRow.holds Tryz.pinned (OpenSpec.ofChange fnExactEqualBucketsWrong)

/-- 'laws.FnExactUsageOf': WHATEVER THE INPUT: true; the input reads as it did. -/
def fnExactUsageOfSpec : ChangeSpec := { name := "fnExactUsageOf", fn := fun _ => fun
  | [d] => { results := [.lit (.bool true)], args := [d] }
  | _ => none }
def fnExactUsageOfRow : OpenClaim := { program := "ytgpiencmneiblaagreat", sum := "62221daa46617f257e9cac545ac768dc2bbf48c03db3dc3179bb30db7c014c37", func := "loop.example/g00583/laws.FnExactUsageOf", spec := "fnExactUsageOf", apart := false }
def FnExactUsageOfSaid : Prop := fnExactUsageOfRow.holds Tryz.pinned (OpenSpec.ofChange fnExactUsageOfSpec)

/-- ITS FALSE NEIGHBOUR: 'it returns false'. Refute it at one input. -/
def fnExactUsageOfWrong : ChangeSpec := { name := "fnExactUsageOf", fn := fun _ => fun
  | [d] => { results := [.lit (.bool false)], args := [d] }
  | _ => none }
def FnExactUsageOfWrongFalsely : Prop := fnExactUsageOfRow.holds Tryz.pinned (OpenSpec.ofChange fnExactUsageOfWrong)

/-- 'laws.FnExactEqualStorages': WHATEVER THE INPUT: true; the input reads as it did. -/
def fnExactEqualStoragesSpec : ChangeSpec := { name := "fnExactEqualStorages", fn := fun _ => fun
  | [d1, d2] => { results := [.lit (.bool true)], args := [d1, d2] }
  | _ => none }
def fnExactEqualStoragesRow : OpenClaim := { program := "ytgpiencmneiblaagreat", sum := "62221daa46617f257e9cac545ac768dc2bbf48c03db3dc3179bb30db7c014c37", func := "loop.example/g00583/laws.FnExactEqualStorages", spec := "fnExactEqualStorages", unfollowed := true, recurses := true, apart := false }
def FnExactEqualStoragesSaid : Prop := fnExactEqualStoragesRow.holds Tryz.pinned (OpenSpec.ofChange fnExactEqualStoragesSpec)

/-- ITS FALSE NEIGHBOUR: 'it returns false'. Refute it at one input. -/
def fnExactEqualStoragesWrong : ChangeSpec := { name := "fnExactEqualStorages", fn := fun _ => fun
  | [d1, d2] => { results := [.lit (.bool false)], args := [d1, d2] }
  | _ => none }
def FnExactEqualStoragesWrongFalsely : Prop := fnExactEqualStoragesRow.holds Tryz.pinned (OpenSpec.ofChange fnExactEqualStoragesWrong)

/-- 'laws.FnExactTotalUsage': WHATEVER THE INPUT: true; the input reads as it did. -/
def fnExactTotalUsageSpec : ChangeSpec := { name := "fnExactTotalUsage", fn := fun _ => fun
  | [d] => { results := [.lit (.bool true)], args := [d] }
  | _ => none }
def fnExactTotalUsageRow : OpenClaim := { program := "ytgpiencmneiblaagreat", sum := "62221daa46617f257e9cac545ac768dc2bbf48c03db3dc3179bb30db7c014c37", func := "loop.example/g00583/laws.FnExactTotalUsage", spec := "fnExactTotalUsage", apart := false }
def FnExactTotalUsageSaid : Prop := fnExactTotalUsageRow.holds Tryz.pinned (OpenSpec.ofChange fnExactTotalUsageSpec)

/-- ITS FALSE NEIGHBOUR: 'it returns false'. Refute it at one input. -/
def fnExactTotalUsageWrong : ChangeSpec := { name := "fnExactTotalUsage", fn := fun _ => fun
  | [d] => { results := [.lit (.bool false)], args := [d] }
  | _ => none }
def FnExactTotalUsageWrongFalsely : Prop := fnExactTotalUsageRow.holds Tryz.pinned (OpenSpec.ofChange fnExactTotalUsageWrong)

/-- 'laws.FnExactIsEvictable': WHATEVER THE INPUT: true; the input reads as it did. -/
def fnExactIsEvictableSpec : ChangeSpec := { name := "fnExactIsEvictable", fn := fun _ => fun
  | [d1, d2, d3] => { results := [.lit (.bool true)], args := [d1, d2, d3] }
  | _ => none }
def fnExactIsEvictableRow : OpenClaim := { program := "ytgpiencmneiblaagreat", sum := "62221daa46617f257e9cac545ac768dc2bbf48c03db3dc3179bb30db7c014c37", func := "loop.example/g00583/laws.FnExactIsEvictable", spec := "fnExactIsEvictable", unfollowed := true, recurses := true, apart := false }
def FnExactIsEvictableSaid : Prop := fnExactIsEvictableRow.holds Tryz.pinned (OpenSpec.ofChange fnExactIsEvictableSpec)

/-- ITS FALSE NEIGHBOUR: 'it returns false'. Refute it at one input. -/
def fnExactIsEvictableWrong : ChangeSpec := { name := "fnExactIsEvictable", fn := fun _ => fun
  | [d1, d2, d3] => { results := [.lit (.bool false)], args := [d1, d2, d3] }
  | _ => none }
def FnExactIsEvictableWrongFalsely : Prop := fnExactIsEvictableRow.holds Tryz.pinned (OpenSpec.ofChange fnExactIsEvictableWrong)

/-- 'laws.FnExactNewBucket': WHATEVER THE INPUT: true; the input reads as it did. -/
def fnExactNewBucketSpec : ChangeSpec := { name := "fnExactNewBucket", fn := fun _ => fun
  | [d1, d2, d3] => { results := [.lit (.bool true)], args := [d1, d2, d3] }
  | _ => none }
def fnExactNewBucketRow : OpenClaim := { program := "ytgpiencmneiblaagreat", sum := "62221daa46617f257e9cac545ac768dc2bbf48c03db3dc3179bb30db7c014c37", func := "loop.example/g00583/laws.FnExactNewBucket", spec := "fnExactNewBucket", inPlace := ["internal/bytealg.abigen_runtime_cmpstring", "slices.overlaps[loop.example/g00583/impl.Item]"], unfollowed := true, recurses := true, apart := false }
def FnExactNewBucketSaid : Prop := fnExactNewBucketRow.holds Tryz.pinned (OpenSpec.ofChange fnExactNewBucketSpec)

/-- ITS FALSE NEIGHBOUR: 'it returns false'. Refute it at one input. -/
def fnExactNewBucketWrong : ChangeSpec := { name := "fnExactNewBucket", fn := fun _ => fun
  | [d1, d2, d3] => { results := [.lit (.bool false)], args := [d1, d2, d3] }
  | _ => none }
def FnExactNewBucketWrongFalsely : Prop := fnExactNewBucketRow.holds Tryz.pinned (OpenSpec.ofChange fnExactNewBucketWrong)

/-- 'laws.FnExactIsBucket': WHATEVER THE INPUT: true; the input reads as it did. -/
def fnExactIsBucketSpec : ChangeSpec := { name := "fnExactIsBucket", fn := fun _ => fun
  | [d] => { results := [.lit (.bool true)], args := [d] }
  | _ => none }
def fnExactIsBucketRow : OpenClaim := { program := "ytgpiencmneiblaagreat", sum := "62221daa46617f257e9cac545ac768dc2bbf48c03db3dc3179bb30db7c014c37", func := "loop.example/g00583/laws.FnExactIsBucket", spec := "fnExactIsBucket", inPlace := ["internal/bytealg.abigen_runtime_cmpstring", "slices.overlaps[loop.example/g00583/impl.Item]"], unfollowed := true, recurses := true, apart := false }
def FnExactIsBucketSaid : Prop := fnExactIsBucketRow.holds Tryz.pinned (OpenSpec.ofChange fnExactIsBucketSpec)

/-- ITS FALSE NEIGHBOUR: 'it returns false'. Refute it at one input. -/
def fnExactIsBucketWrong : ChangeSpec := { name := "fnExactIsBucket", fn := fun _ => fun
  | [d] => { results := [.lit (.bool false)], args := [d] }
  | _ => none }
def FnExactIsBucketWrongFalsely : Prop := fnExactIsBucketRow.holds Tryz.pinned (OpenSpec.ofChange fnExactIsBucketWrong)

/-- 'laws.FnExactIsStorage': WHATEVER THE INPUT: true; the input reads as it did. -/
def fnExactIsStorageSpec : ChangeSpec := { name := "fnExactIsStorage", fn := fun _ => fun
  | [d] => { results := [.lit (.bool true)], args := [d] }
  | _ => none }
def fnExactIsStorageRow : OpenClaim := { program := "ytgpiencmneiblaagreat", sum := "62221daa46617f257e9cac545ac768dc2bbf48c03db3dc3179bb30db7c014c37", func := "loop.example/g00583/laws.FnExactIsStorage", spec := "fnExactIsStorage", inPlace := ["internal/bytealg.abigen_runtime_cmpstring", "slices.overlaps[loop.example/g00583/impl.Item]"], unfollowed := true, recurses := true, apart := false }
def FnExactIsStorageSaid : Prop := fnExactIsStorageRow.holds Tryz.pinned (OpenSpec.ofChange fnExactIsStorageSpec)

/-- ITS FALSE NEIGHBOUR: 'it returns false'. Refute it at one input. -/
def fnExactIsStorageWrong : ChangeSpec := { name := "fnExactIsStorage", fn := fun _ => fun
  | [d] => { results := [.lit (.bool false)], args := [d] }
  | _ => none }
def FnExactIsStorageWrongFalsely : Prop := fnExactIsStorageRow.holds Tryz.pinned (OpenSpec.ofChange fnExactIsStorageWrong)

/-- 'laws.FnExactEvictOld': WHATEVER THE INPUT: true; the input reads as it did. -/
def fnExactEvictOldSpec : ChangeSpec := { name := "fnExactEvictOld", fn := fun _ => fun
  | [d1, d2, d3] => { results := [.lit (.bool true)], args := [d1, d2, d3] }
  | _ => none }
def fnExactEvictOldRow : OpenClaim := { program := "ytgpiencmneiblaagreat", sum := "62221daa46617f257e9cac545ac768dc2bbf48c03db3dc3179bb30db7c014c37", func := "loop.example/g00583/laws.FnExactEvictOld", spec := "fnExactEvictOld", unfollowed := true, recurses := true, apart := false }
def FnExactEvictOldSaid : Prop := fnExactEvictOldRow.holds Tryz.pinned (OpenSpec.ofChange fnExactEvictOldSpec)

/-- ITS FALSE NEIGHBOUR: 'it returns false'. Refute it at one input. -/
def fnExactEvictOldWrong : ChangeSpec := { name := "fnExactEvictOld", fn := fun _ => fun
  | [d1, d2, d3] => { results := [.lit (.bool false)], args := [d1, d2, d3] }
  | _ => none }
def FnExactEvictOldWrongFalsely : Prop := fnExactEvictOldRow.holds Tryz.pinned (OpenSpec.ofChange fnExactEvictOldWrong)

/-- 'laws.FnExactReplaceDisk': WHATEVER THE INPUT: true; the input reads as it did. -/
def fnExactReplaceDiskSpec : ChangeSpec := { name := "fnExactReplaceDisk", fn := fun _ => fun
  | [d1, d2] => { results := [.lit (.bool true)], args := [d1, d2] }
  | _ => none }
def fnExactReplaceDiskRow : OpenClaim := { program := "ytgpiencmneiblaagreat", sum := "62221daa46617f257e9cac545ac768dc2bbf48c03db3dc3179bb30db7c014c37", func := "loop.example/g00583/laws.FnExactReplaceDisk", spec := "fnExactReplaceDisk", inPlace := ["internal/bytealg.abigen_runtime_cmpstring", "slices.overlaps[loop.example/g00583/impl.Item]"], unfollowed := true, recurses := true, apart := false }
def FnExactReplaceDiskSaid : Prop := fnExactReplaceDiskRow.holds Tryz.pinned (OpenSpec.ofChange fnExactReplaceDiskSpec)

/-- ITS FALSE NEIGHBOUR: 'it returns false'. Refute it at one input. -/
def fnExactReplaceDiskWrong : ChangeSpec := { name := "fnExactReplaceDisk", fn := fun _ => fun
  | [d1, d2] => { results := [.lit (.bool false)], args := [d1, d2] }
  | _ => none }
def FnExactReplaceDiskWrongFalsely : Prop := fnExactReplaceDiskRow.holds Tryz.pinned (OpenSpec.ofChange fnExactReplaceDiskWrong)

/-- 'laws.FnExactPutBucket': WHATEVER THE INPUT: true; the input reads as it did. -/
def fnExactPutBucketSpec : ChangeSpec := { name := "fnExactPutBucket", fn := fun _ => fun
  | [d1, d2] => { results := [.lit (.bool true)], args := [d1, d2] }
  | _ => none }
def fnExactPutBucketRow : OpenClaim := { program := "ytgpiencmneiblaagreat", sum := "62221daa46617f257e9cac545ac768dc2bbf48c03db3dc3179bb30db7c014c37", func := "loop.example/g00583/laws.FnExactPutBucket", spec := "fnExactPutBucket", inPlace := ["slices.overlaps[loop.example/g00583/impl.Bucket]", "internal/bytealg.abigen_runtime_cmpstring", "slices.overlaps[loop.example/g00583/impl.Item]"], unfollowed := true, recurses := true, apart := false }
def FnExactPutBucketSaid : Prop := fnExactPutBucketRow.holds Tryz.pinned (OpenSpec.ofChange fnExactPutBucketSpec)

/-- ITS FALSE NEIGHBOUR: 'it returns false'. Refute it at one input. -/
def fnExactPutBucketWrong : ChangeSpec := { name := "fnExactPutBucket", fn := fun _ => fun
  | [d1, d2] => { results := [.lit (.bool false)], args := [d1, d2] }
  | _ => none }
def FnExactPutBucketWrongFalsely : Prop := fnExactPutBucketRow.holds Tryz.pinned (OpenSpec.ofChange fnExactPutBucketWrong)

/- THE SECOND FORM. 'bulk': how many values and letters a reading holds, each counted each time it is reached (what is shared counts as often as it is met; a slice's spare places count too). A statement '..UptoSaid' is the law's where the arguments, and the package variables that the reading takes, are together of bulk at most 1048576: NARROWER than '..Said'. Prove '..Said' where nothing that the law and all that it calls make is longer than what came in: it says more and counts as full. Else prove '..UptoSaid'. A law counts once. -/
mutual
def uptoBulk {H : Type} : DataW H → Nat
  | .lit (.string bytes) => bytes.length + 1
  | .lit _ => 1
  | .nil => 1
  | .ptr d => uptoBulk d + 1
  | .slice elems spare => uptoBulkAll elems + uptoBulkAll spare + 1
  | .agg parts => uptoBulkAll parts + 1
  | .iface _ d => uptoBulk d + 1
  | .map entries => uptoBulkEntries entries + 1
  | .held _ => 1
def uptoBulkAll {H : Type} : List (DataW H) → Nat
  | [] => 0
  | d :: r => uptoBulk d + uptoBulkAll r
def uptoBulkEntries {H : Type} : List (Lit × DataW H) → Nat
  | [] => 0
  | x :: r => uptoBulkEntry x + uptoBulkEntries r
def uptoBulkEntry {H : Type} : Lit × DataW H → Nat
  | (.string bytes, d) => bytes.length + uptoBulk d + 1
  | (_, d) => uptoBulk d + 1
 end
def uptoSmall : (H : Type) → List (DataW H) → Bool := fun _ ds => decide (uptoBulkAll ds ≤ 1048576)
def OpenSpec.upto (s : _root_.Go.ChangeSpec) : _root_.Go.OpenSpec := { _root_.Go.OpenSpec.ofChange s with cond := some uptoSmall }

/-- 'laws.FnExactEqualBuckets', WHERE WHAT IT READS IS OF BULK AT MOST 1048576: true; the input reads as it did. -/
def fnExactEqualBucketsUptoRow : OpenClaim := { program := "ytgpiencmneiblaagreat", sum := "62221daa46617f257e9cac545ac768dc2bbf48c03db3dc3179bb30db7c014c37", func := "loop.example/g00583/laws.FnExactEqualBuckets", spec := "fnExactEqualBuckets", unfollowed := true, recurses := true, apart := false, narrowed := true }
def FnExactEqualBucketsUptoSaid : Prop := fnExactEqualBucketsUptoRow.holds Tryz.pinned (OpenSpec.upto fnExactEqualBucketsSpec)

/-- 'laws.FnExactUsageOf', WHERE WHAT IT READS IS OF BULK AT MOST 1048576: true; the input reads as it did. -/
def fnExactUsageOfUptoRow : OpenClaim := { program := "ytgpiencmneiblaagreat", sum := "62221daa46617f257e9cac545ac768dc2bbf48c03db3dc3179bb30db7c014c37", func := "loop.example/g00583/laws.FnExactUsageOf", spec := "fnExactUsageOf", apart := false, narrowed := true }
def FnExactUsageOfUptoSaid : Prop := fnExactUsageOfUptoRow.holds Tryz.pinned (OpenSpec.upto fnExactUsageOfSpec)

/-- 'laws.FnExactEqualStorages', WHERE WHAT IT READS IS OF BULK AT MOST 1048576: true; the input reads as it did. -/
def fnExactEqualStoragesUptoRow : OpenClaim := { program := "ytgpiencmneiblaagreat", sum := "62221daa46617f257e9cac545ac768dc2bbf48c03db3dc3179bb30db7c014c37", func := "loop.example/g00583/laws.FnExactEqualStorages", spec := "fnExactEqualStorages", unfollowed := true, recurses := true, apart := false, narrowed := true }
def FnExactEqualStoragesUptoSaid : Prop := fnExactEqualStoragesUptoRow.holds Tryz.pinned (OpenSpec.upto fnExactEqualStoragesSpec)

/-- 'laws.FnExactTotalUsage', WHERE WHAT IT READS IS OF BULK AT MOST 1048576: true; the input reads as it did. -/
def fnExactTotalUsageUptoRow : OpenClaim := { program := "ytgpiencmneiblaagreat", sum := "62221daa46617f257e9cac545ac768dc2bbf48c03db3dc3179bb30db7c014c37", func := "loop.example/g00583/laws.FnExactTotalUsage", spec := "fnExactTotalUsage", apart := false, narrowed := true }
def FnExactTotalUsageUptoSaid : Prop := fnExactTotalUsageUptoRow.holds Tryz.pinned (OpenSpec.upto fnExactTotalUsageSpec)

/-- 'laws.FnExactIsEvictable', WHERE WHAT IT READS IS OF BULK AT MOST 1048576: true; the input reads as it did. -/
def fnExactIsEvictableUptoRow : OpenClaim := { program := "ytgpiencmneiblaagreat", sum := "62221daa46617f257e9cac545ac768dc2bbf48c03db3dc3179bb30db7c014c37", func := "loop.example/g00583/laws.FnExactIsEvictable", spec := "fnExactIsEvictable", unfollowed := true, recurses := true, apart := false, narrowed := true }
def FnExactIsEvictableUptoSaid : Prop := fnExactIsEvictableUptoRow.holds Tryz.pinned (OpenSpec.upto fnExactIsEvictableSpec)

/-- 'laws.FnExactNewBucket', WHERE WHAT IT READS IS OF BULK AT MOST 1048576: true; the input reads as it did. -/
def fnExactNewBucketUptoRow : OpenClaim := { program := "ytgpiencmneiblaagreat", sum := "62221daa46617f257e9cac545ac768dc2bbf48c03db3dc3179bb30db7c014c37", func := "loop.example/g00583/laws.FnExactNewBucket", spec := "fnExactNewBucket", inPlace := ["internal/bytealg.abigen_runtime_cmpstring", "slices.overlaps[loop.example/g00583/impl.Item]"], unfollowed := true, recurses := true, apart := false, narrowed := true }
def FnExactNewBucketUptoSaid : Prop := fnExactNewBucketUptoRow.holds Tryz.pinned (OpenSpec.upto fnExactNewBucketSpec)

/-- 'laws.FnExactIsBucket', WHERE WHAT IT READS IS OF BULK AT MOST 1048576: true; the input reads as it did. -/
def fnExactIsBucketUptoRow : OpenClaim := { program := "ytgpiencmneiblaagreat", sum := "62221daa46617f257e9cac545ac768dc2bbf48c03db3dc3179bb30db7c014c37", func := "loop.example/g00583/laws.FnExactIsBucket", spec := "fnExactIsBucket", inPlace := ["internal/bytealg.abigen_runtime_cmpstring", "slices.overlaps[loop.example/g00583/impl.Item]"], unfollowed := true, recurses := true, apart := false, narrowed := true }
def FnExactIsBucketUptoSaid : Prop := fnExactIsBucketUptoRow.holds Tryz.pinned (OpenSpec.upto fnExactIsBucketSpec)

/-- 'laws.FnExactIsStorage', WHERE WHAT IT READS IS OF BULK AT MOST 1048576: true; the input reads as it did. -/
def fnExactIsStorageUptoRow : OpenClaim := { program := "ytgpiencmneiblaagreat", sum := "62221daa46617f257e9cac545ac768dc2bbf48c03db3dc3179bb30db7c014c37", func := "loop.example/g00583/laws.FnExactIsStorage", spec := "fnExactIsStorage", inPlace := ["internal/bytealg.abigen_runtime_cmpstring", "slices.overlaps[loop.example/g00583/impl.Item]"], unfollowed := true, recurses := true, apart := false, narrowed := true }
def FnExactIsStorageUptoSaid : Prop := fnExactIsStorageUptoRow.holds Tryz.pinned (OpenSpec.upto fnExactIsStorageSpec)

/-- 'laws.FnExactEvictOld', WHERE WHAT IT READS IS OF BULK AT MOST 1048576: true; the input reads as it did. -/
def fnExactEvictOldUptoRow : OpenClaim := { program := "ytgpiencmneiblaagreat", sum := "62221daa46617f257e9cac545ac768dc2bbf48c03db3dc3179bb30db7c014c37", func := "loop.example/g00583/laws.FnExactEvictOld", spec := "fnExactEvictOld", unfollowed := true, recurses := true, apart := false, narrowed := true }
def FnExactEvictOldUptoSaid : Prop := fnExactEvictOldUptoRow.holds Tryz.pinned (OpenSpec.upto fnExactEvictOldSpec)

/-- 'laws.FnExactReplaceDisk', WHERE WHAT IT READS IS OF BULK AT MOST 1048576: true; the input reads as it did. -/
def fnExactReplaceDiskUptoRow : OpenClaim := { program := "ytgpiencmneiblaagreat", sum := "62221daa46617f257e9cac545ac768dc2bbf48c03db3dc3179bb30db7c014c37", func := "loop.example/g00583/laws.FnExactReplaceDisk", spec := "fnExactReplaceDisk", inPlace := ["internal/bytealg.abigen_runtime_cmpstring", "slices.overlaps[loop.example/g00583/impl.Item]"], unfollowed := true, recurses := true, apart := false, narrowed := true }
def FnExactReplaceDiskUptoSaid : Prop := fnExactReplaceDiskUptoRow.holds Tryz.pinned (OpenSpec.upto fnExactReplaceDiskSpec)

/-- 'laws.FnExactPutBucket', WHERE WHAT IT READS IS OF BULK AT MOST 1048576: true; the input reads as it did. -/
def fnExactPutBucketUptoRow : OpenClaim := { program := "ytgpiencmneiblaagreat", sum := "62221daa46617f257e9cac545ac768dc2bbf48c03db3dc3179bb30db7c014c37", func := "loop.example/g00583/laws.FnExactPutBucket", spec := "fnExactPutBucket", inPlace := ["slices.overlaps[loop.example/g00583/impl.Bucket]", "internal/bytealg.abigen_runtime_cmpstring", "slices.overlaps[loop.example/g00583/impl.Item]"], unfollowed := true, recurses := true, apart := false, narrowed := true }
def FnExactPutBucketUptoSaid : Prop := fnExactPutBucketUptoRow.holds Tryz.pinned (OpenSpec.upto fnExactPutBucketSpec)

end Rows
end Go.Proofs.YtgpiencmneiblaaGreat
