/-
  No cell of these rows narrows 'for every input' (looked for: loops, veiled, ifaces, maps, wideKeys, modest, calm, conditions, laid).
  DERIVED. THE GIVEN ROWS OF THIS SEAT. 8 by the template 'for every input the law returns true; each argument reads behind the call as it read before'; 0 by the template 'total and deterministic' (their statements: YtcpahpbjjnekkaaGreatTotals.lean).
  GIVEN WITH THE SEED: the statements are not yours to turn. If you find one false, say at which input.
  Laid BY PROGRAM, IN A SANDBOX (cutbox-rows.mjs): the forced cells as the released guide's own fill.sh prints them over the translation 64c81301adcbd727… (all of the seat's roots in one cut). By AI agents, Wed Nov 11 2026. No macro, syntax, notation, axiom, sorry.
-/
import Derived.Test.YtcpahpbjjnekkaaGreatChecked
import GoSem.Claim
import GoSem.ClaimJoined
import GoSem.ClaimMapViews
import Derived.JoinedTies
import Derived.KernelRfl
namespace Go.Proofs.YtcpahpbjjnekkaaGreat
/- THE CELL 'sum', in the pinned program and in every row, IS THE sha256 OF THE DUMP (.gsa) THAT YtcpahpbjjnekkaaGreatProg.lean LOADS. Nothing in Lean hashes anything: it is a label: what it is worth is what the hold of that sum in a sandbox is worth. -/
noncomputable def Tryz.pinned : Pinned := { name := "ytcpahpbjjnekkaagreat", sum := "64c81301adcbd7277a99f8515fdaf1aa15a58a028eadc24b18e9d287337f26c4", checked := Tryz.checked }
namespace Rows
def none {H : Type} : Left H := { results := [], args := [] }

/-- 'laws.FnExactNewWorld': WHATEVER THE INPUT: true; the input reads as it did. -/
def fnExactNewWorldSpec : ChangeSpec := { name := "fnExactNewWorld", fn := fun _ => fun
  | [d] => { results := [.lit (.bool true)], args := [d] }
  | _ => none }
def fnExactNewWorldRow : OpenClaim := { program := "ytcpahpbjjnekkaagreat", sum := "64c81301adcbd7277a99f8515fdaf1aa15a58a028eadc24b18e9d287337f26c4", func := "loop.example/g00583/laws.FnExactNewWorld", spec := "fnExactNewWorld", apart := false }
def FnExactNewWorldSaid : Prop := fnExactNewWorldRow.holds Tryz.pinned (OpenSpec.ofChange fnExactNewWorldSpec)

/-- ITS FALSE NEIGHBOUR: 'it returns false'. Refute it at one input. -/
def fnExactNewWorldWrong : ChangeSpec := { name := "fnExactNewWorld", fn := fun _ => fun
  | [d] => { results := [.lit (.bool false)], args := [d] }
  | _ => none }
def FnExactNewWorldWrongFalsely : Prop := fnExactNewWorldRow.holds Tryz.pinned (OpenSpec.ofChange fnExactNewWorldWrong)

/-- 'laws.FnExactCanServeOffline': WHATEVER THE INPUT: true; the input reads as it did. -/
def fnExactCanServeOfflineSpec : ChangeSpec := { name := "fnExactCanServeOffline", fn := fun _ => fun
  | [d1, d2, d3] => { results := [.lit (.bool true)], args := [d1, d2, d3] }
  | _ => none }
def fnExactCanServeOfflineRow : OpenClaim := { program := "ytcpahpbjjnekkaagreat", sum := "64c81301adcbd7277a99f8515fdaf1aa15a58a028eadc24b18e9d287337f26c4", func := "loop.example/g00583/laws.FnExactCanServeOffline", spec := "fnExactCanServeOffline", unfollowed := true, recurses := true, apart := false }
def FnExactCanServeOfflineSaid : Prop := fnExactCanServeOfflineRow.holds Tryz.pinned (OpenSpec.ofChange fnExactCanServeOfflineSpec)

/-- ITS FALSE NEIGHBOUR: 'it returns false'. Refute it at one input. -/
def fnExactCanServeOfflineWrong : ChangeSpec := { name := "fnExactCanServeOffline", fn := fun _ => fun
  | [d1, d2, d3] => { results := [.lit (.bool false)], args := [d1, d2, d3] }
  | _ => none }
def FnExactCanServeOfflineWrongFalsely : Prop := fnExactCanServeOfflineRow.holds Tryz.pinned (OpenSpec.ofChange fnExactCanServeOfflineWrong)

/-- 'laws.FnExactEqualWorlds': WHATEVER THE INPUT: true; the input reads as it did. -/
def fnExactEqualWorldsSpec : ChangeSpec := { name := "fnExactEqualWorlds", fn := fun _ => fun
  | [d1, d2] => { results := [.lit (.bool true)], args := [d1, d2] }
  | _ => none }
def fnExactEqualWorldsRow : OpenClaim := { program := "ytcpahpbjjnekkaagreat", sum := "64c81301adcbd7277a99f8515fdaf1aa15a58a028eadc24b18e9d287337f26c4", func := "loop.example/g00583/laws.FnExactEqualWorlds", spec := "fnExactEqualWorlds", unfollowed := true, recurses := true, apart := false }
def FnExactEqualWorldsSaid : Prop := fnExactEqualWorldsRow.holds Tryz.pinned (OpenSpec.ofChange fnExactEqualWorldsSpec)

/-- ITS FALSE NEIGHBOUR: 'it returns false'. Refute it at one input. -/
def fnExactEqualWorldsWrong : ChangeSpec := { name := "fnExactEqualWorlds", fn := fun _ => fun
  | [d1, d2] => { results := [.lit (.bool false)], args := [d1, d2] }
  | _ => none }
def FnExactEqualWorldsWrongFalsely : Prop := fnExactEqualWorldsRow.holds Tryz.pinned (OpenSpec.ofChange fnExactEqualWorldsWrong)

/-- 'laws.FnExactWorkerVersions': WHATEVER THE INPUT: true; the input reads as it did. -/
def fnExactWorkerVersionsSpec : ChangeSpec := { name := "fnExactWorkerVersions", fn := fun _ => fun
  | [d1, d2, d3] => { results := [.lit (.bool true)], args := [d1, d2, d3] }
  | _ => none }
def fnExactWorkerVersionsRow : OpenClaim := { program := "ytcpahpbjjnekkaagreat", sum := "64c81301adcbd7277a99f8515fdaf1aa15a58a028eadc24b18e9d287337f26c4", func := "loop.example/g00583/laws.FnExactWorkerVersions", spec := "fnExactWorkerVersions", unfollowed := true, recurses := true, apart := false }
def FnExactWorkerVersionsSaid : Prop := fnExactWorkerVersionsRow.holds Tryz.pinned (OpenSpec.ofChange fnExactWorkerVersionsSpec)

/-- ITS FALSE NEIGHBOUR: 'it returns false'. Refute it at one input. -/
def fnExactWorkerVersionsWrong : ChangeSpec := { name := "fnExactWorkerVersions", fn := fun _ => fun
  | [d1, d2, d3] => { results := [.lit (.bool false)], args := [d1, d2, d3] }
  | _ => none }
def FnExactWorkerVersionsWrongFalsely : Prop := fnExactWorkerVersionsRow.holds Tryz.pinned (OpenSpec.ofChange fnExactWorkerVersionsWrong)

/-- 'laws.FnExactServerStore': WHATEVER THE INPUT: true; the input reads as it did. -/
def fnExactServerStoreSpec : ChangeSpec := { name := "fnExactServerStore", fn := fun _ => fun
  | [d1, d2] => { results := [.lit (.bool true)], args := [d1, d2] }
  | _ => none }
def fnExactServerStoreRow : OpenClaim := { program := "ytcpahpbjjnekkaagreat", sum := "64c81301adcbd7277a99f8515fdaf1aa15a58a028eadc24b18e9d287337f26c4", func := "loop.example/g00583/laws.FnExactServerStore", spec := "fnExactServerStore", apart := false }
def FnExactServerStoreSaid : Prop := fnExactServerStoreRow.holds Tryz.pinned (OpenSpec.ofChange fnExactServerStoreSpec)

/-- ITS FALSE NEIGHBOUR: 'it returns false'. Refute it at one input. -/
def fnExactServerStoreWrong : ChangeSpec := { name := "fnExactServerStore", fn := fun _ => fun
  | [d1, d2] => { results := [.lit (.bool false)], args := [d1, d2] }
  | _ => none }
def FnExactServerStoreWrongFalsely : Prop := fnExactServerStoreRow.holds Tryz.pinned (OpenSpec.ofChange fnExactServerStoreWrong)

/-- 'laws.FnExactAppliedOf': WHATEVER THE INPUT: true; the input reads as it did. -/
def fnExactAppliedOfSpec : ChangeSpec := { name := "fnExactAppliedOf", fn := fun _ => fun
  | [d1, d2, d3] => { results := [.lit (.bool true)], args := [d1, d2, d3] }
  | _ => none }
def fnExactAppliedOfRow : OpenClaim := { program := "ytcpahpbjjnekkaagreat", sum := "64c81301adcbd7277a99f8515fdaf1aa15a58a028eadc24b18e9d287337f26c4", func := "loop.example/g00583/laws.FnExactAppliedOf", spec := "fnExactAppliedOf", unfollowed := true, recurses := true, apart := false }
def FnExactAppliedOfSaid : Prop := fnExactAppliedOfRow.holds Tryz.pinned (OpenSpec.ofChange fnExactAppliedOfSpec)

/-- ITS FALSE NEIGHBOUR: 'it returns false'. Refute it at one input. -/
def fnExactAppliedOfWrong : ChangeSpec := { name := "fnExactAppliedOf", fn := fun _ => fun
  | [d1, d2, d3] => { results := [.lit (.bool false)], args := [d1, d2, d3] }
  | _ => none }
def FnExactAppliedOfWrongFalsely : Prop := fnExactAppliedOfRow.holds Tryz.pinned (OpenSpec.ofChange fnExactAppliedOfWrong)

/-- 'laws.FnExactPagesOf': WHATEVER THE INPUT: true; the input reads as it did. -/
def fnExactPagesOfSpec : ChangeSpec := { name := "fnExactPagesOf", fn := fun _ => fun
  | [d1, d2, d3] => { results := [.lit (.bool true)], args := [d1, d2, d3] }
  | _ => none }
def fnExactPagesOfRow : OpenClaim := { program := "ytcpahpbjjnekkaagreat", sum := "64c81301adcbd7277a99f8515fdaf1aa15a58a028eadc24b18e9d287337f26c4", func := "loop.example/g00583/laws.FnExactPagesOf", spec := "fnExactPagesOf", apart := false }
def FnExactPagesOfSaid : Prop := fnExactPagesOfRow.holds Tryz.pinned (OpenSpec.ofChange fnExactPagesOfSpec)

/-- ITS FALSE NEIGHBOUR: 'it returns false'. Refute it at one input. -/
def fnExactPagesOfWrong : ChangeSpec := { name := "fnExactPagesOf", fn := fun _ => fun
  | [d1, d2, d3] => { results := [.lit (.bool false)], args := [d1, d2, d3] }
  | _ => none }
def FnExactPagesOfWrongFalsely : Prop := fnExactPagesOfRow.holds Tryz.pinned (OpenSpec.ofChange fnExactPagesOfWrong)

/-- 'laws.FnExactIsWorld': WHATEVER THE INPUT: true; the input reads as it did. -/
def fnExactIsWorldSpec : ChangeSpec := { name := "fnExactIsWorld", fn := fun _ => fun
  | [d] => { results := [.lit (.bool true)], args := [d] }
  | _ => none }
def fnExactIsWorldRow : OpenClaim := { program := "ytcpahpbjjnekkaagreat", sum := "64c81301adcbd7277a99f8515fdaf1aa15a58a028eadc24b18e9d287337f26c4", func := "loop.example/g00583/laws.FnExactIsWorld", spec := "fnExactIsWorld", inPlace := ["internal/bytealg.abigen_runtime_cmpstring", "slices.overlaps[loop.example/g00583/impl.Item]"], unfollowed := true, recurses := true, apart := false }
def FnExactIsWorldSaid : Prop := fnExactIsWorldRow.holds Tryz.pinned (OpenSpec.ofChange fnExactIsWorldSpec)

/-- ITS FALSE NEIGHBOUR: 'it returns false'. Refute it at one input. -/
def fnExactIsWorldWrong : ChangeSpec := { name := "fnExactIsWorld", fn := fun _ => fun
  | [d] => { results := [.lit (.bool false)], args := [d] }
  | _ => none }
def FnExactIsWorldWrongFalsely : Prop := fnExactIsWorldRow.holds Tryz.pinned (OpenSpec.ofChange fnExactIsWorldWrong)

/- THE SECOND FORM. 'bulk': how many values and letters a reading holds, each counted each time it is reached (what is shared counts as often as it is met; a slice's spare places count too). A statement '..UptoSaid' is the law's where the arguments, and the package variables that the reading takes, are together of bulk at most 1048576: NARROWER than '..Said'. Prove '..Said' where nothing that the law and all that it calls make is longer than what came in: it says more and counts as full. Else prove '..UptoSaid'. A law counts once. -/
mutual
def uptoBulk {H : Type} : DataW H → Nat
  | .lit (.string bytes) => bytes.length + 1
  | .lit _ => 1
  | .nil => 1
  | .ptr d => uptoBulk d + 1
  | .slice elems spare => uptoBulkAll elems + uptoBulkAll spare + 1
  | .agg parts => uptoBulkAll parts + 1
  | .iface _ d => uptoBulk d + 1
  | .map entries => uptoBulkEntries entries + 1
  | .held _ => 1
def uptoBulkAll {H : Type} : List (DataW H) → Nat
  | [] => 0
  | d :: r => uptoBulk d + uptoBulkAll r
def uptoBulkEntries {H : Type} : List (Lit × DataW H) → Nat
  | [] => 0
  | x :: r => uptoBulkEntry x + uptoBulkEntries r
def uptoBulkEntry {H : Type} : Lit × DataW H → Nat
  | (.string bytes, d) => bytes.length + uptoBulk d + 1
  | (_, d) => uptoBulk d + 1
 end
def uptoSmall : (H : Type) → List (DataW H) → Bool := fun _ ds => decide (uptoBulkAll ds ≤ 1048576)
def OpenSpec.upto (s : _root_.Go.ChangeSpec) : _root_.Go.OpenSpec := { _root_.Go.OpenSpec.ofChange s with cond := some uptoSmall }

/-- 'laws.FnExactNewWorld', WHERE WHAT IT READS IS OF BULK AT MOST 1048576: true; the input reads as it did. -/
def fnExactNewWorldUptoRow : OpenClaim := { program := "ytcpahpbjjnekkaagreat", sum := "64c81301adcbd7277a99f8515fdaf1aa15a58a028eadc24b18e9d287337f26c4", func := "loop.example/g00583/laws.FnExactNewWorld", spec := "fnExactNewWorld", apart := false, narrowed := true }
def FnExactNewWorldUptoSaid : Prop := fnExactNewWorldUptoRow.holds Tryz.pinned (OpenSpec.upto fnExactNewWorldSpec)

/-- 'laws.FnExactCanServeOffline', WHERE WHAT IT READS IS OF BULK AT MOST 1048576: true; the input reads as it did. -/
def fnExactCanServeOfflineUptoRow : OpenClaim := { program := "ytcpahpbjjnekkaagreat", sum := "64c81301adcbd7277a99f8515fdaf1aa15a58a028eadc24b18e9d287337f26c4", func := "loop.example/g00583/laws.FnExactCanServeOffline", spec := "fnExactCanServeOffline", unfollowed := true, recurses := true, apart := false, narrowed := true }
def FnExactCanServeOfflineUptoSaid : Prop := fnExactCanServeOfflineUptoRow.holds Tryz.pinned (OpenSpec.upto fnExactCanServeOfflineSpec)

/-- 'laws.FnExactEqualWorlds', WHERE WHAT IT READS IS OF BULK AT MOST 1048576: true; the input reads as it did. -/
def fnExactEqualWorldsUptoRow : OpenClaim := { program := "ytcpahpbjjnekkaagreat", sum := "64c81301adcbd7277a99f8515fdaf1aa15a58a028eadc24b18e9d287337f26c4", func := "loop.example/g00583/laws.FnExactEqualWorlds", spec := "fnExactEqualWorlds", unfollowed := true, recurses := true, apart := false, narrowed := true }
def FnExactEqualWorldsUptoSaid : Prop := fnExactEqualWorldsUptoRow.holds Tryz.pinned (OpenSpec.upto fnExactEqualWorldsSpec)

/-- 'laws.FnExactWorkerVersions', WHERE WHAT IT READS IS OF BULK AT MOST 1048576: true; the input reads as it did. -/
def fnExactWorkerVersionsUptoRow : OpenClaim := { program := "ytcpahpbjjnekkaagreat", sum := "64c81301adcbd7277a99f8515fdaf1aa15a58a028eadc24b18e9d287337f26c4", func := "loop.example/g00583/laws.FnExactWorkerVersions", spec := "fnExactWorkerVersions", unfollowed := true, recurses := true, apart := false, narrowed := true }
def FnExactWorkerVersionsUptoSaid : Prop := fnExactWorkerVersionsUptoRow.holds Tryz.pinned (OpenSpec.upto fnExactWorkerVersionsSpec)

/-- 'laws.FnExactServerStore', WHERE WHAT IT READS IS OF BULK AT MOST 1048576: true; the input reads as it did. -/
def fnExactServerStoreUptoRow : OpenClaim := { program := "ytcpahpbjjnekkaagreat", sum := "64c81301adcbd7277a99f8515fdaf1aa15a58a028eadc24b18e9d287337f26c4", func := "loop.example/g00583/laws.FnExactServerStore", spec := "fnExactServerStore", apart := false, narrowed := true }
def FnExactServerStoreUptoSaid : Prop := fnExactServerStoreUptoRow.holds Tryz.pinned (OpenSpec.upto fnExactServerStoreSpec)

/-- 'laws.FnExactAppliedOf', WHERE WHAT IT READS IS OF BULK AT MOST 1048576: true; the input reads as it did. -/
def fnExactAppliedOfUptoRow : OpenClaim := { program := "ytcpahpbjjnekkaagreat", sum := "64c81301adcbd7277a99f8515fdaf1aa15a58a028eadc24b18e9d287337f26c4", func := "loop.example/g00583/laws.FnExactAppliedOf", spec := "fnExactAppliedOf", unfollowed := true, recurses := true, apart := false, narrowed := true }
def FnExactAppliedOfUptoSaid : Prop := fnExactAppliedOfUptoRow.holds Tryz.pinned (OpenSpec.upto fnExactAppliedOfSpec)

/-- 'laws.FnExactPagesOf', WHERE WHAT IT READS IS OF BULK AT MOST 1048576: true; the input reads as it did. -/
def fnExactPagesOfUptoRow : OpenClaim := { program := "ytcpahpbjjnekkaagreat", sum := "64c81301adcbd7277a99f8515fdaf1aa15a58a028eadc24b18e9d287337f26c4", func := "loop.example/g00583/laws.FnExactPagesOf", spec := "fnExactPagesOf", apart := false, narrowed := true }
def FnExactPagesOfUptoSaid : Prop := fnExactPagesOfUptoRow.holds Tryz.pinned (OpenSpec.upto fnExactPagesOfSpec)

/-- 'laws.FnExactIsWorld', WHERE WHAT IT READS IS OF BULK AT MOST 1048576: true; the input reads as it did. -/
def fnExactIsWorldUptoRow : OpenClaim := { program := "ytcpahpbjjnekkaagreat", sum := "64c81301adcbd7277a99f8515fdaf1aa15a58a028eadc24b18e9d287337f26c4", func := "loop.example/g00583/laws.FnExactIsWorld", spec := "fnExactIsWorld", inPlace := ["internal/bytealg.abigen_runtime_cmpstring", "slices.overlaps[loop.example/g00583/impl.Item]"], unfollowed := true, recurses := true, apart := false, narrowed := true }
def FnExactIsWorldUptoSaid : Prop := fnExactIsWorldUptoRow.holds Tryz.pinned (OpenSpec.upto fnExactIsWorldSpec)

end Rows
end Go.Proofs.YtcpahpbjjnekkaaGreat
