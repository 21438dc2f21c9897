/-
  No cell of these rows narrows 'for every input' (looked for: loops, veiled, ifaces, maps, wideKeys, modest, calm, conditions, laid).
  DERIVED. THE GIVEN ROWS OF THIS SEAT. 6 by the template 'for every input the law returns true; each argument reads behind the call as it read before'; 0 by the template 'total and deterministic' (their statements: YtfcfdnmhpdgjfaaTotals.lean).
  GIVEN WITH THE SEED: the statements are not yours to turn. If you find one false, say at which input.
  Laid BY PROGRAM, IN A SANDBOX (cutbox-rows.mjs): the forced cells as the released guide's own fill.sh prints them over the translation fe99dad6f11985bc… (all of the seat's roots in one cut). By AI agents, Wed Nov 11 2026. No macro, syntax, notation, axiom, sorry.
-/
import Derived.Test.YtfcfdnmhpdgjfaaChecked
import GoSem.Claim
import GoSem.ClaimJoined
import GoSem.ClaimMapViews
import Derived.JoinedTies
import Derived.KernelRfl
namespace Go.Proofs.Ytfcfdnmhpdgjfaa
/- THE CELL 'sum', in the pinned program and in every row, IS THE sha256 OF THE DUMP (.gsa) THAT YtfcfdnmhpdgjfaaProg.lean LOADS. Nothing in Lean hashes anything: it is a label: what it is worth is what the hold of that sum in a sandbox is worth. -/
noncomputable def Try.pinned : Pinned := { name := "ytfcfdnmhpdgjfaa", sum := "fe99dad6f11985bc70a87f661275699959813dba1c0f8678fc2c083c844d1167", checked := Try.checked }
namespace Rows
def none {H : Type} : Left H := { results := [], args := [] }

/-- 'laws.FnExactSiteNumber': WHATEVER THE INPUT: true; the input reads as it did. -/
def fnExactSiteNumberSpec : ChangeSpec := { name := "fnExactSiteNumber", fn := fun _ => fun
  | [d] => { results := [.lit (.bool true)], args := [d] }
  | _ => none }
def fnExactSiteNumberRow : OpenClaim := { program := "ytfcfdnmhpdgjfaa", sum := "fe99dad6f11985bc70a87f661275699959813dba1c0f8678fc2c083c844d1167", func := "loop.example/g00583/laws.FnExactSiteNumber", spec := "fnExactSiteNumber", apart := false }
def FnExactSiteNumberSaid : Prop := fnExactSiteNumberRow.holds Try.pinned (OpenSpec.ofChange fnExactSiteNumberSpec)

/-- ITS FALSE NEIGHBOUR: 'it returns false'. Refute it at one input. -/
def fnExactSiteNumberWrong : ChangeSpec := { name := "fnExactSiteNumber", fn := fun _ => fun
  | [d] => { results := [.lit (.bool false)], args := [d] }
  | _ => none }
def FnExactSiteNumberWrongFalsely : Prop := fnExactSiteNumberRow.holds Try.pinned (OpenSpec.ofChange fnExactSiteNumberWrong)

/-- 'laws.FnExactReceiveMail': WHATEVER THE INPUT: true; the input reads as it did. -/
def fnExactReceiveMailSpec : ChangeSpec := { name := "fnExactReceiveMail", fn := fun _ => fun
  | [d1, d2] => { results := [.lit (.bool true)], args := [d1, d2] }
  | _ => none }
def fnExactReceiveMailRow : OpenClaim := { program := "ytfcfdnmhpdgjfaa", sum := "fe99dad6f11985bc70a87f661275699959813dba1c0f8678fc2c083c844d1167", func := "loop.example/g00583/laws.FnExactReceiveMail", spec := "fnExactReceiveMail", unfollowed := true, recurses := true, apart := false }
def FnExactReceiveMailSaid : Prop := fnExactReceiveMailRow.holds Try.pinned (OpenSpec.ofChange fnExactReceiveMailSpec)

/-- ITS FALSE NEIGHBOUR: 'it returns false'. Refute it at one input. -/
def fnExactReceiveMailWrong : ChangeSpec := { name := "fnExactReceiveMail", fn := fun _ => fun
  | [d1, d2] => { results := [.lit (.bool false)], args := [d1, d2] }
  | _ => none }
def FnExactReceiveMailWrongFalsely : Prop := fnExactReceiveMailRow.holds Try.pinned (OpenSpec.ofChange fnExactReceiveMailWrong)

/-- 'laws.FnExactCanTalk': WHATEVER THE INPUT: true; the input reads as it did. -/
def fnExactCanTalkSpec : ChangeSpec := { name := "fnExactCanTalk", fn := fun _ => fun
  | [d1, d2] => { results := [.lit (.bool true)], args := [d1, d2] }
  | _ => none }
def fnExactCanTalkRow : OpenClaim := { program := "ytfcfdnmhpdgjfaa", sum := "fe99dad6f11985bc70a87f661275699959813dba1c0f8678fc2c083c844d1167", func := "loop.example/g00583/laws.FnExactCanTalk", spec := "fnExactCanTalk", apart := false }
def FnExactCanTalkSaid : Prop := fnExactCanTalkRow.holds Try.pinned (OpenSpec.ofChange fnExactCanTalkSpec)

/-- ITS FALSE NEIGHBOUR: 'it returns false'. Refute it at one input. -/
def fnExactCanTalkWrong : ChangeSpec := { name := "fnExactCanTalk", fn := fun _ => fun
  | [d1, d2] => { results := [.lit (.bool false)], args := [d1, d2] }
  | _ => none }
def FnExactCanTalkWrongFalsely : Prop := fnExactCanTalkRow.holds Try.pinned (OpenSpec.ofChange fnExactCanTalkWrong)

/-- 'laws.FnChannels': WHATEVER THE INPUT: true; the input reads as it did. -/
def fnChannelsSpec : ChangeSpec := { name := "fnChannels", fn := fun _ => fun
  | [d] => { results := [.lit (.bool true)], args := [d] }
  | _ => none }
def fnChannelsRow : OpenClaim := { program := "ytfcfdnmhpdgjfaa", sum := "fe99dad6f11985bc70a87f661275699959813dba1c0f8678fc2c083c844d1167", func := "loop.example/g00583/laws.FnChannels", spec := "fnChannels", unfollowed := true, recurses := true, apart := false }
def FnChannelsSaid : Prop := fnChannelsRow.holds Try.pinned (OpenSpec.ofChange fnChannelsSpec)

/-- ITS FALSE NEIGHBOUR: 'it returns false'. Refute it at one input. -/
def fnChannelsWrong : ChangeSpec := { name := "fnChannels", fn := fun _ => fun
  | [d] => { results := [.lit (.bool false)], args := [d] }
  | _ => none }
def FnChannelsWrongFalsely : Prop := fnChannelsRow.holds Try.pinned (OpenSpec.ofChange fnChannelsWrong)

/-- 'laws.FnExactCacheComplete': WHATEVER THE INPUT: true; the input reads as it did. -/
def fnExactCacheCompleteSpec : ChangeSpec := { name := "fnExactCacheComplete", fn := fun _ => fun
  | [d1, d2, d3] => { results := [.lit (.bool true)], args := [d1, d2, d3] }
  | _ => none }
def fnExactCacheCompleteRow : OpenClaim := { program := "ytfcfdnmhpdgjfaa", sum := "fe99dad6f11985bc70a87f661275699959813dba1c0f8678fc2c083c844d1167", func := "loop.example/g00583/laws.FnExactCacheComplete", spec := "fnExactCacheComplete", unfollowed := true, recurses := true, apart := false }
def FnExactCacheCompleteSaid : Prop := fnExactCacheCompleteRow.holds Try.pinned (OpenSpec.ofChange fnExactCacheCompleteSpec)

/-- ITS FALSE NEIGHBOUR: 'it returns false'. Refute it at one input. -/
def fnExactCacheCompleteWrong : ChangeSpec := { name := "fnExactCacheComplete", fn := fun _ => fun
  | [d1, d2, d3] => { results := [.lit (.bool false)], args := [d1, d2, d3] }
  | _ => none }
def FnExactCacheCompleteWrongFalsely : Prop := fnExactCacheCompleteRow.holds Try.pinned (OpenSpec.ofChange fnExactCacheCompleteWrong)

/-- 'laws.FnExactBroadcast': WHATEVER THE INPUT: true; the input reads as it did. -/
def fnExactBroadcastSpec : ChangeSpec := { name := "fnExactBroadcast", fn := fun _ => fun
  | [d1, d2, d3, d4] => { results := [.lit (.bool true)], args := [d1, d2, d3, d4] }
  | _ => none }
def fnExactBroadcastRow : OpenClaim := { program := "ytfcfdnmhpdgjfaa", sum := "fe99dad6f11985bc70a87f661275699959813dba1c0f8678fc2c083c844d1167", func := "loop.example/g00583/laws.FnExactBroadcast", spec := "fnExactBroadcast", unfollowed := true, recurses := true, apart := false }
def FnExactBroadcastSaid : Prop := fnExactBroadcastRow.holds Try.pinned (OpenSpec.ofChange fnExactBroadcastSpec)

/-- ITS FALSE NEIGHBOUR: 'it returns false'. Refute it at one input. -/
def fnExactBroadcastWrong : ChangeSpec := { name := "fnExactBroadcast", fn := fun _ => fun
  | [d1, d2, d3, d4] => { results := [.lit (.bool false)], args := [d1, d2, d3, d4] }
  | _ => none }
def FnExactBroadcastWrongFalsely : Prop := fnExactBroadcastRow.holds Try.pinned (OpenSpec.ofChange fnExactBroadcastWrong)

/- THE SECOND FORM. 'bulk': how many values and letters a reading holds, each counted each time it is reached (what is shared counts as often as it is met; a slice's spare places count too). A statement '..UptoSaid' is the law's where the arguments, and the package variables that the reading takes, are together of bulk at most 1048576: NARROWER than '..Said'. Prove '..Said' where nothing that the law and all that it calls make is longer than what came in: it says more and counts as full. Else prove '..UptoSaid'. A law counts once. -/
mutual
def uptoBulk {H : Type} : DataW H → Nat
  | .lit (.string bytes) => bytes.length + 1
  | .lit _ => 1
  | .nil => 1
  | .ptr d => uptoBulk d + 1
  | .slice elems spare => uptoBulkAll elems + uptoBulkAll spare + 1
  | .agg parts => uptoBulkAll parts + 1
  | .iface _ d => uptoBulk d + 1
  | .map entries => uptoBulkEntries entries + 1
  | .held _ => 1
def uptoBulkAll {H : Type} : List (DataW H) → Nat
  | [] => 0
  | d :: r => uptoBulk d + uptoBulkAll r
def uptoBulkEntries {H : Type} : List (Lit × DataW H) → Nat
  | [] => 0
  | x :: r => uptoBulkEntry x + uptoBulkEntries r
def uptoBulkEntry {H : Type} : Lit × DataW H → Nat
  | (.string bytes, d) => bytes.length + uptoBulk d + 1
  | (_, d) => uptoBulk d + 1
 end
def uptoSmall : (H : Type) → List (DataW H) → Bool := fun _ ds => decide (uptoBulkAll ds ≤ 1048576)
def OpenSpec.upto (s : _root_.Go.ChangeSpec) : _root_.Go.OpenSpec := { _root_.Go.OpenSpec.ofChange s with cond := some uptoSmall }

/-- 'laws.FnExactSiteNumber', WHERE WHAT IT READS IS OF BULK AT MOST 1048576: true; the input reads as it did. -/
def fnExactSiteNumberUptoRow : OpenClaim := { program := "ytfcfdnmhpdgjfaa", sum := "fe99dad6f11985bc70a87f661275699959813dba1c0f8678fc2c083c844d1167", func := "loop.example/g00583/laws.FnExactSiteNumber", spec := "fnExactSiteNumber", apart := false, narrowed := true }
def FnExactSiteNumberUptoSaid : Prop := fnExactSiteNumberUptoRow.holds Try.pinned (OpenSpec.upto fnExactSiteNumberSpec)

/-- 'laws.FnExactReceiveMail', WHERE WHAT IT READS IS OF BULK AT MOST 1048576: true; the input reads as it did. -/
def fnExactReceiveMailUptoRow : OpenClaim := { program := "ytfcfdnmhpdgjfaa", sum := "fe99dad6f11985bc70a87f661275699959813dba1c0f8678fc2c083c844d1167", func := "loop.example/g00583/laws.FnExactReceiveMail", spec := "fnExactReceiveMail", unfollowed := true, recurses := true, apart := false, narrowed := true }
def FnExactReceiveMailUptoSaid : Prop := fnExactReceiveMailUptoRow.holds Try.pinned (OpenSpec.upto fnExactReceiveMailSpec)

/-- 'laws.FnExactCanTalk', WHERE WHAT IT READS IS OF BULK AT MOST 1048576: true; the input reads as it did. -/
def fnExactCanTalkUptoRow : OpenClaim := { program := "ytfcfdnmhpdgjfaa", sum := "fe99dad6f11985bc70a87f661275699959813dba1c0f8678fc2c083c844d1167", func := "loop.example/g00583/laws.FnExactCanTalk", spec := "fnExactCanTalk", apart := false, narrowed := true }
def FnExactCanTalkUptoSaid : Prop := fnExactCanTalkUptoRow.holds Try.pinned (OpenSpec.upto fnExactCanTalkSpec)

/-- 'laws.FnChannels', WHERE WHAT IT READS IS OF BULK AT MOST 1048576: true; the input reads as it did. -/
def fnChannelsUptoRow : OpenClaim := { program := "ytfcfdnmhpdgjfaa", sum := "fe99dad6f11985bc70a87f661275699959813dba1c0f8678fc2c083c844d1167", func := "loop.example/g00583/laws.FnChannels", spec := "fnChannels", unfollowed := true, recurses := true, apart := false, narrowed := true }
def FnChannelsUptoSaid : Prop := fnChannelsUptoRow.holds Try.pinned (OpenSpec.upto fnChannelsSpec)

/-- 'laws.FnExactCacheComplete', WHERE WHAT IT READS IS OF BULK AT MOST 1048576: true; the input reads as it did. -/
def fnExactCacheCompleteUptoRow : OpenClaim := { program := "ytfcfdnmhpdgjfaa", sum := "fe99dad6f11985bc70a87f661275699959813dba1c0f8678fc2c083c844d1167", func := "loop.example/g00583/laws.FnExactCacheComplete", spec := "fnExactCacheComplete", unfollowed := true, recurses := true, apart := false, narrowed := true }
def FnExactCacheCompleteUptoSaid : Prop := fnExactCacheCompleteUptoRow.holds Try.pinned (OpenSpec.upto fnExactCacheCompleteSpec)

/-- 'laws.FnExactBroadcast', WHERE WHAT IT READS IS OF BULK AT MOST 1048576: true; the input reads as it did. -/
def fnExactBroadcastUptoRow : OpenClaim := { program := "ytfcfdnmhpdgjfaa", sum := "fe99dad6f11985bc70a87f661275699959813dba1c0f8678fc2c083c844d1167", func := "loop.example/g00583/laws.FnExactBroadcast", spec := "fnExactBroadcast", unfollowed := true, recurses := true, apart := false, narrowed := true }
def FnExactBroadcastUptoSaid : Prop := fnExactBroadcastUptoRow.holds Try.pinned (OpenSpec.upto fnExactBroadcastSpec)

end Rows
end Go.Proofs.Ytfcfdnmhpdgjfaa
