/-
  No cell of these rows narrows 'for every input' (looked for: loops, veiled, ifaces, maps, wideKeys, modest, calm, conditions, laid).
  DERIVED. THE GIVEN ROWS OF THIS SEAT. 5 by the template 'for every input the law returns true; each argument reads behind the call as it read before'; 0 by the template 'total and deterministic' (their statements: YtnhpbpnhmapeeaaGreatTotals.lean).
  GIVEN WITH THE SEED: the statements are not yours to turn. If you find one false, say at which input.
  Laid BY PROGRAM, IN A SANDBOX (cutbox-rows.mjs): the forced cells as the released guide's own fill.sh prints them over the translation 03ad60113a61bcbe… (all of the seat's roots in one cut). By AI agents, Wed Nov 11 2026. No macro, syntax, notation, axiom, sorry.
-/
import Derived.Test.YtnhpbpnhmapeeaaGreatChecked
import GoSem.Claim
import GoSem.ClaimJoined
import GoSem.ClaimMapViews
import Derived.JoinedTies
import Derived.KernelRfl
namespace Go.Proofs.YtnhpbpnhmapeeaaGreat
/- THE CELL 'sum', in the pinned program and in every row, IS THE sha256 OF THE DUMP (.gsa) THAT YtnhpbpnhmapeeaaGreatProg.lean LOADS. Nothing in Lean hashes anything: it is a label: what it is worth is what the hold of that sum in a sandbox is worth. -/
noncomputable def Tryz.pinned : Pinned := { name := "ytnhpbpnhmapeeaagreat", sum := "03ad60113a61bcbe8f62ce3e284fb60af30b311feb79ed75c89ed2c9097960df", checked := Tryz.checked }
namespace Rows
def none {H : Type} : Left H := { results := [], args := [] }

/-- 'laws.FnSharedLocks': WHATEVER THE INPUT: true; the input reads as it did. -/
def fnSharedLocksSpec : ChangeSpec := { name := "fnSharedLocks", fn := fun _ => fun
  | [d] => { results := [.lit (.bool true)], args := [d] }
  | _ => none }
def fnSharedLocksRow : OpenClaim := { program := "ytnhpbpnhmapeeaagreat", sum := "03ad60113a61bcbe8f62ce3e284fb60af30b311feb79ed75c89ed2c9097960df", func := "loop.example/g00583/laws.FnSharedLocks", spec := "fnSharedLocks", inPlace := ["internal/bytealg.abigen_runtime_cmpstring", "slices.overlaps[loop.example/g00583/impl.Item]"], unfollowed := true, recurses := true, apart := false }
def FnSharedLocksSaid : Prop := fnSharedLocksRow.holds Tryz.pinned (OpenSpec.ofChange fnSharedLocksSpec)

/-- ITS FALSE NEIGHBOUR: 'it returns false'. Refute it at one input. -/
def fnSharedLocksWrong : ChangeSpec := { name := "fnSharedLocks", fn := fun _ => fun
  | [d] => { results := [.lit (.bool false)], args := [d] }
  | _ => none }
def FnSharedLocksWrongFalsely : Prop := fnSharedLocksRow.holds Tryz.pinned (OpenSpec.ofChange fnSharedLocksWrong)

/-- 'laws.FnExactClosePage': WHATEVER THE INPUT: true; the input reads as it did. -/
def fnExactClosePageSpec : ChangeSpec := { name := "fnExactClosePage", fn := fun _ => fun
  | [d1, d2] => { results := [.lit (.bool true)], args := [d1, d2] }
  | _ => none }
def fnExactClosePageRow : OpenClaim := { program := "ytnhpbpnhmapeeaagreat", sum := "03ad60113a61bcbe8f62ce3e284fb60af30b311feb79ed75c89ed2c9097960df", func := "loop.example/g00583/laws.FnExactClosePage", spec := "fnExactClosePage", inPlace := ["internal/bytealg.abigen_runtime_cmpstring", "slices.overlaps[loop.example/g00583/impl.Item]"], unfollowed := true, recurses := true, apart := false }
def FnExactClosePageSaid : Prop := fnExactClosePageRow.holds Tryz.pinned (OpenSpec.ofChange fnExactClosePageSpec)

/-- ITS FALSE NEIGHBOUR: 'it returns false'. Refute it at one input. -/
def fnExactClosePageWrong : ChangeSpec := { name := "fnExactClosePage", fn := fun _ => fun
  | [d1, d2] => { results := [.lit (.bool false)], args := [d1, d2] }
  | _ => none }
def FnExactClosePageWrongFalsely : Prop := fnExactClosePageRow.holds Tryz.pinned (OpenSpec.ofChange fnExactClosePageWrong)

/-- 'laws.FnExactSendNote': WHATEVER THE INPUT: true; the input reads as it did. -/
def fnExactSendNoteSpec : ChangeSpec := { name := "fnExactSendNote", fn := fun _ => fun
  | [d1, d2, d3, d4, d5] => { results := [.lit (.bool true)], args := [d1, d2, d3, d4, d5] }
  | _ => none }
def fnExactSendNoteRow : OpenClaim := { program := "ytnhpbpnhmapeeaagreat", sum := "03ad60113a61bcbe8f62ce3e284fb60af30b311feb79ed75c89ed2c9097960df", func := "loop.example/g00583/laws.FnExactSendNote", spec := "fnExactSendNote", inPlace := ["slices.overlaps[loop.example/g00583/impl.Field]", "internal/bytealg.abigen_runtime_cmpstring", "slices.overlaps[loop.example/g00583/impl.Item]", "slices.overlaps[loop.example/g00583/impl.Bucket]"], unfollowed := true, recurses := true, apart := false }
def FnExactSendNoteSaid : Prop := fnExactSendNoteRow.holds Tryz.pinned (OpenSpec.ofChange fnExactSendNoteSpec)

/-- ITS FALSE NEIGHBOUR: 'it returns false'. Refute it at one input. -/
def fnExactSendNoteWrong : ChangeSpec := { name := "fnExactSendNote", fn := fun _ => fun
  | [d1, d2, d3, d4, d5] => { results := [.lit (.bool false)], args := [d1, d2, d3, d4, d5] }
  | _ => none }
def FnExactSendNoteWrongFalsely : Prop := fnExactSendNoteRow.holds Tryz.pinned (OpenSpec.ofChange fnExactSendNoteWrong)

/-- 'laws.FnExactActivateWorker': WHATEVER THE INPUT: true; the input reads as it did. -/
def fnExactActivateWorkerSpec : ChangeSpec := { name := "fnExactActivateWorker", fn := fun _ => fun
  | [d1, d2, d3] => { results := [.lit (.bool true)], args := [d1, d2, d3] }
  | _ => none }
def fnExactActivateWorkerRow : OpenClaim := { program := "ytnhpbpnhmapeeaagreat", sum := "03ad60113a61bcbe8f62ce3e284fb60af30b311feb79ed75c89ed2c9097960df", func := "loop.example/g00583/laws.FnExactActivateWorker", spec := "fnExactActivateWorker", inPlace := ["internal/bytealg.abigen_runtime_cmpstring", "slices.overlaps[loop.example/g00583/impl.Item]", "slices.overlaps[loop.example/g00583/impl.Bucket]"], unfollowed := true, recurses := true, apart := false }
def FnExactActivateWorkerSaid : Prop := fnExactActivateWorkerRow.holds Tryz.pinned (OpenSpec.ofChange fnExactActivateWorkerSpec)

/-- ITS FALSE NEIGHBOUR: 'it returns false'. Refute it at one input. -/
def fnExactActivateWorkerWrong : ChangeSpec := { name := "fnExactActivateWorker", fn := fun _ => fun
  | [d1, d2, d3] => { results := [.lit (.bool false)], args := [d1, d2, d3] }
  | _ => none }
def FnExactActivateWorkerWrongFalsely : Prop := fnExactActivateWorkerRow.holds Tryz.pinned (OpenSpec.ofChange fnExactActivateWorkerWrong)

/-- 'laws.FnExactOpenPage': WHATEVER THE INPUT: true; the input reads as it did. -/
def fnExactOpenPageSpec : ChangeSpec := { name := "fnExactOpenPage", fn := fun _ => fun
  | [d1, d2, d3, d4] => { results := [.lit (.bool true)], args := [d1, d2, d3, d4] }
  | _ => none }
def fnExactOpenPageRow : OpenClaim := { program := "ytnhpbpnhmapeeaagreat", sum := "03ad60113a61bcbe8f62ce3e284fb60af30b311feb79ed75c89ed2c9097960df", func := "loop.example/g00583/laws.FnExactOpenPage", spec := "fnExactOpenPage", inPlace := ["internal/bytealg.abigen_runtime_cmpstring", "slices.overlaps[loop.example/g00583/impl.Item]", "slices.overlaps[loop.example/g00583/impl.Bucket]"], unfollowed := true, recurses := true, apart := false }
def FnExactOpenPageSaid : Prop := fnExactOpenPageRow.holds Tryz.pinned (OpenSpec.ofChange fnExactOpenPageSpec)

/-- ITS FALSE NEIGHBOUR: 'it returns false'. Refute it at one input. -/
def fnExactOpenPageWrong : ChangeSpec := { name := "fnExactOpenPage", fn := fun _ => fun
  | [d1, d2, d3, d4] => { results := [.lit (.bool false)], args := [d1, d2, d3, d4] }
  | _ => none }
def FnExactOpenPageWrongFalsely : Prop := fnExactOpenPageRow.holds Tryz.pinned (OpenSpec.ofChange fnExactOpenPageWrong)

/- THE SECOND FORM. 'bulk': how many values and letters a reading holds, each counted each time it is reached (what is shared counts as often as it is met; a slice's spare places count too). A statement '..UptoSaid' is the law's where the arguments, and the package variables that the reading takes, are together of bulk at most 1048576: NARROWER than '..Said'. Prove '..Said' where nothing that the law and all that it calls make is longer than what came in: it says more and counts as full. Else prove '..UptoSaid'. A law counts once. -/
mutual
def uptoBulk {H : Type} : DataW H → Nat
  | .lit (.string bytes) => bytes.length + 1
  | .lit _ => 1
  | .nil => 1
  | .ptr d => uptoBulk d + 1
  | .slice elems spare => uptoBulkAll elems + uptoBulkAll spare + 1
  | .agg parts => uptoBulkAll parts + 1
  | .iface _ d => uptoBulk d + 1
  | .map entries => uptoBulkEntries entries + 1
  | .held _ => 1
def uptoBulkAll {H : Type} : List (DataW H) → Nat
  | [] => 0
  | d :: r => uptoBulk d + uptoBulkAll r
def uptoBulkEntries {H : Type} : List (Lit × DataW H) → Nat
  | [] => 0
  | x :: r => uptoBulkEntry x + uptoBulkEntries r
def uptoBulkEntry {H : Type} : Lit × DataW H → Nat
  | (.string bytes, d) => bytes.length + uptoBulk d + 1
  | (_, d) => uptoBulk d + 1
 end
def uptoSmall : (H : Type) → List (DataW H) → Bool := fun _ ds => decide (uptoBulkAll ds ≤ 1048576)
def OpenSpec.upto (s : _root_.Go.ChangeSpec) : _root_.Go.OpenSpec := { _root_.Go.OpenSpec.ofChange s with cond := some uptoSmall }

/-- 'laws.FnSharedLocks', WHERE WHAT IT READS IS OF BULK AT MOST 1048576: true; the input reads as it did. -/
def fnSharedLocksUptoRow : OpenClaim := { program := "ytnhpbpnhmapeeaagreat", sum := "03ad60113a61bcbe8f62ce3e284fb60af30b311feb79ed75c89ed2c9097960df", func := "loop.example/g00583/laws.FnSharedLocks", spec := "fnSharedLocks", inPlace := ["internal/bytealg.abigen_runtime_cmpstring", "slices.overlaps[loop.example/g00583/impl.Item]"], unfollowed := true, recurses := true, apart := false, narrowed := true }
def FnSharedLocksUptoSaid : Prop := fnSharedLocksUptoRow.holds Tryz.pinned (OpenSpec.upto fnSharedLocksSpec)

/-- 'laws.FnExactClosePage', WHERE WHAT IT READS IS OF BULK AT MOST 1048576: true; the input reads as it did. -/
def fnExactClosePageUptoRow : OpenClaim := { program := "ytnhpbpnhmapeeaagreat", sum := "03ad60113a61bcbe8f62ce3e284fb60af30b311feb79ed75c89ed2c9097960df", func := "loop.example/g00583/laws.FnExactClosePage", spec := "fnExactClosePage", inPlace := ["internal/bytealg.abigen_runtime_cmpstring", "slices.overlaps[loop.example/g00583/impl.Item]"], unfollowed := true, recurses := true, apart := false, narrowed := true }
def FnExactClosePageUptoSaid : Prop := fnExactClosePageUptoRow.holds Tryz.pinned (OpenSpec.upto fnExactClosePageSpec)

/-- 'laws.FnExactSendNote', WHERE WHAT IT READS IS OF BULK AT MOST 1048576: true; the input reads as it did. -/
def fnExactSendNoteUptoRow : OpenClaim := { program := "ytnhpbpnhmapeeaagreat", sum := "03ad60113a61bcbe8f62ce3e284fb60af30b311feb79ed75c89ed2c9097960df", func := "loop.example/g00583/laws.FnExactSendNote", spec := "fnExactSendNote", inPlace := ["slices.overlaps[loop.example/g00583/impl.Field]", "internal/bytealg.abigen_runtime_cmpstring", "slices.overlaps[loop.example/g00583/impl.Item]", "slices.overlaps[loop.example/g00583/impl.Bucket]"], unfollowed := true, recurses := true, apart := false, narrowed := true }
def FnExactSendNoteUptoSaid : Prop := fnExactSendNoteUptoRow.holds Tryz.pinned (OpenSpec.upto fnExactSendNoteSpec)

/-- 'laws.FnExactActivateWorker', WHERE WHAT IT READS IS OF BULK AT MOST 1048576: true; the input reads as it did. -/
def fnExactActivateWorkerUptoRow : OpenClaim := { program := "ytnhpbpnhmapeeaagreat", sum := "03ad60113a61bcbe8f62ce3e284fb60af30b311feb79ed75c89ed2c9097960df", func := "loop.example/g00583/laws.FnExactActivateWorker", spec := "fnExactActivateWorker", inPlace := ["internal/bytealg.abigen_runtime_cmpstring", "slices.overlaps[loop.example/g00583/impl.Item]", "slices.overlaps[loop.example/g00583/impl.Bucket]"], unfollowed := true, recurses := true, apart := false, narrowed := true }
def FnExactActivateWorkerUptoSaid : Prop := fnExactActivateWorkerUptoRow.holds Tryz.pinned (OpenSpec.upto fnExactActivateWorkerSpec)

/-- 'laws.FnExactOpenPage', WHERE WHAT IT READS IS OF BULK AT MOST 1048576: true; the input reads as it did. -/
def fnExactOpenPageUptoRow : OpenClaim := { program := "ytnhpbpnhmapeeaagreat", sum := "03ad60113a61bcbe8f62ce3e284fb60af30b311feb79ed75c89ed2c9097960df", func := "loop.example/g00583/laws.FnExactOpenPage", spec := "fnExactOpenPage", inPlace := ["internal/bytealg.abigen_runtime_cmpstring", "slices.overlaps[loop.example/g00583/impl.Item]", "slices.overlaps[loop.example/g00583/impl.Bucket]"], unfollowed := true, recurses := true, apart := false, narrowed := true }
def FnExactOpenPageUptoSaid : Prop := fnExactOpenPageUptoRow.holds Tryz.pinned (OpenSpec.upto fnExactOpenPageSpec)

end Rows
end Go.Proofs.YtnhpbpnhmapeeaaGreat
