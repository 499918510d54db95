/-
  No cell of these rows narrows 'for every input' (looked for: loops, veiled, ifaces, maps, wideKeys, modest, calm, conditions, laid).
  DERIVED. THE GIVEN ROWS OF THIS SEAT. 11 by the template 'for every input the law returns true; each argument reads behind the call as it read before'; 0 by the template 'total and deterministic' (their statements: YtkggojngcnkabaaGreatTotals.lean).
  GIVEN WITH THE SEED: the statements are not yours to turn. If you find one false, say at which input.
  Laid BY PROGRAM, IN A SANDBOX (cutbox-rows.mjs): the forced cells as the released guide's own fill.sh prints them over the translation a0aea100998b0f73… (all of the seat's roots in one cut). By AI agents, Wed Nov 11 2026. No macro, syntax, notation, axiom, sorry.
-/
import Derived.Test.YtkggojngcnkabaaGreatChecked
import GoSem.Claim
import GoSem.ClaimJoined
import GoSem.ClaimMapViews
import Derived.JoinedTies
import Derived.KernelRfl
namespace Go.Proofs.YtkggojngcnkabaaGreat
/- THE CELL 'sum', in the pinned program and in every row, IS THE sha256 OF THE DUMP (.gsa) THAT YtkggojngcnkabaaGreatProg.lean LOADS. Nothing in Lean hashes anything: it is a label: what it is worth is what the hold of that sum in a sandbox is worth. -/
noncomputable def Tryz.pinned : Pinned := { name := "ytkggojngcnkabaagreat", sum := "a0aea100998b0f739571aa4a3fead917aa80712372720e365720c0e3d049a885", checked := Tryz.checked }
namespace Rows
def none {H : Type} : Left H := { results := [], args := [] }

/-- 'spolaw23.ActLeaves': WHATEVER THE INPUT: true; the input reads as it did. -/
def actLeavesSpec : ChangeSpec := { name := "actLeaves", fn := fun _ => fun
  | [d1, d2] => { results := [.lit (.bool true)], args := [d1, d2] }
  | _ => none }
def actLeavesRow : OpenClaim := { program := "ytkggojngcnkabaagreat", sum := "a0aea100998b0f739571aa4a3fead917aa80712372720e365720c0e3d049a885", func := "spolia/spolaw23.ActLeaves", spec := "actLeaves", inPlace := ["math.Float64bits"], unfollowed := true, recurses := true, apart := false }
def ActLeavesSaid : Prop := actLeavesRow.holds Tryz.pinned (OpenSpec.ofChange actLeavesSpec)

/-- ITS FALSE NEIGHBOUR: 'it returns false'. Refute it at one input. -/
def actLeavesWrong : ChangeSpec := { name := "actLeaves", fn := fun _ => fun
  | [d1, d2] => { results := [.lit (.bool false)], args := [d1, d2] }
  | _ => none }
def ActLeavesWrongFalsely : Prop := actLeavesRow.holds Tryz.pinned (OpenSpec.ofChange actLeavesWrong)

/-- 'spolaw23.ActBarrier': WHATEVER THE INPUT: true; the input reads as it did. -/
def actBarrierSpec : ChangeSpec := { name := "actBarrier", fn := fun _ => fun
  | [d] => { results := [.lit (.bool true)], args := [d] }
  | _ => none }
def actBarrierRow : OpenClaim := { program := "ytkggojngcnkabaagreat", sum := "a0aea100998b0f739571aa4a3fead917aa80712372720e365720c0e3d049a885", func := "spolia/spolaw23.ActBarrier", spec := "actBarrier", inPlace := ["math.Float64bits"], unfollowed := true, recurses := true, apart := false }
def ActBarrierSaid : Prop := actBarrierRow.holds Tryz.pinned (OpenSpec.ofChange actBarrierSpec)

/-- ITS FALSE NEIGHBOUR: 'it returns false'. Refute it at one input. -/
def actBarrierWrong : ChangeSpec := { name := "actBarrier", fn := fun _ => fun
  | [d] => { results := [.lit (.bool false)], args := [d] }
  | _ => none }
def ActBarrierWrongFalsely : Prop := actBarrierRow.holds Tryz.pinned (OpenSpec.ofChange actBarrierWrong)

/-- 'spolaw23.ActColours': WHATEVER THE INPUT: true; the input reads as it did. -/
def actColoursSpec : ChangeSpec := { name := "actColours", fn := fun _ => fun
  | [d] => { results := [.lit (.bool true)], args := [d] }
  | _ => none }
def actColoursRow : OpenClaim := { program := "ytkggojngcnkabaagreat", sum := "a0aea100998b0f739571aa4a3fead917aa80712372720e365720c0e3d049a885", func := "spolia/spolaw23.ActColours", spec := "actColours", inPlace := ["math.Float64bits"], unfollowed := true, recurses := true, apart := false }
def ActColoursSaid : Prop := actColoursRow.holds Tryz.pinned (OpenSpec.ofChange actColoursSpec)

/-- ITS FALSE NEIGHBOUR: 'it returns false'. Refute it at one input. -/
def actColoursWrong : ChangeSpec := { name := "actColours", fn := fun _ => fun
  | [d] => { results := [.lit (.bool false)], args := [d] }
  | _ => none }
def ActColoursWrongFalsely : Prop := actColoursRow.holds Tryz.pinned (OpenSpec.ofChange actColoursWrong)

/-- 'spolaw24.CycleWaits': WHATEVER THE INPUT: true; the input reads as it did. -/
def cycleWaitsSpec : ChangeSpec := { name := "cycleWaits", fn := fun _ => fun
  | [d] => { results := [.lit (.bool true)], args := [d] }
  | _ => none }
def cycleWaitsRow : OpenClaim := { program := "ytkggojngcnkabaagreat", sum := "a0aea100998b0f739571aa4a3fead917aa80712372720e365720c0e3d049a885", func := "spolia/spolaw24.CycleWaits", spec := "cycleWaits", inPlace := ["math.Float64bits"], unfollowed := true, recurses := true, apart := false }
def CycleWaitsSaid : Prop := cycleWaitsRow.holds Tryz.pinned (OpenSpec.ofChange cycleWaitsSpec)

/-- ITS FALSE NEIGHBOUR: 'it returns false'. Refute it at one input. -/
def cycleWaitsWrong : ChangeSpec := { name := "cycleWaits", fn := fun _ => fun
  | [d] => { results := [.lit (.bool false)], args := [d] }
  | _ => none }
def CycleWaitsWrongFalsely : Prop := cycleWaitsRow.holds Tryz.pinned (OpenSpec.ofChange cycleWaitsWrong)

/-- 'spolaw24.CycleLists': WHATEVER THE INPUT: true; the input reads as it did. -/
def cycleListsSpec : ChangeSpec := { name := "cycleLists", fn := fun _ => fun
  | [d1, d2] => { results := [.lit (.bool true)], args := [d1, d2] }
  | _ => none }
def cycleListsRow : OpenClaim := { program := "ytkggojngcnkabaagreat", sum := "a0aea100998b0f739571aa4a3fead917aa80712372720e365720c0e3d049a885", func := "spolia/spolaw24.CycleLists", spec := "cycleLists", inPlace := ["math.Float64bits"], unfollowed := true, recurses := true, apart := false }
def CycleListsSaid : Prop := cycleListsRow.holds Tryz.pinned (OpenSpec.ofChange cycleListsSpec)

/-- ITS FALSE NEIGHBOUR: 'it returns false'. Refute it at one input. -/
def cycleListsWrong : ChangeSpec := { name := "cycleLists", fn := fun _ => fun
  | [d1, d2] => { results := [.lit (.bool false)], args := [d1, d2] }
  | _ => none }
def CycleListsWrongFalsely : Prop := cycleListsRow.holds Tryz.pinned (OpenSpec.ofChange cycleListsWrong)

/-- 'spolaw24.CycleFat': WHATEVER THE INPUT: true; the input reads as it did. -/
def cycleFatSpec : ChangeSpec := { name := "cycleFat", fn := fun _ => fun
  | [d1, d2] => { results := [.lit (.bool true)], args := [d1, d2] }
  | _ => none }
def cycleFatRow : OpenClaim := { program := "ytkggojngcnkabaagreat", sum := "a0aea100998b0f739571aa4a3fead917aa80712372720e365720c0e3d049a885", func := "spolia/spolaw24.CycleFat", spec := "cycleFat", inPlace := ["math.Float64bits"], unfollowed := true, recurses := true, apart := false }
def CycleFatSaid : Prop := cycleFatRow.holds Tryz.pinned (OpenSpec.ofChange cycleFatSpec)

/-- ITS FALSE NEIGHBOUR: 'it returns false'. Refute it at one input. -/
def cycleFatWrong : ChangeSpec := { name := "cycleFat", fn := fun _ => fun
  | [d1, d2] => { results := [.lit (.bool false)], args := [d1, d2] }
  | _ => none }
def CycleFatWrongFalsely : Prop := cycleFatRow.holds Tryz.pinned (OpenSpec.ofChange cycleFatWrong)

/-- 'spolaw25.HeapQuiet': WHATEVER THE INPUT: true; the input reads as it did. -/
def heapQuietSpec : ChangeSpec := { name := "heapQuiet", fn := fun _ => fun
  | [d1, d2] => { results := [.lit (.bool true)], args := [d1, d2] }
  | _ => none }
def heapQuietRow : OpenClaim := { program := "ytkggojngcnkabaagreat", sum := "a0aea100998b0f739571aa4a3fead917aa80712372720e365720c0e3d049a885", func := "spolia/spolaw25.HeapQuiet", spec := "heapQuiet", inPlace := ["math.Float64bits"], unfollowed := true, recurses := true, apart := false }
def HeapQuietSaid : Prop := heapQuietRow.holds Tryz.pinned (OpenSpec.ofChange heapQuietSpec)

/-- ITS FALSE NEIGHBOUR: 'it returns false'. Refute it at one input. -/
def heapQuietWrong : ChangeSpec := { name := "heapQuiet", fn := fun _ => fun
  | [d1, d2] => { results := [.lit (.bool false)], args := [d1, d2] }
  | _ => none }
def HeapQuietWrongFalsely : Prop := heapQuietRow.holds Tryz.pinned (OpenSpec.ofChange heapQuietWrong)

/-- 'spolaw25.HeapFull': WHATEVER THE INPUT: true; the input reads as it did. -/
def heapFullSpec : ChangeSpec := { name := "heapFull", fn := fun _ => fun
  | [d] => { results := [.lit (.bool true)], args := [d] }
  | _ => none }
def heapFullRow : OpenClaim := { program := "ytkggojngcnkabaagreat", sum := "a0aea100998b0f739571aa4a3fead917aa80712372720e365720c0e3d049a885", func := "spolia/spolaw25.HeapFull", spec := "heapFull", inPlace := ["math.Float64bits"], unfollowed := true, recurses := true, apart := false }
def HeapFullSaid : Prop := heapFullRow.holds Tryz.pinned (OpenSpec.ofChange heapFullSpec)

/-- ITS FALSE NEIGHBOUR: 'it returns false'. Refute it at one input. -/
def heapFullWrong : ChangeSpec := { name := "heapFull", fn := fun _ => fun
  | [d] => { results := [.lit (.bool false)], args := [d] }
  | _ => none }
def HeapFullWrongFalsely : Prop := heapFullRow.holds Tryz.pinned (OpenSpec.ofChange heapFullWrong)

/-- 'spolaw26.AuditThings': WHATEVER THE INPUT: true; the input reads as it did. -/
def auditThingsSpec : ChangeSpec := { name := "auditThings", fn := fun _ => fun
  | [d1, d2] => { results := [.lit (.bool true)], args := [d1, d2] }
  | _ => none }
def auditThingsRow : OpenClaim := { program := "ytkggojngcnkabaagreat", sum := "a0aea100998b0f739571aa4a3fead917aa80712372720e365720c0e3d049a885", func := "spolia/spolaw26.AuditThings", spec := "auditThings", inPlace := ["math.Float64bits"], unfollowed := true, recurses := true, apart := false }
def AuditThingsSaid : Prop := auditThingsRow.holds Tryz.pinned (OpenSpec.ofChange auditThingsSpec)

/-- ITS FALSE NEIGHBOUR: 'it returns false'. Refute it at one input. -/
def auditThingsWrong : ChangeSpec := { name := "auditThings", fn := fun _ => fun
  | [d1, d2] => { results := [.lit (.bool false)], args := [d1, d2] }
  | _ => none }
def AuditThingsWrongFalsely : Prop := auditThingsRow.holds Tryz.pinned (OpenSpec.ofChange auditThingsWrong)

/-- 'spolaw26.AuditGone': WHATEVER THE INPUT: true; the input reads as it did. -/
def auditGoneSpec : ChangeSpec := { name := "auditGone", fn := fun _ => fun
  | [d1, d2] => { results := [.lit (.bool true)], args := [d1, d2] }
  | _ => none }
def auditGoneRow : OpenClaim := { program := "ytkggojngcnkabaagreat", sum := "a0aea100998b0f739571aa4a3fead917aa80712372720e365720c0e3d049a885", func := "spolia/spolaw26.AuditGone", spec := "auditGone", inPlace := ["math.Float64bits"], unfollowed := true, recurses := true, apart := false }
def AuditGoneSaid : Prop := auditGoneRow.holds Tryz.pinned (OpenSpec.ofChange auditGoneSpec)

/-- ITS FALSE NEIGHBOUR: 'it returns false'. Refute it at one input. -/
def auditGoneWrong : ChangeSpec := { name := "auditGone", fn := fun _ => fun
  | [d1, d2] => { results := [.lit (.bool false)], args := [d1, d2] }
  | _ => none }
def AuditGoneWrongFalsely : Prop := auditGoneRow.holds Tryz.pinned (OpenSpec.ofChange auditGoneWrong)

/-- 'spotop.TopTale': WHATEVER THE INPUT: true; the input reads as it did. -/
def topTaleSpec : ChangeSpec := { name := "topTale", fn := fun _ => fun
  | [d1, d2, d3, d4, d5] => { results := [.lit (.bool true)], args := [d1, d2, d3, d4, d5] }
  | _ => none }
def topTaleRow : OpenClaim := { program := "ytkggojngcnkabaagreat", sum := "a0aea100998b0f739571aa4a3fead917aa80712372720e365720c0e3d049a885", func := "spolia/spotop.TopTale", spec := "topTale", inPlace := ["math.Float64bits"], unfollowed := true, recurses := true, apart := false }
def TopTaleSaid : Prop := topTaleRow.holds Tryz.pinned (OpenSpec.ofChange topTaleSpec)

/-- ITS FALSE NEIGHBOUR: 'it returns false'. Refute it at one input. -/
def topTaleWrong : ChangeSpec := { name := "topTale", fn := fun _ => fun
  | [d1, d2, d3, d4, d5] => { results := [.lit (.bool false)], args := [d1, d2, d3, d4, d5] }
  | _ => none }
def TopTaleWrongFalsely : Prop := topTaleRow.holds Tryz.pinned (OpenSpec.ofChange topTaleWrong)

/- THE SECOND FORM. 'bulk': how many values and letters a reading holds, each counted each time it is reached (what is shared counts as often as it is met; a slice's spare places count too). A statement '..UptoSaid' is the law's where the arguments, and the package variables that the reading takes, are together of bulk at most 1048576: NARROWER than '..Said'. Prove '..Said' where nothing that the law and all that it calls make is longer than what came in: it says more and counts as full. Else prove '..UptoSaid'. A law counts once. -/
mutual
def uptoBulk {H : Type} : DataW H → Nat
  | .lit (.string bytes) => bytes.length + 1
  | .lit _ => 1
  | .nil => 1
  | .ptr d => uptoBulk d + 1
  | .slice elems spare => uptoBulkAll elems + uptoBulkAll spare + 1
  | .agg parts => uptoBulkAll parts + 1
  | .iface _ d => uptoBulk d + 1
  | .map entries => uptoBulkEntries entries + 1
  | .held _ => 1
def uptoBulkAll {H : Type} : List (DataW H) → Nat
  | [] => 0
  | d :: r => uptoBulk d + uptoBulkAll r
def uptoBulkEntries {H : Type} : List (Lit × DataW H) → Nat
  | [] => 0
  | x :: r => uptoBulkEntry x + uptoBulkEntries r
def uptoBulkEntry {H : Type} : Lit × DataW H → Nat
  | (.string bytes, d) => bytes.length + uptoBulk d + 1
  | (_, d) => uptoBulk d + 1
 end
def uptoSmall : (H : Type) → List (DataW H) → Bool := fun _ ds => decide (uptoBulkAll ds ≤ 1048576)
def OpenSpec.upto (s : _root_.Go.ChangeSpec) : _root_.Go.OpenSpec := { _root_.Go.OpenSpec.ofChange s with cond := some uptoSmall }

/-- 'spolaw23.ActLeaves', WHERE WHAT IT READS IS OF BULK AT MOST 1048576: true; the input reads as it did. -/
def actLeavesUptoRow : OpenClaim := { program := "ytkggojngcnkabaagreat", sum := "a0aea100998b0f739571aa4a3fead917aa80712372720e365720c0e3d049a885", func := "spolia/spolaw23.ActLeaves", spec := "actLeaves", inPlace := ["math.Float64bits"], unfollowed := true, recurses := true, apart := false, narrowed := true }
def ActLeavesUptoSaid : Prop := actLeavesUptoRow.holds Tryz.pinned (OpenSpec.upto actLeavesSpec)

/-- 'spolaw23.ActBarrier', WHERE WHAT IT READS IS OF BULK AT MOST 1048576: true; the input reads as it did. -/
def actBarrierUptoRow : OpenClaim := { program := "ytkggojngcnkabaagreat", sum := "a0aea100998b0f739571aa4a3fead917aa80712372720e365720c0e3d049a885", func := "spolia/spolaw23.ActBarrier", spec := "actBarrier", inPlace := ["math.Float64bits"], unfollowed := true, recurses := true, apart := false, narrowed := true }
def ActBarrierUptoSaid : Prop := actBarrierUptoRow.holds Tryz.pinned (OpenSpec.upto actBarrierSpec)

/-- 'spolaw23.ActColours', WHERE WHAT IT READS IS OF BULK AT MOST 1048576: true; the input reads as it did. -/
def actColoursUptoRow : OpenClaim := { program := "ytkggojngcnkabaagreat", sum := "a0aea100998b0f739571aa4a3fead917aa80712372720e365720c0e3d049a885", func := "spolia/spolaw23.ActColours", spec := "actColours", inPlace := ["math.Float64bits"], unfollowed := true, recurses := true, apart := false, narrowed := true }
def ActColoursUptoSaid : Prop := actColoursUptoRow.holds Tryz.pinned (OpenSpec.upto actColoursSpec)

/-- 'spolaw24.CycleWaits', WHERE WHAT IT READS IS OF BULK AT MOST 1048576: true; the input reads as it did. -/
def cycleWaitsUptoRow : OpenClaim := { program := "ytkggojngcnkabaagreat", sum := "a0aea100998b0f739571aa4a3fead917aa80712372720e365720c0e3d049a885", func := "spolia/spolaw24.CycleWaits", spec := "cycleWaits", inPlace := ["math.Float64bits"], unfollowed := true, recurses := true, apart := false, narrowed := true }
def CycleWaitsUptoSaid : Prop := cycleWaitsUptoRow.holds Tryz.pinned (OpenSpec.upto cycleWaitsSpec)

/-- 'spolaw24.CycleLists', WHERE WHAT IT READS IS OF BULK AT MOST 1048576: true; the input reads as it did. -/
def cycleListsUptoRow : OpenClaim := { program := "ytkggojngcnkabaagreat", sum := "a0aea100998b0f739571aa4a3fead917aa80712372720e365720c0e3d049a885", func := "spolia/spolaw24.CycleLists", spec := "cycleLists", inPlace := ["math.Float64bits"], unfollowed := true, recurses := true, apart := false, narrowed := true }
def CycleListsUptoSaid : Prop := cycleListsUptoRow.holds Tryz.pinned (OpenSpec.upto cycleListsSpec)

/-- 'spolaw24.CycleFat', WHERE WHAT IT READS IS OF BULK AT MOST 1048576: true; the input reads as it did. -/
def cycleFatUptoRow : OpenClaim := { program := "ytkggojngcnkabaagreat", sum := "a0aea100998b0f739571aa4a3fead917aa80712372720e365720c0e3d049a885", func := "spolia/spolaw24.CycleFat", spec := "cycleFat", inPlace := ["math.Float64bits"], unfollowed := true, recurses := true, apart := false, narrowed := true }
def CycleFatUptoSaid : Prop := cycleFatUptoRow.holds Tryz.pinned (OpenSpec.upto cycleFatSpec)

/-- 'spolaw25.HeapQuiet', WHERE WHAT IT READS IS OF BULK AT MOST 1048576: true; the input reads as it did. -/
def heapQuietUptoRow : OpenClaim := { program := "ytkggojngcnkabaagreat", sum := "a0aea100998b0f739571aa4a3fead917aa80712372720e365720c0e3d049a885", func := "spolia/spolaw25.HeapQuiet", spec := "heapQuiet", inPlace := ["math.Float64bits"], unfollowed := true, recurses := true, apart := false, narrowed := true }
def HeapQuietUptoSaid : Prop := heapQuietUptoRow.holds Tryz.pinned (OpenSpec.upto heapQuietSpec)

/-- 'spolaw25.HeapFull', WHERE WHAT IT READS IS OF BULK AT MOST 1048576: true; the input reads as it did. -/
def heapFullUptoRow : OpenClaim := { program := "ytkggojngcnkabaagreat", sum := "a0aea100998b0f739571aa4a3fead917aa80712372720e365720c0e3d049a885", func := "spolia/spolaw25.HeapFull", spec := "heapFull", inPlace := ["math.Float64bits"], unfollowed := true, recurses := true, apart := false, narrowed := true }
def HeapFullUptoSaid : Prop := heapFullUptoRow.holds Tryz.pinned (OpenSpec.upto heapFullSpec)

/-- 'spolaw26.AuditThings', WHERE WHAT IT READS IS OF BULK AT MOST 1048576: true; the input reads as it did. -/
def auditThingsUptoRow : OpenClaim := { program := "ytkggojngcnkabaagreat", sum := "a0aea100998b0f739571aa4a3fead917aa80712372720e365720c0e3d049a885", func := "spolia/spolaw26.AuditThings", spec := "auditThings", inPlace := ["math.Float64bits"], unfollowed := true, recurses := true, apart := false, narrowed := true }
def AuditThingsUptoSaid : Prop := auditThingsUptoRow.holds Tryz.pinned (OpenSpec.upto auditThingsSpec)

/-- 'spolaw26.AuditGone', WHERE WHAT IT READS IS OF BULK AT MOST 1048576: true; the input reads as it did. -/
def auditGoneUptoRow : OpenClaim := { program := "ytkggojngcnkabaagreat", sum := "a0aea100998b0f739571aa4a3fead917aa80712372720e365720c0e3d049a885", func := "spolia/spolaw26.AuditGone", spec := "auditGone", inPlace := ["math.Float64bits"], unfollowed := true, recurses := true, apart := false, narrowed := true }
def AuditGoneUptoSaid : Prop := auditGoneUptoRow.holds Tryz.pinned (OpenSpec.upto auditGoneSpec)

/-- 'spotop.TopTale', WHERE WHAT IT READS IS OF BULK AT MOST 1048576: true; the input reads as it did. -/
def topTaleUptoRow : OpenClaim := { program := "ytkggojngcnkabaagreat", sum := "a0aea100998b0f739571aa4a3fead917aa80712372720e365720c0e3d049a885", func := "spolia/spotop.TopTale", spec := "topTale", inPlace := ["math.Float64bits"], unfollowed := true, recurses := true, apart := false, narrowed := true }
def TopTaleUptoSaid : Prop := topTaleUptoRow.holds Tryz.pinned (OpenSpec.upto topTaleSpec)

end Rows
end Go.Proofs.YtkggojngcnkabaaGreat
