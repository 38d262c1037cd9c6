/-
  No cell of these rows narrows 'for every input' (looked for: loops, veiled, ifaces, maps, wideKeys, modest, calm, conditions, laid).
  DERIVED. THE GIVEN ROWS OF THIS SEAT. 6 by the template 'for every input the law returns true; each argument reads behind the call as it read before'; 0 by the template 'total and deterministic' (their statements: YtkibnncghhelnaaTotals.lean).
  GIVEN WITH THE SEED: the statements are not yours to turn. If you find one false, say at which input.
  Laid BY PROGRAM, IN A SANDBOX (cutbox-rows.mjs): the forced cells as the released guide's own fill.sh prints them over the translation b6b6d2a84e329a00… (all of the seat's roots in one cut). By AI agents, Wed Nov 11 2026. No macro, syntax, notation, axiom, sorry.
-/
import Derived.Test.YtkibnncghhelnaaChecked
import GoSem.Claim
import GoSem.ClaimJoined
import GoSem.ClaimMapViews
import Derived.JoinedTies
import Derived.KernelRfl
namespace Go.Proofs.Ytkibnncghhelnaa
/- THE CELL 'sum', in the pinned program and in every row, IS THE sha256 OF THE DUMP (.gsa) THAT YtkibnncghhelnaaProg.lean LOADS. Nothing in Lean hashes anything: it is a label: what it is worth is what the hold of that sum in a sandbox is worth. -/
noncomputable def Try.pinned : Pinned := { name := "ytkibnncghhelnaa", sum := "b6b6d2a84e329a004e7e8166117e34543f10b0d6f46e48f8919cd06ede81613f", checked := Try.checked }
namespace Rows
def none {H : Type} : Left H := { results := [], args := [] }

/-- 'laws.FnExactVisitTimes': WHATEVER THE INPUT: true; the input reads as it did. -/
def fnExactVisitTimesSpec : ChangeSpec := { name := "fnExactVisitTimes", fn := fun _ => fun
  | [d1, d2, d3] => { results := [.lit (.bool true)], args := [d1, d2, d3] }
  | _ => none }
def fnExactVisitTimesRow : OpenClaim := { program := "ytkibnncghhelnaa", sum := "b6b6d2a84e329a004e7e8166117e34543f10b0d6f46e48f8919cd06ede81613f", func := "loop.example/g01148/laws.FnExactVisitTimes", spec := "fnExactVisitTimes", unfollowed := true, recurses := true, apart := false }
def FnExactVisitTimesSaid : Prop := fnExactVisitTimesRow.holds Try.pinned (OpenSpec.ofChange fnExactVisitTimesSpec)

/-- ITS FALSE NEIGHBOUR: 'it returns false'. Refute it at one input. -/
def fnExactVisitTimesWrong : ChangeSpec := { name := "fnExactVisitTimes", fn := fun _ => fun
  | [d1, d2, d3] => { results := [.lit (.bool false)], args := [d1, d2, d3] }
  | _ => none }
def FnExactVisitTimesWrongFalsely : Prop := fnExactVisitTimesRow.holds Try.pinned (OpenSpec.ofChange fnExactVisitTimesWrong)

/-- 'laws.FnExactIdleTimes': WHATEVER THE INPUT: true; the input reads as it did. -/
def fnExactIdleTimesSpec : ChangeSpec := { name := "fnExactIdleTimes", fn := fun _ => fun
  | [d1, d2] => { results := [.lit (.bool true)], args := [d1, d2] }
  | _ => none }
def fnExactIdleTimesRow : OpenClaim := { program := "ytkibnncghhelnaa", sum := "b6b6d2a84e329a004e7e8166117e34543f10b0d6f46e48f8919cd06ede81613f", func := "loop.example/g01148/laws.FnExactIdleTimes", spec := "fnExactIdleTimes", unfollowed := true, recurses := true, apart := false }
def FnExactIdleTimesSaid : Prop := fnExactIdleTimesRow.holds Try.pinned (OpenSpec.ofChange fnExactIdleTimesSpec)

/-- ITS FALSE NEIGHBOUR: 'it returns false'. Refute it at one input. -/
def fnExactIdleTimesWrong : ChangeSpec := { name := "fnExactIdleTimes", fn := fun _ => fun
  | [d1, d2] => { results := [.lit (.bool false)], args := [d1, d2] }
  | _ => none }
def FnExactIdleTimesWrongFalsely : Prop := fnExactIdleTimesRow.holds Try.pinned (OpenSpec.ofChange fnExactIdleTimesWrong)

/-- 'laws.FnExactPauseOf': WHATEVER THE INPUT: true; the input reads as it did. -/
def fnExactPauseOfSpec : ChangeSpec := { name := "fnExactPauseOf", fn := fun _ => fun
  | [d1, d2] => { results := [.lit (.bool true)], args := [d1, d2] }
  | _ => none }
def fnExactPauseOfRow : OpenClaim := { program := "ytkibnncghhelnaa", sum := "b6b6d2a84e329a004e7e8166117e34543f10b0d6f46e48f8919cd06ede81613f", func := "loop.example/g01148/laws.FnExactPauseOf", spec := "fnExactPauseOf", unfollowed := true, recurses := true, apart := false }
def FnExactPauseOfSaid : Prop := fnExactPauseOfRow.holds Try.pinned (OpenSpec.ofChange fnExactPauseOfSpec)

/-- ITS FALSE NEIGHBOUR: 'it returns false'. Refute it at one input. -/
def fnExactPauseOfWrong : ChangeSpec := { name := "fnExactPauseOf", fn := fun _ => fun
  | [d1, d2] => { results := [.lit (.bool false)], args := [d1, d2] }
  | _ => none }
def FnExactPauseOfWrongFalsely : Prop := fnExactPauseOfRow.holds Try.pinned (OpenSpec.ofChange fnExactPauseOfWrong)

/-- 'laws.FnExactGuardsNeeded': WHATEVER THE INPUT: true; the input reads as it did. -/
def fnExactGuardsNeededSpec : ChangeSpec := { name := "fnExactGuardsNeeded", fn := fun _ => fun
  | [d1, d2] => { results := [.lit (.bool true)], args := [d1, d2] }
  | _ => none }
def fnExactGuardsNeededRow : OpenClaim := { program := "ytkibnncghhelnaa", sum := "b6b6d2a84e329a004e7e8166117e34543f10b0d6f46e48f8919cd06ede81613f", func := "loop.example/g01148/laws.FnExactGuardsNeeded", spec := "fnExactGuardsNeeded", unfollowed := true, recurses := true, apart := false }
def FnExactGuardsNeededSaid : Prop := fnExactGuardsNeededRow.holds Try.pinned (OpenSpec.ofChange fnExactGuardsNeededSpec)

/-- ITS FALSE NEIGHBOUR: 'it returns false'. Refute it at one input. -/
def fnExactGuardsNeededWrong : ChangeSpec := { name := "fnExactGuardsNeeded", fn := fun _ => fun
  | [d1, d2] => { results := [.lit (.bool false)], args := [d1, d2] }
  | _ => none }
def FnExactGuardsNeededWrongFalsely : Prop := fnExactGuardsNeededRow.holds Try.pinned (OpenSpec.ofChange fnExactGuardsNeededWrong)

/-- 'laws.FnExactOrderReach': WHATEVER THE INPUT: true; the input reads as it did. -/
def fnExactOrderReachSpec : ChangeSpec := { name := "fnExactOrderReach", fn := fun _ => fun
  | [d1, d2, d3, d4] => { results := [.lit (.bool true)], args := [d1, d2, d3, d4] }
  | _ => none }
def fnExactOrderReachRow : OpenClaim := { program := "ytkibnncghhelnaa", sum := "b6b6d2a84e329a004e7e8166117e34543f10b0d6f46e48f8919cd06ede81613f", func := "loop.example/g01148/laws.FnExactOrderReach", spec := "fnExactOrderReach", apart := false }
def FnExactOrderReachSaid : Prop := fnExactOrderReachRow.holds Try.pinned (OpenSpec.ofChange fnExactOrderReachSpec)

/-- ITS FALSE NEIGHBOUR: 'it returns false'. Refute it at one input. -/
def fnExactOrderReachWrong : ChangeSpec := { name := "fnExactOrderReach", fn := fun _ => fun
  | [d1, d2, d3, d4] => { results := [.lit (.bool false)], args := [d1, d2, d3, d4] }
  | _ => none }
def FnExactOrderReachWrongFalsely : Prop := fnExactOrderReachRow.holds Try.pinned (OpenSpec.ofChange fnExactOrderReachWrong)

/-- 'laws.FnExactSplitWalks': WHATEVER THE INPUT: true; the input reads as it did. -/
def fnExactSplitWalksSpec : ChangeSpec := { name := "fnExactSplitWalks", fn := fun _ => fun
  | [d1, d2] => { results := [.lit (.bool true)], args := [d1, d2] }
  | _ => none }
def fnExactSplitWalksRow : OpenClaim := { program := "ytkibnncghhelnaa", sum := "b6b6d2a84e329a004e7e8166117e34543f10b0d6f46e48f8919cd06ede81613f", func := "loop.example/g01148/laws.FnExactSplitWalks", spec := "fnExactSplitWalks", apart := false }
def FnExactSplitWalksSaid : Prop := fnExactSplitWalksRow.holds Try.pinned (OpenSpec.ofChange fnExactSplitWalksSpec)

/-- ITS FALSE NEIGHBOUR: 'it returns false'. Refute it at one input. -/
def fnExactSplitWalksWrong : ChangeSpec := { name := "fnExactSplitWalks", fn := fun _ => fun
  | [d1, d2] => { results := [.lit (.bool false)], args := [d1, d2] }
  | _ => none }
def FnExactSplitWalksWrongFalsely : Prop := fnExactSplitWalksRow.holds Try.pinned (OpenSpec.ofChange fnExactSplitWalksWrong)

/- THE SECOND FORM. 'bulk': how many values and letters a reading holds, each counted each time it is reached (what is shared counts as often as it is met; a slice's spare places count too). A statement '..UptoSaid' is the law's where the arguments, and the package variables that the reading takes, are together of bulk at most 1048576: NARROWER than '..Said'. Prove '..Said' where nothing that the law and all that it calls make is longer than what came in: it says more and counts as full. Else prove '..UptoSaid'. A law counts once. -/
mutual
def uptoBulk {H : Type} : DataW H → Nat
  | .lit (.string bytes) => bytes.length + 1
  | .lit _ => 1
  | .nil => 1
  | .ptr d => uptoBulk d + 1
  | .slice elems spare => uptoBulkAll elems + uptoBulkAll spare + 1
  | .agg parts => uptoBulkAll parts + 1
  | .iface _ d => uptoBulk d + 1
  | .map entries => uptoBulkEntries entries + 1
  | .held _ => 1
def uptoBulkAll {H : Type} : List (DataW H) → Nat
  | [] => 0
  | d :: r => uptoBulk d + uptoBulkAll r
def uptoBulkEntries {H : Type} : List (Lit × DataW H) → Nat
  | [] => 0
  | x :: r => uptoBulkEntry x + uptoBulkEntries r
def uptoBulkEntry {H : Type} : Lit × DataW H → Nat
  | (.string bytes, d) => bytes.length + uptoBulk d + 1
  | (_, d) => uptoBulk d + 1
 end
def uptoSmall : (H : Type) → List (DataW H) → Bool := fun _ ds => decide (uptoBulkAll ds ≤ 1048576)
def OpenSpec.upto (s : _root_.Go.ChangeSpec) : _root_.Go.OpenSpec := { _root_.Go.OpenSpec.ofChange s with cond := some uptoSmall }

/-- 'laws.FnExactVisitTimes', WHERE WHAT IT READS IS OF BULK AT MOST 1048576: true; the input reads as it did. -/
def fnExactVisitTimesUptoRow : OpenClaim := { program := "ytkibnncghhelnaa", sum := "b6b6d2a84e329a004e7e8166117e34543f10b0d6f46e48f8919cd06ede81613f", func := "loop.example/g01148/laws.FnExactVisitTimes", spec := "fnExactVisitTimes", unfollowed := true, recurses := true, apart := false, narrowed := true }
def FnExactVisitTimesUptoSaid : Prop := fnExactVisitTimesUptoRow.holds Try.pinned (OpenSpec.upto fnExactVisitTimesSpec)

/-- 'laws.FnExactIdleTimes', WHERE WHAT IT READS IS OF BULK AT MOST 1048576: true; the input reads as it did. -/
def fnExactIdleTimesUptoRow : OpenClaim := { program := "ytkibnncghhelnaa", sum := "b6b6d2a84e329a004e7e8166117e34543f10b0d6f46e48f8919cd06ede81613f", func := "loop.example/g01148/laws.FnExactIdleTimes", spec := "fnExactIdleTimes", unfollowed := true, recurses := true, apart := false, narrowed := true }
def FnExactIdleTimesUptoSaid : Prop := fnExactIdleTimesUptoRow.holds Try.pinned (OpenSpec.upto fnExactIdleTimesSpec)

/-- 'laws.FnExactPauseOf', WHERE WHAT IT READS IS OF BULK AT MOST 1048576: true; the input reads as it did. -/
def fnExactPauseOfUptoRow : OpenClaim := { program := "ytkibnncghhelnaa", sum := "b6b6d2a84e329a004e7e8166117e34543f10b0d6f46e48f8919cd06ede81613f", func := "loop.example/g01148/laws.FnExactPauseOf", spec := "fnExactPauseOf", unfollowed := true, recurses := true, apart := false, narrowed := true }
def FnExactPauseOfUptoSaid : Prop := fnExactPauseOfUptoRow.holds Try.pinned (OpenSpec.upto fnExactPauseOfSpec)

/-- 'laws.FnExactGuardsNeeded', WHERE WHAT IT READS IS OF BULK AT MOST 1048576: true; the input reads as it did. -/
def fnExactGuardsNeededUptoRow : OpenClaim := { program := "ytkibnncghhelnaa", sum := "b6b6d2a84e329a004e7e8166117e34543f10b0d6f46e48f8919cd06ede81613f", func := "loop.example/g01148/laws.FnExactGuardsNeeded", spec := "fnExactGuardsNeeded", unfollowed := true, recurses := true, apart := false, narrowed := true }
def FnExactGuardsNeededUptoSaid : Prop := fnExactGuardsNeededUptoRow.holds Try.pinned (OpenSpec.upto fnExactGuardsNeededSpec)

/-- 'laws.FnExactOrderReach', WHERE WHAT IT READS IS OF BULK AT MOST 1048576: true; the input reads as it did. -/
def fnExactOrderReachUptoRow : OpenClaim := { program := "ytkibnncghhelnaa", sum := "b6b6d2a84e329a004e7e8166117e34543f10b0d6f46e48f8919cd06ede81613f", func := "loop.example/g01148/laws.FnExactOrderReach", spec := "fnExactOrderReach", apart := false, narrowed := true }
def FnExactOrderReachUptoSaid : Prop := fnExactOrderReachUptoRow.holds Try.pinned (OpenSpec.upto fnExactOrderReachSpec)

/-- 'laws.FnExactSplitWalks', WHERE WHAT IT READS IS OF BULK AT MOST 1048576: true; the input reads as it did. -/
def fnExactSplitWalksUptoRow : OpenClaim := { program := "ytkibnncghhelnaa", sum := "b6b6d2a84e329a004e7e8166117e34543f10b0d6f46e48f8919cd06ede81613f", func := "loop.example/g01148/laws.FnExactSplitWalks", spec := "fnExactSplitWalks", apart := false, narrowed := true }
def FnExactSplitWalksUptoSaid : Prop := fnExactSplitWalksUptoRow.holds Try.pinned (OpenSpec.upto fnExactSplitWalksSpec)

end Rows
end Go.Proofs.Ytkibnncghhelnaa
