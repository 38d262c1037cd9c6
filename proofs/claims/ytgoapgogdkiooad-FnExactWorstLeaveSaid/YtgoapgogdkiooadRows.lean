/-
  No cell of these rows narrows 'for every input' (looked for: loops, veiled, ifaces, maps, wideKeys, modest, calm, conditions, laid).
  DERIVED. THE GIVEN ROWS OF THIS SEAT. 6 by the template 'for every input the law returns true; each argument reads behind the call as it read before'; 0 by the template 'total and deterministic' (their statements: YtgoapgogdkiooadTotals.lean).
  GIVEN WITH THE SEED: the statements are not yours to turn. If you find one false, say at which input.
  Laid BY PROGRAM, IN A SANDBOX (cutbox-rows.mjs): the forced cells as the released guide's own fill.sh prints them over the translation 62f9db120ceffeff… (all of the seat's roots in one cut). By AI agents, Wed Nov 11 2026. No macro, syntax, notation, axiom, sorry.
-/
import Derived.Test.YtgoapgogdkiooadChecked
import GoSem.Claim
import GoSem.ClaimJoined
import GoSem.ClaimMapViews
import Derived.JoinedTies
import Derived.KernelRfl
namespace Go.Proofs.Ytgoapgogdkiooad
/- THE CELL 'sum', in the pinned program and in every row, IS THE sha256 OF THE DUMP (.gsa) THAT YtgoapgogdkiooadProg.lean LOADS. Nothing in Lean hashes anything: it is a label: what it is worth is what the hold of that sum in a sandbox is worth. -/
noncomputable def Try.pinned : Pinned := { name := "ytgoapgogdkiooad", sum := "62f9db120ceffeffbdec6a5a521976b5ddd683ba7e6dc78da931caac8a99c3f4", checked := Try.checked }
namespace Rows
def none {H : Type} : Left H := { results := [], args := [] }

/-- 'laws.FnExactGatherTime': WHATEVER THE INPUT: true; the input reads as it did. -/
def fnExactGatherTimeSpec : ChangeSpec := { name := "fnExactGatherTime", fn := fun _ => fun
  | [d1, d2] => { results := [.lit (.bool true)], args := [d1, d2] }
  | _ => none }
def fnExactGatherTimeRow : OpenClaim := { program := "ytgoapgogdkiooad", sum := "62f9db120ceffeffbdec6a5a521976b5ddd683ba7e6dc78da931caac8a99c3f4", func := "loop.example/g01148/laws.FnExactGatherTime", spec := "fnExactGatherTime", unfollowed := true, recurses := true, apart := false }
def FnExactGatherTimeSaid : Prop := fnExactGatherTimeRow.holds Try.pinned (OpenSpec.ofChange fnExactGatherTimeSpec)

/-- ITS FALSE NEIGHBOUR: 'it returns false'. Refute it at one input. -/
def fnExactGatherTimeWrong : ChangeSpec := { name := "fnExactGatherTime", fn := fun _ => fun
  | [d1, d2] => { results := [.lit (.bool false)], args := [d1, d2] }
  | _ => none }
def FnExactGatherTimeWrongFalsely : Prop := fnExactGatherTimeRow.holds Try.pinned (OpenSpec.ofChange fnExactGatherTimeWrong)

/-- 'laws.FnExactWorstLeave': WHATEVER THE INPUT: true; the input reads as it did. -/
def fnExactWorstLeaveSpec : ChangeSpec := { name := "fnExactWorstLeave", fn := fun _ => fun
  | [d1, d2] => { results := [.lit (.bool true)], args := [d1, d2] }
  | _ => none }
def fnExactWorstLeaveRow : OpenClaim := { program := "ytgoapgogdkiooad", sum := "62f9db120ceffeffbdec6a5a521976b5ddd683ba7e6dc78da931caac8a99c3f4", func := "loop.example/g01148/laws.FnExactWorstLeave", spec := "fnExactWorstLeave", unfollowed := true, recurses := true, apart := false }
def FnExactWorstLeaveSaid : Prop := fnExactWorstLeaveRow.holds Try.pinned (OpenSpec.ofChange fnExactWorstLeaveSpec)

/-- ITS FALSE NEIGHBOUR: 'it returns false'. Refute it at one input. -/
def fnExactWorstLeaveWrong : ChangeSpec := { name := "fnExactWorstLeave", fn := fun _ => fun
  | [d1, d2] => { results := [.lit (.bool false)], args := [d1, d2] }
  | _ => none }
def FnExactWorstLeaveWrongFalsely : Prop := fnExactWorstLeaveRow.holds Try.pinned (OpenSpec.ofChange fnExactWorstLeaveWrong)

/-- 'laws.FnExactLeaveTimes': WHATEVER THE INPUT: true; the input reads as it did. -/
def fnExactLeaveTimesSpec : ChangeSpec := { name := "fnExactLeaveTimes", fn := fun _ => fun
  | [d1, d2] => { results := [.lit (.bool true)], args := [d1, d2] }
  | _ => none }
def fnExactLeaveTimesRow : OpenClaim := { program := "ytgoapgogdkiooad", sum := "62f9db120ceffeffbdec6a5a521976b5ddd683ba7e6dc78da931caac8a99c3f4", func := "loop.example/g01148/laws.FnExactLeaveTimes", spec := "fnExactLeaveTimes", unfollowed := true, recurses := true, apart := false }
def FnExactLeaveTimesSaid : Prop := fnExactLeaveTimesRow.holds Try.pinned (OpenSpec.ofChange fnExactLeaveTimesSpec)

/-- ITS FALSE NEIGHBOUR: 'it returns false'. Refute it at one input. -/
def fnExactLeaveTimesWrong : ChangeSpec := { name := "fnExactLeaveTimes", fn := fun _ => fun
  | [d1, d2] => { results := [.lit (.bool false)], args := [d1, d2] }
  | _ => none }
def FnExactLeaveTimesWrongFalsely : Prop := fnExactLeaveTimesRow.holds Try.pinned (OpenSpec.ofChange fnExactLeaveTimesWrong)

/-- 'laws.FnExactIdleTimes': WHATEVER THE INPUT: true; the input reads as it did. -/
def fnExactIdleTimesSpec : ChangeSpec := { name := "fnExactIdleTimes", fn := fun _ => fun
  | [d1, d2] => { results := [.lit (.bool true)], args := [d1, d2] }
  | _ => none }
def fnExactIdleTimesRow : OpenClaim := { program := "ytgoapgogdkiooad", sum := "62f9db120ceffeffbdec6a5a521976b5ddd683ba7e6dc78da931caac8a99c3f4", func := "loop.example/g01148/laws.FnExactIdleTimes", spec := "fnExactIdleTimes", unfollowed := true, recurses := true, apart := false }
def FnExactIdleTimesSaid : Prop := fnExactIdleTimesRow.holds Try.pinned (OpenSpec.ofChange fnExactIdleTimesSpec)

/-- ITS FALSE NEIGHBOUR: 'it returns false'. Refute it at one input. -/
def fnExactIdleTimesWrong : ChangeSpec := { name := "fnExactIdleTimes", fn := fun _ => fun
  | [d1, d2] => { results := [.lit (.bool false)], args := [d1, d2] }
  | _ => none }
def FnExactIdleTimesWrongFalsely : Prop := fnExactIdleTimesRow.holds Try.pinned (OpenSpec.ofChange fnExactIdleTimesWrong)

/-- 'laws.FnExactShiftPatrol': WHATEVER THE INPUT: true; the input reads as it did. -/
def fnExactShiftPatrolSpec : ChangeSpec := { name := "fnExactShiftPatrol", fn := fun _ => fun
  | [d1, d2, d3] => { results := [.lit (.bool true)], args := [d1, d2, d3] }
  | _ => none }
def fnExactShiftPatrolRow : OpenClaim := { program := "ytgoapgogdkiooad", sum := "62f9db120ceffeffbdec6a5a521976b5ddd683ba7e6dc78da931caac8a99c3f4", func := "loop.example/g01148/laws.FnExactShiftPatrol", spec := "fnExactShiftPatrol", unfollowed := true, recurses := true, apart := false }
def FnExactShiftPatrolSaid : Prop := fnExactShiftPatrolRow.holds Try.pinned (OpenSpec.ofChange fnExactShiftPatrolSpec)

/-- ITS FALSE NEIGHBOUR: 'it returns false'. Refute it at one input. -/
def fnExactShiftPatrolWrong : ChangeSpec := { name := "fnExactShiftPatrol", fn := fun _ => fun
  | [d1, d2, d3] => { results := [.lit (.bool false)], args := [d1, d2, d3] }
  | _ => none }
def FnExactShiftPatrolWrongFalsely : Prop := fnExactShiftPatrolRow.holds Try.pinned (OpenSpec.ofChange fnExactShiftPatrolWrong)

/-- 'laws.FnExactPauseOf': WHATEVER THE INPUT: true; the input reads as it did. -/
def fnExactPauseOfSpec : ChangeSpec := { name := "fnExactPauseOf", fn := fun _ => fun
  | [d1, d2] => { results := [.lit (.bool true)], args := [d1, d2] }
  | _ => none }
def fnExactPauseOfRow : OpenClaim := { program := "ytgoapgogdkiooad", sum := "62f9db120ceffeffbdec6a5a521976b5ddd683ba7e6dc78da931caac8a99c3f4", func := "loop.example/g01148/laws.FnExactPauseOf", spec := "fnExactPauseOf", unfollowed := true, recurses := true, apart := false }
def FnExactPauseOfSaid : Prop := fnExactPauseOfRow.holds Try.pinned (OpenSpec.ofChange fnExactPauseOfSpec)

/-- ITS FALSE NEIGHBOUR: 'it returns false'. Refute it at one input. -/
def fnExactPauseOfWrong : ChangeSpec := { name := "fnExactPauseOf", fn := fun _ => fun
  | [d1, d2] => { results := [.lit (.bool false)], args := [d1, d2] }
  | _ => none }
def FnExactPauseOfWrongFalsely : Prop := fnExactPauseOfRow.holds Try.pinned (OpenSpec.ofChange fnExactPauseOfWrong)

/- THE SECOND FORM. 'bulk': how many values and letters a reading holds, each counted each time it is reached (what is shared counts as often as it is met; a slice's spare places count too). A statement '..UptoSaid' is the law's where the arguments, and the package variables that the reading takes, are together of bulk at most 1048576: NARROWER than '..Said'. Prove '..Said' where nothing that the law and all that it calls make is longer than what came in: it says more and counts as full. Else prove '..UptoSaid'. A law counts once. -/
mutual
def uptoBulk {H : Type} : DataW H → Nat
  | .lit (.string bytes) => bytes.length + 1
  | .lit _ => 1
  | .nil => 1
  | .ptr d => uptoBulk d + 1
  | .slice elems spare => uptoBulkAll elems + uptoBulkAll spare + 1
  | .agg parts => uptoBulkAll parts + 1
  | .iface _ d => uptoBulk d + 1
  | .map entries => uptoBulkEntries entries + 1
  | .held _ => 1
def uptoBulkAll {H : Type} : List (DataW H) → Nat
  | [] => 0
  | d :: r => uptoBulk d + uptoBulkAll r
def uptoBulkEntries {H : Type} : List (Lit × DataW H) → Nat
  | [] => 0
  | x :: r => uptoBulkEntry x + uptoBulkEntries r
def uptoBulkEntry {H : Type} : Lit × DataW H → Nat
  | (.string bytes, d) => bytes.length + uptoBulk d + 1
  | (_, d) => uptoBulk d + 1
 end
def uptoSmall : (H : Type) → List (DataW H) → Bool := fun _ ds => decide (uptoBulkAll ds ≤ 1048576)
def OpenSpec.upto (s : _root_.Go.ChangeSpec) : _root_.Go.OpenSpec := { _root_.Go.OpenSpec.ofChange s with cond := some uptoSmall }

/-- 'laws.FnExactGatherTime', WHERE WHAT IT READS IS OF BULK AT MOST 1048576: true; the input reads as it did. -/
def fnExactGatherTimeUptoRow : OpenClaim := { program := "ytgoapgogdkiooad", sum := "62f9db120ceffeffbdec6a5a521976b5ddd683ba7e6dc78da931caac8a99c3f4", func := "loop.example/g01148/laws.FnExactGatherTime", spec := "fnExactGatherTime", unfollowed := true, recurses := true, apart := false, narrowed := true }
def FnExactGatherTimeUptoSaid : Prop := fnExactGatherTimeUptoRow.holds Try.pinned (OpenSpec.upto fnExactGatherTimeSpec)

/-- 'laws.FnExactWorstLeave', WHERE WHAT IT READS IS OF BULK AT MOST 1048576: true; the input reads as it did. -/
def fnExactWorstLeaveUptoRow : OpenClaim := { program := "ytgoapgogdkiooad", sum := "62f9db120ceffeffbdec6a5a521976b5ddd683ba7e6dc78da931caac8a99c3f4", func := "loop.example/g01148/laws.FnExactWorstLeave", spec := "fnExactWorstLeave", unfollowed := true, recurses := true, apart := false, narrowed := true }
def FnExactWorstLeaveUptoSaid : Prop := fnExactWorstLeaveUptoRow.holds Try.pinned (OpenSpec.upto fnExactWorstLeaveSpec)

/-- 'laws.FnExactLeaveTimes', WHERE WHAT IT READS IS OF BULK AT MOST 1048576: true; the input reads as it did. -/
def fnExactLeaveTimesUptoRow : OpenClaim := { program := "ytgoapgogdkiooad", sum := "62f9db120ceffeffbdec6a5a521976b5ddd683ba7e6dc78da931caac8a99c3f4", func := "loop.example/g01148/laws.FnExactLeaveTimes", spec := "fnExactLeaveTimes", unfollowed := true, recurses := true, apart := false, narrowed := true }
def FnExactLeaveTimesUptoSaid : Prop := fnExactLeaveTimesUptoRow.holds Try.pinned (OpenSpec.upto fnExactLeaveTimesSpec)

/-- 'laws.FnExactIdleTimes', WHERE WHAT IT READS IS OF BULK AT MOST 1048576: true; the input reads as it did. -/
def fnExactIdleTimesUptoRow : OpenClaim := { program := "ytgoapgogdkiooad", sum := "62f9db120ceffeffbdec6a5a521976b5ddd683ba7e6dc78da931caac8a99c3f4", func := "loop.example/g01148/laws.FnExactIdleTimes", spec := "fnExactIdleTimes", unfollowed := true, recurses := true, apart := false, narrowed := true }
def FnExactIdleTimesUptoSaid : Prop := fnExactIdleTimesUptoRow.holds Try.pinned (OpenSpec.upto fnExactIdleTimesSpec)

/-- 'laws.FnExactShiftPatrol', WHERE WHAT IT READS IS OF BULK AT MOST 1048576: true; the input reads as it did. -/
def fnExactShiftPatrolUptoRow : OpenClaim := { program := "ytgoapgogdkiooad", sum := "62f9db120ceffeffbdec6a5a521976b5ddd683ba7e6dc78da931caac8a99c3f4", func := "loop.example/g01148/laws.FnExactShiftPatrol", spec := "fnExactShiftPatrol", unfollowed := true, recurses := true, apart := false, narrowed := true }
def FnExactShiftPatrolUptoSaid : Prop := fnExactShiftPatrolUptoRow.holds Try.pinned (OpenSpec.upto fnExactShiftPatrolSpec)

/-- 'laws.FnExactPauseOf', WHERE WHAT IT READS IS OF BULK AT MOST 1048576: true; the input reads as it did. -/
def fnExactPauseOfUptoRow : OpenClaim := { program := "ytgoapgogdkiooad", sum := "62f9db120ceffeffbdec6a5a521976b5ddd683ba7e6dc78da931caac8a99c3f4", func := "loop.example/g01148/laws.FnExactPauseOf", spec := "fnExactPauseOf", unfollowed := true, recurses := true, apart := false, narrowed := true }
def FnExactPauseOfUptoSaid : Prop := fnExactPauseOfUptoRow.holds Try.pinned (OpenSpec.upto fnExactPauseOfSpec)

end Rows
end Go.Proofs.Ytgoapgogdkiooad
