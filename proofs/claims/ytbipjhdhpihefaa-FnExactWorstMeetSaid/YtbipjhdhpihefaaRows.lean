/-
  No cell of these rows narrows 'for every input' (looked for: loops, veiled, ifaces, maps, wideKeys, modest, calm, conditions, laid).
  DERIVED. THE GIVEN ROWS OF THIS SEAT. 7 by the template 'for every input the law returns true; each argument reads behind the call as it read before'; 0 by the template 'total and deterministic' (their statements: YtbipjhdhpihefaaTotals.lean).
  GIVEN WITH THE SEED: the statements are not yours to turn. If you find one false, say at which input.
  Laid BY PROGRAM, IN A SANDBOX (cutbox-rows.mjs): the forced cells as the released guide's own fill.sh prints them over the translation bea5bbfaebd674b0… (all of the seat's roots in one cut). By AI agents, Wed Nov 11 2026. No macro, syntax, notation, axiom, sorry.
-/
import Derived.Test.YtbipjhdhpihefaaChecked
import GoSem.Claim
import GoSem.ClaimJoined
import GoSem.ClaimMapViews
import Derived.JoinedTies
import Derived.KernelRfl
namespace Go.Proofs.Ytbipjhdhpihefaa
/- THE CELL 'sum', in the pinned program and in every row, IS THE sha256 OF THE DUMP (.gsa) THAT YtbipjhdhpihefaaProg.lean LOADS. Nothing in Lean hashes anything: it is a label: what it is worth is what the hold of that sum in a sandbox is worth. -/
noncomputable def Try.pinned : Pinned := { name := "ytbipjhdhpihefaa", sum := "bea5bbfaebd674b058e773c42cc600031c5a04e99a16395ddc244def94ef55be", checked := Try.checked }
namespace Rows
def none {H : Type} : Left H := { results := [], args := [] }

/-- 'laws.FnExactMeetTable': WHATEVER THE INPUT: true; the input reads as it did. -/
def fnExactMeetTableSpec : ChangeSpec := { name := "fnExactMeetTable", fn := fun _ => fun
  | [d1, d2, d3] => { results := [.lit (.bool true)], args := [d1, d2, d3] }
  | _ => none }
def fnExactMeetTableRow : OpenClaim := { program := "ytbipjhdhpihefaa", sum := "bea5bbfaebd674b058e773c42cc600031c5a04e99a16395ddc244def94ef55be", func := "loop.example/g01148/laws.FnExactMeetTable", spec := "fnExactMeetTable", unfollowed := true, recurses := true, apart := false }
def FnExactMeetTableSaid : Prop := fnExactMeetTableRow.holds Try.pinned (OpenSpec.ofChange fnExactMeetTableSpec)

/-- ITS FALSE NEIGHBOUR: 'it returns false'. Refute it at one input. -/
def fnExactMeetTableWrong : ChangeSpec := { name := "fnExactMeetTable", fn := fun _ => fun
  | [d1, d2, d3] => { results := [.lit (.bool false)], args := [d1, d2, d3] }
  | _ => none }
def FnExactMeetTableWrongFalsely : Prop := fnExactMeetTableRow.holds Try.pinned (OpenSpec.ofChange fnExactMeetTableWrong)

/-- 'laws.FnExactWorstMeet': WHATEVER THE INPUT: true; the input reads as it did. -/
def fnExactWorstMeetSpec : ChangeSpec := { name := "fnExactWorstMeet", fn := fun _ => fun
  | [d1, d2, d3] => { results := [.lit (.bool true)], args := [d1, d2, d3] }
  | _ => none }
def fnExactWorstMeetRow : OpenClaim := { program := "ytbipjhdhpihefaa", sum := "bea5bbfaebd674b058e773c42cc600031c5a04e99a16395ddc244def94ef55be", func := "loop.example/g01148/laws.FnExactWorstMeet", spec := "fnExactWorstMeet", unfollowed := true, recurses := true, apart := false }
def FnExactWorstMeetSaid : Prop := fnExactWorstMeetRow.holds Try.pinned (OpenSpec.ofChange fnExactWorstMeetSpec)

/-- ITS FALSE NEIGHBOUR: 'it returns false'. Refute it at one input. -/
def fnExactWorstMeetWrong : ChangeSpec := { name := "fnExactWorstMeet", fn := fun _ => fun
  | [d1, d2, d3] => { results := [.lit (.bool false)], args := [d1, d2, d3] }
  | _ => none }
def FnExactWorstMeetWrongFalsely : Prop := fnExactWorstMeetRow.holds Try.pinned (OpenSpec.ofChange fnExactWorstMeetWrong)

/-- 'laws.FnExactLabelTime': WHATEVER THE INPUT: true; the input reads as it did. -/
def fnExactLabelTimeSpec : ChangeSpec := { name := "fnExactLabelTime", fn := fun _ => fun
  | [d1, d2, d3] => { results := [.lit (.bool true)], args := [d1, d2, d3] }
  | _ => none }
def fnExactLabelTimeRow : OpenClaim := { program := "ytbipjhdhpihefaa", sum := "bea5bbfaebd674b058e773c42cc600031c5a04e99a16395ddc244def94ef55be", func := "loop.example/g01148/laws.FnExactLabelTime", spec := "fnExactLabelTime", unfollowed := true, recurses := true, apart := false }
def FnExactLabelTimeSaid : Prop := fnExactLabelTimeRow.holds Try.pinned (OpenSpec.ofChange fnExactLabelTimeSpec)

/-- ITS FALSE NEIGHBOUR: 'it returns false'. Refute it at one input. -/
def fnExactLabelTimeWrong : ChangeSpec := { name := "fnExactLabelTime", fn := fun _ => fun
  | [d1, d2, d3] => { results := [.lit (.bool false)], args := [d1, d2, d3] }
  | _ => none }
def FnExactLabelTimeWrongFalsely : Prop := fnExactLabelTimeRow.holds Try.pinned (OpenSpec.ofChange fnExactLabelTimeWrong)

/-- 'laws.FnExactBestPlans': WHATEVER THE INPUT: true; the input reads as it did. -/
def fnExactBestPlansSpec : ChangeSpec := { name := "fnExactBestPlans", fn := fun _ => fun
  | [d1, d2] => { results := [.lit (.bool true)], args := [d1, d2] }
  | _ => none }
def fnExactBestPlansRow : OpenClaim := { program := "ytbipjhdhpihefaa", sum := "bea5bbfaebd674b058e773c42cc600031c5a04e99a16395ddc244def94ef55be", func := "loop.example/g01148/laws.FnExactBestPlans", spec := "fnExactBestPlans", unfollowed := true, recurses := true, apart := false }
def FnExactBestPlansSaid : Prop := fnExactBestPlansRow.holds Try.pinned (OpenSpec.ofChange fnExactBestPlansSpec)

/-- ITS FALSE NEIGHBOUR: 'it returns false'. Refute it at one input. -/
def fnExactBestPlansWrong : ChangeSpec := { name := "fnExactBestPlans", fn := fun _ => fun
  | [d1, d2] => { results := [.lit (.bool false)], args := [d1, d2] }
  | _ => none }
def FnExactBestPlansWrongFalsely : Prop := fnExactBestPlansRow.holds Try.pinned (OpenSpec.ofChange fnExactBestPlansWrong)

/-- 'laws.FnExactRunTime': WHATEVER THE INPUT: true; the input reads as it did. -/
def fnExactRunTimeSpec : ChangeSpec := { name := "fnExactRunTime", fn := fun _ => fun
  | [d1, d2, d3, d4, d5] => { results := [.lit (.bool true)], args := [d1, d2, d3, d4, d5] }
  | _ => none }
def fnExactRunTimeRow : OpenClaim := { program := "ytbipjhdhpihefaa", sum := "bea5bbfaebd674b058e773c42cc600031c5a04e99a16395ddc244def94ef55be", func := "loop.example/g01148/laws.FnExactRunTime", spec := "fnExactRunTime", unfollowed := true, recurses := true, apart := false }
def FnExactRunTimeSaid : Prop := fnExactRunTimeRow.holds Try.pinned (OpenSpec.ofChange fnExactRunTimeSpec)

/-- ITS FALSE NEIGHBOUR: 'it returns false'. Refute it at one input. -/
def fnExactRunTimeWrong : ChangeSpec := { name := "fnExactRunTime", fn := fun _ => fun
  | [d1, d2, d3, d4, d5] => { results := [.lit (.bool false)], args := [d1, d2, d3, d4, d5] }
  | _ => none }
def FnExactRunTimeWrongFalsely : Prop := fnExactRunTimeRow.holds Try.pinned (OpenSpec.ofChange fnExactRunTimeWrong)

/-- 'laws.FnExactIsRelay': WHATEVER THE INPUT: true; the input reads as it did. -/
def fnExactIsRelaySpec : ChangeSpec := { name := "fnExactIsRelay", fn := fun _ => fun
  | [d1, d2, d3, d4, d5] => { results := [.lit (.bool true)], args := [d1, d2, d3, d4, d5] }
  | _ => none }
def fnExactIsRelayRow : OpenClaim := { program := "ytbipjhdhpihefaa", sum := "bea5bbfaebd674b058e773c42cc600031c5a04e99a16395ddc244def94ef55be", func := "loop.example/g01148/laws.FnExactIsRelay", spec := "fnExactIsRelay", apart := false }
def FnExactIsRelaySaid : Prop := fnExactIsRelayRow.holds Try.pinned (OpenSpec.ofChange fnExactIsRelaySpec)

/-- ITS FALSE NEIGHBOUR: 'it returns false'. Refute it at one input. -/
def fnExactIsRelayWrong : ChangeSpec := { name := "fnExactIsRelay", fn := fun _ => fun
  | [d1, d2, d3, d4, d5] => { results := [.lit (.bool false)], args := [d1, d2, d3, d4, d5] }
  | _ => none }
def FnExactIsRelayWrongFalsely : Prop := fnExactIsRelayRow.holds Try.pinned (OpenSpec.ofChange fnExactIsRelayWrong)

/-- 'laws.FnExactTakenRuns': WHATEVER THE INPUT: true; the input reads as it did. -/
def fnExactTakenRunsSpec : ChangeSpec := { name := "fnExactTakenRuns", fn := fun _ => fun
  | [d1, d2, d3, d4, d5, d6] => { results := [.lit (.bool true)], args := [d1, d2, d3, d4, d5, d6] }
  | _ => none }
def fnExactTakenRunsRow : OpenClaim := { program := "ytbipjhdhpihefaa", sum := "bea5bbfaebd674b058e773c42cc600031c5a04e99a16395ddc244def94ef55be", func := "loop.example/g01148/laws.FnExactTakenRuns", spec := "fnExactTakenRuns", unfollowed := true, recurses := true, apart := false }
def FnExactTakenRunsSaid : Prop := fnExactTakenRunsRow.holds Try.pinned (OpenSpec.ofChange fnExactTakenRunsSpec)

/-- ITS FALSE NEIGHBOUR: 'it returns false'. Refute it at one input. -/
def fnExactTakenRunsWrong : ChangeSpec := { name := "fnExactTakenRuns", fn := fun _ => fun
  | [d1, d2, d3, d4, d5, d6] => { results := [.lit (.bool false)], args := [d1, d2, d3, d4, d5, d6] }
  | _ => none }
def FnExactTakenRunsWrongFalsely : Prop := fnExactTakenRunsRow.holds Try.pinned (OpenSpec.ofChange fnExactTakenRunsWrong)

/- THE SECOND FORM. 'bulk': how many values and letters a reading holds, each counted each time it is reached (what is shared counts as often as it is met; a slice's spare places count too). A statement '..UptoSaid' is the law's where the arguments, and the package variables that the reading takes, are together of bulk at most 1048576: NARROWER than '..Said'. Prove '..Said' where nothing that the law and all that it calls make is longer than what came in: it says more and counts as full. Else prove '..UptoSaid'. A law counts once. -/
mutual
def uptoBulk {H : Type} : DataW H → Nat
  | .lit (.string bytes) => bytes.length + 1
  | .lit _ => 1
  | .nil => 1
  | .ptr d => uptoBulk d + 1
  | .slice elems spare => uptoBulkAll elems + uptoBulkAll spare + 1
  | .agg parts => uptoBulkAll parts + 1
  | .iface _ d => uptoBulk d + 1
  | .map entries => uptoBulkEntries entries + 1
  | .held _ => 1
def uptoBulkAll {H : Type} : List (DataW H) → Nat
  | [] => 0
  | d :: r => uptoBulk d + uptoBulkAll r
def uptoBulkEntries {H : Type} : List (Lit × DataW H) → Nat
  | [] => 0
  | x :: r => uptoBulkEntry x + uptoBulkEntries r
def uptoBulkEntry {H : Type} : Lit × DataW H → Nat
  | (.string bytes, d) => bytes.length + uptoBulk d + 1
  | (_, d) => uptoBulk d + 1
 end
def uptoSmall : (H : Type) → List (DataW H) → Bool := fun _ ds => decide (uptoBulkAll ds ≤ 1048576)
def OpenSpec.upto (s : _root_.Go.ChangeSpec) : _root_.Go.OpenSpec := { _root_.Go.OpenSpec.ofChange s with cond := some uptoSmall }

/-- 'laws.FnExactMeetTable', WHERE WHAT IT READS IS OF BULK AT MOST 1048576: true; the input reads as it did. -/
def fnExactMeetTableUptoRow : OpenClaim := { program := "ytbipjhdhpihefaa", sum := "bea5bbfaebd674b058e773c42cc600031c5a04e99a16395ddc244def94ef55be", func := "loop.example/g01148/laws.FnExactMeetTable", spec := "fnExactMeetTable", unfollowed := true, recurses := true, apart := false, narrowed := true }
def FnExactMeetTableUptoSaid : Prop := fnExactMeetTableUptoRow.holds Try.pinned (OpenSpec.upto fnExactMeetTableSpec)

/-- 'laws.FnExactWorstMeet', WHERE WHAT IT READS IS OF BULK AT MOST 1048576: true; the input reads as it did. -/
def fnExactWorstMeetUptoRow : OpenClaim := { program := "ytbipjhdhpihefaa", sum := "bea5bbfaebd674b058e773c42cc600031c5a04e99a16395ddc244def94ef55be", func := "loop.example/g01148/laws.FnExactWorstMeet", spec := "fnExactWorstMeet", unfollowed := true, recurses := true, apart := false, narrowed := true }
def FnExactWorstMeetUptoSaid : Prop := fnExactWorstMeetUptoRow.holds Try.pinned (OpenSpec.upto fnExactWorstMeetSpec)

/-- 'laws.FnExactLabelTime', WHERE WHAT IT READS IS OF BULK AT MOST 1048576: true; the input reads as it did. -/
def fnExactLabelTimeUptoRow : OpenClaim := { program := "ytbipjhdhpihefaa", sum := "bea5bbfaebd674b058e773c42cc600031c5a04e99a16395ddc244def94ef55be", func := "loop.example/g01148/laws.FnExactLabelTime", spec := "fnExactLabelTime", unfollowed := true, recurses := true, apart := false, narrowed := true }
def FnExactLabelTimeUptoSaid : Prop := fnExactLabelTimeUptoRow.holds Try.pinned (OpenSpec.upto fnExactLabelTimeSpec)

/-- 'laws.FnExactBestPlans', WHERE WHAT IT READS IS OF BULK AT MOST 1048576: true; the input reads as it did. -/
def fnExactBestPlansUptoRow : OpenClaim := { program := "ytbipjhdhpihefaa", sum := "bea5bbfaebd674b058e773c42cc600031c5a04e99a16395ddc244def94ef55be", func := "loop.example/g01148/laws.FnExactBestPlans", spec := "fnExactBestPlans", unfollowed := true, recurses := true, apart := false, narrowed := true }
def FnExactBestPlansUptoSaid : Prop := fnExactBestPlansUptoRow.holds Try.pinned (OpenSpec.upto fnExactBestPlansSpec)

/-- 'laws.FnExactRunTime', WHERE WHAT IT READS IS OF BULK AT MOST 1048576: true; the input reads as it did. -/
def fnExactRunTimeUptoRow : OpenClaim := { program := "ytbipjhdhpihefaa", sum := "bea5bbfaebd674b058e773c42cc600031c5a04e99a16395ddc244def94ef55be", func := "loop.example/g01148/laws.FnExactRunTime", spec := "fnExactRunTime", unfollowed := true, recurses := true, apart := false, narrowed := true }
def FnExactRunTimeUptoSaid : Prop := fnExactRunTimeUptoRow.holds Try.pinned (OpenSpec.upto fnExactRunTimeSpec)

/-- 'laws.FnExactIsRelay', WHERE WHAT IT READS IS OF BULK AT MOST 1048576: true; the input reads as it did. -/
def fnExactIsRelayUptoRow : OpenClaim := { program := "ytbipjhdhpihefaa", sum := "bea5bbfaebd674b058e773c42cc600031c5a04e99a16395ddc244def94ef55be", func := "loop.example/g01148/laws.FnExactIsRelay", spec := "fnExactIsRelay", apart := false, narrowed := true }
def FnExactIsRelayUptoSaid : Prop := fnExactIsRelayUptoRow.holds Try.pinned (OpenSpec.upto fnExactIsRelaySpec)

/-- 'laws.FnExactTakenRuns', WHERE WHAT IT READS IS OF BULK AT MOST 1048576: true; the input reads as it did. -/
def fnExactTakenRunsUptoRow : OpenClaim := { program := "ytbipjhdhpihefaa", sum := "bea5bbfaebd674b058e773c42cc600031c5a04e99a16395ddc244def94ef55be", func := "loop.example/g01148/laws.FnExactTakenRuns", spec := "fnExactTakenRuns", unfollowed := true, recurses := true, apart := false, narrowed := true }
def FnExactTakenRunsUptoSaid : Prop := fnExactTakenRunsUptoRow.holds Try.pinned (OpenSpec.upto fnExactTakenRunsSpec)

end Rows
end Go.Proofs.Ytbipjhdhpihefaa
