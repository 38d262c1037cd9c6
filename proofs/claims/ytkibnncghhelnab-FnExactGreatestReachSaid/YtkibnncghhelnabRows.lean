/-
  No cell of these rows narrows 'for every input' (looked for: loops, veiled, ifaces, maps, wideKeys, modest, calm, conditions, laid).
  DERIVED. THE GIVEN ROWS OF THIS SEAT. 6 by the template 'for every input the law returns true; each argument reads behind the call as it read before'; 0 by the template 'total and deterministic' (their statements: YtkibnncghhelnabTotals.lean).
  GIVEN WITH THE SEED: the statements are not yours to turn. If you find one false, say at which input.
  Laid BY PROGRAM, IN A SANDBOX (cutbox-rows.mjs): the forced cells as the released guide's own fill.sh prints them over the translation 022925f748d3bd9a… (all of the seat's roots in one cut). By AI agents, Wed Nov 11 2026. No macro, syntax, notation, axiom, sorry.
-/
import Derived.Test.YtkibnncghhelnabChecked
import GoSem.Claim
import GoSem.ClaimJoined
import GoSem.ClaimMapViews
import Derived.JoinedTies
import Derived.KernelRfl
namespace Go.Proofs.Ytkibnncghhelnab
/- THE CELL 'sum', in the pinned program and in every row, IS THE sha256 OF THE DUMP (.gsa) THAT YtkibnncghhelnabProg.lean LOADS. Nothing in Lean hashes anything: it is a label: what it is worth is what the hold of that sum in a sandbox is worth. -/
noncomputable def Try.pinned : Pinned := { name := "ytkibnncghhelnab", sum := "022925f748d3bd9aa980028ada2d0531e94049ccce48bb5916929178e330192e", checked := Try.checked }
namespace Rows
def none {H : Type} : Left H := { results := [], args := [] }

/-- 'laws.FnExactShiftPatrol': WHATEVER THE INPUT: true; the input reads as it did. -/
def fnExactShiftPatrolSpec : ChangeSpec := { name := "fnExactShiftPatrol", fn := fun _ => fun
  | [d1, d2, d3] => { results := [.lit (.bool true)], args := [d1, d2, d3] }
  | _ => none }
def fnExactShiftPatrolRow : OpenClaim := { program := "ytkibnncghhelnab", sum := "022925f748d3bd9aa980028ada2d0531e94049ccce48bb5916929178e330192e", func := "loop.example/g01148/laws.FnExactShiftPatrol", spec := "fnExactShiftPatrol", unfollowed := true, recurses := true, apart := false }
def FnExactShiftPatrolSaid : Prop := fnExactShiftPatrolRow.holds Try.pinned (OpenSpec.ofChange fnExactShiftPatrolSpec)

/-- ITS FALSE NEIGHBOUR: 'it returns false'. Refute it at one input. -/
def fnExactShiftPatrolWrong : ChangeSpec := { name := "fnExactShiftPatrol", fn := fun _ => fun
  | [d1, d2, d3] => { results := [.lit (.bool false)], args := [d1, d2, d3] }
  | _ => none }
def FnExactShiftPatrolWrongFalsely : Prop := fnExactShiftPatrolRow.holds Try.pinned (OpenSpec.ofChange fnExactShiftPatrolWrong)

/-- 'laws.FnExactMirrorPatrol': WHATEVER THE INPUT: true; the input reads as it did. -/
def fnExactMirrorPatrolSpec : ChangeSpec := { name := "fnExactMirrorPatrol", fn := fun _ => fun
  | [d1, d2] => { results := [.lit (.bool true)], args := [d1, d2] }
  | _ => none }
def fnExactMirrorPatrolRow : OpenClaim := { program := "ytkibnncghhelnab", sum := "022925f748d3bd9aa980028ada2d0531e94049ccce48bb5916929178e330192e", func := "loop.example/g01148/laws.FnExactMirrorPatrol", spec := "fnExactMirrorPatrol", unfollowed := true, recurses := true, apart := false }
def FnExactMirrorPatrolSaid : Prop := fnExactMirrorPatrolRow.holds Try.pinned (OpenSpec.ofChange fnExactMirrorPatrolSpec)

/-- ITS FALSE NEIGHBOUR: 'it returns false'. Refute it at one input. -/
def fnExactMirrorPatrolWrong : ChangeSpec := { name := "fnExactMirrorPatrol", fn := fun _ => fun
  | [d1, d2] => { results := [.lit (.bool false)], args := [d1, d2] }
  | _ => none }
def FnExactMirrorPatrolWrongFalsely : Prop := fnExactMirrorPatrolRow.holds Try.pinned (OpenSpec.ofChange fnExactMirrorPatrolWrong)

/-- 'laws.FnExactBackPatrol': WHATEVER THE INPUT: true; the input reads as it did. -/
def fnExactBackPatrolSpec : ChangeSpec := { name := "fnExactBackPatrol", fn := fun _ => fun
  | [d1, d2] => { results := [.lit (.bool true)], args := [d1, d2] }
  | _ => none }
def fnExactBackPatrolRow : OpenClaim := { program := "ytkibnncghhelnab", sum := "022925f748d3bd9aa980028ada2d0531e94049ccce48bb5916929178e330192e", func := "loop.example/g01148/laws.FnExactBackPatrol", spec := "fnExactBackPatrol", unfollowed := true, recurses := true, apart := false }
def FnExactBackPatrolSaid : Prop := fnExactBackPatrolRow.holds Try.pinned (OpenSpec.ofChange fnExactBackPatrolSpec)

/-- ITS FALSE NEIGHBOUR: 'it returns false'. Refute it at one input. -/
def fnExactBackPatrolWrong : ChangeSpec := { name := "fnExactBackPatrol", fn := fun _ => fun
  | [d1, d2] => { results := [.lit (.bool false)], args := [d1, d2] }
  | _ => none }
def FnExactBackPatrolWrongFalsely : Prop := fnExactBackPatrolRow.holds Try.pinned (OpenSpec.ofChange fnExactBackPatrolWrong)

/-- 'laws.FnExactJoinPatrols': WHATEVER THE INPUT: true; the input reads as it did. -/
def fnExactJoinPatrolsSpec : ChangeSpec := { name := "fnExactJoinPatrols", fn := fun _ => fun
  | [d1, d2, d3] => { results := [.lit (.bool true)], args := [d1, d2, d3] }
  | _ => none }
def fnExactJoinPatrolsRow : OpenClaim := { program := "ytkibnncghhelnab", sum := "022925f748d3bd9aa980028ada2d0531e94049ccce48bb5916929178e330192e", func := "loop.example/g01148/laws.FnExactJoinPatrols", spec := "fnExactJoinPatrols", unfollowed := true, recurses := true, apart := false }
def FnExactJoinPatrolsSaid : Prop := fnExactJoinPatrolsRow.holds Try.pinned (OpenSpec.ofChange fnExactJoinPatrolsSpec)

/-- ITS FALSE NEIGHBOUR: 'it returns false'. Refute it at one input. -/
def fnExactJoinPatrolsWrong : ChangeSpec := { name := "fnExactJoinPatrols", fn := fun _ => fun
  | [d1, d2, d3] => { results := [.lit (.bool false)], args := [d1, d2, d3] }
  | _ => none }
def FnExactJoinPatrolsWrongFalsely : Prop := fnExactJoinPatrolsRow.holds Try.pinned (OpenSpec.ofChange fnExactJoinPatrolsWrong)

/-- 'laws.FnExactMirrorWalker': WHATEVER THE INPUT: true; the input reads as it did. -/
def fnExactMirrorWalkerSpec : ChangeSpec := { name := "fnExactMirrorWalker", fn := fun _ => fun
  | [d1, d2] => { results := [.lit (.bool true)], args := [d1, d2] }
  | _ => none }
def fnExactMirrorWalkerRow : OpenClaim := { program := "ytkibnncghhelnab", sum := "022925f748d3bd9aa980028ada2d0531e94049ccce48bb5916929178e330192e", func := "loop.example/g01148/laws.FnExactMirrorWalker", spec := "fnExactMirrorWalker", unfollowed := true, recurses := true, apart := false }
def FnExactMirrorWalkerSaid : Prop := fnExactMirrorWalkerRow.holds Try.pinned (OpenSpec.ofChange fnExactMirrorWalkerSpec)

/-- ITS FALSE NEIGHBOUR: 'it returns false'. Refute it at one input. -/
def fnExactMirrorWalkerWrong : ChangeSpec := { name := "fnExactMirrorWalker", fn := fun _ => fun
  | [d1, d2] => { results := [.lit (.bool false)], args := [d1, d2] }
  | _ => none }
def FnExactMirrorWalkerWrongFalsely : Prop := fnExactMirrorWalkerRow.holds Try.pinned (OpenSpec.ofChange fnExactMirrorWalkerWrong)

/-- 'laws.FnExactGreatestReach': WHATEVER THE INPUT: true; the input reads as it did. -/
def fnExactGreatestReachSpec : ChangeSpec := { name := "fnExactGreatestReach", fn := fun _ => fun
  | [d1, d2, d3] => { results := [.lit (.bool true)], args := [d1, d2, d3] }
  | _ => none }
def fnExactGreatestReachRow : OpenClaim := { program := "ytkibnncghhelnab", sum := "022925f748d3bd9aa980028ada2d0531e94049ccce48bb5916929178e330192e", func := "loop.example/g01148/laws.FnExactGreatestReach", spec := "fnExactGreatestReach", apart := false }
def FnExactGreatestReachSaid : Prop := fnExactGreatestReachRow.holds Try.pinned (OpenSpec.ofChange fnExactGreatestReachSpec)

/-- ITS FALSE NEIGHBOUR: 'it returns false'. Refute it at one input. -/
def fnExactGreatestReachWrong : ChangeSpec := { name := "fnExactGreatestReach", fn := fun _ => fun
  | [d1, d2, d3] => { results := [.lit (.bool false)], args := [d1, d2, d3] }
  | _ => none }
def FnExactGreatestReachWrongFalsely : Prop := fnExactGreatestReachRow.holds Try.pinned (OpenSpec.ofChange fnExactGreatestReachWrong)

/- THE SECOND FORM. 'bulk': how many values and letters a reading holds, each counted each time it is reached (what is shared counts as often as it is met; a slice's spare places count too). A statement '..UptoSaid' is the law's where the arguments, and the package variables that the reading takes, are together of bulk at most 1048576: NARROWER than '..Said'. Prove '..Said' where nothing that the law and all that it calls make is longer than what came in: it says more and counts as full. Else prove '..UptoSaid'. A law counts once. -/
mutual
def uptoBulk {H : Type} : DataW H → Nat
  | .lit (.string bytes) => bytes.length + 1
  | .lit _ => 1
  | .nil => 1
  | .ptr d => uptoBulk d + 1
  | .slice elems spare => uptoBulkAll elems + uptoBulkAll spare + 1
  | .agg parts => uptoBulkAll parts + 1
  | .iface _ d => uptoBulk d + 1
  | .map entries => uptoBulkEntries entries + 1
  | .held _ => 1
def uptoBulkAll {H : Type} : List (DataW H) → Nat
  | [] => 0
  | d :: r => uptoBulk d + uptoBulkAll r
def uptoBulkEntries {H : Type} : List (Lit × DataW H) → Nat
  | [] => 0
  | x :: r => uptoBulkEntry x + uptoBulkEntries r
def uptoBulkEntry {H : Type} : Lit × DataW H → Nat
  | (.string bytes, d) => bytes.length + uptoBulk d + 1
  | (_, d) => uptoBulk d + 1
 end
def uptoSmall : (H : Type) → List (DataW H) → Bool := fun _ ds => decide (uptoBulkAll ds ≤ 1048576)
def OpenSpec.upto (s : _root_.Go.ChangeSpec) : _root_.Go.OpenSpec := { _root_.Go.OpenSpec.ofChange s with cond := some uptoSmall }

/-- 'laws.FnExactShiftPatrol', WHERE WHAT IT READS IS OF BULK AT MOST 1048576: true; the input reads as it did. -/
def fnExactShiftPatrolUptoRow : OpenClaim := { program := "ytkibnncghhelnab", sum := "022925f748d3bd9aa980028ada2d0531e94049ccce48bb5916929178e330192e", func := "loop.example/g01148/laws.FnExactShiftPatrol", spec := "fnExactShiftPatrol", unfollowed := true, recurses := true, apart := false, narrowed := true }
def FnExactShiftPatrolUptoSaid : Prop := fnExactShiftPatrolUptoRow.holds Try.pinned (OpenSpec.upto fnExactShiftPatrolSpec)

/-- 'laws.FnExactMirrorPatrol', WHERE WHAT IT READS IS OF BULK AT MOST 1048576: true; the input reads as it did. -/
def fnExactMirrorPatrolUptoRow : OpenClaim := { program := "ytkibnncghhelnab", sum := "022925f748d3bd9aa980028ada2d0531e94049ccce48bb5916929178e330192e", func := "loop.example/g01148/laws.FnExactMirrorPatrol", spec := "fnExactMirrorPatrol", unfollowed := true, recurses := true, apart := false, narrowed := true }
def FnExactMirrorPatrolUptoSaid : Prop := fnExactMirrorPatrolUptoRow.holds Try.pinned (OpenSpec.upto fnExactMirrorPatrolSpec)

/-- 'laws.FnExactBackPatrol', WHERE WHAT IT READS IS OF BULK AT MOST 1048576: true; the input reads as it did. -/
def fnExactBackPatrolUptoRow : OpenClaim := { program := "ytkibnncghhelnab", sum := "022925f748d3bd9aa980028ada2d0531e94049ccce48bb5916929178e330192e", func := "loop.example/g01148/laws.FnExactBackPatrol", spec := "fnExactBackPatrol", unfollowed := true, recurses := true, apart := false, narrowed := true }
def FnExactBackPatrolUptoSaid : Prop := fnExactBackPatrolUptoRow.holds Try.pinned (OpenSpec.upto fnExactBackPatrolSpec)

/-- 'laws.FnExactJoinPatrols', WHERE WHAT IT READS IS OF BULK AT MOST 1048576: true; the input reads as it did. -/
def fnExactJoinPatrolsUptoRow : OpenClaim := { program := "ytkibnncghhelnab", sum := "022925f748d3bd9aa980028ada2d0531e94049ccce48bb5916929178e330192e", func := "loop.example/g01148/laws.FnExactJoinPatrols", spec := "fnExactJoinPatrols", unfollowed := true, recurses := true, apart := false, narrowed := true }
def FnExactJoinPatrolsUptoSaid : Prop := fnExactJoinPatrolsUptoRow.holds Try.pinned (OpenSpec.upto fnExactJoinPatrolsSpec)

/-- 'laws.FnExactMirrorWalker', WHERE WHAT IT READS IS OF BULK AT MOST 1048576: true; the input reads as it did. -/
def fnExactMirrorWalkerUptoRow : OpenClaim := { program := "ytkibnncghhelnab", sum := "022925f748d3bd9aa980028ada2d0531e94049ccce48bb5916929178e330192e", func := "loop.example/g01148/laws.FnExactMirrorWalker", spec := "fnExactMirrorWalker", unfollowed := true, recurses := true, apart := false, narrowed := true }
def FnExactMirrorWalkerUptoSaid : Prop := fnExactMirrorWalkerUptoRow.holds Try.pinned (OpenSpec.upto fnExactMirrorWalkerSpec)

/-- 'laws.FnExactGreatestReach', WHERE WHAT IT READS IS OF BULK AT MOST 1048576: true; the input reads as it did. -/
def fnExactGreatestReachUptoRow : OpenClaim := { program := "ytkibnncghhelnab", sum := "022925f748d3bd9aa980028ada2d0531e94049ccce48bb5916929178e330192e", func := "loop.example/g01148/laws.FnExactGreatestReach", spec := "fnExactGreatestReach", apart := false, narrowed := true }
def FnExactGreatestReachUptoSaid : Prop := fnExactGreatestReachUptoRow.holds Try.pinned (OpenSpec.upto fnExactGreatestReachSpec)

end Rows
end Go.Proofs.Ytkibnncghhelnab
