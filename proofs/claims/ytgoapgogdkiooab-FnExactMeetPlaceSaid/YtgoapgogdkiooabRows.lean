/-
  No cell of these rows narrows 'for every input' (looked for: loops, veiled, ifaces, maps, wideKeys, modest, calm, conditions, laid).
  DERIVED. THE GIVEN ROWS OF THIS SEAT. 6 by the template 'for every input the law returns true; each argument reads behind the call as it read before'; 0 by the template 'total and deterministic' (their statements: YtgoapgogdkiooabTotals.lean).
  GIVEN WITH THE SEED: the statements are not yours to turn. If you find one false, say at which input.
  Laid BY PROGRAM, IN A SANDBOX (cutbox-rows.mjs): the forced cells as the released guide's own fill.sh prints them over the translation 07dd617ef9f43c02… (all of the seat's roots in one cut). By AI agents, Wed Nov 11 2026. No macro, syntax, notation, axiom, sorry.
-/
import Derived.Test.YtgoapgogdkiooabChecked
import GoSem.Claim
import GoSem.ClaimJoined
import GoSem.ClaimMapViews
import Derived.JoinedTies
import Derived.KernelRfl
namespace Go.Proofs.Ytgoapgogdkiooab
/- THE CELL 'sum', in the pinned program and in every row, IS THE sha256 OF THE DUMP (.gsa) THAT YtgoapgogdkiooabProg.lean LOADS. Nothing in Lean hashes anything: it is a label: what it is worth is what the hold of that sum in a sandbox is worth. -/
noncomputable def Try.pinned : Pinned := { name := "ytgoapgogdkiooab", sum := "07dd617ef9f43c0218ba83e70a690835f9e8dbb3f58eeb20bb53cf6905ccbb41", checked := Try.checked }
namespace Rows
def none {H : Type} : Left H := { results := [], args := [] }

/-- 'laws.FnExactWalkOf': WHATEVER THE INPUT: true; the input reads as it did. -/
def fnExactWalkOfSpec : ChangeSpec := { name := "fnExactWalkOf", fn := fun _ => fun
  | [d1, d2, d3] => { results := [.lit (.bool true)], args := [d1, d2, d3] }
  | _ => none }
def fnExactWalkOfRow : OpenClaim := { program := "ytgoapgogdkiooab", sum := "07dd617ef9f43c0218ba83e70a690835f9e8dbb3f58eeb20bb53cf6905ccbb41", func := "loop.example/g01148/laws.FnExactWalkOf", spec := "fnExactWalkOf", unfollowed := true, recurses := true, apart := false }
def FnExactWalkOfSaid : Prop := fnExactWalkOfRow.holds Try.pinned (OpenSpec.ofChange fnExactWalkOfSpec)

/-- ITS FALSE NEIGHBOUR: 'it returns false'. Refute it at one input. -/
def fnExactWalkOfWrong : ChangeSpec := { name := "fnExactWalkOf", fn := fun _ => fun
  | [d1, d2, d3] => { results := [.lit (.bool false)], args := [d1, d2, d3] }
  | _ => none }
def FnExactWalkOfWrongFalsely : Prop := fnExactWalkOfRow.holds Try.pinned (OpenSpec.ofChange fnExactWalkOfWrong)

/-- 'laws.FnExactMeetTime': WHATEVER THE INPUT: true; the input reads as it did. -/
def fnExactMeetTimeSpec : ChangeSpec := { name := "fnExactMeetTime", fn := fun _ => fun
  | [d1, d2, d3] => { results := [.lit (.bool true)], args := [d1, d2, d3] }
  | _ => none }
def fnExactMeetTimeRow : OpenClaim := { program := "ytgoapgogdkiooab", sum := "07dd617ef9f43c0218ba83e70a690835f9e8dbb3f58eeb20bb53cf6905ccbb41", func := "loop.example/g01148/laws.FnExactMeetTime", spec := "fnExactMeetTime", unfollowed := true, recurses := true, apart := false }
def FnExactMeetTimeSaid : Prop := fnExactMeetTimeRow.holds Try.pinned (OpenSpec.ofChange fnExactMeetTimeSpec)

/-- ITS FALSE NEIGHBOUR: 'it returns false'. Refute it at one input. -/
def fnExactMeetTimeWrong : ChangeSpec := { name := "fnExactMeetTime", fn := fun _ => fun
  | [d1, d2, d3] => { results := [.lit (.bool false)], args := [d1, d2, d3] }
  | _ => none }
def FnExactMeetTimeWrongFalsely : Prop := fnExactMeetTimeRow.holds Try.pinned (OpenSpec.ofChange fnExactMeetTimeWrong)

/-- 'laws.FnExactMeetPlace': WHATEVER THE INPUT: true; the input reads as it did. -/
def fnExactMeetPlaceSpec : ChangeSpec := { name := "fnExactMeetPlace", fn := fun _ => fun
  | [d1, d2, d3] => { results := [.lit (.bool true)], args := [d1, d2, d3] }
  | _ => none }
def fnExactMeetPlaceRow : OpenClaim := { program := "ytgoapgogdkiooab", sum := "07dd617ef9f43c0218ba83e70a690835f9e8dbb3f58eeb20bb53cf6905ccbb41", func := "loop.example/g01148/laws.FnExactMeetPlace", spec := "fnExactMeetPlace", unfollowed := true, recurses := true, apart := false }
def FnExactMeetPlaceSaid : Prop := fnExactMeetPlaceRow.holds Try.pinned (OpenSpec.ofChange fnExactMeetPlaceSpec)

/-- ITS FALSE NEIGHBOUR: 'it returns false'. Refute it at one input. -/
def fnExactMeetPlaceWrong : ChangeSpec := { name := "fnExactMeetPlace", fn := fun _ => fun
  | [d1, d2, d3] => { results := [.lit (.bool false)], args := [d1, d2, d3] }
  | _ => none }
def FnExactMeetPlaceWrongFalsely : Prop := fnExactMeetPlaceRow.holds Try.pinned (OpenSpec.ofChange fnExactMeetPlaceWrong)

/-- 'laws.FnExactGreatestReach': WHATEVER THE INPUT: true; the input reads as it did. -/
def fnExactGreatestReachSpec : ChangeSpec := { name := "fnExactGreatestReach", fn := fun _ => fun
  | [d1, d2, d3] => { results := [.lit (.bool true)], args := [d1, d2, d3] }
  | _ => none }
def fnExactGreatestReachRow : OpenClaim := { program := "ytgoapgogdkiooab", sum := "07dd617ef9f43c0218ba83e70a690835f9e8dbb3f58eeb20bb53cf6905ccbb41", func := "loop.example/g01148/laws.FnExactGreatestReach", spec := "fnExactGreatestReach", apart := false }
def FnExactGreatestReachSaid : Prop := fnExactGreatestReachRow.holds Try.pinned (OpenSpec.ofChange fnExactGreatestReachSpec)

/-- ITS FALSE NEIGHBOUR: 'it returns false'. Refute it at one input. -/
def fnExactGreatestReachWrong : ChangeSpec := { name := "fnExactGreatestReach", fn := fun _ => fun
  | [d1, d2, d3] => { results := [.lit (.bool false)], args := [d1, d2, d3] }
  | _ => none }
def FnExactGreatestReachWrongFalsely : Prop := fnExactGreatestReachRow.holds Try.pinned (OpenSpec.ofChange fnExactGreatestReachWrong)

/-- 'laws.FnExactOrderReach': WHATEVER THE INPUT: true; the input reads as it did. -/
def fnExactOrderReachSpec : ChangeSpec := { name := "fnExactOrderReach", fn := fun _ => fun
  | [d1, d2, d3, d4] => { results := [.lit (.bool true)], args := [d1, d2, d3, d4] }
  | _ => none }
def fnExactOrderReachRow : OpenClaim := { program := "ytgoapgogdkiooab", sum := "07dd617ef9f43c0218ba83e70a690835f9e8dbb3f58eeb20bb53cf6905ccbb41", func := "loop.example/g01148/laws.FnExactOrderReach", spec := "fnExactOrderReach", apart := false }
def FnExactOrderReachSaid : Prop := fnExactOrderReachRow.holds Try.pinned (OpenSpec.ofChange fnExactOrderReachSpec)

/-- ITS FALSE NEIGHBOUR: 'it returns false'. Refute it at one input. -/
def fnExactOrderReachWrong : ChangeSpec := { name := "fnExactOrderReach", fn := fun _ => fun
  | [d1, d2, d3, d4] => { results := [.lit (.bool false)], args := [d1, d2, d3, d4] }
  | _ => none }
def FnExactOrderReachWrongFalsely : Prop := fnExactOrderReachRow.holds Try.pinned (OpenSpec.ofChange fnExactOrderReachWrong)

/-- 'laws.FnExactVisitTimes': WHATEVER THE INPUT: true; the input reads as it did. -/
def fnExactVisitTimesSpec : ChangeSpec := { name := "fnExactVisitTimes", fn := fun _ => fun
  | [d1, d2, d3] => { results := [.lit (.bool true)], args := [d1, d2, d3] }
  | _ => none }
def fnExactVisitTimesRow : OpenClaim := { program := "ytgoapgogdkiooab", sum := "07dd617ef9f43c0218ba83e70a690835f9e8dbb3f58eeb20bb53cf6905ccbb41", func := "loop.example/g01148/laws.FnExactVisitTimes", spec := "fnExactVisitTimes", unfollowed := true, recurses := true, apart := false }
def FnExactVisitTimesSaid : Prop := fnExactVisitTimesRow.holds Try.pinned (OpenSpec.ofChange fnExactVisitTimesSpec)

/-- ITS FALSE NEIGHBOUR: 'it returns false'. Refute it at one input. -/
def fnExactVisitTimesWrong : ChangeSpec := { name := "fnExactVisitTimes", fn := fun _ => fun
  | [d1, d2, d3] => { results := [.lit (.bool false)], args := [d1, d2, d3] }
  | _ => none }
def FnExactVisitTimesWrongFalsely : Prop := fnExactVisitTimesRow.holds Try.pinned (OpenSpec.ofChange fnExactVisitTimesWrong)

/- THE SECOND FORM. 'bulk': how many values and letters a reading holds, each counted each time it is reached (what is shared counts as often as it is met; a slice's spare places count too). A statement '..UptoSaid' is the law's where the arguments, and the package variables that the reading takes, are together of bulk at most 1048576: NARROWER than '..Said'. Prove '..Said' where nothing that the law and all that it calls make is longer than what came in: it says more and counts as full. Else prove '..UptoSaid'. A law counts once. -/
mutual
def uptoBulk {H : Type} : DataW H → Nat
  | .lit (.string bytes) => bytes.length + 1
  | .lit _ => 1
  | .nil => 1
  | .ptr d => uptoBulk d + 1
  | .slice elems spare => uptoBulkAll elems + uptoBulkAll spare + 1
  | .agg parts => uptoBulkAll parts + 1
  | .iface _ d => uptoBulk d + 1
  | .map entries => uptoBulkEntries entries + 1
  | .held _ => 1
def uptoBulkAll {H : Type} : List (DataW H) → Nat
  | [] => 0
  | d :: r => uptoBulk d + uptoBulkAll r
def uptoBulkEntries {H : Type} : List (Lit × DataW H) → Nat
  | [] => 0
  | x :: r => uptoBulkEntry x + uptoBulkEntries r
def uptoBulkEntry {H : Type} : Lit × DataW H → Nat
  | (.string bytes, d) => bytes.length + uptoBulk d + 1
  | (_, d) => uptoBulk d + 1
 end
def uptoSmall : (H : Type) → List (DataW H) → Bool := fun _ ds => decide (uptoBulkAll ds ≤ 1048576)
def OpenSpec.upto (s : _root_.Go.ChangeSpec) : _root_.Go.OpenSpec := { _root_.Go.OpenSpec.ofChange s with cond := some uptoSmall }

/-- 'laws.FnExactWalkOf', WHERE WHAT IT READS IS OF BULK AT MOST 1048576: true; the input reads as it did. -/
def fnExactWalkOfUptoRow : OpenClaim := { program := "ytgoapgogdkiooab", sum := "07dd617ef9f43c0218ba83e70a690835f9e8dbb3f58eeb20bb53cf6905ccbb41", func := "loop.example/g01148/laws.FnExactWalkOf", spec := "fnExactWalkOf", unfollowed := true, recurses := true, apart := false, narrowed := true }
def FnExactWalkOfUptoSaid : Prop := fnExactWalkOfUptoRow.holds Try.pinned (OpenSpec.upto fnExactWalkOfSpec)

/-- 'laws.FnExactMeetTime', WHERE WHAT IT READS IS OF BULK AT MOST 1048576: true; the input reads as it did. -/
def fnExactMeetTimeUptoRow : OpenClaim := { program := "ytgoapgogdkiooab", sum := "07dd617ef9f43c0218ba83e70a690835f9e8dbb3f58eeb20bb53cf6905ccbb41", func := "loop.example/g01148/laws.FnExactMeetTime", spec := "fnExactMeetTime", unfollowed := true, recurses := true, apart := false, narrowed := true }
def FnExactMeetTimeUptoSaid : Prop := fnExactMeetTimeUptoRow.holds Try.pinned (OpenSpec.upto fnExactMeetTimeSpec)

/-- 'laws.FnExactMeetPlace', WHERE WHAT IT READS IS OF BULK AT MOST 1048576: true; the input reads as it did. -/
def fnExactMeetPlaceUptoRow : OpenClaim := { program := "ytgoapgogdkiooab", sum := "07dd617ef9f43c0218ba83e70a690835f9e8dbb3f58eeb20bb53cf6905ccbb41", func := "loop.example/g01148/laws.FnExactMeetPlace", spec := "fnExactMeetPlace", unfollowed := true, recurses := true, apart := false, narrowed := true }
def FnExactMeetPlaceUptoSaid : Prop := fnExactMeetPlaceUptoRow.holds Try.pinned (OpenSpec.upto fnExactMeetPlaceSpec)

/-- 'laws.FnExactGreatestReach', WHERE WHAT IT READS IS OF BULK AT MOST 1048576: true; the input reads as it did. -/
def fnExactGreatestReachUptoRow : OpenClaim := { program := "ytgoapgogdkiooab", sum := "07dd617ef9f43c0218ba83e70a690835f9e8dbb3f58eeb20bb53cf6905ccbb41", func := "loop.example/g01148/laws.FnExactGreatestReach", spec := "fnExactGreatestReach", apart := false, narrowed := true }
def FnExactGreatestReachUptoSaid : Prop := fnExactGreatestReachUptoRow.holds Try.pinned (OpenSpec.upto fnExactGreatestReachSpec)

/-- 'laws.FnExactOrderReach', WHERE WHAT IT READS IS OF BULK AT MOST 1048576: true; the input reads as it did. -/
def fnExactOrderReachUptoRow : OpenClaim := { program := "ytgoapgogdkiooab", sum := "07dd617ef9f43c0218ba83e70a690835f9e8dbb3f58eeb20bb53cf6905ccbb41", func := "loop.example/g01148/laws.FnExactOrderReach", spec := "fnExactOrderReach", apart := false, narrowed := true }
def FnExactOrderReachUptoSaid : Prop := fnExactOrderReachUptoRow.holds Try.pinned (OpenSpec.upto fnExactOrderReachSpec)

/-- 'laws.FnExactVisitTimes', WHERE WHAT IT READS IS OF BULK AT MOST 1048576: true; the input reads as it did. -/
def fnExactVisitTimesUptoRow : OpenClaim := { program := "ytgoapgogdkiooab", sum := "07dd617ef9f43c0218ba83e70a690835f9e8dbb3f58eeb20bb53cf6905ccbb41", func := "loop.example/g01148/laws.FnExactVisitTimes", spec := "fnExactVisitTimes", unfollowed := true, recurses := true, apart := false, narrowed := true }
def FnExactVisitTimesUptoSaid : Prop := fnExactVisitTimesUptoRow.holds Try.pinned (OpenSpec.upto fnExactVisitTimesSpec)

end Rows
end Go.Proofs.Ytgoapgogdkiooab
