/-
  No cell of these rows narrows 'for every input' (looked for: loops, veiled, ifaces, maps, wideKeys, modest, calm, conditions, laid).
  DERIVED. THE GIVEN ROWS OF THIS SEAT. 6 by the template 'for every input the law returns true; each argument reads behind the call as it read before'; 0 by the template 'total and deterministic' (their statements: YtndcjfogechpjaaTotals.lean).
  GIVEN WITH THE SEED: the statements are not yours to turn. If you find one false, say at which input.
  Laid BY PROGRAM, IN A SANDBOX (cutbox-rows.mjs): the forced cells as the released guide's own fill.sh prints them over the translation 0ad2b4a5545f33eb… (all of the seat's roots in one cut). By AI agents, Wed Nov 11 2026. No macro, syntax, notation, axiom, sorry.
-/
import Derived.Test.YtndcjfogechpjaaChecked
import GoSem.Claim
import GoSem.ClaimJoined
import GoSem.ClaimMapViews
import Derived.JoinedTies
import Derived.KernelRfl
namespace Go.Proofs.Ytndcjfogechpjaa
/- THE CELL 'sum', in the pinned program and in every row, IS THE sha256 OF THE DUMP (.gsa) THAT YtndcjfogechpjaaProg.lean LOADS. Nothing in Lean hashes anything: it is a label: what it is worth is what the hold of that sum in a sandbox is worth. -/
noncomputable def Try.pinned : Pinned := { name := "ytndcjfogechpjaa", sum := "0ad2b4a5545f33eb825765dade9a31d6e367acd8cc17af265a0dcf709b1c2e14", checked := Try.checked }
namespace Rows
def none {H : Type} : Left H := { results := [], args := [] }

/-- 'laws.FnExactPauseBound': WHATEVER THE INPUT: true; the input reads as it did. -/
def fnExactPauseBoundSpec : ChangeSpec := { name := "fnExactPauseBound", fn := fun _ => fun
  | [d1, d2] => { results := [.lit (.bool true)], args := [d1, d2] }
  | _ => none }
def fnExactPauseBoundRow : OpenClaim := { program := "ytndcjfogechpjaa", sum := "0ad2b4a5545f33eb825765dade9a31d6e367acd8cc17af265a0dcf709b1c2e14", func := "loop.example/g01148/laws.FnExactPauseBound", spec := "fnExactPauseBound", apart := false }
def FnExactPauseBoundSaid : Prop := fnExactPauseBoundRow.holds Try.pinned (OpenSpec.ofChange fnExactPauseBoundSpec)

/-- ITS FALSE NEIGHBOUR: 'it returns false'. Refute it at one input. -/
def fnExactPauseBoundWrong : ChangeSpec := { name := "fnExactPauseBound", fn := fun _ => fun
  | [d1, d2] => { results := [.lit (.bool false)], args := [d1, d2] }
  | _ => none }
def FnExactPauseBoundWrongFalsely : Prop := fnExactPauseBoundRow.holds Try.pinned (OpenSpec.ofChange fnExactPauseBoundWrong)

/-- 'laws.FnExactAreExplorers': WHATEVER THE INPUT: true; the input reads as it did. -/
def fnExactAreExplorersSpec : ChangeSpec := { name := "fnExactAreExplorers", fn := fun _ => fun
  | [d1, d2] => { results := [.lit (.bool true)], args := [d1, d2] }
  | _ => none }
def fnExactAreExplorersRow : OpenClaim := { program := "ytndcjfogechpjaa", sum := "0ad2b4a5545f33eb825765dade9a31d6e367acd8cc17af265a0dcf709b1c2e14", func := "loop.example/g01148/laws.FnExactAreExplorers", spec := "fnExactAreExplorers", apart := false }
def FnExactAreExplorersSaid : Prop := fnExactAreExplorersRow.holds Try.pinned (OpenSpec.ofChange fnExactAreExplorersSpec)

/-- ITS FALSE NEIGHBOUR: 'it returns false'. Refute it at one input. -/
def fnExactAreExplorersWrong : ChangeSpec := { name := "fnExactAreExplorers", fn := fun _ => fun
  | [d1, d2] => { results := [.lit (.bool false)], args := [d1, d2] }
  | _ => none }
def FnExactAreExplorersWrongFalsely : Prop := fnExactAreExplorersRow.holds Try.pinned (OpenSpec.ofChange fnExactAreExplorersWrong)

/-- 'laws.FnExactRunPlaces': WHATEVER THE INPUT: true; the input reads as it did. -/
def fnExactRunPlacesSpec : ChangeSpec := { name := "fnExactRunPlaces", fn := fun _ => fun
  | [d1, d2, d3] => { results := [.lit (.bool true)], args := [d1, d2, d3] }
  | _ => none }
def fnExactRunPlacesRow : OpenClaim := { program := "ytndcjfogechpjaa", sum := "0ad2b4a5545f33eb825765dade9a31d6e367acd8cc17af265a0dcf709b1c2e14", func := "loop.example/g01148/laws.FnExactRunPlaces", spec := "fnExactRunPlaces", apart := false }
def FnExactRunPlacesSaid : Prop := fnExactRunPlacesRow.holds Try.pinned (OpenSpec.ofChange fnExactRunPlacesSpec)

/-- ITS FALSE NEIGHBOUR: 'it returns false'. Refute it at one input. -/
def fnExactRunPlacesWrong : ChangeSpec := { name := "fnExactRunPlaces", fn := fun _ => fun
  | [d1, d2, d3] => { results := [.lit (.bool false)], args := [d1, d2, d3] }
  | _ => none }
def FnExactRunPlacesWrongFalsely : Prop := fnExactRunPlacesRow.holds Try.pinned (OpenSpec.ofChange fnExactRunPlacesWrong)

/-- 'laws.FnExactLegEnd': WHATEVER THE INPUT: true; the input reads as it did. -/
def fnExactLegEndSpec : ChangeSpec := { name := "fnExactLegEnd", fn := fun _ => fun
  | [d1, d2, d3] => { results := [.lit (.bool true)], args := [d1, d2, d3] }
  | _ => none }
def fnExactLegEndRow : OpenClaim := { program := "ytndcjfogechpjaa", sum := "0ad2b4a5545f33eb825765dade9a31d6e367acd8cc17af265a0dcf709b1c2e14", func := "loop.example/g01148/laws.FnExactLegEnd", spec := "fnExactLegEnd", apart := false }
def FnExactLegEndSaid : Prop := fnExactLegEndRow.holds Try.pinned (OpenSpec.ofChange fnExactLegEndSpec)

/-- ITS FALSE NEIGHBOUR: 'it returns false'. Refute it at one input. -/
def fnExactLegEndWrong : ChangeSpec := { name := "fnExactLegEnd", fn := fun _ => fun
  | [d1, d2, d3] => { results := [.lit (.bool false)], args := [d1, d2, d3] }
  | _ => none }
def FnExactLegEndWrongFalsely : Prop := fnExactLegEndRow.holds Try.pinned (OpenSpec.ofChange fnExactLegEndWrong)

/-- 'laws.FnExactRingPatrol': WHATEVER THE INPUT: true; the input reads as it did. -/
def fnExactRingPatrolSpec : ChangeSpec := { name := "fnExactRingPatrol", fn := fun _ => fun
  | [d1, d2] => { results := [.lit (.bool true)], args := [d1, d2] }
  | _ => none }
def fnExactRingPatrolRow : OpenClaim := { program := "ytndcjfogechpjaa", sum := "0ad2b4a5545f33eb825765dade9a31d6e367acd8cc17af265a0dcf709b1c2e14", func := "loop.example/g01148/laws.FnExactRingPatrol", spec := "fnExactRingPatrol", apart := false }
def FnExactRingPatrolSaid : Prop := fnExactRingPatrolRow.holds Try.pinned (OpenSpec.ofChange fnExactRingPatrolSpec)

/-- ITS FALSE NEIGHBOUR: 'it returns false'. Refute it at one input. -/
def fnExactRingPatrolWrong : ChangeSpec := { name := "fnExactRingPatrol", fn := fun _ => fun
  | [d1, d2] => { results := [.lit (.bool false)], args := [d1, d2] }
  | _ => none }
def FnExactRingPatrolWrongFalsely : Prop := fnExactRingPatrolRow.holds Try.pinned (OpenSpec.ofChange fnExactRingPatrolWrong)

/-- 'laws.FnExactAreCarriers': WHATEVER THE INPUT: true; the input reads as it did. -/
def fnExactAreCarriersSpec : ChangeSpec := { name := "fnExactAreCarriers", fn := fun _ => fun
  | [d1, d2] => { results := [.lit (.bool true)], args := [d1, d2] }
  | _ => none }
def fnExactAreCarriersRow : OpenClaim := { program := "ytndcjfogechpjaa", sum := "0ad2b4a5545f33eb825765dade9a31d6e367acd8cc17af265a0dcf709b1c2e14", func := "loop.example/g01148/laws.FnExactAreCarriers", spec := "fnExactAreCarriers", apart := false }
def FnExactAreCarriersSaid : Prop := fnExactAreCarriersRow.holds Try.pinned (OpenSpec.ofChange fnExactAreCarriersSpec)

/-- ITS FALSE NEIGHBOUR: 'it returns false'. Refute it at one input. -/
def fnExactAreCarriersWrong : ChangeSpec := { name := "fnExactAreCarriers", fn := fun _ => fun
  | [d1, d2] => { results := [.lit (.bool false)], args := [d1, d2] }
  | _ => none }
def FnExactAreCarriersWrongFalsely : Prop := fnExactAreCarriersRow.holds Try.pinned (OpenSpec.ofChange fnExactAreCarriersWrong)

/- THE SECOND FORM. 'bulk': how many values and letters a reading holds, each counted each time it is reached (what is shared counts as often as it is met; a slice's spare places count too). A statement '..UptoSaid' is the law's where the arguments, and the package variables that the reading takes, are together of bulk at most 1048576: NARROWER than '..Said'. Prove '..Said' where nothing that the law and all that it calls make is longer than what came in: it says more and counts as full. Else prove '..UptoSaid'. A law counts once. -/
mutual
def uptoBulk {H : Type} : DataW H → Nat
  | .lit (.string bytes) => bytes.length + 1
  | .lit _ => 1
  | .nil => 1
  | .ptr d => uptoBulk d + 1
  | .slice elems spare => uptoBulkAll elems + uptoBulkAll spare + 1
  | .agg parts => uptoBulkAll parts + 1
  | .iface _ d => uptoBulk d + 1
  | .map entries => uptoBulkEntries entries + 1
  | .held _ => 1
def uptoBulkAll {H : Type} : List (DataW H) → Nat
  | [] => 0
  | d :: r => uptoBulk d + uptoBulkAll r
def uptoBulkEntries {H : Type} : List (Lit × DataW H) → Nat
  | [] => 0
  | x :: r => uptoBulkEntry x + uptoBulkEntries r
def uptoBulkEntry {H : Type} : Lit × DataW H → Nat
  | (.string bytes, d) => bytes.length + uptoBulk d + 1
  | (_, d) => uptoBulk d + 1
 end
def uptoSmall : (H : Type) → List (DataW H) → Bool := fun _ ds => decide (uptoBulkAll ds ≤ 1048576)
def OpenSpec.upto (s : _root_.Go.ChangeSpec) : _root_.Go.OpenSpec := { _root_.Go.OpenSpec.ofChange s with cond := some uptoSmall }

/-- 'laws.FnExactPauseBound', WHERE WHAT IT READS IS OF BULK AT MOST 1048576: true; the input reads as it did. -/
def fnExactPauseBoundUptoRow : OpenClaim := { program := "ytndcjfogechpjaa", sum := "0ad2b4a5545f33eb825765dade9a31d6e367acd8cc17af265a0dcf709b1c2e14", func := "loop.example/g01148/laws.FnExactPauseBound", spec := "fnExactPauseBound", apart := false, narrowed := true }
def FnExactPauseBoundUptoSaid : Prop := fnExactPauseBoundUptoRow.holds Try.pinned (OpenSpec.upto fnExactPauseBoundSpec)

/-- 'laws.FnExactAreExplorers', WHERE WHAT IT READS IS OF BULK AT MOST 1048576: true; the input reads as it did. -/
def fnExactAreExplorersUptoRow : OpenClaim := { program := "ytndcjfogechpjaa", sum := "0ad2b4a5545f33eb825765dade9a31d6e367acd8cc17af265a0dcf709b1c2e14", func := "loop.example/g01148/laws.FnExactAreExplorers", spec := "fnExactAreExplorers", apart := false, narrowed := true }
def FnExactAreExplorersUptoSaid : Prop := fnExactAreExplorersUptoRow.holds Try.pinned (OpenSpec.upto fnExactAreExplorersSpec)

/-- 'laws.FnExactRunPlaces', WHERE WHAT IT READS IS OF BULK AT MOST 1048576: true; the input reads as it did. -/
def fnExactRunPlacesUptoRow : OpenClaim := { program := "ytndcjfogechpjaa", sum := "0ad2b4a5545f33eb825765dade9a31d6e367acd8cc17af265a0dcf709b1c2e14", func := "loop.example/g01148/laws.FnExactRunPlaces", spec := "fnExactRunPlaces", apart := false, narrowed := true }
def FnExactRunPlacesUptoSaid : Prop := fnExactRunPlacesUptoRow.holds Try.pinned (OpenSpec.upto fnExactRunPlacesSpec)

/-- 'laws.FnExactLegEnd', WHERE WHAT IT READS IS OF BULK AT MOST 1048576: true; the input reads as it did. -/
def fnExactLegEndUptoRow : OpenClaim := { program := "ytndcjfogechpjaa", sum := "0ad2b4a5545f33eb825765dade9a31d6e367acd8cc17af265a0dcf709b1c2e14", func := "loop.example/g01148/laws.FnExactLegEnd", spec := "fnExactLegEnd", apart := false, narrowed := true }
def FnExactLegEndUptoSaid : Prop := fnExactLegEndUptoRow.holds Try.pinned (OpenSpec.upto fnExactLegEndSpec)

/-- 'laws.FnExactRingPatrol', WHERE WHAT IT READS IS OF BULK AT MOST 1048576: true; the input reads as it did. -/
def fnExactRingPatrolUptoRow : OpenClaim := { program := "ytndcjfogechpjaa", sum := "0ad2b4a5545f33eb825765dade9a31d6e367acd8cc17af265a0dcf709b1c2e14", func := "loop.example/g01148/laws.FnExactRingPatrol", spec := "fnExactRingPatrol", apart := false, narrowed := true }
def FnExactRingPatrolUptoSaid : Prop := fnExactRingPatrolUptoRow.holds Try.pinned (OpenSpec.upto fnExactRingPatrolSpec)

/-- 'laws.FnExactAreCarriers', WHERE WHAT IT READS IS OF BULK AT MOST 1048576: true; the input reads as it did. -/
def fnExactAreCarriersUptoRow : OpenClaim := { program := "ytndcjfogechpjaa", sum := "0ad2b4a5545f33eb825765dade9a31d6e367acd8cc17af265a0dcf709b1c2e14", func := "loop.example/g01148/laws.FnExactAreCarriers", spec := "fnExactAreCarriers", apart := false, narrowed := true }
def FnExactAreCarriersUptoSaid : Prop := fnExactAreCarriersUptoRow.holds Try.pinned (OpenSpec.upto fnExactAreCarriersSpec)

end Rows
end Go.Proofs.Ytndcjfogechpjaa
