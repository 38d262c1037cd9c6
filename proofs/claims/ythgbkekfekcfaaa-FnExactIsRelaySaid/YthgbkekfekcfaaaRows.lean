/-
  No cell of these rows narrows 'for every input' (looked for: loops, veiled, ifaces, maps, wideKeys, modest, calm, conditions, laid).
  DERIVED. THE GIVEN ROWS OF THIS SEAT. 4 by the template 'for every input the law returns true; each argument reads behind the call as it read before'; 0 by the template 'total and deterministic' (their statements: YthgbkekfekcfaaaTotals.lean).
  GIVEN WITH THE SEED: the statements are not yours to turn. If you find one false, say at which input.
  Laid BY PROGRAM, IN A SANDBOX (cutbox-rows.mjs): the forced cells as the released guide's own fill.sh prints them over the translation 5acfaaca94a0a265… (all of the seat's roots in one cut). By AI agents, Wed Nov 11 2026. No macro, syntax, notation, axiom, sorry.
-/
import Derived.Test.YthgbkekfekcfaaaChecked
import GoSem.Claim
import GoSem.ClaimJoined
import GoSem.ClaimMapViews
import Derived.JoinedTies
import Derived.KernelRfl
namespace Go.Proofs.Ythgbkekfekcfaaa
/- THE CELL 'sum', in the pinned program and in every row, IS THE sha256 OF THE DUMP (.gsa) THAT YthgbkekfekcfaaaProg.lean LOADS. Nothing in Lean hashes anything: it is a label: what it is worth is what the hold of that sum in a sandbox is worth. -/
noncomputable def Try.pinned : Pinned := { name := "ythgbkekfekcfaaa", sum := "5acfaaca94a0a2658cf6f34479345e087c1d0374fbc386603b6a28ad377f74d1", checked := Try.checked }
namespace Rows
def none {H : Type} : Left H := { results := [], args := [] }

/-- 'laws.FnExactBestPlans': WHATEVER THE INPUT: true; the input reads as it did. -/
def fnExactBestPlansSpec : ChangeSpec := { name := "fnExactBestPlans", fn := fun _ => fun
  | [d1, d2] => { results := [.lit (.bool true)], args := [d1, d2] }
  | _ => none }
def fnExactBestPlansRow : OpenClaim := { program := "ythgbkekfekcfaaa", sum := "5acfaaca94a0a2658cf6f34479345e087c1d0374fbc386603b6a28ad377f74d1", func := "loop.example/g01148/laws.FnExactBestPlans", spec := "fnExactBestPlans", unfollowed := true, recurses := true, plainKeys := false, apart := false }
def FnExactBestPlansSaid : Prop := fnExactBestPlansRow.holds Try.pinned (OpenSpec.ofChange fnExactBestPlansSpec)

/-- ITS FALSE NEIGHBOUR: 'it returns false'. Refute it at one input. -/
def fnExactBestPlansWrong : ChangeSpec := { name := "fnExactBestPlans", fn := fun _ => fun
  | [d1, d2] => { results := [.lit (.bool false)], args := [d1, d2] }
  | _ => none }
def FnExactBestPlansWrongFalsely : Prop := fnExactBestPlansRow.holds Try.pinned (OpenSpec.ofChange fnExactBestPlansWrong)

/-- 'laws.FnExactLeastPrice': WHATEVER THE INPUT: true; the input reads as it did. -/
def fnExactLeastPriceSpec : ChangeSpec := { name := "fnExactLeastPrice", fn := fun _ => fun
  | [d1, d2, d3, d4] => { results := [.lit (.bool true)], args := [d1, d2, d3, d4] }
  | _ => none }
def fnExactLeastPriceRow : OpenClaim := { program := "ythgbkekfekcfaaa", sum := "5acfaaca94a0a2658cf6f34479345e087c1d0374fbc386603b6a28ad377f74d1", func := "loop.example/g01148/laws.FnExactLeastPrice", spec := "fnExactLeastPrice", unfollowed := true, recurses := true, plainKeys := false, apart := false }
def FnExactLeastPriceSaid : Prop := fnExactLeastPriceRow.holds Try.pinned (OpenSpec.ofChange fnExactLeastPriceSpec)

/-- ITS FALSE NEIGHBOUR: 'it returns false'. Refute it at one input. -/
def fnExactLeastPriceWrong : ChangeSpec := { name := "fnExactLeastPrice", fn := fun _ => fun
  | [d1, d2, d3, d4] => { results := [.lit (.bool false)], args := [d1, d2, d3, d4] }
  | _ => none }
def FnExactLeastPriceWrongFalsely : Prop := fnExactLeastPriceRow.holds Try.pinned (OpenSpec.ofChange fnExactLeastPriceWrong)

/-- 'laws.FnExactFirstArrival': WHATEVER THE INPUT: true; the input reads as it did. -/
def fnExactFirstArrivalSpec : ChangeSpec := { name := "fnExactFirstArrival", fn := fun _ => fun
  | [d1, d2, d3, d4] => { results := [.lit (.bool true)], args := [d1, d2, d3, d4] }
  | _ => none }
def fnExactFirstArrivalRow : OpenClaim := { program := "ythgbkekfekcfaaa", sum := "5acfaaca94a0a2658cf6f34479345e087c1d0374fbc386603b6a28ad377f74d1", func := "loop.example/g01148/laws.FnExactFirstArrival", spec := "fnExactFirstArrival", unfollowed := true, recurses := true, plainKeys := false, apart := false }
def FnExactFirstArrivalSaid : Prop := fnExactFirstArrivalRow.holds Try.pinned (OpenSpec.ofChange fnExactFirstArrivalSpec)

/-- ITS FALSE NEIGHBOUR: 'it returns false'. Refute it at one input. -/
def fnExactFirstArrivalWrong : ChangeSpec := { name := "fnExactFirstArrival", fn := fun _ => fun
  | [d1, d2, d3, d4] => { results := [.lit (.bool false)], args := [d1, d2, d3, d4] }
  | _ => none }
def FnExactFirstArrivalWrongFalsely : Prop := fnExactFirstArrivalRow.holds Try.pinned (OpenSpec.ofChange fnExactFirstArrivalWrong)

/-- 'laws.FnExactIsRelay': WHATEVER THE INPUT: true; the input reads as it did. -/
def fnExactIsRelaySpec : ChangeSpec := { name := "fnExactIsRelay", fn := fun _ => fun
  | [d1, d2, d3, d4, d5] => { results := [.lit (.bool true)], args := [d1, d2, d3, d4, d5] }
  | _ => none }
def fnExactIsRelayRow : OpenClaim := { program := "ythgbkekfekcfaaa", sum := "5acfaaca94a0a2658cf6f34479345e087c1d0374fbc386603b6a28ad377f74d1", func := "loop.example/g01148/laws.FnExactIsRelay", spec := "fnExactIsRelay", plainKeys := false, apart := false }
def FnExactIsRelaySaid : Prop := fnExactIsRelayRow.holds Try.pinned (OpenSpec.ofChange fnExactIsRelaySpec)

/-- ITS FALSE NEIGHBOUR: 'it returns false'. Refute it at one input. -/
def fnExactIsRelayWrong : ChangeSpec := { name := "fnExactIsRelay", fn := fun _ => fun
  | [d1, d2, d3, d4, d5] => { results := [.lit (.bool false)], args := [d1, d2, d3, d4, d5] }
  | _ => none }
def FnExactIsRelayWrongFalsely : Prop := fnExactIsRelayRow.holds Try.pinned (OpenSpec.ofChange fnExactIsRelayWrong)

/- THE SECOND FORM. 'bulk': how many values and letters a reading holds, each counted each time it is reached (what is shared counts as often as it is met; a slice's spare places count too). A statement '..UptoSaid' is the law's where the arguments, and the package variables that the reading takes, are together of bulk at most 1048576: NARROWER than '..Said'. Prove '..Said' where nothing that the law and all that it calls make is longer than what came in: it says more and counts as full. Else prove '..UptoSaid'. A law counts once. -/
mutual
def uptoBulk {H : Type} : DataW H → Nat
  | .lit (.string bytes) => bytes.length + 1
  | .lit _ => 1
  | .nil => 1
  | .ptr d => uptoBulk d + 1
  | .slice elems spare => uptoBulkAll elems + uptoBulkAll spare + 1
  | .agg parts => uptoBulkAll parts + 1
  | .iface _ d => uptoBulk d + 1
  | .map entries => uptoBulkEntries entries + 1
  | .held _ => 1
def uptoBulkAll {H : Type} : List (DataW H) → Nat
  | [] => 0
  | d :: r => uptoBulk d + uptoBulkAll r
def uptoBulkEntries {H : Type} : List (Lit × DataW H) → Nat
  | [] => 0
  | x :: r => uptoBulkEntry x + uptoBulkEntries r
def uptoBulkEntry {H : Type} : Lit × DataW H → Nat
  | (.string bytes, d) => bytes.length + uptoBulk d + 1
  | (_, d) => uptoBulk d + 1
 end
def uptoSmall : (H : Type) → List (DataW H) → Bool := fun _ ds => decide (uptoBulkAll ds ≤ 1048576)
def OpenSpec.upto (s : _root_.Go.ChangeSpec) : _root_.Go.OpenSpec := { _root_.Go.OpenSpec.ofChange s with cond := some uptoSmall }

/-- 'laws.FnExactBestPlans', WHERE WHAT IT READS IS OF BULK AT MOST 1048576: true; the input reads as it did. -/
def fnExactBestPlansUptoRow : OpenClaim := { program := "ythgbkekfekcfaaa", sum := "5acfaaca94a0a2658cf6f34479345e087c1d0374fbc386603b6a28ad377f74d1", func := "loop.example/g01148/laws.FnExactBestPlans", spec := "fnExactBestPlans", unfollowed := true, recurses := true, plainKeys := false, apart := false, narrowed := true }
def FnExactBestPlansUptoSaid : Prop := fnExactBestPlansUptoRow.holds Try.pinned (OpenSpec.upto fnExactBestPlansSpec)

/-- 'laws.FnExactLeastPrice', WHERE WHAT IT READS IS OF BULK AT MOST 1048576: true; the input reads as it did. -/
def fnExactLeastPriceUptoRow : OpenClaim := { program := "ythgbkekfekcfaaa", sum := "5acfaaca94a0a2658cf6f34479345e087c1d0374fbc386603b6a28ad377f74d1", func := "loop.example/g01148/laws.FnExactLeastPrice", spec := "fnExactLeastPrice", unfollowed := true, recurses := true, plainKeys := false, apart := false, narrowed := true }
def FnExactLeastPriceUptoSaid : Prop := fnExactLeastPriceUptoRow.holds Try.pinned (OpenSpec.upto fnExactLeastPriceSpec)

/-- 'laws.FnExactFirstArrival', WHERE WHAT IT READS IS OF BULK AT MOST 1048576: true; the input reads as it did. -/
def fnExactFirstArrivalUptoRow : OpenClaim := { program := "ythgbkekfekcfaaa", sum := "5acfaaca94a0a2658cf6f34479345e087c1d0374fbc386603b6a28ad377f74d1", func := "loop.example/g01148/laws.FnExactFirstArrival", spec := "fnExactFirstArrival", unfollowed := true, recurses := true, plainKeys := false, apart := false, narrowed := true }
def FnExactFirstArrivalUptoSaid : Prop := fnExactFirstArrivalUptoRow.holds Try.pinned (OpenSpec.upto fnExactFirstArrivalSpec)

/-- 'laws.FnExactIsRelay', WHERE WHAT IT READS IS OF BULK AT MOST 1048576: true; the input reads as it did. -/
def fnExactIsRelayUptoRow : OpenClaim := { program := "ythgbkekfekcfaaa", sum := "5acfaaca94a0a2658cf6f34479345e087c1d0374fbc386603b6a28ad377f74d1", func := "loop.example/g01148/laws.FnExactIsRelay", spec := "fnExactIsRelay", plainKeys := false, apart := false, narrowed := true }
def FnExactIsRelayUptoSaid : Prop := fnExactIsRelayUptoRow.holds Try.pinned (OpenSpec.upto fnExactIsRelaySpec)

end Rows
end Go.Proofs.Ythgbkekfekcfaaa
