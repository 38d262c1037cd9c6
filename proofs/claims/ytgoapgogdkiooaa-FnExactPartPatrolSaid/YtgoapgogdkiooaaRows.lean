/-
  No cell of these rows narrows 'for every input' (looked for: loops, veiled, ifaces, maps, wideKeys, modest, calm, conditions, laid).
  DERIVED. THE GIVEN ROWS OF THIS SEAT. 6 by the template 'for every input the law returns true; each argument reads behind the call as it read before'; 0 by the template 'total and deterministic' (their statements: YtgoapgogdkiooaaTotals.lean).
  GIVEN WITH THE SEED: the statements are not yours to turn. If you find one false, say at which input.
  Laid BY PROGRAM, IN A SANDBOX (cutbox-rows.mjs): the forced cells as the released guide's own fill.sh prints them over the translation 52302aa703ebaca2… (all of the seat's roots in one cut). By AI agents, Wed Nov 11 2026. No macro, syntax, notation, axiom, sorry.
-/
import Derived.Test.YtgoapgogdkiooaaChecked
import GoSem.Claim
import GoSem.ClaimJoined
import GoSem.ClaimMapViews
import Derived.JoinedTies
import Derived.KernelRfl
namespace Go.Proofs.Ytgoapgogdkiooaa
/- THE CELL 'sum', in the pinned program and in every row, IS THE sha256 OF THE DUMP (.gsa) THAT YtgoapgogdkiooaaProg.lean LOADS. Nothing in Lean hashes anything: it is a label: what it is worth is what the hold of that sum in a sandbox is worth. -/
noncomputable def Try.pinned : Pinned := { name := "ytgoapgogdkiooaa", sum := "52302aa703ebaca243ba7d2df50fe7df96aae5ffa7f6e916afdaa1299dcdb1d0", checked := Try.checked }
namespace Rows
def none {H : Type} : Left H := { results := [], args := [] }

/-- 'laws.FnExactIsWalker': WHATEVER THE INPUT: true; the input reads as it did. -/
def fnExactIsWalkerSpec : ChangeSpec := { name := "fnExactIsWalker", fn := fun _ => fun
  | [d1, d2] => { results := [.lit (.bool true)], args := [d1, d2] }
  | _ => none }
def fnExactIsWalkerRow : OpenClaim := { program := "ytgoapgogdkiooaa", sum := "52302aa703ebaca243ba7d2df50fe7df96aae5ffa7f6e916afdaa1299dcdb1d0", func := "loop.example/g01148/laws.FnExactIsWalker", spec := "fnExactIsWalker", apart := false }
def FnExactIsWalkerSaid : Prop := fnExactIsWalkerRow.holds Try.pinned (OpenSpec.ofChange fnExactIsWalkerSpec)

/-- ITS FALSE NEIGHBOUR: 'it returns false'. Refute it at one input. -/
def fnExactIsWalkerWrong : ChangeSpec := { name := "fnExactIsWalker", fn := fun _ => fun
  | [d1, d2] => { results := [.lit (.bool false)], args := [d1, d2] }
  | _ => none }
def FnExactIsWalkerWrongFalsely : Prop := fnExactIsWalkerRow.holds Try.pinned (OpenSpec.ofChange fnExactIsWalkerWrong)

/-- 'laws.FnExactExploreBound': WHATEVER THE INPUT: true; the input reads as it did. -/
def fnExactExploreBoundSpec : ChangeSpec := { name := "fnExactExploreBound", fn := fun _ => fun
  | [d1, d2] => { results := [.lit (.bool true)], args := [d1, d2] }
  | _ => none }
def fnExactExploreBoundRow : OpenClaim := { program := "ytgoapgogdkiooaa", sum := "52302aa703ebaca243ba7d2df50fe7df96aae5ffa7f6e916afdaa1299dcdb1d0", func := "loop.example/g01148/laws.FnExactExploreBound", spec := "fnExactExploreBound", apart := false }
def FnExactExploreBoundSaid : Prop := fnExactExploreBoundRow.holds Try.pinned (OpenSpec.ofChange fnExactExploreBoundSpec)

/-- ITS FALSE NEIGHBOUR: 'it returns false'. Refute it at one input. -/
def fnExactExploreBoundWrong : ChangeSpec := { name := "fnExactExploreBound", fn := fun _ => fun
  | [d1, d2] => { results := [.lit (.bool false)], args := [d1, d2] }
  | _ => none }
def FnExactExploreBoundWrongFalsely : Prop := fnExactExploreBoundRow.holds Try.pinned (OpenSpec.ofChange fnExactExploreBoundWrong)

/-- 'laws.FnExactPartPatrol': WHATEVER THE INPUT: true; the input reads as it did. -/
def fnExactPartPatrolSpec : ChangeSpec := { name := "fnExactPartPatrol", fn := fun _ => fun
  | [d1, d2] => { results := [.lit (.bool true)], args := [d1, d2] }
  | _ => none }
def fnExactPartPatrolRow : OpenClaim := { program := "ytgoapgogdkiooaa", sum := "52302aa703ebaca243ba7d2df50fe7df96aae5ffa7f6e916afdaa1299dcdb1d0", func := "loop.example/g01148/laws.FnExactPartPatrol", spec := "fnExactPartPatrol", apart := false }
def FnExactPartPatrolSaid : Prop := fnExactPartPatrolRow.holds Try.pinned (OpenSpec.ofChange fnExactPartPatrolSpec)

/-- ITS FALSE NEIGHBOUR: 'it returns false'. Refute it at one input. -/
def fnExactPartPatrolWrong : ChangeSpec := { name := "fnExactPartPatrol", fn := fun _ => fun
  | [d1, d2] => { results := [.lit (.bool false)], args := [d1, d2] }
  | _ => none }
def FnExactPartPatrolWrongFalsely : Prop := fnExactPartPatrolRow.holds Try.pinned (OpenSpec.ofChange fnExactPartPatrolWrong)

/-- 'laws.FnExactSplitWalks': WHATEVER THE INPUT: true; the input reads as it did. -/
def fnExactSplitWalksSpec : ChangeSpec := { name := "fnExactSplitWalks", fn := fun _ => fun
  | [d1, d2] => { results := [.lit (.bool true)], args := [d1, d2] }
  | _ => none }
def fnExactSplitWalksRow : OpenClaim := { program := "ytgoapgogdkiooaa", sum := "52302aa703ebaca243ba7d2df50fe7df96aae5ffa7f6e916afdaa1299dcdb1d0", func := "loop.example/g01148/laws.FnExactSplitWalks", spec := "fnExactSplitWalks", apart := false }
def FnExactSplitWalksSaid : Prop := fnExactSplitWalksRow.holds Try.pinned (OpenSpec.ofChange fnExactSplitWalksSpec)

/-- ITS FALSE NEIGHBOUR: 'it returns false'. Refute it at one input. -/
def fnExactSplitWalksWrong : ChangeSpec := { name := "fnExactSplitWalks", fn := fun _ => fun
  | [d1, d2] => { results := [.lit (.bool false)], args := [d1, d2] }
  | _ => none }
def FnExactSplitWalksWrongFalsely : Prop := fnExactSplitWalksRow.holds Try.pinned (OpenSpec.ofChange fnExactSplitWalksWrong)

/-- 'laws.FnExactMirrorWalker': WHATEVER THE INPUT: true; the input reads as it did. -/
def fnExactMirrorWalkerSpec : ChangeSpec := { name := "fnExactMirrorWalker", fn := fun _ => fun
  | [d1, d2] => { results := [.lit (.bool true)], args := [d1, d2] }
  | _ => none }
def fnExactMirrorWalkerRow : OpenClaim := { program := "ytgoapgogdkiooaa", sum := "52302aa703ebaca243ba7d2df50fe7df96aae5ffa7f6e916afdaa1299dcdb1d0", func := "loop.example/g01148/laws.FnExactMirrorWalker", spec := "fnExactMirrorWalker", unfollowed := true, recurses := true, apart := false }
def FnExactMirrorWalkerSaid : Prop := fnExactMirrorWalkerRow.holds Try.pinned (OpenSpec.ofChange fnExactMirrorWalkerSpec)

/-- ITS FALSE NEIGHBOUR: 'it returns false'. Refute it at one input. -/
def fnExactMirrorWalkerWrong : ChangeSpec := { name := "fnExactMirrorWalker", fn := fun _ => fun
  | [d1, d2] => { results := [.lit (.bool false)], args := [d1, d2] }
  | _ => none }
def FnExactMirrorWalkerWrongFalsely : Prop := fnExactMirrorWalkerRow.holds Try.pinned (OpenSpec.ofChange fnExactMirrorWalkerWrong)

/-- 'laws.FnExactIsPatrol': WHATEVER THE INPUT: true; the input reads as it did. -/
def fnExactIsPatrolSpec : ChangeSpec := { name := "fnExactIsPatrol", fn := fun _ => fun
  | [d1, d2] => { results := [.lit (.bool true)], args := [d1, d2] }
  | _ => none }
def fnExactIsPatrolRow : OpenClaim := { program := "ytgoapgogdkiooaa", sum := "52302aa703ebaca243ba7d2df50fe7df96aae5ffa7f6e916afdaa1299dcdb1d0", func := "loop.example/g01148/laws.FnExactIsPatrol", spec := "fnExactIsPatrol", apart := false }
def FnExactIsPatrolSaid : Prop := fnExactIsPatrolRow.holds Try.pinned (OpenSpec.ofChange fnExactIsPatrolSpec)

/-- ITS FALSE NEIGHBOUR: 'it returns false'. Refute it at one input. -/
def fnExactIsPatrolWrong : ChangeSpec := { name := "fnExactIsPatrol", fn := fun _ => fun
  | [d1, d2] => { results := [.lit (.bool false)], args := [d1, d2] }
  | _ => none }
def FnExactIsPatrolWrongFalsely : Prop := fnExactIsPatrolRow.holds Try.pinned (OpenSpec.ofChange fnExactIsPatrolWrong)

/- THE SECOND FORM. 'bulk': how many values and letters a reading holds, each counted each time it is reached (what is shared counts as often as it is met; a slice's spare places count too). A statement '..UptoSaid' is the law's where the arguments, and the package variables that the reading takes, are together of bulk at most 1048576: NARROWER than '..Said'. Prove '..Said' where nothing that the law and all that it calls make is longer than what came in: it says more and counts as full. Else prove '..UptoSaid'. A law counts once. -/
mutual
def uptoBulk {H : Type} : DataW H → Nat
  | .lit (.string bytes) => bytes.length + 1
  | .lit _ => 1
  | .nil => 1
  | .ptr d => uptoBulk d + 1
  | .slice elems spare => uptoBulkAll elems + uptoBulkAll spare + 1
  | .agg parts => uptoBulkAll parts + 1
  | .iface _ d => uptoBulk d + 1
  | .map entries => uptoBulkEntries entries + 1
  | .held _ => 1
def uptoBulkAll {H : Type} : List (DataW H) → Nat
  | [] => 0
  | d :: r => uptoBulk d + uptoBulkAll r
def uptoBulkEntries {H : Type} : List (Lit × DataW H) → Nat
  | [] => 0
  | x :: r => uptoBulkEntry x + uptoBulkEntries r
def uptoBulkEntry {H : Type} : Lit × DataW H → Nat
  | (.string bytes, d) => bytes.length + uptoBulk d + 1
  | (_, d) => uptoBulk d + 1
 end
def uptoSmall : (H : Type) → List (DataW H) → Bool := fun _ ds => decide (uptoBulkAll ds ≤ 1048576)
def OpenSpec.upto (s : _root_.Go.ChangeSpec) : _root_.Go.OpenSpec := { _root_.Go.OpenSpec.ofChange s with cond := some uptoSmall }

/-- 'laws.FnExactIsWalker', WHERE WHAT IT READS IS OF BULK AT MOST 1048576: true; the input reads as it did. -/
def fnExactIsWalkerUptoRow : OpenClaim := { program := "ytgoapgogdkiooaa", sum := "52302aa703ebaca243ba7d2df50fe7df96aae5ffa7f6e916afdaa1299dcdb1d0", func := "loop.example/g01148/laws.FnExactIsWalker", spec := "fnExactIsWalker", apart := false, narrowed := true }
def FnExactIsWalkerUptoSaid : Prop := fnExactIsWalkerUptoRow.holds Try.pinned (OpenSpec.upto fnExactIsWalkerSpec)

/-- 'laws.FnExactExploreBound', WHERE WHAT IT READS IS OF BULK AT MOST 1048576: true; the input reads as it did. -/
def fnExactExploreBoundUptoRow : OpenClaim := { program := "ytgoapgogdkiooaa", sum := "52302aa703ebaca243ba7d2df50fe7df96aae5ffa7f6e916afdaa1299dcdb1d0", func := "loop.example/g01148/laws.FnExactExploreBound", spec := "fnExactExploreBound", apart := false, narrowed := true }
def FnExactExploreBoundUptoSaid : Prop := fnExactExploreBoundUptoRow.holds Try.pinned (OpenSpec.upto fnExactExploreBoundSpec)

/-- 'laws.FnExactPartPatrol', WHERE WHAT IT READS IS OF BULK AT MOST 1048576: true; the input reads as it did. -/
def fnExactPartPatrolUptoRow : OpenClaim := { program := "ytgoapgogdkiooaa", sum := "52302aa703ebaca243ba7d2df50fe7df96aae5ffa7f6e916afdaa1299dcdb1d0", func := "loop.example/g01148/laws.FnExactPartPatrol", spec := "fnExactPartPatrol", apart := false, narrowed := true }
def FnExactPartPatrolUptoSaid : Prop := fnExactPartPatrolUptoRow.holds Try.pinned (OpenSpec.upto fnExactPartPatrolSpec)

/-- 'laws.FnExactSplitWalks', WHERE WHAT IT READS IS OF BULK AT MOST 1048576: true; the input reads as it did. -/
def fnExactSplitWalksUptoRow : OpenClaim := { program := "ytgoapgogdkiooaa", sum := "52302aa703ebaca243ba7d2df50fe7df96aae5ffa7f6e916afdaa1299dcdb1d0", func := "loop.example/g01148/laws.FnExactSplitWalks", spec := "fnExactSplitWalks", apart := false, narrowed := true }
def FnExactSplitWalksUptoSaid : Prop := fnExactSplitWalksUptoRow.holds Try.pinned (OpenSpec.upto fnExactSplitWalksSpec)

/-- 'laws.FnExactMirrorWalker', WHERE WHAT IT READS IS OF BULK AT MOST 1048576: true; the input reads as it did. -/
def fnExactMirrorWalkerUptoRow : OpenClaim := { program := "ytgoapgogdkiooaa", sum := "52302aa703ebaca243ba7d2df50fe7df96aae5ffa7f6e916afdaa1299dcdb1d0", func := "loop.example/g01148/laws.FnExactMirrorWalker", spec := "fnExactMirrorWalker", unfollowed := true, recurses := true, apart := false, narrowed := true }
def FnExactMirrorWalkerUptoSaid : Prop := fnExactMirrorWalkerUptoRow.holds Try.pinned (OpenSpec.upto fnExactMirrorWalkerSpec)

/-- 'laws.FnExactIsPatrol', WHERE WHAT IT READS IS OF BULK AT MOST 1048576: true; the input reads as it did. -/
def fnExactIsPatrolUptoRow : OpenClaim := { program := "ytgoapgogdkiooaa", sum := "52302aa703ebaca243ba7d2df50fe7df96aae5ffa7f6e916afdaa1299dcdb1d0", func := "loop.example/g01148/laws.FnExactIsPatrol", spec := "fnExactIsPatrol", apart := false, narrowed := true }
def FnExactIsPatrolUptoSaid : Prop := fnExactIsPatrolUptoRow.holds Try.pinned (OpenSpec.upto fnExactIsPatrolSpec)

end Rows
end Go.Proofs.Ytgoapgogdkiooaa
