/- Plain facts on numbers and lists: what the functions that the law FnExactPauseBound reaches answer, and that the law's own function answers true. No program, no memory. -/
import Derived.Test.YtndcjfogechpjaaPFnExactPauseBoundx1
namespace Go.Proofs.Ytndcjfogechpjaa.Pure
open Go.RowKit Go.Proofs.Ytndcjfogechpjaa.PFnExactPauseBound Go.Proofs.YtndcjfogechpjaaW.PrintWords Go.Proofs.YtndcjfogechpjaaW.PrintLast Go.Proofs.YtndcjfogechpjaaW.PrintMore
set_option linter.unusedVariables false
set_option linter.unusedSimpArgs false
theorem wrap64_id {x : Int} (h1 : -9223372036854775808 ≤ x) (h2 : x ≤ 9223372036854775807) : wrap64 x = x := by unfold wrap64; omega
theorem i64_of {x : Int} (h : (Lit.int .i64 x).wf = true) : -9223372036854775808 ≤ x ∧ x ≤ 9223372036854775807 := by
  simp [Lit.wf, IntKind.min, IntKind.max, IntKind.bits, IntKind.signed, IntKind.wrap] at h
  omega
def inR (x a b : Int) : Bool := decide (a ≤ x) && decide (x ≤ b)
theorem inR_iff {x a b : Int} : inR x a b = true ↔ a ≤ x ∧ x ≤ b := by unfold inR; simp
theorem inR_not {x a b : Int} : inR x a b = false ↔ ¬ (a ≤ x ∧ x ≤ b) := by rw [← inR_iff]; simp
def road (s : Int) (r : Bool) : Bool := inR s 2 24 && (!r || decide (3 ≤ s))
theorem road_bd {s : Int} {r : Bool} (h : road s r = true) : 2 ≤ s ∧ s ≤ 24 ∧ (r = true → 3 ≤ s) := by
  unfold road at h
  rw [Bool.and_eq_true, inR_iff] at h
  refine ⟨h.1.1, h.1.2, fun hr => ?_⟩
  have := h.2
  simp [hr] at this
  exact this
theorem spec_l1In_eq (a b c : Int) : spec_l1In.f a b c = some (inR a b c) := by
  unfold spec_l1In.f inR
  by_cases h : a ≥ b
  · have h' : b ≤ a := h
    simp [h, h']
  · have h' : ¬ b ≤ a := h
    simp [h, h']
theorem impl_within_eq (a b c : Int) : impl_within.f a b c = some (inR a b c) := by
  unfold impl_within.f inR
  by_cases h : a ≥ b
  · have h' : b ≤ a := h
    simp [h, h']
  · have h' : ¬ b ≤ a := h
    simp [h, h']
theorem spec_l2Road_eq (s : Int) (r : Bool) : spec_l2Road.f s r = some (road s r) := by
  unfold spec_l2Road.f road
  rw [spec_l1In_eq, Option.bind_some]
  cases inR s 2 24 <;> cases r <;> simp
  omega
theorem impl_IsRoad_eq (s : Int) (r : Bool) : impl_IsRoad.f s r = some (road s r) := by
  unfold impl_IsRoad.f road
  rw [impl_within_eq, Option.bind_some]
  cases inR s 2 24 <;> cases r <;> simp
theorem laws_toRoad_eq (s : Int) (r : Bool) : laws_toRoad.f s r = some (s, r) := rfl
theorem spec_l5Number_eq (s : Int) (r : Bool) (k : Int) : spec_l5Number.f s r k = some (road s r && inR k 1 6) := by
  unfold spec_l5Number.f
  rw [spec_l2Road_eq, Option.bind_some]
  cases road s r <;> simp [spec_l1In_eq]
theorem impl_isGuards_eq (k : Int) : impl_isGuards.f k = some (inR k 1 6) := by
  unfold impl_isGuards.f
  rw [impl_within_eq, Option.bind_some]

theorem FnExactPauseBound (a0_0 : Int) (a0_1 : Bool) (a1 : Int)
    (h0 : ((Lit.int .i64 (a0_0)).wf = true)) (h1 : True) (h2 : ((Lit.int .i64 (a1)).wf = true)) :
    ∃ k, laws_FnExactPauseBound.f k a0_0 a0_1 a1 = some true := by
  refine ⟨1, ?_⟩
  unfold laws_FnExactPauseBound.f spec_PauseBound.f impl_PauseBound.f
  simp only [laws_toRoad_eq, Option.bind_some, spec_l5Number_eq, impl_IsRoad_eq, impl_isGuards_eq, impl_PauseBound.j0]
  cases road a0_0 a0_1 with
  | false => simp
  | true =>
    cases h : inR a1 1 6 with
    | false => simp
    | true =>
      have hb := inR_iff.1 h
      by_cases e : a1 = 1
      · cases a0_1 <;> simp [e]
      · simp [e]
        rw [if_neg (by omega)]
        simp

end Go.Proofs.Ytndcjfogechpjaa.Pure
