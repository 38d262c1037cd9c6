/- The law FnExactBestPlans answers true at every input, and its arguments read behind the call as before. No conditions. -/
import Derived.Test.YthgbkekfekcfaaaRows
import Derived.Test.YthgbkekfekcfaaaPFnExactBestPlansx9
import Derived.Test.YthgbkekfekcfaaaPureFnExactBestPlans
import Derived.Test.YthgbkekfekcfaaaVFnExactBestPlans
import Derived.WalkKit
import Derived.ProofKit
import Derived.OpenShut
import Derived.ShutString
import Derived.ChangeOld
import Derived.Below
namespace Go.Proofs.Ythgbkekfekcfaaa.fnExactBestPlans
open Go.ChangeShapes Go.WideShapes Go.ChangeAt Go.RowKit Go.Proofs.Ythgbkekfekcfaaa.Row Go.Proofs.Ythgbkekfekcfaaa.PFnExactBestPlans Go.Proofs.YthgbkekfekcfaaaW.PrintWords
set_option linter.unusedVariables false
theorem own : ownKnob Try.prog.godebug = none := by kernel_rfl
theorem laidOut : laidOutB Try.prog = true := by kernel_rfl
theorem opens0 : Opens Try.prog 23 (Kd.pair (Kd.int .i64) Kd.bool) (fun x => ((Lit.int .i64 (x.1)).wf = true) ∧ True) := (opens_struct2 Try.underlying23 (by kernel_rfl) rfl (by kernel_rfl) rfl (by kernel_rfl) (opens_int Try.underlying3) (opens_bool Try.underlying4))
set_option maxRecDepth 100000 in
theorem lifted (os : Os) (started : os.Started) (H : Type) (enc : TypeId × Value → H) :
    ReturnsInHanded {} Try.checked os 3 .any (Rows.fnExactBestPlansSpec.pre6 enc Try.prog Try.f3 Rows.fnExactBestPlansRow.domain false) (Rows.fnExactBestPlansSpec.post enc Try.prog Try.f3 false true false false) := by
  refine returnsInHanded_of_change (C := Try.checked) own started (by kernel_rfl) Try.func3
    (ChangeSpec.witness6 (enc := enc) (C := Try.checked) false ⟨#[], #[.agg #[.int .i64 0, .bool false], .int .i64 0], []⟩ 8 (by kernel_rfl) (by kernel_rfl) (by kernel_rfl) (by kernel_rfl)) ?_
  intro W base args ds gs before hval0 hW hcnd _
  have hval : ∀ (j : Nat) t v, Try.f3.params[j]? = some t → args[j]? = some v → Value.okWide Try.prog W .any base t v := hval0
  have hW' := hW
  obtain ⟨p, q, hA0, hV, rfl, hfz, hnd⟩ := hW
  have hA : DataW.TrodAll enc Try.prog W 0 (fun _ => true) true Try.f3.params.toList args.toList ds p := hA0
  rw [Try.params3] at hA hval
  obtain ⟨v0, vs0, d0, ds0, p0, q0, hargs, rfl, rfl, h0, r0⟩ := trodAll_cons hA
  obtain ⟨v1, vs1, d1, ds1, p1, q1, rfl, rfl, rfl, h1, r1⟩ := trodAll_cons r0
  obtain ⟨rfl, rfl, rfl⟩ := trodAll_nil r1
  obtain rfl : args = #[v0, v1] := by cases args; simp_all
  obtain ⟨rfl, rfl⟩ := trodVars_none hV
  have k0 := h0
  have lt0 : ∀ x ∈ p0, x.block < W.heap.size := by obtain ⟨m, hm⟩ := k0; exact DataW.trod_lt m _ _ _ hm
  obtain ⟨cs0, rfl, _⟩ := okWide_struct Try.underlying23 (hval 0 23 v0 rfl rfl)
  obtain ⟨b0, K0, hk0⟩ := open_agg opens0 h0
  obtain ⟨x0_0, y0_0, e0_0, Q0_0, R0_0⟩ := K0
  have g0_0 := Q0_0
  have g0_1 := R0_0
  obtain rfl : cs0 = #[.int .i64 (b0.1), .bool (b0.2)] := by
    have z : cs0.toList = [.int .i64 (b0.1), .bool (b0.2)] := by rw [e0_0, show x0_0 = [.int .i64 (b0.1)] from g0_0, show y0_0 = [.bool (b0.2)] from g0_1]; first | rfl | simp
    cases cs0; simpa using z
  obtain ⟨a1, rfl, rfl, rfl, w1⟩ := open_int Try.underlying3 (hval 1 3 v1 rfl rfl) h1
  clear hA0 hval0
  obtain ⟨k, hP⟩ := Pure.FnExactBestPlans (b0.1) (b0.2) a1 hk0.1 hk0.2 w1
  refine (laws_FnExactBestPlans.calls k (b0.1) (b0.2) a1 true rfl W  hP).mono fun e W' ⟨he, bel0⟩ => ?_
  have bel : Below W.heap.size W W' := by first | exact bel0 | exact bel0.below
  subst he
  exact ⟨_, rfl, _, _, _, [], _, [], hW', trodAll_mk1 (shut_bool Try.underlying4 _), (trodAll_cons_mk (Below.trod laidOut (by kernel_rfl) (of_decide_eq_true (by kernel_rfl)) k0 bel lt0) (trodAll_cons_mk (shut_int Try.underlying3 w1) trodAll_mk0)), rfl, bel.frame _, fun h => by cases h⟩
theorem over : Rows.fnExactBestPlansRow.holds Try.pinned (OpenSpec.ofChange Rows.fnExactBestPlansSpec) :=
  OpenClaim.holds_of_wide 3 Try.f3 rfl rfl rfl rfl rfl rfl rfl ⟨rfl, rfl, rfl, rfl, rfl⟩ rfl rfl rfl rfl rfl (by kernel_rfl) Try.func3 (by kernel_rfl)
    (of_decide_eq_true (by kernel_rfl)) (by unfold Func.isWrapper; first | (rw [if_pos (by decide +kernel)]; kernel_rfl) | (rw [if_neg (by decide +kernel)]; exact ⟨rfl, rfl⟩))
    (fun os started H enc _ => lifted os started H enc)
theorem proved : Rows.FnExactBestPlansSaid := over
#print axioms proved
end Go.Proofs.Ythgbkekfekcfaaa.fnExactBestPlans
namespace Go.Proofs.Ythgbkekfekcfaaa
/-- The row, under a short name, for the claim. -/
theorem fnExactBestPlans_holds : Rows.FnExactBestPlansSaid := fnExactBestPlans.proved
end Go.Proofs.Ythgbkekfekcfaaa
