/- The law FnExactMirrorWalker answers true at every input, and its arguments read behind the call as before. No conditions. -/
import Derived.Test.YtppkommlmloenaaRows
import Derived.Test.YtppkommlmloenaaPFnExactMirrorWalkerx5
import Derived.Test.YtppkommlmloenaaPureFnExactMirrorWalker
import Derived.Test.YtppkommlmloenaaRow
import Derived.WalkKit
import Derived.ProofKit
import Derived.OpenShut
import Derived.ShutString
import Derived.ChangeOld
import Derived.Below
namespace Go.Proofs.Ytppkommlmloenaa.fnExactMirrorWalker
open Go.ChangeShapes Go.WideShapes Go.ChangeAt Go.RowKit Go.Proofs.Ytppkommlmloenaa.Row Go.Proofs.Ytppkommlmloenaa.PFnExactMirrorWalker Go.Proofs.YtppkommlmloenaaW.PrintWords
set_option linter.unusedVariables false
theorem own : ownKnob Try.prog.godebug = none := by kernel_rfl
theorem laidOut : laidOutB Try.prog = true := by kernel_rfl
theorem opens0 : Opens Try.prog 23 (Kd.pair (Kd.int .i64) Kd.bool) (fun x => ((Lit.int .i64 (x.1)).wf = true) ∧ True) := (opens_struct2 Try.underlying23 (by kernel_rfl) rfl (by kernel_rfl) rfl (by kernel_rfl) (opens_int Try.underlying3) (opens_bool Try.underlying4))
theorem opens1 : Opens Try.prog 26 (Kd.pair (Kd.int .i64) (Kd.pair (Kd.int .i64) (Kd.pair (Kd.int .i64) (Kd.slice 3 (Kd.int .i64))))) (fun x => ((Lit.int .i64 (x.1)).wf = true) ∧ ((Lit.int .i64 (x.2.1)).wf = true) ∧ ((Lit.int .i64 (x.2.2.1)).wf = true) ∧ (x.2.2.2.length ≤ maxLen ∧ ∀ y0 ∈ x.2.2.2, ((Lit.int .i64 (y0)).wf = true))) := (opens_struct4 Try.underlying26 (by kernel_rfl) rfl (by kernel_rfl) rfl (by kernel_rfl) rfl (by kernel_rfl) rfl (by kernel_rfl) (opens_int Try.underlying3) (opens_int Try.underlying3) (opens_int Try.underlying3) (opens_slice Try.underlying24 (by kernel_rfl) (opens_int Try.underlying3)))
set_option maxRecDepth 100000 in
theorem lifted (os : Os) (started : os.Started) (H : Type) (enc : TypeId × Value → H) :
    ReturnsInHanded {} Try.checked os 4 .any (Rows.fnExactMirrorWalkerSpec.pre6 enc Try.prog Try.f4 Rows.fnExactMirrorWalkerRow.domain false) (Rows.fnExactMirrorWalkerSpec.post enc Try.prog Try.f4 false true false false) := by
  refine returnsInHanded_of_change (C := Try.checked) own started (by kernel_rfl) Try.func4
    (ChangeSpec.witness6 (enc := enc) (C := Try.checked) false ⟨#[], #[.agg #[.int .i64 0, .bool false], .agg #[.int .i64 0, .int .i64 0, .int .i64 0, .slice none 0 0]], []⟩ 8 (by kernel_rfl) (by kernel_rfl) (by kernel_rfl) (by kernel_rfl)) ?_
  intro W base args ds gs before hval0 hW hcnd _
  have hval : ∀ (j : Nat) t v, Try.f4.params[j]? = some t → args[j]? = some v → Value.okWide Try.prog W .any base t v := hval0
  have hW' := hW
  obtain ⟨p, q, hA0, hV, rfl, hfz, hnd⟩ := hW
  have hA : DataW.TrodAll enc Try.prog W 0 (fun _ => true) true Try.f4.params.toList args.toList ds p := hA0
  rw [Try.params4] at hA hval
  obtain ⟨v0, vs0, d0, ds0, p0, q0, hargs, rfl, rfl, h0, r0⟩ := trodAll_cons hA
  obtain ⟨v1, vs1, d1, ds1, p1, q1, rfl, rfl, rfl, h1, r1⟩ := trodAll_cons r0
  obtain ⟨rfl, rfl, rfl⟩ := trodAll_nil r1
  obtain rfl : args = #[v0, v1] := by cases args; simp_all
  obtain ⟨rfl, rfl⟩ := trodVars_none hV
  have k0 := h0
  have lt0 : ∀ x ∈ p0, x.block < W.heap.size := by obtain ⟨m, hm⟩ := k0; exact DataW.trod_lt m _ _ _ hm
  obtain ⟨cs0, rfl, _⟩ := okWide_struct Try.underlying23 (hval 0 23 v0 rfl rfl)
  obtain ⟨b0, K0, hk0⟩ := open_agg opens0 h0
  obtain ⟨x0_0, y0_0, e0_0, Q0_0, R0_0⟩ := K0
  have g0_0 := Q0_0
  have g0_1 := R0_0
  obtain rfl : cs0 = #[.int .i64 (b0.1), .bool (b0.2)] := by
    have z : cs0.toList = [.int .i64 (b0.1), .bool (b0.2)] := by rw [e0_0, show x0_0 = [.int .i64 (b0.1)] from g0_0, show y0_0 = [.bool (b0.2)] from g0_1]; first | rfl | simp
    cases cs0; simpa using z
  have k1 := h1
  have lt1 : ∀ x ∈ p1, x.block < W.heap.size := by obtain ⟨m, hm⟩ := k1; exact DataW.trod_lt m _ _ _ hm
  obtain ⟨cs1, rfl, _⟩ := okWide_struct Try.underlying26 (hval 1 26 v1 rfl rfl)
  obtain ⟨b1, K1, hk1⟩ := open_agg opens1 h1
  obtain ⟨x1_0, y1_0, e1_0, Q1_0, R1_0⟩ := K1
  have g1_0 := Q1_0
  obtain ⟨x1_1, y1_1, e1_1, Q1_1, R1_1⟩ := R1_0
  have g1_1 := Q1_1
  obtain ⟨x1_2, y1_2, e1_2, Q1_2, R1_2⟩ := R1_1
  have g1_2 := Q1_2
  obtain ⟨A1_3, c1_3, g1_3, hc1_3, hr1_3⟩ := R1_2
  obtain rfl : cs1 = #[.int .i64 (b1.1), .int .i64 (b1.2.1), .int .i64 (b1.2.2.1), .slice A1_3 b1.2.2.2.length c1_3] := by
    have z : cs1.toList = [.int .i64 (b1.1), .int .i64 (b1.2.1), .int .i64 (b1.2.2.1), .slice A1_3 b1.2.2.2.length c1_3] := by rw [e1_0, e1_1, e1_2, show x1_0 = [.int .i64 (b1.1)] from g1_0, show x1_1 = [.int .i64 (b1.2.1)] from g1_1, show x1_2 = [.int .i64 (b1.2.2.1)] from g1_2, show y1_2 = [.slice A1_3 b1.2.2.2.length c1_3] from g1_3]; first | rfl | simp
    cases cs1; simpa using z
  clear hA0 hval0
  obtain ⟨k, hP⟩ := Pure.FnExactMirrorWalker (b0.1) (b0.2) (b1.1) (b1.2.1) (b1.2.2.1) (b1.2.2.2) hk0.1 hk0.2 hk1.1 hk1.2.1 hk1.2.2.1 hk1.2.2.2
  refine (laws_FnExactMirrorWalker.calls k (b0.1) (b0.2) (b1.1) (b1.2.1) (b1.2.2.1) A1_3 c1_3 b1.2.2.2 true rfl W hr1_3 hc1_3 hP).mono fun e W' ⟨he, bel0⟩ => ?_
  have bel : Below W.heap.size W W' := by first | exact bel0 | exact bel0.below
  subst he
  exact ⟨_, rfl, _, _, _, [], _, [], hW', trodAll_mk1 (shut_bool Try.underlying4 _), (trodAll_cons_mk (Below.trod laidOut (by kernel_rfl) (of_decide_eq_true (by kernel_rfl)) k0 bel lt0) (trodAll_cons_mk (Below.trod laidOut (by kernel_rfl) (of_decide_eq_true (by kernel_rfl)) k1 bel lt1) trodAll_mk0)), rfl, bel.frame _, fun h => by cases h⟩
theorem over : Rows.fnExactMirrorWalkerRow.holds Try.pinned (OpenSpec.ofChange Rows.fnExactMirrorWalkerSpec) :=
  OpenClaim.holds_of_wide 4 Try.f4 rfl rfl rfl rfl rfl rfl rfl ⟨rfl, rfl, rfl, rfl, rfl⟩ rfl rfl rfl rfl rfl (by kernel_rfl) Try.func4 (by kernel_rfl)
    (of_decide_eq_true (by kernel_rfl)) (by unfold Func.isWrapper; first | (rw [if_pos (by decide +kernel)]; kernel_rfl) | (rw [if_neg (by decide +kernel)]; exact ⟨rfl, rfl⟩))
    (fun os started H enc _ => lifted os started H enc)
theorem proved : Rows.FnExactMirrorWalkerSaid := over
#print axioms proved
end Go.Proofs.Ytppkommlmloenaa.fnExactMirrorWalker
namespace Go.Proofs.Ytppkommlmloenaa
/-- The row, under a short name, for the claim. -/
theorem fnExactMirrorWalker_holds : Rows.FnExactMirrorWalkerSaid := fnExactMirrorWalker.proved
end Go.Proofs.Ytppkommlmloenaa
