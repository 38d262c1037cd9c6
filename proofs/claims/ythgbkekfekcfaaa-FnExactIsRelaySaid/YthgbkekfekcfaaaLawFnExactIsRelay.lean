/- The law FnExactIsRelay answers true at every input, and its arguments read behind the call as before. No conditions. -/
import Derived.Test.YthgbkekfekcfaaaRows
import Derived.Test.YthgbkekfekcfaaaPFnExactIsRelayx7
import Derived.Test.YthgbkekfekcfaaaPureFnExactIsRelay
import Derived.Test.YthgbkekfekcfaaaVFnExactIsRelay
import Derived.WalkKit
import Derived.ProofKit
import Derived.OpenShut
import Derived.ShutString
import Derived.ChangeOld
import Derived.Below
namespace Go.Proofs.Ythgbkekfekcfaaa.fnExactIsRelay
open Go.ChangeShapes Go.WideShapes Go.ChangeAt Go.RowKit Go.Proofs.Ythgbkekfekcfaaa.Row Go.Proofs.Ythgbkekfekcfaaa.PFnExactIsRelay Go.Proofs.YthgbkekfekcfaaaW.PrintWords
set_option linter.unusedVariables false
theorem own : ownKnob Try.prog.godebug = none := by kernel_rfl
theorem laidOut : laidOutB Try.prog = true := by kernel_rfl
theorem opens_array3 {P : Program} {t e : TypeId} {α : Type} {d : Kd α} {ok : α → Prop} (ht : P.underlying t = some (.array 3 e)) (hs : P.cellsOf t = d.sz + (d.sz + d.sz)) (hc : P.cellsOf e = d.sz) (h0 : Opens P e d ok) :
    Opens P t (Kd.pair d (Kd.pair d d)) (fun x => ok x.1 ∧ ok x.2.1 ∧ ok x.2.2) := by
  intro H enc w base spare held fuel cs x h
  obtain ⟨xs, n, _, _, hl, hxl, hf⟩ := DataW.trod_array ht h
  have e0 := hf 0 (by omega)
  have e1 := hf 1 (by omega)
  have e2 := hf 2 (by omega)
  rw [List.getElem?_eq_getElem (by omega)] at e0 e1 e2
  obtain ⟨a0, K0, k0⟩ := h0 e0
  obtain ⟨a1, K1, k1⟩ := h0 e1
  obtain ⟨a2, K2, k2⟩ := h0 e2
  rw [hc, Nat.zero_mul, List.drop_zero] at K0
  rw [hc, Nat.one_mul] at K1
  rw [hc, Nat.two_mul] at K2
  refine ⟨(a0, a1, a2), ⟨cs.take d.sz, cs.drop d.sz, (List.take_append_drop _ _).symm, K0, (cs.drop d.sz).take d.sz, (cs.drop d.sz).drop d.sz, (List.take_append_drop _ _).symm, K1, ?_⟩, k0, k1, k2⟩
  have : (cs.drop (d.sz + d.sz)).take d.sz = (cs.drop d.sz).drop d.sz := by
    rw [List.drop_drop]
    exact List.take_of_length_le (by rw [List.length_drop]; omega)
  rw [this] at K2
  exact K2
theorem opens0 : Opens Try.prog 23 (Kd.pair (Kd.int .i64) Kd.bool) (fun x => ((Lit.int .i64 (x.1)).wf = true) ∧ True) := (opens_struct2 Try.underlying23 (by kernel_rfl) rfl (by kernel_rfl) rfl (by kernel_rfl) (opens_int Try.underlying3) (opens_bool Try.underlying4))
theorem opens1 : Opens Try.prog 32 (Kd.slice 63 k63) (fun x => (x.length ≤ maxLen ∧ ∀ y0 ∈ x, (((Lit.int .i64 ((y0).f0)).wf = true) ∧ ((Lit.int .i64 ((y0).f1)).wf = true) ∧ ((Lit.int .i64 ((y0).f2)).wf = true)))) := (opens_slice Try.underlying32 (by kernel_rfl) (opens_iso (fun x : S63 => (x.f0, x.f1, x.f2)) (fun y => ⟨y.1, y.2.1, y.2.2⟩) (fun _ => rfl) (opens_struct3 Try.underlying63 (by kernel_rfl) rfl (by kernel_rfl) rfl (by kernel_rfl) rfl (by kernel_rfl) (opens_int Try.underlying3) (opens_int Try.underlying3) (opens_int Try.underlying3))))
theorem opens4 : Opens Try.prog 40 (Kd.slice 69 k69) (fun x => (x.length ≤ maxLen ∧ ∀ y0 ∈ x, (((Lit.int .i64 ((y0).f0)).wf = true) ∧ ((Lit.int .i64 ((y0).f1)).wf = true) ∧ ((Lit.int .i64 ((y0).f2)).wf = true)))) := (opens_slice Try.underlying40 (by kernel_rfl) (opens_iso (fun x : S69 => (x.f0, x.f1, x.f2)) (fun y => ⟨y.1, y.2.1, y.2.2⟩) (fun _ => rfl) (opens_array3 Try.underlying69 (by kernel_rfl) (by kernel_rfl) (opens_int Try.underlying3))))
set_option maxRecDepth 100000 in
theorem lifted (os : Os) (started : os.Started) (H : Type) (enc : TypeId × Value → H) :
    ReturnsInHanded {} Try.checked os 6 .any (Rows.fnExactIsRelaySpec.pre6 enc Try.prog Try.f6 Rows.fnExactIsRelayRow.domain false) (Rows.fnExactIsRelaySpec.post enc Try.prog Try.f6 false true false false) := by
  refine returnsInHanded_of_change (C := Try.checked) own started (by kernel_rfl) Try.func6
    (ChangeSpec.witness6 (enc := enc) (C := Try.checked) false ⟨#[], #[.agg #[.int .i64 0, .bool false], .slice none 0 0, .int .i64 0, .int .i64 0, .slice none 0 0], []⟩ 8 (by kernel_rfl) (by kernel_rfl) (by kernel_rfl) (by kernel_rfl)) ?_
  intro W base args ds gs before hval0 hW hcnd _
  have hval : ∀ (j : Nat) t v, Try.f6.params[j]? = some t → args[j]? = some v → Value.okWide Try.prog W .any base t v := hval0
  have hW' := hW
  obtain ⟨p, q, hA0, hV, rfl, hfz, hnd⟩ := hW
  have hA : DataW.TrodAll enc Try.prog W 0 (fun _ => true) true Try.f6.params.toList args.toList ds p := hA0
  rw [Try.params6] at hA hval
  obtain ⟨v0, vs0, d0, ds0, p0, q0, hargs, rfl, rfl, h0, r0⟩ := trodAll_cons hA
  obtain ⟨v1, vs1, d1, ds1, p1, q1, rfl, rfl, rfl, h1, r1⟩ := trodAll_cons r0
  obtain ⟨v2, vs2, d2, ds2, p2, q2, rfl, rfl, rfl, h2, r2⟩ := trodAll_cons r1
  obtain ⟨v3, vs3, d3, ds3, p3, q3, rfl, rfl, rfl, h3, r3⟩ := trodAll_cons r2
  obtain ⟨v4, vs4, d4, ds4, p4, q4, rfl, rfl, rfl, h4, r4⟩ := trodAll_cons r3
  obtain ⟨rfl, rfl, rfl⟩ := trodAll_nil r4
  obtain rfl : args = #[v0, v1, v2, v3, v4] := by cases args; simp_all
  obtain ⟨rfl, rfl⟩ := trodVars_none hV
  have k0 := h0
  have lt0 : ∀ x ∈ p0, x.block < W.heap.size := by obtain ⟨m, hm⟩ := k0; exact DataW.trod_lt m _ _ _ hm
  obtain ⟨cs0, rfl, _⟩ := okWide_struct Try.underlying23 (hval 0 23 v0 rfl rfl)
  obtain ⟨b0, K0, hk0⟩ := open_agg opens0 h0
  obtain ⟨x0_0, y0_0, e0_0, Q0_0, R0_0⟩ := K0
  have g0_0 := Q0_0
  have g0_1 := R0_0
  obtain rfl : cs0 = #[.int .i64 (b0.1), .bool (b0.2)] := by
    have z : cs0.toList = [.int .i64 (b0.1), .bool (b0.2)] := by rw [e0_0, show x0_0 = [.int .i64 (b0.1)] from g0_0, show y0_0 = [.bool (b0.2)] from g0_1]; first | rfl | simp
    cases cs0; simpa using z
  have k1 := h1
  have lt1 : ∀ x ∈ p1, x.block < W.heap.size := by obtain ⟨m, hm⟩ := k1; exact DataW.trod_lt m _ _ _ hm
  obtain ⟨A1, n1, c1, rfl⟩ := okWide_slice Try.underlying32 (hval 1 32 v1 rfl rfl)
  obtain ⟨l1, rfl, hc1, hr1, hk1⟩ := open_row opens1 h1
  obtain ⟨a2, rfl, rfl, rfl, w2⟩ := open_int Try.underlying3 (hval 2 3 v2 rfl rfl) h2
  obtain ⟨a3, rfl, rfl, rfl, w3⟩ := open_int Try.underlying3 (hval 3 3 v3 rfl rfl) h3
  have k4 := h4
  have lt4 : ∀ x ∈ p4, x.block < W.heap.size := by obtain ⟨m, hm⟩ := k4; exact DataW.trod_lt m _ _ _ hm
  obtain ⟨A4, n4, c4, rfl⟩ := okWide_slice Try.underlying40 (hval 4 40 v4 rfl rfl)
  obtain ⟨l4, rfl, hc4, hr4, hk4⟩ := open_row opens4 h4
  clear hA0 hval0
  obtain ⟨k, hP⟩ := Pure.FnExactIsRelay (b0.1) (b0.2) l1 a2 a3 l4 hk0.1 hk0.2 hk1 w2 w3 hk4
  refine (laws_FnExactIsRelay.calls k (b0.1) (b0.2) A1 c1 l1 a2 a3 A4 c4 l4 true rfl W hr1 hc1 hr4 hc4 hP).mono fun e W' ⟨he, bel0⟩ => ?_
  have bel : Below W.heap.size W W' := by first | exact bel0 | exact bel0.below
  subst he
  exact ⟨_, rfl, _, _, _, [], _, [], hW', trodAll_mk1 (shut_bool Try.underlying4 _), (trodAll_cons_mk (Below.trod laidOut (by kernel_rfl) (of_decide_eq_true (by kernel_rfl)) k0 bel lt0) (trodAll_cons_mk (Below.trod laidOut (by kernel_rfl) (of_decide_eq_true (by kernel_rfl)) k1 bel lt1) (trodAll_cons_mk (shut_int Try.underlying3 w2) (trodAll_cons_mk (shut_int Try.underlying3 w3) (trodAll_cons_mk (Below.trod laidOut (by kernel_rfl) (of_decide_eq_true (by kernel_rfl)) k4 bel lt4) trodAll_mk0))))), rfl, bel.frame _, fun h => by cases h⟩
theorem over : Rows.fnExactIsRelayRow.holds Try.pinned (OpenSpec.ofChange Rows.fnExactIsRelaySpec) :=
  OpenClaim.holds_of_wide 6 Try.f6 rfl rfl rfl rfl rfl rfl rfl ⟨rfl, rfl, rfl, rfl, rfl⟩ rfl rfl rfl rfl rfl (by kernel_rfl) Try.func6 (by kernel_rfl)
    (of_decide_eq_true (by kernel_rfl)) (by unfold Func.isWrapper; first | (rw [if_pos (by decide +kernel)]; kernel_rfl) | (rw [if_neg (by decide +kernel)]; exact ⟨rfl, rfl⟩))
    (fun os started H enc _ => lifted os started H enc)
theorem proved : Rows.FnExactIsRelaySaid := over
#print axioms proved
end Go.Proofs.Ythgbkekfekcfaaa.fnExactIsRelay
namespace Go.Proofs.Ythgbkekfekcfaaa
/-- The row, under a short name, for the claim. -/
theorem fnExactIsRelay_holds : Rows.FnExactIsRelaySaid := fnExactIsRelay.proved
end Go.Proofs.Ythgbkekfekcfaaa
