-- Told shorter still by shrink2.py.
-- Printed, and told shorter by this session's program shrink.py.
-- Printed by this session's program myprint.py.
import Derived.Test.YtbjpfnpleajhgadPFnToursx0
import Derived.Test.YtbjpfnpleajhgadPFnToursx1
namespace Go.Proofs.Ytbjpfnpleajhgad.PFnTours
open Go.RowKit Go.Proofs.Ytbjpfnpleajhgad.Own Go.Proofs.YtbjpfnpleajhgadW.PrintWords Go.Proofs.YtbjpfnpleajhgadW.PrintLast Go.Proofs.YtbjpfnpleajhgadW.PrintMore
attribute [local go_sem] max2_int min2_int max_two min_two max_three min_three max_four min_four   -- for this text's walks alone
set_option linter.unusedVariables false
set_option linter.unusedSimpArgs false

/-! ### spec_l2Gap: function 67 -/
def Q53.f (a0_0 : Int) (a0_1 : Bool) (a1 : Int) (a2 : Int) : Option (Int) := (Q30.f (wrap64 (a1 - a2)) (wrap64 (a2 - a1))).bind fun t483 => (if a0_1 = true then ((Q31.f t483 (wrap64 (a0_0 - t483))).bind fun t484 => (some t484)) else (some t483))
set_option maxHeartbeats 8000000 in
set_option maxRecDepth 100000 in
theorem Q53.calls (a0_0 : Int) (a0_1 : Bool) (a1 : Int) (a2 : Int) (r : Int) (w : World) (h : Q53.f a0_0 a0_1 a1 a2 = some r) :
    Calls Try.prog 67 #[.agg #[.int .i64 a0_0, .bool a0_1], .int .i64 a1, .int .i64 a2] w fun e w' => e = .returned (.int .i64 r) ∧ Below w.heap.size w w' := by
 have hu25 := Try.underlying25; have HB := A_ (Below.refl w.heap.size w); have H : ((Q30.f (wrap64 (a1 - a2)) (wrap64 (a2 - a1))).bind fun t483 => (if a0_1 = true then ((Q31.f t483 (wrap64 (a0_0 - t483))).bind fun t484 => (some t484)) else (some t483))) = some r := h; clear h; replace H := bm H; obtain ⟨t483, A4, H⟩ := H; by_cases c5 : a0_1 = true
 ·
  subst c5
  have H1 : ((Q31.f t483 (wrap64 (a0_0 - t483))).bind fun t484 => (some t484)) = some r := by rw [if_pos rfl] at H; exact H
  clear H; have H := H1; clear H1; replace H := bm H; obtain ⟨t484, A6, H⟩ := H; obtain rfl := Option.some.inj H; go_enter Try.func67, Try.ntmps67
  go_wp2_with (first | ((with_reducible refine gate_dst (N := 3) rfl ?_); refine bx (N := 3) #[.int .i64 a0_0, .bool true] 25 ?_; intro gb482 hg w7 hbox hb; have BK482 := A_ (hbox); have GW482 := A_ (bs hg (hq HB) : w.heap.size ≤ gb482); have GE482 := A_ (bs hg (hq HB) : w.heap.size ≤ gb482); replace HB := A_ (below_step (hq HB) hb); clear hb hbox hg) | ((with_reducible refine gate_callee (f := 28) rfl ?_); refine gL (some 14) Try.func28 #[.int .i64 (wrap64 (a1 - a2)), .int .i64 (wrap64 (a2 - a1))] ?_; (with_reducible refine (Q30.calls (wrap64 (a1 - a2)) (wrap64 (a2 - a1)) t483 _ A4.out).mono ?_); rintro e w' ⟨rfl, ⟨nd, rfl⟩⟩; refine ⟨_, rfl, ?_⟩; have hcz8_0 : w7.cell? ⟨gb482, 0, none⟩ = some (.int .i64 a0_0) := bc BK482 0; have hcz8_1 : w7.cell? ⟨gb482, 1, none⟩ = some (.bool true) := bc BK482 1; have hfz8_0 := blk_frozen BK482.out 0; have hfz8_1 := blk_frozen BK482.out 1) | ((with_reducible refine gate_callee (f := 31) rfl ?_); refine gL (some 22) Try.func31 #[.int .i64 t483, .int .i64 (wrap64 (a0_0 - t483))] ?_; (with_reducible refine (Q31.calls t483 (wrap64 (a0_0 - t483)) t484 _ A6.out).mono ?_); rintro e w' ⟨rfl, ⟨nd, rfl⟩⟩; refine ⟨_, rfl, ?_⟩))
  go_ret
  exact ⟨rt, hq HB⟩
 ·
  replace c5 := Bool.eq_false_iff.mpr c5; subst c5
  have H1 : (some t483) = some r := by rw [if_neg (show ¬ (false = true) by decide)] at H; exact H
  clear H; have H := H1; clear H1; obtain rfl := Option.some.inj H; go_enter Try.func67, Try.ntmps67
  go_wp2_with (first | ((with_reducible refine gate_dst (N := 3) rfl ?_); refine bx (N := 3) #[.int .i64 a0_0, .bool false] 25 ?_; intro gb482 hg w9 hbox hb; have BK482 := A_ (hbox); have GW482 := A_ (bs hg (hq HB) : w.heap.size ≤ gb482); have GE482 := A_ (bs hg (hq HB) : w.heap.size ≤ gb482); replace HB := A_ (below_step (hq HB) hb); clear hb hbox hg) | ((with_reducible refine gate_callee (f := 28) rfl ?_); refine gL (some 14) Try.func28 #[.int .i64 (wrap64 (a1 - a2)), .int .i64 (wrap64 (a2 - a1))] ?_; (with_reducible refine (Q30.calls (wrap64 (a1 - a2)) (wrap64 (a2 - a1)) t483 _ A4.out).mono ?_); rintro e w' ⟨rfl, ⟨nd, rfl⟩⟩; refine ⟨_, rfl, ?_⟩; have hcz10_0 : w9.cell? ⟨gb482, 0, none⟩ = some (.int .i64 a0_0) := bc BK482 0; have hcz10_1 : w9.cell? ⟨gb482, 1, none⟩ = some (.bool false) := bc BK482 1; have hfz10_0 := blk_frozen BK482.out 0; have hfz10_1 := blk_frozen BK482.out 1))
  go_ret
  exact ⟨rt, hq HB⟩

end Go.Proofs.Ytbjpfnpleajhgad.PFnTours
