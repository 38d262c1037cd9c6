-- Told shorter still by shrink2.py.
-- Printed, and told shorter by this session's program shrink.py.
-- Printed by this session's program myprint.py.
import Derived.Test.YtbjpfnpleajhgaaPFnWalksx0
import Derived.Test.YtbjpfnpleajhgaaPFnWalksx1
import Derived.Test.YtbjpfnpleajhgaaPFnWalksx4
namespace Go.Proofs.Ytbjpfnpleajhgaa.PFnWalks
open Go.RowKit Go.Proofs.Ytbjpfnpleajhgaa.Own Go.Proofs.YtbjpfnpleajhgaaW.PrintWords Go.Proofs.YtbjpfnpleajhgaaW.PrintLast Go.Proofs.YtbjpfnpleajhgaaW.PrintMore
attribute [local go_sem] max2_int min2_int max_two min_two max_three min_three max_four min_four   -- for this text's walks alone
set_option linter.unusedVariables false
set_option linter.unusedSimpArgs false

/-! ### impl_FirstVisits: function 6 -/
def Q21.f (k : Nat) (a0_0 : Int) (a0_1 : Bool) (l1 : List Int) : Option (List Int × Bool) := (Q4.f k a0_0 a0_1 (([l1] : List (List Int)))).bind fun t279 => (if t279 = true then ((Q17.f k a0_0 a0_1 l1).bind fun t280 => (some (t280, true))) else (some (([] : List Int), false)))
set_option maxHeartbeats 8000000 in
set_option maxRecDepth 100000 in
theorem Q21.calls (k : Nat) (a0_0 : Int) (a0_1 : Bool) (A1 : Option Addr) (c1 : Nat) (l1 : List Int) (r1 : List Int) (r2 : Bool) (w : World) (hr1 : Kd.C (Kd.int .i64) w A1 l1.length l1) (hc1 : l1.length ≤ c1) (h : Q21.f k a0_0 a0_1 l1 = some (r1, r2)) :
    Calls Try.prog 6 #[.agg #[.int .i64 a0_0, .bool a0_1], .slice A1 l1.length c1] w fun e w' => ∃ v0_ : Value, e = .returned (.tuple #[v0_, .bool r2]) ∧ Kd.R (Kd.int .i64) 3 w' w.heap.size (fun _ => True) v0_ r1 ∧ Below w.heap.size w w' := by
 have hu25 := Try.underlying25; have HR1 := A_ hr1; have HC1 := A_ hc1; clear hr1 hc1; have HB := A_ (Below.refl w.heap.size w); have H : ((Q4.f k a0_0 a0_1 (([l1] : List (List Int)))).bind fun t279 => (if t279 = true then ((Q17.f k a0_0 a0_1 l1).bind fun t280 => (some (t280, true))) else (some (([] : List Int), false)))) = some (r1, r2) := h; clear h
 obtain ⟨y276, hy276⟩ : ∃ y_ : List (List Int), y_ = (([l1] : List (List Int))) := ⟨_, rfl⟩
 replace H : ((Q4.f k a0_0 a0_1 y276).bind fun t279 => (if t279 = true then ((Q17.f k a0_0 a0_1 l1).bind fun t280 => (some (t280, true))) else (some (([] : List Int), false)))) = some (r1, r2) := by first | (rw [hy276]; with_reducible exact H) | (have H2_ := (Option.bind_some _ _).symm.trans H; rw [hy276]; with_reducible exact H2_) | (have H2_ := (Option.bind_some _ _).symm.trans H; with_reducible exact H2_) | with_reducible exact H | (rw [hy276]; exact H) | exact H
 have Ny276 := A_ hy276; clear hy276; replace H := bm H; obtain ⟨t279, A3, H⟩ := H; by_cases c4 : t279 = true
 ·
  subst c4
  have H1 : ((Q17.f k a0_0 a0_1 l1).bind fun t280 => (some (t280, true))) = some (r1, r2) := by rw [if_pos rfl] at H; exact H
  clear H; have H := H1; clear H1; replace H := bm H; obtain ⟨t280, A5, H⟩ := H; simp only [Option.some.injEq, Prod.mk.injEq] at H
  obtain ⟨rfl, rfl⟩ := H; go_enter Try.func6, Try.ntmps6
  go_wp2_with (first | ((with_reducible refine gate_dst (N := 2) rfl ?_); refine bx (N := 2) #[.int .i64 a0_0, .bool a0_1] 25 ?_; intro gb275 hg w6 hbox hb; have BK275 := A_ (hbox); have GW275 := A_ (bs hg (hq HB) : w.heap.size ≤ gb275); have GE275 := A_ (bs hg (hq HB) : w.heap.size ≤ gb275); replace HB := A_ (below_step (hq HB) hb); clear hb hbox hg; have hcz7_0 : w6.cell? ⟨gb275, 0, none⟩ = some (.int .i64 a0_0) := bc BK275 0; have hcz7_1 : w6.cell? ⟨gb275, 1, none⟩ = some (.bool a0_1) := bc BK275 1; have hfz7_0 := blk_frozen BK275.out 0; have hfz7_1 := blk_frozen BK275.out 1) | ((with_reducible refine gate_dst (N := 8) rfl ?_); refine V_lit (Kd.slice 3 (Kd.int .i64)) 0 26 ?hg (N' := 8) ?hd (xs := ([l1] : List (List Int))) (inner := [.slice A1 l1.length c1]) ?hr ?hp (by simp) ?_; (case hd => rfl); (case hg => rfl); (case hr => first | (go_simp; done) | (go_simp; rfl)); (case hp => exact (Reps.one (show Kd.FK (Kd.slice 3 (Kd.int .i64)) _ _ l1 [.slice A1 l1.length c1] from (Kd.FK_slice_mk HC1.out (Kd.F_mono (Kd.F_below (Kd.C_F (Kd.heap_int .i64) HR1.out) (hq HB)) (fun _ _ => trivial)))) (Reps.none _ _))); intro v277 w8 ho9 hb; (first | rw [← Ny276.out] at ho9 | (simp only [Int.reduceToNat] at ho9; rw [← Ny276.out] at ho9)); replace BK275 := A_ (blk_below (bq BK275) hb); replace HB := A_ (below_step (hq HB) hb); have HO278 := A_ (ho9); clear hb ho9; obtain ⟨Ao10, co10, eo10⟩ := Kd.V_slice HO278.out; subst eo10) | ((with_reducible refine gate_callee (f := 29) rfl ?_); refine gL (some 9) Try.func29 #[.agg #[.int .i64 a0_0, .bool a0_1], .slice Ao10 y276.length co10] ?_; (with_reducible refine (Q4.calls k a0_0 a0_1 _ _ y276 true _ ?side1 ?side2 A3.out).mono ?_); (case side1 => exact cq (Kd.V_reads' HO278.out).2.2); (case side2 => exact (Kd.V_reads' HO278.out).2.1); rintro e w11 ⟨rfl, hb⟩; refine ⟨_, rfl, ?_⟩; replace HO278 := A_ (Kd.V_below (vq HO278) hb); replace BK275 := A_ (blk_below (bq BK275) hb); replace HB := A_ (below_step (hq HB) hb); clear hb; have hcz12_0 : w11.cell? ⟨gb275, 0, none⟩ = some (.int .i64 a0_0) := bc BK275 0; have hcz12_1 : w11.cell? ⟨gb275, 1, none⟩ = some (.bool a0_1) := bc BK275 1; have hfz12_0 := blk_frozen BK275.out 0; have hfz12_1 := blk_frozen BK275.out 1) | ((with_reducible refine gate_callee (f := 30) rfl ?_); refine gL (some 13) Try.func30 #[.agg #[.int .i64 a0_0, .bool a0_1], .slice A1 l1.length c1] ?_; (with_reducible refine (Q17.calls k a0_0 a0_1 _ _ l1 t280 _ ?side1 ?side2 A5.out).mono ?_); (case side1 => exact cq (Kd.C_below HR1.out HB.out)); (case side2 => exact HC1.out); rintro e w13 ⟨v281, rfl, ho0, hb⟩; refine ⟨_, rfl, ?_⟩; replace HO278 := A_ (Kd.V_elder' (vq HO278) (Kd.R_base ho0) hb); have HO282 := A_ (Kd.R_lower ho0 (below_size (hq HB))); replace BK275 := A_ (blk_below (bq BK275) hb); replace HB := A_ (below_step (hq HB) hb); clear hb ho0))
  go_ret2
  exact ⟨_, rt, rq HO282, hq HB⟩
 ·
  replace c4 := Bool.eq_false_iff.mpr c4; subst c4
  have H1 : (some (([] : List Int), false)) = some (r1, r2) := by rw [if_neg (show ¬ (false = true) by decide)] at H; exact H
  clear H; have H := H1; clear H1; simp only [Option.some.injEq, Prod.mk.injEq] at H
  obtain ⟨rfl, rfl⟩ := H; go_enter Try.func6, Try.ntmps6
  go_wp2_with (first | ((with_reducible refine gate_dst (N := 2) rfl ?_); refine bx (N := 2) #[.int .i64 a0_0, .bool a0_1] 25 ?_; intro gb275 hg w14 hbox hb; have BK275 := A_ (hbox); have GW275 := A_ (bs hg (hq HB) : w.heap.size ≤ gb275); have GE275 := A_ (bs hg (hq HB) : w.heap.size ≤ gb275); replace HB := A_ (below_step (hq HB) hb); clear hb hbox hg; have hcz15_0 : w14.cell? ⟨gb275, 0, none⟩ = some (.int .i64 a0_0) := bc BK275 0; have hcz15_1 : w14.cell? ⟨gb275, 1, none⟩ = some (.bool a0_1) := bc BK275 1; have hfz15_0 := blk_frozen BK275.out 0; have hfz15_1 := blk_frozen BK275.out 1) | ((with_reducible refine gate_dst (N := 8) rfl ?_); refine V_lit (Kd.slice 3 (Kd.int .i64)) 0 26 ?hg (N' := 8) ?hd (xs := ([l1] : List (List Int))) (inner := [.slice A1 l1.length c1]) ?hr ?hp (by simp) ?_; (case hd => rfl); (case hg => rfl); (case hr => first | (go_simp; done) | (go_simp; rfl)); (case hp => exact (Reps.one (show Kd.FK (Kd.slice 3 (Kd.int .i64)) _ _ l1 [.slice A1 l1.length c1] from (Kd.FK_slice_mk HC1.out (Kd.F_mono (Kd.F_below (Kd.C_F (Kd.heap_int .i64) HR1.out) (hq HB)) (fun _ _ => trivial)))) (Reps.none _ _))); intro v277 w16 ho17 hb; (first | rw [← Ny276.out] at ho17 | (simp only [Int.reduceToNat] at ho17; rw [← Ny276.out] at ho17)); replace BK275 := A_ (blk_below (bq BK275) hb); replace HB := A_ (below_step (hq HB) hb); have HO278 := A_ (ho17); clear hb ho17; obtain ⟨Ao18, co18, eo18⟩ := Kd.V_slice HO278.out; subst eo18) | ((with_reducible refine gate_callee (f := 29) rfl ?_); refine gL (some 9) Try.func29 #[.agg #[.int .i64 a0_0, .bool a0_1], .slice Ao18 y276.length co18] ?_; (with_reducible refine (Q4.calls k a0_0 a0_1 _ _ y276 false _ ?side1 ?side2 A3.out).mono ?_); (case side1 => exact cq (Kd.V_reads' HO278.out).2.2); (case side2 => exact (Kd.V_reads' HO278.out).2.1); rintro e w19 ⟨rfl, hb⟩; refine ⟨_, rfl, ?_⟩; replace HO278 := A_ (Kd.V_below (vq HO278) hb); replace BK275 := A_ (blk_below (bq BK275) hb); replace HB := A_ (below_step (hq HB) hb); clear hb))
  go_ret2
  exact ⟨_, rt, by first | exact Kd.R_nil _ _ _ _ _ | exact Kd.N_nil _ _ _ _ _ | exact Kd.V_nil _ _ _ _ _ | exact Kd.Q_nil _ _ _ _ _ | exact Kd.S_nil _ _ _ _ _, hq HB⟩

/-! ### spec_l2Gap: function 62 -/
def Q51.f (a0_0 : Int) (a0_1 : Bool) (a1 : Int) (a2 : Int) : Option (Int) := (Q28.f (wrap64 (a1 - a2)) (wrap64 (a2 - a1))).bind fun t284 => (if a0_1 = true then ((Q27.f t284 (wrap64 (a0_0 - t284))).bind fun t285 => (some t285)) else (some t284))
set_option maxHeartbeats 8000000 in
set_option maxRecDepth 100000 in
theorem Q51.calls (a0_0 : Int) (a0_1 : Bool) (a1 : Int) (a2 : Int) (r : Int) (w : World) (h : Q51.f a0_0 a0_1 a1 a2 = some r) :
    Calls Try.prog 62 #[.agg #[.int .i64 a0_0, .bool a0_1], .int .i64 a1, .int .i64 a2] w fun e w' => e = .returned (.int .i64 r) ∧ Below w.heap.size w w' := by
 have hu25 := Try.underlying25; have HB := A_ (Below.refl w.heap.size w); have H : ((Q28.f (wrap64 (a1 - a2)) (wrap64 (a2 - a1))).bind fun t284 => (if a0_1 = true then ((Q27.f t284 (wrap64 (a0_0 - t284))).bind fun t285 => (some t285)) else (some t284))) = some r := h; clear h; replace H := bm H; obtain ⟨t284, A4, H⟩ := H; by_cases c5 : a0_1 = true
 ·
  subst c5
  have H1 : ((Q27.f t284 (wrap64 (a0_0 - t284))).bind fun t285 => (some t285)) = some r := by rw [if_pos rfl] at H; exact H
  clear H; have H := H1; clear H1; replace H := bm H; obtain ⟨t285, A6, H⟩ := H; obtain rfl := Option.some.inj H; go_enter Try.func62, Try.ntmps62
  go_wp2_with (first | ((with_reducible refine gate_dst (N := 3) rfl ?_); refine bx (N := 3) #[.int .i64 a0_0, .bool true] 25 ?_; intro gb283 hg w7 hbox hb; have BK283 := A_ (hbox); have GW283 := A_ (bs hg (hq HB) : w.heap.size ≤ gb283); have GE283 := A_ (bs hg (hq HB) : w.heap.size ≤ gb283); replace HB := A_ (below_step (hq HB) hb); clear hb hbox hg) | ((with_reducible refine gate_callee (f := 49) rfl ?_); refine gL (some 14) Try.func49 #[.int .i64 (wrap64 (a1 - a2)), .int .i64 (wrap64 (a2 - a1))] ?_; (with_reducible refine (Q28.calls (wrap64 (a1 - a2)) (wrap64 (a2 - a1)) t284 _ A4.out).mono ?_); rintro e w' ⟨rfl, ⟨nd, rfl⟩⟩; refine ⟨_, rfl, ?_⟩; have hcz8_0 : w7.cell? ⟨gb283, 0, none⟩ = some (.int .i64 a0_0) := bc BK283 0; have hcz8_1 : w7.cell? ⟨gb283, 1, none⟩ = some (.bool true) := bc BK283 1; have hfz8_0 := blk_frozen BK283.out 0; have hfz8_1 := blk_frozen BK283.out 1) | ((with_reducible refine gate_callee (f := 68) rfl ?_); refine gL (some 22) Try.func68 #[.int .i64 t284, .int .i64 (wrap64 (a0_0 - t284))] ?_; (with_reducible refine (Q27.calls t284 (wrap64 (a0_0 - t284)) t285 _ A6.out).mono ?_); rintro e w' ⟨rfl, ⟨nd, rfl⟩⟩; refine ⟨_, rfl, ?_⟩))
  go_ret
  exact ⟨rt, hq HB⟩
 ·
  replace c5 := Bool.eq_false_iff.mpr c5; subst c5
  have H1 : (some t284) = some r := by rw [if_neg (show ¬ (false = true) by decide)] at H; exact H
  clear H; have H := H1; clear H1; obtain rfl := Option.some.inj H; go_enter Try.func62, Try.ntmps62
  go_wp2_with (first | ((with_reducible refine gate_dst (N := 3) rfl ?_); refine bx (N := 3) #[.int .i64 a0_0, .bool false] 25 ?_; intro gb283 hg w9 hbox hb; have BK283 := A_ (hbox); have GW283 := A_ (bs hg (hq HB) : w.heap.size ≤ gb283); have GE283 := A_ (bs hg (hq HB) : w.heap.size ≤ gb283); replace HB := A_ (below_step (hq HB) hb); clear hb hbox hg) | ((with_reducible refine gate_callee (f := 49) rfl ?_); refine gL (some 14) Try.func49 #[.int .i64 (wrap64 (a1 - a2)), .int .i64 (wrap64 (a2 - a1))] ?_; (with_reducible refine (Q28.calls (wrap64 (a1 - a2)) (wrap64 (a2 - a1)) t284 _ A4.out).mono ?_); rintro e w' ⟨rfl, ⟨nd, rfl⟩⟩; refine ⟨_, rfl, ?_⟩; have hcz10_0 : w9.cell? ⟨gb283, 0, none⟩ = some (.int .i64 a0_0) := bc BK283 0; have hcz10_1 : w9.cell? ⟨gb283, 1, none⟩ = some (.bool false) := bc BK283 1; have hfz10_0 := blk_frozen BK283.out 0; have hfz10_1 := blk_frozen BK283.out 1))
  go_ret
  exact ⟨rt, hq HB⟩

end Go.Proofs.Ytbjpfnpleajhgaa.PFnWalks
