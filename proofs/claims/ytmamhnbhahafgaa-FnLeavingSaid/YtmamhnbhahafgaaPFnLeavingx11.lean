-- Printed, and told shorter by this session's program shrink.py.
-- Printed by this session's program myprint.py.
import Derived.Test.YtmamhnbhahafgaaPFnLeavingx0
import Derived.Test.YtmamhnbhahafgaaPFnLeavingx2
import Derived.Test.YtmamhnbhahafgaaPFnLeavingx3
import Derived.Test.YtmamhnbhahafgaaPFnLeavingx4
import Derived.Test.YtmamhnbhahafgaaPFnLeavingx9
import Derived.Test.YtmamhnbhahafgaaPFnLeavingx10
namespace Go.Proofs.Ytmamhnbhahafgaa.PFnLeaving
open Go.RowKit Go.Proofs.Ytmamhnbhahafgaa.Own Go.Proofs.YtmamhnbhahafgaaW.PrintWords Go.Proofs.YtmamhnbhahafgaaW.PrintLast Go.Proofs.YtmamhnbhahafgaaW.PrintMore
attribute [local go_sem] max2_int min2_int max_two min_two max_three min_three max_four min_four   -- for this text's walks alone
set_option linter.unusedVariables false
set_option linter.unusedSimpArgs false

/-! ### spec_WorstLeave: function 34 -/
def spec_WorstLeave.l0 : Nat → List (List Int) → Int → Int → Int → Bool → Option (Int × Bool)
  | 0, _, _, _, _, _ => none
  | k + 1, x1, x6, x7, x439000, x439001 => if x7 < x439000 then ((spec_l6Leave.f k x439000 x439001 x1 x7).bind fun t440 => (if t440 < 0 then (some (0, false)) else ((spec_l1Most.f x6 t440).bind fun t441 => (spec_WorstLeave.l0 k x1 t441 (wrap64 (x7 + 1)) x439000 x439001)))) else (some (x6, true))
def spec_WorstLeave.f (k : Nat) (a0_0 : Int) (a0_1 : Bool) (l1 : List (List Int)) : Option (Int × Bool) := (spec_l6Leavers.f k a0_0 a0_1 l1).bind fun t439 => (if t439 = true then (spec_WorstLeave.l0 k l1 0 0 a0_0 a0_1) else (some (0, false)))
theorem spec_WorstLeave.mono_l : ∀ k, (∀ y0 y1 y2 y3 y4, LeO (spec_WorstLeave.l0 k y0 y1 y2 y3 y4) (spec_WorstLeave.l0 (k + 1) y0 y1 y2 y3 y4))
  | 0 => fun _ _ _ _ _ r h => by simp [spec_WorstLeave.l0] at h
  | k + 1 => by
    have ih0 := spec_WorstLeave.mono_l k
    · intro y0 y1 y2 y3 y4
      unfold spec_WorstLeave.l0
      repeat' first
      | (with_reducible exact ih0 _ _ _ _ _)
      | (with_reducible exact spec_l6Leave.mono _ _ _ _ _)
      | (with_reducible exact spec_l6Leavers.mono _ _ _ _)
      | (with_reducible exact LeO.refl _)
      | (with_reducible exact LeO.none _)
      | (with_reducible refine LeO.ite ?_ ?_)
      | (with_reducible refine LeO.bind ?_ (fun _ => ?_))
      | exact ih0 _ _ _ _ _
      | exact spec_l6Leave.mono _ _ _ _ _
      | exact spec_l6Leavers.mono _ _ _ _
      | exact LeO.none _
      | refine LeO.ite ?_ ?_
      | refine LeO.bind ?_ (fun _ => ?_)
theorem spec_WorstLeave.mono : ∀ a0 a1 a2 k, LeO (spec_WorstLeave.f k a0 a1 a2) (spec_WorstLeave.f (k + 1) a0 a1 a2) := by
  intro a0 a1 a2 k
  have ih0 := spec_WorstLeave.mono_l k
  unfold spec_WorstLeave.f
  repeat' first
      | (with_reducible exact ih0 _ _ _ _ _)
      | (with_reducible exact spec_l6Leave.mono _ _ _ _ _)
      | (with_reducible exact spec_l6Leavers.mono _ _ _ _)
      | (with_reducible exact LeO.refl _)
      | (with_reducible exact LeO.none _)
      | (with_reducible refine LeO.ite ?_ ?_)
      | (with_reducible refine LeO.bind ?_ (fun _ => ?_))
      | exact ih0 _ _ _ _ _
      | exact spec_l6Leave.mono _ _ _ _ _
      | exact spec_l6Leavers.mono _ _ _ _
      | exact LeO.none _
      | refine LeO.ite ?_ ?_
      | refine LeO.bind ?_ (fun _ => ?_)
set_option maxHeartbeats 8000000 in
set_option maxRecDepth 100000 in
theorem spec_WorstLeave.calls (k : Nat) (a0_0 : Int) (a0_1 : Bool) (A1 : Option Addr) (c1 : Nat) (l1 : List (List Int)) (r1 : Int) (r2 : Bool) (w : World) (hr1 : Kd.C (Kd.slice 3 (Kd.int .i64)) w A1 l1.length l1) (hc1 : l1.length ≤ c1) (h : spec_WorstLeave.f k a0_0 a0_1 l1 = some (r1, r2)) :
    Calls Try.prog 34 #[.agg #[.int .i64 a0_0, .bool a0_1], .slice A1 l1.length c1] w fun e w' => e = .returned (.tuple #[.int .i64 r1, .bool r2]) ∧ Below w.heap.size w w' := by
 have hu25 := Try.underlying25
 have HR1 := A_ hr1
 have HC1 := A_ hc1
 clear hr1 hc1
 have HB := A_ (Below.refl w.heap.size w)
 have H : ((spec_l6Leavers.f k a0_0 a0_1 l1).bind fun t439 => (if t439 = true then (spec_WorstLeave.l0 k l1 0 0 a0_0 a0_1) else (some (0, false)))) = some (r1, r2) := h
 clear h
 replace H := Option.bind_eq_some_iff.mp H
 obtain ⟨t439, A30, H⟩ := H
 replace H : (if t439 = true then (spec_WorstLeave.l0 k l1 0 0 a0_0 a0_1) else (some (0, false))) = some (r1, r2) := H
 have A3 := A_ A30
 clear A30
 by_cases c4 : t439 = true
 ·
  subst c4
  have H1 : (spec_WorstLeave.l0 k l1 0 0 a0_0 a0_1) = some (r1, r2) := by rw [if_pos rfl] at H; exact H
  clear H
  have H := H1
  clear H1
  have H' := A_ H
  clear H
  go_enter Try.func34, Try.ntmps34
  go_wp2_with (first | ((with_reducible refine gate_dst (N := 2) rfl ?_); refine box_event ?hg (N := 2) ?hd (cs := #[.int .i64 a0_0, .bool a0_1]) (t := 25) ?hr ?_; (case hd => rfl); (case hg => rfl); (case hr => first | (go_simp; done) | (go_simp; rfl)); intro gb438 hg w5 hbox hb; have n0_ := A_ (below_step (hq HB) hb); have n1_ := A_ (hbox); have n2_ := A_ ((by rw [hg]; exact (below_size (hq HB)) : w.heap.size ≤ gb438)); have n3_ := A_ ((by rw [hg]; exact (below_size (hq HB)) : w.heap.size ≤ gb438)); clear HB; have HB := n0_; have BK438 := n1_; have GW438 := n2_; have GE438 := n3_; clear n0_ n1_ n2_ n3_; clear hb hbox hg; have hcz6_0 : w5.cell? ⟨gb438, 0, none⟩ = some (.int .i64 a0_0) := bc BK438 0; have hcz6_1 : w5.cell? ⟨gb438, 1, none⟩ = some (.bool a0_1) := bc BK438 1; have hfz6_0 := blk_frozen BK438.out 0; have hfz6_1 := blk_frozen BK438.out 1) | ((with_reducible refine gate_callee (f := 83) rfl ?_); refine goesL_ (some 11) rfl rfl Try.func83 (by kernel_rfl) rfl #[.agg #[.int .i64 a0_0, .bool a0_1], .slice A1 l1.length c1] rfl gq ?_; (with_reducible refine (spec_l6Leavers.calls k a0_0 a0_1 _ _ l1 true _ ?side1 ?side2 A3.out).mono ?_); (case side1 => exact cq (Kd.C_below HR1.out HB.out)); (case side2 => exact HC1.out); rintro e w7 ⟨rfl, hb⟩; refine ⟨_, rfl, ?_⟩; have n0_ := A_ (blk_below (bq BK438) hb); have n1_ := A_ (below_step (hq HB) hb); clear BK438; clear HB; have BK438 := n0_; have HB := n1_; clear n0_ n1_; (try clear hb); (try clear hb2); (try clear hk); (try clear hi)))
  go_loopg [6, 7] k (fun kq v6 v7 w' => ∃ (x6_1 : Int) (x7_1 : Int), v6 = .int .i64 x6_1 ∧ v7 = .int .i64 x7_1 ∧ Aside0 (spec_WorstLeave.l0 kq l1 x6_1 x7_1 a0_0 a0_1 = some (r1, r2)) ∧ Aside0 (kq ≤ k) ∧ Aside0 (w'.heap[gb438]? = some (.cells #[.int .i64 a0_0, .bool a0_1] 25 (0, 0))) ∧ Aside0 (Below w.heap.size w w'))
  case atStart => exact ⟨(0), (0), (by first | rfl | (simp; done) | (simp [*]; done)), (by first | rfl | (simp; done) | (simp [*]; done)), H', ⟨Nat.le_refl _⟩, ⟨bq BK438⟩, ⟨hq HB⟩⟩
  case round =>
   clear H'
   try clear c1
   try clear p2
   try clear c3
   try clear c4
   try clear hcz6_0
   try clear hcz6_1
   try clear hfz6_0
   try clear hfz6_1
   obtain ⟨x6_1, x7_1, rfl, rfl, HA, HK1, BK438, HB⟩ := hrel
   cases gk with
   | zero => exact absurd HA.out (by simp [spec_WorstLeave.l0])
   | succ k1 =>
    have H := HA.out
    clear HA
    simp only [spec_WorstLeave.l0] at H
    by_cases c8 : x7_1 < a0_0
    ·
     rw [if_pos c8] at H
     have c8b0 : decide (x7_1 < a0_0) = true := decide_eq_true c8
     clear c8
     replace H := Option.bind_eq_some_iff.mp H
     obtain ⟨t440, A90, H⟩ := H
     replace H : (if t440 < 0 then (some (0, false)) else ((spec_l1Most.f x6_1 t440).bind fun t441 => (spec_WorstLeave.l0 k1 l1 t441 (wrap64 (x7_1 + 1)) a0_0 a0_1))) = some (r1, r2) := H
     have A9 := A_ A90
     clear A90
     by_cases c10 : t440 < 0
     ·
      rw [if_pos c10] at H
      have c10b0 : decide (t440 < 0) = true := decide_eq_true c10
      clear c10
      simp only [Option.some.injEq, Prod.mk.injEq] at H
      obtain ⟨rfl, rfl⟩ := H
      have hcz11_0 : wr.cell? ⟨gb438, 0, none⟩ = some (.int .i64 a0_0) := bc BK438 0
      have hcz11_1 : wr.cell? ⟨gb438, 1, none⟩ = some (.bool a0_1) := bc BK438 1
      have hfz11_0 := blk_frozen BK438.out 0
      have hfz11_1 := blk_frozen BK438.out 1
      go_wp2_with (first | ((with_reducible refine gate_callee (f := 84) rfl ?_); refine goesL_ (some 22) rfl rfl Try.func84 (by kernel_rfl) rfl #[.agg #[.int .i64 a0_0, .bool a0_1], .slice A1 l1.length c1, .int .i64 x7_1] rfl gq ?_; (with_reducible refine (spec_l6Leave.calls k1 a0_0 a0_1 _ _ l1 x7_1 t440 _ ?side1 ?side2 A9.out).mono ?_); (case side1 => exact cq (Kd.C_below HR1.out HB.out)); (case side2 => exact HC1.out); rintro e w12 ⟨rfl, hb⟩; refine ⟨_, rfl, ?_⟩; have n0_ := A_ (blk_below (bq BK438) hb); have n1_ := A_ (below_step (hq HB) hb); clear BK438; clear HB; have BK438 := n0_; have HB := n1_; clear n0_ n1_; (try clear hb); (try clear hb2); (try clear hk); (try clear hi)))
      go_ret2
      exact ⟨rt, hq HB⟩
     ·
      rw [if_neg c10] at H
      have c10b0 : decide (t440 < 0) = false := decide_eq_false c10
      clear c10
      replace H := Option.bind_eq_some_iff.mp H
      obtain ⟨t441, A130, H⟩ := H
      replace H : (spec_WorstLeave.l0 k1 l1 t441 (wrap64 (x7_1 + 1)) a0_0 a0_1) = some (r1, r2) := H
      have A13 := A_ A130
      clear A130
      have H' := A_ H
      clear H
      have hcz14_0 : wr.cell? ⟨gb438, 0, none⟩ = some (.int .i64 a0_0) := bc BK438 0
      have hcz14_1 : wr.cell? ⟨gb438, 1, none⟩ = some (.bool a0_1) := bc BK438 1
      have hfz14_0 := blk_frozen BK438.out 0
      have hfz14_1 := blk_frozen BK438.out 1
      go_wp2_with (first | ((with_reducible refine gate_callee (f := 84) rfl ?_); refine goesL_ (some 22) rfl rfl Try.func84 (by kernel_rfl) rfl #[.agg #[.int .i64 a0_0, .bool a0_1], .slice A1 l1.length c1, .int .i64 x7_1] rfl gq ?_; (with_reducible refine (spec_l6Leave.calls k1 a0_0 a0_1 _ _ l1 x7_1 t440 _ ?side1 ?side2 A9.out).mono ?_); (case side1 => exact cq (Kd.C_below HR1.out HB.out)); (case side2 => exact HC1.out); rintro e w15 ⟨rfl, hb⟩; refine ⟨_, rfl, ?_⟩; have n0_ := A_ (blk_below (bq BK438) hb); have n1_ := A_ (below_step (hq HB) hb); clear BK438; clear HB; have BK438 := n0_; have HB := n1_; clear n0_ n1_; (try clear hb); (try clear hb2); (try clear hk); (try clear hi)) | ((with_reducible refine gate_callee (f := 70) rfl ?_); refine goesL_ (some 27) rfl rfl Try.func70 (by kernel_rfl) rfl #[.int .i64 x6_1, .int .i64 t440] rfl gq ?_; (with_reducible refine (spec_l1Most.calls x6_1 t440 t441 _ A13.out).mono ?_); rintro e w' ⟨rfl, ⟨nd, rfl⟩⟩; refine ⟨_, rfl, ?_⟩))
      go_roundg k1
      case measure => have := HK1.out; omega
      case rel => exact ⟨(t441), (wrap64 (x7_1 + 1)), (by first | rfl | (simp; done) | (simp [*]; done)), (by first | rfl | (simp; done) | (simp [*]; done)), H', ⟨by have := HK1.out; omega⟩, ⟨bq BK438⟩, ⟨hq HB⟩⟩
    ·
     rw [if_neg c8] at H
     have c8b0 : decide (x7_1 < a0_0) = false := decide_eq_false c8
     clear c8
     simp only [Option.some.injEq, Prod.mk.injEq] at H
     obtain ⟨rfl, rfl⟩ := H
     have hcz16_0 : wr.cell? ⟨gb438, 0, none⟩ = some (.int .i64 a0_0) := bc BK438 0
     have hcz16_1 : wr.cell? ⟨gb438, 1, none⟩ = some (.bool a0_1) := bc BK438 1
     have hfz16_0 := blk_frozen BK438.out 0
     have hfz16_1 := blk_frozen BK438.out 1
     go_wp2
     go_ret2
     exact ⟨rt, hq HB⟩
 ·
  replace c4 := Bool.eq_false_iff.mpr c4
  subst c4
  have H1 : (some (0, false)) = some (r1, r2) := by rw [if_neg (show ¬ (false = true) by decide)] at H; exact H
  clear H
  have H := H1
  clear H1
  simp only [Option.some.injEq, Prod.mk.injEq] at H
  obtain ⟨rfl, rfl⟩ := H
  go_enter Try.func34, Try.ntmps34
  go_wp2_with (first | ((with_reducible refine gate_dst (N := 2) rfl ?_); refine box_event ?hg (N := 2) ?hd (cs := #[.int .i64 a0_0, .bool a0_1]) (t := 25) ?hr ?_; (case hd => rfl); (case hg => rfl); (case hr => first | (go_simp; done) | (go_simp; rfl)); intro gb438 hg w17 hbox hb; have n0_ := A_ (below_step (hq HB) hb); have n1_ := A_ (hbox); have n2_ := A_ ((by rw [hg]; exact (below_size (hq HB)) : w.heap.size ≤ gb438)); have n3_ := A_ ((by rw [hg]; exact (below_size (hq HB)) : w.heap.size ≤ gb438)); clear HB; have HB := n0_; have BK438 := n1_; have GW438 := n2_; have GE438 := n3_; clear n0_ n1_ n2_ n3_; clear hb hbox hg; have hcz18_0 : w17.cell? ⟨gb438, 0, none⟩ = some (.int .i64 a0_0) := bc BK438 0; have hcz18_1 : w17.cell? ⟨gb438, 1, none⟩ = some (.bool a0_1) := bc BK438 1; have hfz18_0 := blk_frozen BK438.out 0; have hfz18_1 := blk_frozen BK438.out 1) | ((with_reducible refine gate_callee (f := 83) rfl ?_); refine goesL_ (some 11) rfl rfl Try.func83 (by kernel_rfl) rfl #[.agg #[.int .i64 a0_0, .bool a0_1], .slice A1 l1.length c1] rfl gq ?_; (with_reducible refine (spec_l6Leavers.calls k a0_0 a0_1 _ _ l1 false _ ?side1 ?side2 A3.out).mono ?_); (case side1 => exact cq (Kd.C_below HR1.out HB.out)); (case side2 => exact HC1.out); rintro e w19 ⟨rfl, hb⟩; refine ⟨_, rfl, ?_⟩; have n0_ := A_ (blk_below (bq BK438) hb); have n1_ := A_ (below_step (hq HB) hb); clear BK438; clear HB; have BK438 := n0_; have HB := n1_; clear n0_ n1_; (try clear hb); (try clear hb2); (try clear hk); (try clear hi)))
  go_ret2
  exact ⟨rt, hq HB⟩

/-! ### spec_DrawNeighborsOn: function 85 -/
def spec_DrawNeighborsOn.f (l0 : List Int) : Option (Int × Bool × Int) := (spec_l1Cur_road.f l0 0 0).bind fun bt444 => ((spec_l1Cur_placeOn.f l0 bt444.2.2.1 bt444.2.2.2 bt444.1 bt444.2.1).bind fun bt449 => (some (bt444.1, bt444.2.1, bt449.1)))
set_option maxHeartbeats 8000000 in
set_option maxRecDepth 100000 in
theorem spec_DrawNeighborsOn.calls (A0 : Option Addr) (c0 : Nat) (l0 : List Int) (r1 : Int) (r2 : Bool) (r3 : Int) (w : World) (hr0 : Kd.C (Kd.int .u8) w A0 l0.length l0) (hc0 : l0.length ≤ c0) (h : spec_DrawNeighborsOn.f l0 = some (r1, r2, r3)) :
    Calls Try.prog 85 #[.slice A0 l0.length c0] w fun e w' => e = .returned (.tuple #[.agg #[.int .i64 r1, .bool r2], .int .i64 r3]) ∧ Below w.heap.size w w' := by
 have hu25 := Try.underlying25
 have hu73 := Try.underlying73
 have HR0 := A_ hr0
 have HC0 := A_ hc0
 clear hr0 hc0
 have HB := A_ (Below.refl w.heap.size w)
 have H : ((spec_l1Cur_road.f l0 0 0).bind fun bt444 => ((spec_l1Cur_placeOn.f l0 bt444.2.2.1 bt444.2.2.2 bt444.1 bt444.2.1).bind fun bt449 => (some (bt444.1, bt444.2.1, bt449.1)))) = some (r1, r2, r3) := h
 clear h
 replace H := Option.bind_eq_some_iff.mp H
 obtain ⟨⟨t444, t445, t446, t447⟩, A20, H⟩ := H
 replace H : ((spec_l1Cur_placeOn.f l0 t446 t447 t444 t445).bind fun bt449 => (some (t444, t445, bt449.1))) = some (r1, r2, r3) := H
 have A2 := A_ A20
 clear A20
 replace H := Option.bind_eq_some_iff.mp H
 obtain ⟨⟨t449, t450, t451⟩, A30, H⟩ := H
 replace H : (some (t444, t445, t449)) = some (r1, r2, r3) := H
 have A3 := A_ A30
 clear A30
 simp only [Option.some.injEq, Prod.mk.injEq] at H
 obtain ⟨rfl, rfl, rfl⟩ := H
 go_enter Try.func85, Try.ntmps85
 try go_wp2_with (first | ((with_reducible refine gate_dst (N := 2) rfl ?_); refine box_event ?hg (N := 2) ?hd (cs := #[.int .i64 0, .bool false]) (t := 25) ?hr ?_; (case hd => rfl); (case hg => rfl); (case hr => first | (go_simp; done) | (go_simp; rfl)); intro gb442 hg w4 hbox hb; have n0_ := A_ (below_step (hq HB) hb); have n1_ := A_ (hbox); have n2_ := A_ ((by rw [hg]; exact (below_size (hq HB)) : w.heap.size ≤ gb442)); have n3_ := A_ ((by rw [hg]; exact (below_size (hq HB)) : w.heap.size ≤ gb442)); clear HB; have HB := n0_; have BK442 := n1_; have GW442 := n2_; have GE442 := n3_; clear n0_ n1_ n2_ n3_; clear hb hbox hg) | ((with_reducible refine gate_dst (N := 8) rfl ?_); refine box_event ?hg (N := 8) ?hd (cs := #[.slice A0 l0.length c0, .int .i64 0, .int .u64 0]) (t := 73) ?hr ?_; (case hd => rfl); (case hg => rfl); (case hr => first | (go_simp; done) | (go_simp; rfl)); intro gb443 hg w5 hbox hb; have n0_ := A_ (blk_below (bq BK442) hb); have n1_ := A_ (below_step (hq HB) hb); have n2_ := A_ ((by rw [hg]; exact (below_size (hq HB)) : w.heap.size ≤ gb443)); have n3_ := A_ ((by rw [hg]; exact (below_size (hq HB)) : w.heap.size ≤ gb443)); have n4_ := A_ ((by rw [hg]; exact Nat.ne_of_lt (blk_lt (bq BK442)) : gb442 ≠ gb443)); have n5_ := A_ ((by rw [hg]; exact Nat.ne_of_gt (blk_lt (bq BK442)) : gb443 ≠ gb442)); have n6_ := A_ ((⟨_, _, hbox, by rw [hg]; exact (below_size (hq HB)), HR0.out⟩ : IsS73 w w5 gb443 l0 0 0)); clear BK442; clear HB; have BK442 := n0_; have HB := n1_; have GW443 := n2_; have GE443 := n3_; have NB442_443 := n4_; have NB443_442 := n5_; have HI443 := n6_; clear n0_ n1_ n2_ n3_ n4_ n5_ n6_; clear hb hbox hg) | ((with_reducible refine gate_callee (f := 63) rfl ?_); refine goesL_ (some 10) rfl rfl Try.func63 (by kernel_rfl) rfl #[.pointer (some ⟨gb443, 0, none⟩)] rfl gq ?_; (with_reducible refine (spec_l1Cur_road.calls gb443 l0 0 0 t444 t445 t446 t447 w _ ?side1 ?side2 A2.out).mono ?_); (case side1 => repeat (first | (with_reducible first | exact HI443.out | apply IsS73.alloc | apply IsS73.drewN | apply IsS73.drew | apply IsS73.set_1 | apply IsS73.set_2 | refine IsS73.far ?_ NB443_442.out _) | exact HI443.out)); (case side2 => repeat (first | (with_reducible first | exact HB.out | apply below_alloc | apply pw_below_drewN | apply below_drew1 | refine below_set ?_ (IsS73.ge HI443.out) | refine below_set ?_ GE442.out) | exact HB.out)); rintro e w6 ⟨rfl, hi, hb, hk⟩; refine ⟨_, rfl, ?_⟩; have n0_ := A_ (KeepBut.blk hk (g' := gb442) (o := .cells #[.int .i64 0, .bool false] 25 (0, 0)) (bq BK442) NB442_443.out (by simp)); have n1_ := A_ (hb); have n2_ := A_ (hi); clear BK442; clear HB; clear HI443; have BK442 := n0_; have HB := n1_; have HI443 := n2_; clear n0_ n1_ n2_; (try clear hb); (try clear hb2); (try clear hk); (try clear hi)) | ((with_reducible refine gate_dst (N := 5) rfl ?_); refine box_event ?hg (N := 5) ?hd (cs := #[.int .i64 0, .bool false]) (t := 25) ?hr ?_; (case hd => rfl); (case hg => rfl); (case hr => first | (go_simp; done) | (go_simp; rfl)); intro gb448 hg w7 hbox hb; have n0_ := A_ (blk_below (bq BK442) hb); have n1_ := A_ (IsS73.below (by repeat (first | (with_reducible first | exact HI443.out | apply IsS73.alloc | apply IsS73.drewN | apply IsS73.drew | apply IsS73.set_1 | apply IsS73.set_2 | refine IsS73.far ?_ NB443_442.out _) | exact HI443.out)) hb); have n2_ := A_ (below_step (by repeat (first | (with_reducible first | exact HB.out | apply below_alloc | apply pw_below_drewN | apply below_drew1 | refine below_set ?_ (IsS73.ge HI443.out) | refine below_set ?_ GE442.out) | exact HB.out)) hb); have n3_ := A_ (hbox); have n4_ := A_ ((by rw [hg]; exact (below_size (by repeat (first | (with_reducible first | exact HB.out | apply below_alloc | apply pw_below_drewN | apply below_drew1 | refine below_set ?_ (IsS73.ge HI443.out) | refine below_set ?_ GE442.out) | exact HB.out))) : w.heap.size ≤ gb448)); have n5_ := A_ ((by rw [hg]; exact (below_size (by repeat (first | (with_reducible first | exact HB.out | apply below_alloc | apply pw_below_drewN | apply below_drew1 | refine below_set ?_ (IsS73.ge HI443.out) | refine below_set ?_ GE442.out) | exact HB.out))) : w.heap.size ≤ gb448)); have n6_ := A_ ((by rw [hg]; exact Nat.ne_of_lt (blk_lt (bq BK442)) : gb442 ≠ gb448)); have n7_ := A_ ((by rw [hg]; exact Nat.ne_of_gt (blk_lt (bq BK442)) : gb448 ≠ gb442)); have n8_ := A_ ((by rw [hg]; exact Nat.ne_of_lt (IsS73.lt (show IsS73 w _ gb443 l0 t446 t447 from by repeat (first | (with_reducible first | exact HI443.out | apply IsS73.alloc | apply IsS73.drewN | apply IsS73.drew | apply IsS73.set_1 | apply IsS73.set_2 | refine IsS73.far ?_ NB443_442.out _) | exact HI443.out))) : gb443 ≠ gb448)); have n9_ := A_ ((by rw [hg]; exact Nat.ne_of_gt (IsS73.lt (show IsS73 w _ gb443 l0 t446 t447 from by repeat (first | (with_reducible first | exact HI443.out | apply IsS73.alloc | apply IsS73.drewN | apply IsS73.drew | apply IsS73.set_1 | apply IsS73.set_2 | refine IsS73.far ?_ NB443_442.out _) | exact HI443.out))) : gb448 ≠ gb443)); clear BK442; clear HI443; clear HB; have BK442 := n0_; have HI443 := n1_; have HB := n2_; have BK448 := n3_; have GW448 := n4_; have GE448 := n5_; have NB442_448 := n6_; have NB448_442 := n7_; have NB443_448 := n8_; have NB448_443 := n9_; clear n0_ n1_ n2_ n3_ n4_ n5_ n6_ n7_ n8_ n9_; clear hb hbox hg; have hnb8 := NB448_442.out; have hnc8 := NB442_448.out; have hnb9 := NB448_443.out; have hnc9 := NB443_448.out; have hcz10_0 : w7.cell? ⟨gb448, 0, none⟩ = some (.int .i64 0) := bc BK448 0; have hcz10_1 : w7.cell? ⟨gb448, 1, none⟩ = some (.bool false) := bc BK448 1; have hfz10_0 := blk_frozen BK448.out 0; have hfz10_1 := blk_frozen BK448.out 1))
 have n0_ : Aside0 (((w7.setCell ⟨gb448, 0, none⟩ (.int .i64 t444)).setCell ⟨gb448, 1, none⟩ (.bool t445)).heap[gb442]? = some (.cells #[.int .i64 0, .bool false] 25 (0, 0))) := ⟨by (with_reducible repeat (first | refine blk_drewN ?_ _ | refine blk_drew ?_ | refine blk_alloc ?_ _)); refine blk_far ?_ NB442_448.out _; (with_reducible repeat (first | refine blk_drewN ?_ _ | refine blk_drew ?_ | refine blk_alloc ?_ _)); refine blk_far ?_ NB442_448.out _; (with_reducible repeat (first | refine blk_drewN ?_ _ | refine blk_drew ?_ | refine blk_alloc ?_ _)); exact BK442.out⟩
 have n1_ : Aside0 (((w7.setCell ⟨gb448, 0, none⟩ (.int .i64 t444)).setCell ⟨gb448, 1, none⟩ (.bool t445)).heap[gb448]? = some (.cells #[.int .i64 t444, .bool t445] 25 (0, 0))) := ⟨by (with_reducible repeat (first | refine blk_drewN ?_ _ | refine blk_drew ?_ | refine blk_alloc ?_ _)); refine blk_put (cs := #[.int .i64 t444, .bool false]) ?_ 1 _ rfl; (with_reducible repeat (first | refine blk_drewN ?_ _ | refine blk_drew ?_ | refine blk_alloc ?_ _)); refine blk_put (cs := #[.int .i64 0, .bool false]) ?_ 0 _ rfl; (with_reducible repeat (first | refine blk_drewN ?_ _ | refine blk_drew ?_ | refine blk_alloc ?_ _)); exact BK448.out⟩
 have n2_ : Aside0 (IsS73 w ((w7.setCell ⟨gb448, 0, none⟩ (.int .i64 t444)).setCell ⟨gb448, 1, none⟩ (.bool t445)) gb443 l0 t446 t447) := ⟨by repeat (first | (with_reducible first | exact HI443.out | apply IsS73.alloc | apply IsS73.drewN | apply IsS73.drew | apply IsS73.set_1 | apply IsS73.set_2 | refine IsS73.far ?_ NB443_442.out _ | refine IsS73.far ?_ NB443_448.out _) | exact HI443.out)⟩
 have n3_ : Aside0 (Below w.heap.size w ((w7.setCell ⟨gb448, 0, none⟩ (.int .i64 t444)).setCell ⟨gb448, 1, none⟩ (.bool t445))) := ⟨by repeat (first | (with_reducible first | exact HB.out | apply below_alloc | apply pw_below_drewN | apply below_drew1 | refine below_set ?_ (IsS73.ge HI443.out) | refine below_set ?_ GE442.out | refine below_set ?_ GE448.out) | exact HB.out)⟩
 (try clear BK442); (try clear BK448); (try clear HI443); (try clear HB)
 generalize ((w7.setCell ⟨gb448, 0, none⟩ (.int .i64 t444)).setCell ⟨gb448, 1, none⟩ (.bool t445)) = w11 at n0_ n1_ n2_ n3_ ⊢
 have BK442 := n0_; have BK448 := n1_; have HI443 := n2_; have HB := n3_; clear n0_ n1_ n2_ n3_
 have n0_ := A_ (blk_drew BK442.out)
 have n1_ := A_ (blk_drew BK448.out)
 have n2_ := A_ (IsS73.drew HI443.out)
 have n3_ := A_ (below_drew1 HB.out)
 clear BK442 BK448 HI443 HB; have BK442 := n0_; have BK448 := n1_; have HI443 := n2_; have HB := n3_; clear n0_ n1_ n2_ n3_
 refine start_ (n := 6) (S := fun w' => w'.cell? ⟨gb448, 0, none⟩ = some (.int .i64 t444) ∧ w'.cell? ⟨gb448, 1, none⟩ = some (.bool t445)) (ds := []) #[false, false, false, false, false, false] (by kernel_rfl) rfl rfl ⟨bc BK448 0, bc BK448 1⟩ (fun hHeld => ?_)
 generalize w11.drew = w12 at BK442 BK448 HI443 HB hHeld ⊢
 refine pure_ (i := 1) (N := some 12) (v := ?_) (a' := ?_) #[false, true, false, false, false, false] rfl rfl (by kernel_rfl) (fun _ _ _ h => h) (Or.inl ⟨by rfl, ?_⟩) ?_ ?_
 rotate_left
 ·
  intro w'
  go_simp
  with_reducible rfl
 rotate_left
 ·
  simp only [Act.put, List.setIfInBounds_toArray, List.set_cons_zero, List.set_cons_succ, i64_w, i32_w]
  rfl
 refine take_ (i := 0) (N := some 11) (v := ?_) (a' := ?_) #[true, true, false, false, false, false] rfl rfl (by kernel_rfl) (fun _ _ _ h => h) (Or.inl ⟨by rfl, ?_⟩) hHeld ?_ ?_
 rotate_left
 ·
  rintro w' ⟨s0, s1⟩
  go_simp
  with_reducible rfl
 rotate_left
 ·
  simp only [Act.put, List.setIfInBounds_toArray, List.set_cons_zero, List.set_cons_succ, i64_w, i32_w]
  rfl
 refine take_ (i := 2) (N := some 13) (v := ?_) (a' := ?_) #[true, true, true, false, false, false] rfl rfl (by kernel_rfl) (fun _ _ _ h => h) (Or.inl ⟨by rfl, ?_⟩) hHeld ?_ ?_
 rotate_left
 ·
  rintro w' ⟨s0, s1⟩
  go_simp
  with_reducible rfl
 rotate_left
 ·
  simp only [Act.put, List.setIfInBounds_toArray, List.set_cons_zero, List.set_cons_succ, i64_w, i32_w]
  rfl
 refine one_ (i := 3) (N := some 14) #[true, true, true, true, false, false] rfl rfl (by kernel_rfl) (by decide) (fun K hK => ?_)
 refine goes_ Try.func65 (by kernel_rfl) rfl #[.pointer (some ⟨gb443, 0, none⟩), .agg #[.int .i64 t444, .bool t445]] (by rfl) rfl rfl gq ?_
 with_reducible refine (spec_l1Cur_placeOn.calls gb443 l0 t446 t447 t444 t445 t449 t450 t451 w _ ?side1 ?side2 A3.out).mono ?_
 (case side1 => repeat (first | (with_reducible first | exact HI443.out | apply IsS73.alloc | apply IsS73.drewN | apply IsS73.drew | apply IsS73.set_1 | apply IsS73.set_2 | refine IsS73.far ?_ NB443_442.out _ | refine IsS73.far ?_ NB443_448.out _) | exact HI443.out))
 (case side2 => repeat (first | (with_reducible first | exact HB.out | apply below_alloc | apply pw_below_drewN | apply below_drew1 | refine below_set ?_ (IsS73.ge HI443.out) | refine below_set ?_ GE442.out | refine below_set ?_ GE448.out) | exact HB.out))
 rintro e w13 ⟨rfl, hi, hb, hk⟩
 refine ⟨_, rfl, ?_⟩
 have n0_ := A_ (KeepBut.blk hk (g' := gb442) (o := .cells #[.int .i64 0, .bool false] 25 (0, 0)) (bq BK442) NB442_443.out (by simp))
 have n1_ := A_ (KeepBut.blk hk (g' := gb448) (o := .cells #[.int .i64 t444, .bool t445] 25 (0, 0)) (bq BK448) NB448_443.out (by simp))
 have n2_ := A_ (hb)
 have n3_ := A_ (hi)
 clear BK442 BK448 HB HI443; have BK442 := n0_; have BK448 := n1_; have HB := n2_; have HI443 := n3_; clear n0_ n1_ n2_ n3_; (try clear hb); (try clear hb2); (try clear hk); (try clear hi)
 refine hK.out _ _ ⟨bc BK448 0, bc BK448 1⟩ (fun hHeld => ?_)
 clear hK K
 refine norm_ (a' := ?_) ?_ ?_
 rotate_left
 ·
  exact pq (d := some 14)
 refine one_ (i := 4) (N := none) #[true, true, true, true, true, false] rfl rfl (by kernel_rfl) (by decide) (fun K hK => ?_)
 have hs14 : w13.cell? ⟨gb442, 0, none⟩ = some (.int .i64 0) := bc BK442 0
 have hfs14 := blk_frozen BK442.out 0
 have hns14_1 := NB448_442.out
 have hms14_1 := NB442_448.out
 have hs15 : w13.cell? ⟨gb442, 1, none⟩ = some (.bool false) := bc BK442 1
 have hfs15 := blk_frozen BK442.out 1
 have hns15_1 := NB448_442.out
 have hms15_1 := NB442_448.out
 refine skip_ (w1 := ?_) (by rfl) rfl ?_ ?_
 rotate_left
 ·
  go_simp
  rfl
 refine hK.out _ _ ⟨((cell_far (p := ⟨gb442, _, none⟩) NB448_442.out _).trans (((cell_far (p := ⟨gb442, _, none⟩) NB448_442.out _).trans (hHeld.1)))), ((cell_far (p := ⟨gb442, _, none⟩) NB448_442.out _).trans (((cell_far (p := ⟨gb442, _, none⟩) NB448_442.out _).trans (hHeld.2))))⟩ (fun hHeld => ?_)
 clear hK K
 refine pure_ (i := 5) (N := some 3) (v := ?_) (a' := ?_) #[true, true, true, true, true, true] rfl rfl (by kernel_rfl) (fun _ _ _ h => h) (Or.inl ⟨by rfl, ?_⟩) ?_ ?_
 rotate_left
 ·
  intro w'
  go_simp
  with_reducible rfl
 rotate_left
 ·
  simp only [Act.put, List.setIfInBounds_toArray, List.set_cons_zero, List.set_cons_succ, i64_w, i32_w]
  rfl
 refine done_ (by kernel_rfl) ?_
 try go_wp2
 refine bodyPost_ret (results_ct rfl _ _ gb442 25 #[.int .i64 t444, .bool t445] (0, 0) _ rfl (by (with_reducible repeat (first | refine blk_drewN ?_ _ | refine blk_drew ?_ | refine blk_alloc ?_ _)); refine blk_put (cs := #[.int .i64 t444, .bool false]) ?_ 1 _ rfl; (with_reducible repeat (first | refine blk_drewN ?_ _ | refine blk_drew ?_ | refine blk_alloc ?_ _)); refine blk_put (cs := #[.int .i64 0, .bool false]) ?_ 0 _ rfl; (with_reducible repeat (first | refine blk_drewN ?_ _ | refine blk_drew ?_ | refine blk_alloc ?_ _)); exact BK442.out) Try.underlying25 rfl (by kernel_rfl)) rfl ?_
 exact ⟨rt, by repeat (first | (with_reducible first | exact HB.out | apply below_alloc | apply pw_below_drewN | apply below_drew1 | refine below_set ?_ (IsS73.ge HI443.out) | refine below_set ?_ GE442.out | refine below_set ?_ GE448.out) | exact HB.out)⟩

/-! ### spec_DrawSplitWalks: function 35 -/
def spec_DrawSplitWalks.f (l0 : List Int) : Option (Int × Bool × Int) := (spec_DrawNeighborsOn.f l0).bind fun bt453 => (some (bt453.1, bt453.2.1, bt453.2.2))
set_option maxHeartbeats 8000000 in
set_option maxRecDepth 100000 in
theorem spec_DrawSplitWalks.calls (A0 : Option Addr) (c0 : Nat) (l0 : List Int) (r1 : Int) (r2 : Bool) (r3 : Int) (w : World) (hr0 : Kd.C (Kd.int .u8) w A0 l0.length l0) (hc0 : l0.length ≤ c0) (h : spec_DrawSplitWalks.f l0 = some (r1, r2, r3)) :
    Calls Try.prog 35 #[.slice A0 l0.length c0] w fun e w' => e = .returned (.tuple #[.agg #[.int .i64 r1, .bool r2], .int .i64 r3]) ∧ Below w.heap.size w w' := by
 have hu25 := Try.underlying25
 have HR0 := A_ hr0
 have HC0 := A_ hc0
 clear hr0 hc0
 have HB := A_ (Below.refl w.heap.size w)
 have H : ((spec_DrawNeighborsOn.f l0).bind fun bt453 => (some (bt453.1, bt453.2.1, bt453.2.2))) = some (r1, r2, r3) := h
 clear h
 replace H := Option.bind_eq_some_iff.mp H
 obtain ⟨⟨t453, t454, t455⟩, A20, H⟩ := H
 replace H : (some (t453, t454, t455)) = some (r1, r2, r3) := H
 have A2 := A_ A20
 clear A20
 simp only [Option.some.injEq, Prod.mk.injEq] at H
 obtain ⟨rfl, rfl, rfl⟩ := H
 go_enter Try.func35, Try.ntmps35
 go_wp2_with (first | ((with_reducible refine gate_dst (N := 2) rfl ?_); refine box_event ?hg (N := 2) ?hd (cs := #[.int .i64 0, .bool false]) (t := 25) ?hr ?_; (case hd => rfl); (case hg => rfl); (case hr => first | (go_simp; done) | (go_simp; rfl)); intro gb452 hg w3 hbox hb; have n0_ := A_ (below_step (hq HB) hb); have n1_ := A_ (hbox); have n2_ := A_ ((by rw [hg]; exact (below_size (hq HB)) : w.heap.size ≤ gb452)); have n3_ := A_ ((by rw [hg]; exact (below_size (hq HB)) : w.heap.size ≤ gb452)); clear HB; have HB := n0_; have BK452 := n1_; have GW452 := n2_; have GE452 := n3_; clear n0_ n1_ n2_ n3_; clear hb hbox hg) | ((with_reducible refine gate_callee (f := 85) rfl ?_); refine goesL_ (some 5) rfl rfl Try.func85 (by kernel_rfl) rfl #[.slice A0 l0.length c0] rfl gq ?_; (with_reducible refine (spec_DrawNeighborsOn.calls _ _ l0 t453 t454 t455 _ ?side1 ?side2 A2.out).mono ?_); (case side1 => exact cq (Kd.C_below HR0.out HB.out)); (case side2 => exact HC0.out); rintro e w4 ⟨rfl, hb⟩; refine ⟨_, rfl, ?_⟩; have n0_ := A_ (blk_below (bq BK452) hb); have n1_ := A_ (below_step (hq HB) hb); clear BK452; clear HB; have BK452 := n0_; have HB := n1_; clear n0_ n1_; (try clear hb); (try clear hb2); (try clear hk); (try clear hi); have hcz5_0 : w4.cell? ⟨gb452, 0, none⟩ = some (.int .i64 0) := bc BK452 0; have hcz5_1 : w4.cell? ⟨gb452, 1, none⟩ = some (.bool false) := bc BK452 1; have hfz5_0 := blk_frozen BK452.out 0; have hfz5_1 := blk_frozen BK452.out 1))
 refine bodyPost_ret (results_ct rfl _ _ gb452 25 #[.int .i64 t453, .bool t454] (0, 0) _ rfl (by (with_reducible repeat (first | refine blk_drewN ?_ _ | refine blk_drew ?_ | refine blk_alloc ?_ _)); refine blk_put (cs := #[.int .i64 t453, .bool false]) ?_ 1 _ rfl; (with_reducible repeat (first | refine blk_drewN ?_ _ | refine blk_drew ?_ | refine blk_alloc ?_ _)); refine blk_put (cs := #[.int .i64 0, .bool false]) ?_ 0 _ rfl; (with_reducible repeat (first | refine blk_drewN ?_ _ | refine blk_drew ?_ | refine blk_alloc ?_ _)); exact BK452.out) Try.underlying25 rfl (by kernel_rfl)) rfl ?_
 exact ⟨rt, hq HB⟩

/-! ### impl_Road_straight: function 86 -/
mutual
def impl_Road_straight.j0 : Nat → List Int → Int → Int → Int → Int → Bool → Option (List Int)
  | 0, _, _, _, _, _, _ => none
  | k + 1, x1, x2, x7, x8, x457000, x457001 => impl_Road_straight.l0 k x1 x2 x7 x8 x457000 x457001
def impl_Road_straight.l0 : Nat → List Int → Int → Int → Int → Int → Bool → Option (List Int)
  | 0, _, _, _, _, _, _ => none
  | k + 1, x1, x2, x7, x8, x457000, x457001 => if x7 = x2 then (some x1) else (if x457000 = 0 then (none) else (if x1.length < 17592186044416 then (impl_Road_straight.l0 k (x1 ++ [Int.tmod (wrap64 ((wrap64 (x7 + x8)) + x457000)) x457000]) x2 (Int.tmod (wrap64 ((wrap64 (x7 + x8)) + x457000)) x457000) x8 x457000 x457001) else (none)))
end
def impl_Road_straight.f (k : Nat) (a0_0 : Int) (a0_1 : Bool) (l1 : List Int) (a2 : Int) : Option (List Int) := if 0 ≤ (wrap64 ((l1.length : Int) - 1)) then (if (wrap64 ((l1.length : Int) - 1)) < (l1.length : Int) then (if a0_1 = true then (if a0_0 = 0 then (none) else (if (Int.tmod (wrap64 ((wrap64 (a2 - (rd l1 (wrap64 ((l1.length : Int) - 1))))) + a0_0)) a0_0) > (wrap64 (a0_0 - (Int.tmod (wrap64 ((wrap64 (a2 - (rd l1 (wrap64 ((l1.length : Int) - 1))))) + a0_0)) a0_0))) then (impl_Road_straight.j0 k l1 a2 (rd l1 (wrap64 ((l1.length : Int) - 1))) (-1) a0_0 a0_1) else (impl_Road_straight.j0 k l1 a2 (rd l1 (wrap64 ((l1.length : Int) - 1))) 1 a0_0 a0_1))) else (if (wrap64 (a2 - (rd l1 (wrap64 ((l1.length : Int) - 1))))) < 0 then (impl_Road_straight.j0 k l1 a2 (rd l1 (wrap64 ((l1.length : Int) - 1))) (-1) a0_0 a0_1) else (impl_Road_straight.j0 k l1 a2 (rd l1 (wrap64 ((l1.length : Int) - 1))) 1 a0_0 a0_1))) else (none)) else (none)
theorem impl_Road_straight.mono_l : ∀ k, (∀ y0 y1 y2 y3 y4 y5, LeO (impl_Road_straight.j0 k y0 y1 y2 y3 y4 y5) (impl_Road_straight.j0 (k + 1) y0 y1 y2 y3 y4 y5)) ∧ (∀ y0 y1 y2 y3 y4 y5, LeO (impl_Road_straight.l0 k y0 y1 y2 y3 y4 y5) (impl_Road_straight.l0 (k + 1) y0 y1 y2 y3 y4 y5))
  | 0 => ⟨fun _ _ _ _ _ _ r h => by simp [impl_Road_straight.j0] at h, fun _ _ _ _ _ _ r h => by simp [impl_Road_straight.l0] at h⟩
  | k + 1 => by
    obtain ⟨ih0, ih1⟩ := impl_Road_straight.mono_l k
    refine ⟨?_, ?_⟩
    · intro y0 y1 y2 y3 y4 y5
      unfold impl_Road_straight.j0
      repeat' first
      | (with_reducible exact ih0 _ _ _ _ _ _)
      | (with_reducible exact ih1 _ _ _ _ _ _)
      | (with_reducible exact LeO.refl _)
      | (with_reducible exact LeO.none _)
      | (with_reducible refine LeO.ite ?_ ?_)
      | (with_reducible refine LeO.bind ?_ (fun _ => ?_))
      | exact ih0 _ _ _ _ _ _
      | exact ih1 _ _ _ _ _ _
      | exact LeO.none _
      | refine LeO.ite ?_ ?_
      | refine LeO.bind ?_ (fun _ => ?_)
    · intro y0 y1 y2 y3 y4 y5
      unfold impl_Road_straight.l0
      repeat' first
      | (with_reducible exact ih0 _ _ _ _ _ _)
      | (with_reducible exact ih1 _ _ _ _ _ _)
      | (with_reducible exact LeO.refl _)
      | (with_reducible exact LeO.none _)
      | (with_reducible refine LeO.ite ?_ ?_)
      | (with_reducible refine LeO.bind ?_ (fun _ => ?_))
      | exact ih0 _ _ _ _ _ _
      | exact ih1 _ _ _ _ _ _
      | exact LeO.none _
      | refine LeO.ite ?_ ?_
      | refine LeO.bind ?_ (fun _ => ?_)
theorem impl_Road_straight.mono : ∀ a0 a1 a2 a3 k, LeO (impl_Road_straight.f k a0 a1 a2 a3) (impl_Road_straight.f (k + 1) a0 a1 a2 a3) := by
  intro a0 a1 a2 a3 k
  obtain ⟨ih0, ih1⟩ := impl_Road_straight.mono_l k
  unfold impl_Road_straight.f
  repeat' first
      | (with_reducible exact ih0 _ _ _ _ _ _)
      | (with_reducible exact ih1 _ _ _ _ _ _)
      | (with_reducible exact LeO.refl _)
      | (with_reducible exact LeO.none _)
      | (with_reducible refine LeO.ite ?_ ?_)
      | (with_reducible refine LeO.bind ?_ (fun _ => ?_))
      | exact ih0 _ _ _ _ _ _
      | exact ih1 _ _ _ _ _ _
      | exact LeO.none _
      | refine LeO.ite ?_ ?_
      | refine LeO.bind ?_ (fun _ => ?_)
set_option maxHeartbeats 8000000 in
set_option maxRecDepth 100000 in
theorem impl_Road_straight.calls (k : Nat) (a0_0 : Int) (a0_1 : Bool) (P1_ : Nat → Prop) (u9000_ : Value) (l1 : List Int) (a2 : Int) (r : List Int) (w0 w : World) (hB : Below w0.heap.size w0 w) (ho1 : Kd.R (Kd.int .i64) 3 w w0.heap.size P1_ u9000_ l1) (h : impl_Road_straight.f k a0_0 a0_1 l1 a2 = some r) :
    Calls Try.prog 86 #[.agg #[.int .i64 a0_0, .bool a0_1], u9000_, .int .i64 a2] w fun e w' => ∃ v0_ : Value, e = .returned (v0_) ∧ Kd.R (Kd.int .i64) 3 w' w0.heap.size (fun k_ => (P1_ k_ ∨ w.heap.size ≤ k_)) v0_ r ∧ Below w0.heap.size w0 w' ∧ Kept w w' (fun k_ => P1_ k_) := by
 have hu25 := Try.underlying25
 have HO1 := A_ (show Kd.R (Kd.int .i64) 3 w w0.heap.size (fun k_ => (P1_ k_ ∨ w.heap.size ≤ k_)) u9000_ l1 from Kd.R_mono ho1 (fun k_ hk => (.inl hk)))
 have HK := A_ (Kept.refl w (fun k_ => P1_ k_))
 have HW0 := A_ hB.size
 have HB := A_ hB
 clear hB
 have H : (if 0 ≤ (wrap64 ((l1.length : Int) - 1)) then (if (wrap64 ((l1.length : Int) - 1)) < (l1.length : Int) then (if a0_1 = true then (if a0_0 = 0 then (none) else (if (Int.tmod (wrap64 ((wrap64 (a2 - (rd l1 (wrap64 ((l1.length : Int) - 1))))) + a0_0)) a0_0) > (wrap64 (a0_0 - (Int.tmod (wrap64 ((wrap64 (a2 - (rd l1 (wrap64 ((l1.length : Int) - 1))))) + a0_0)) a0_0))) then (impl_Road_straight.j0 k l1 a2 (rd l1 (wrap64 ((l1.length : Int) - 1))) (-1) a0_0 a0_1) else (impl_Road_straight.j0 k l1 a2 (rd l1 (wrap64 ((l1.length : Int) - 1))) 1 a0_0 a0_1))) else (if (wrap64 (a2 - (rd l1 (wrap64 ((l1.length : Int) - 1))))) < 0 then (impl_Road_straight.j0 k l1 a2 (rd l1 (wrap64 ((l1.length : Int) - 1))) (-1) a0_0 a0_1) else (impl_Road_straight.j0 k l1 a2 (rd l1 (wrap64 ((l1.length : Int) - 1))) 1 a0_0 a0_1))) else (none)) else (none)) = some r := h
 clear h
 obtain ⟨ji4, hji4⟩ : ∃ j_ : Int, (wrap64 ((l1.length : Int) - 1)) = j_ := ⟨_, rfl⟩
 replace H : (if 0 ≤ (ji4) then (if (ji4) < (l1.length : Int) then (if a0_1 = true then (if a0_0 = 0 then (none) else (if (Int.tmod (wrap64 ((wrap64 (a2 - (rd l1 (ji4)))) + a0_0)) a0_0) > (wrap64 (a0_0 - (Int.tmod (wrap64 ((wrap64 (a2 - (rd l1 (ji4)))) + a0_0)) a0_0))) then (impl_Road_straight.j0 k l1 a2 (rd l1 (ji4)) (-1) a0_0 a0_1) else (impl_Road_straight.j0 k l1 a2 (rd l1 (ji4)) 1 a0_0 a0_1))) else (if (wrap64 (a2 - (rd l1 (ji4)))) < 0 then (impl_Road_straight.j0 k l1 a2 (rd l1 (ji4)) (-1) a0_0 a0_1) else (impl_Road_straight.j0 k l1 a2 (rd l1 (ji4)) 1 a0_0 a0_1))) else (none)) else (none)) = some r := by first | (rw [hji4] at H; exact H) | (simp only [hji4] at H ⊢; exact H)
 have hji4w : (IntKind.i64.wrap ((l1.length : Int) - 1)) = ji4 := (i64_w _).trans hji4
 by_cases c5 : 0 ≤ (ji4)
 ·
  rw [if_pos c5] at H
  have c5b0 : decide (0 ≤ (ji4)) = true := decide_eq_true c5
  clear c5
  by_cases c6 : (ji4) < (l1.length : Int)
  ·
   rw [if_pos c6] at H
   have c6b0 : decide ((ji4) < (l1.length : Int)) = true := decide_eq_true c6
   clear c6
   have HC7 := A_ H
   clear H
   go_enter Try.func86, Try.ntmps86
   go_upto_if 20 with (first | ((with_reducible refine gate_dst (N := 3) rfl ?_); refine box_event ?hg (N := 3) ?hd (cs := #[.int .i64 a0_0, .bool a0_1]) (t := 25) ?hr ?_; (case hd => rfl); (case hg => rfl); (case hr => first | (go_simp; done) | (go_simp; rfl)); intro gb456 hg w8 hbox hb; have n0_ := A_ (Kd.R_below (rq HO1) hb); have n1_ := A_ (Kept.below (S := (fun k_ => P1_ k_)) (by repeat (first | (with_reducible first | exact HK.out | apply Kept.alloc | apply Kept.drewN | apply Kept.drew) | exact HK.out)) hb); have n2_ := A_ (below_step (hq HB) hb); have n3_ := A_ (hbox); have n4_ := A_ ((by rw [hg]; exact (by first | exact HK.out.1 | exact (show Kept w _ (fun k_ => P1_ k_) from by repeat (first | (with_reducible first | exact HK.out | apply Kept.alloc | apply Kept.drewN | apply Kept.drew) | exact HK.out)).1) : w.heap.size ≤ gb456)); have n5_ := A_ ((by rw [hg]; exact (below_size (hq HB)) : w0.heap.size ≤ gb456)); clear HO1; clear HK; clear HB; have HO1 := n0_; have HK := n1_; have HB := n2_; have BK456 := n3_; have GW456 := n4_; have GE456 := n5_; clear n0_ n1_ n2_ n3_ n4_ n5_; clear hb hbox hg; obtain ⟨Ao9, co9, eo9⟩ := Kd.R_slice HO1.out; subst eo9; have p457 : 0 ≤ ((ji4) : Int) := of_decide_eq_true (by first | (with_reducible assumption) | assumption); have q457 : (ji4) < (l1.length : Int) := of_decide_eq_true (by first | (with_reducible assumption) | assumption); obtain ⟨ad457, e457, hx457_0⟩ := Kd.at_int (Kd.R_reads' HO1.out).2.2 (ji4) p457 q457; cases e457; replace p457 := eq_true p457; replace q457 := eq_true q457; have hcz10_0 : w8.cell? ⟨gb456, 0, none⟩ = some (.int .i64 a0_0) := bc BK456 0; have hcz10_1 : w8.cell? ⟨gb456, 1, none⟩ = some (.bool a0_1) := bc BK456 1; have hfz10_0 := blk_frozen BK456.out 0; have hfz10_1 := blk_frozen BK456.out 1))
   (try simp only [Act.put, List.setIfInBounds_toArray, List.set_cons_zero, List.set_cons_succ])
   go_cut [8] (fun v8 wc => ∃ (kq : Nat) (x8_6 : Int), v8 = .int .i64 x8_6 ∧ Aside0 (impl_Road_straight.j0 kq l1 a2 (rd l1 (ji4)) x8_6 a0_0 a0_1 = some r) ∧ Aside0 (kq ≤ k) ∧ Aside0 (Kd.R (Kd.int .i64) 3 wc w0.heap.size (fun k_ => (P1_ k_ ∨ w.heap.size ≤ k_)) (.slice (some ad457) l1.length co9) l1) ∧ Aside0 (wc.heap[gb456]? = some (.cells #[.int .i64 a0_0, .bool a0_1] 25 (0, 0))) ∧ Aside0 (Kept w wc (fun k_ => P1_ k_)) ∧ Aside0 (Below w0.heap.size w0 wc))
   case first =>
    have H := HC7.out
    clear HC7
    by_cases c11 : a0_1 = true
    ·
     subst c11
     have H1 : (if a0_0 = 0 then (none) else (if (Int.tmod (wrap64 ((wrap64 (a2 - (rd l1 (ji4)))) + a0_0)) a0_0) > (wrap64 (a0_0 - (Int.tmod (wrap64 ((wrap64 (a2 - (rd l1 (ji4)))) + a0_0)) a0_0))) then (impl_Road_straight.j0 k l1 a2 (rd l1 (ji4)) (-1) a0_0 true) else (impl_Road_straight.j0 k l1 a2 (rd l1 (ji4)) 1 a0_0 true))) = some r := by rw [if_pos rfl] at H; exact H
     clear H
     have H := H1
     clear H1
     by_cases c12 : a0_0 = 0
     ·
      rw [if_pos c12] at H
      exact absurd H (by simp)
     ·
      rw [if_neg c12] at H
      have c12b0 : (a0_0 == 0) = false := beq_eq_false_iff_ne.mpr c12
      have c12b1 : (a0_0 != 0) = true := bne_iff_ne.mpr c12
      (first | rw [c12b0] | (simp only [i64_w, i32_w]; rw [c12b0]) | skip)
      by_cases c13 : (Int.tmod (wrap64 ((wrap64 (a2 - (rd l1 (ji4)))) + a0_0)) a0_0) > (wrap64 (a0_0 - (Int.tmod (wrap64 ((wrap64 (a2 - (rd l1 (ji4)))) + a0_0)) a0_0)))
      ·
       rw [if_pos c13] at H
       have c13b0 : decide ((wrap64 (a0_0 - (Int.tmod (wrap64 ((wrap64 (a2 - (rd l1 (ji4)))) + a0_0)) a0_0))) < (Int.tmod (wrap64 ((wrap64 (a2 - (rd l1 (ji4)))) + a0_0)) a0_0)) = true := decide_eq_true c13
       clear c13
       have H' := A_ H
       clear H
       have hcz14_0 : w8.cell? ⟨gb456, 0, none⟩ = some (.int .i64 a0_0) := bc BK456 0
       have hcz14_1 : w8.cell? ⟨gb456, 1, none⟩ = some (.bool true) := bc BK456 1
       have hfz14_0 := blk_frozen BK456.out 0
       have hfz14_1 := blk_frozen BK456.out 1
       go_wp2
       go_meet
       case rel => exact ⟨_, ((-1)), (by first | rfl | (simp; done) | (simp [*]; done)), H', ⟨by first | omega | exact Nat.le_refl _⟩, ⟨rq HO1⟩, ⟨bq BK456⟩, ⟨by repeat (first | (with_reducible first | exact HK.out | apply Kept.alloc | apply Kept.drewN | apply Kept.drew | refine Kept.setCell ?_ (.inr GW456.out) _) | exact HK.out)⟩, ⟨hq HB⟩⟩
      ·
       rw [if_neg c13] at H
       have c13b0 : decide ((wrap64 (a0_0 - (Int.tmod (wrap64 ((wrap64 (a2 - (rd l1 (ji4)))) + a0_0)) a0_0))) < (Int.tmod (wrap64 ((wrap64 (a2 - (rd l1 (ji4)))) + a0_0)) a0_0)) = false := decide_eq_false c13
       clear c13
       have H' := A_ H
       clear H
       have hcz15_0 : w8.cell? ⟨gb456, 0, none⟩ = some (.int .i64 a0_0) := bc BK456 0
       have hcz15_1 : w8.cell? ⟨gb456, 1, none⟩ = some (.bool true) := bc BK456 1
       have hfz15_0 := blk_frozen BK456.out 0
       have hfz15_1 := blk_frozen BK456.out 1
       go_wp2
       go_meet
       case rel => exact ⟨_, (1), (by first | rfl | (simp; done) | (simp [*]; done)), H', ⟨by first | omega | exact Nat.le_refl _⟩, ⟨rq HO1⟩, ⟨bq BK456⟩, ⟨by repeat (first | (with_reducible first | exact HK.out | apply Kept.alloc | apply Kept.drewN | apply Kept.drew | refine Kept.setCell ?_ (.inr GW456.out) _) | exact HK.out)⟩, ⟨hq HB⟩⟩
    ·
     replace c11 := Bool.eq_false_iff.mpr c11
     subst c11
     have H1 : (if (wrap64 (a2 - (rd l1 (ji4)))) < 0 then (impl_Road_straight.j0 k l1 a2 (rd l1 (ji4)) (-1) a0_0 false) else (impl_Road_straight.j0 k l1 a2 (rd l1 (ji4)) 1 a0_0 false)) = some r := by rw [if_neg (show ¬ (false = true) by decide)] at H; exact H
     clear H
     have H := H1
     clear H1
     by_cases c16 : (wrap64 (a2 - (rd l1 (ji4)))) < 0
     ·
      rw [if_pos c16] at H
      have c16b0 : decide ((wrap64 (a2 - (rd l1 (ji4)))) < 0) = true := decide_eq_true c16
      clear c16
      have H' := A_ H
      clear H
      go_wp2
      go_meet
      case rel => exact ⟨_, ((-1)), (by first | rfl | (simp; done) | (simp [*]; done)), H', ⟨by first | omega | exact Nat.le_refl _⟩, ⟨rq HO1⟩, ⟨bq BK456⟩, ⟨by repeat (first | (with_reducible first | exact HK.out | apply Kept.alloc | apply Kept.drewN | apply Kept.drew | refine Kept.setCell ?_ (.inr GW456.out) _) | exact HK.out)⟩, ⟨hq HB⟩⟩
     ·
      rw [if_neg c16] at H
      have c16b0 : decide ((wrap64 (a2 - (rd l1 (ji4)))) < 0) = false := decide_eq_false c16
      clear c16
      have H' := A_ H
      clear H
      go_wp2
      go_meet
      case rel => exact ⟨_, (1), (by first | rfl | (simp; done) | (simp [*]; done)), H', ⟨by first | omega | exact Nat.le_refl _⟩, ⟨rq HO1⟩, ⟨bq BK456⟩, ⟨by repeat (first | (with_reducible first | exact HK.out | apply Kept.alloc | apply Kept.drewN | apply Kept.drew | refine Kept.setCell ?_ (.inr GW456.out) _) | exact HK.out)⟩, ⟨hq HB⟩⟩
   case rest =>
    clear HC7
    try clear c1
    try clear p2
    try clear p4
    try clear q4
    try clear hx4
    try clear c5
    try clear c5b0
    try clear c6
    try clear c6b0
    try clear p6
    try clear c8
    try clear c11
    try clear c12
    try clear c12b0
    try clear c12b1
    try clear c13
    try clear c13b0
    try clear c16
    try clear c16b0
    try clear hcz10_0
    try clear hcz10_1
    try clear hcz14_0
    try clear hcz14_1
    try clear hcz15_0
    try clear hcz15_1
    try clear hfz10_0
    try clear hfz10_1
    try clear hfz14_0
    try clear hfz14_1
    try clear hfz15_0
    try clear hfz15_1
    try clear hx457_0
    try clear p457
    try clear q457
    obtain ⟨kq, x8_6, rfl, HA, HJ6, HO_1, BK456, HK, HB⟩ := hcut
    cases kq with
    | zero => exact absurd HA.out (by simp [impl_Road_straight.j0])
    | succ kj6 =>
     have H := HA.out
     clear HA
     simp only [impl_Road_straight.j0] at H
     have H' := A_ H
     clear H
     go_wp2
     go_loopg [1, 7] kj6 (fun kq v1 v7 w' => ∃ (x1_2 : List Int) (x7_2 : Int), v7 = .int .i64 x7_2 ∧ Aside0 (impl_Road_straight.l0 kq x1_2 a2 x7_2 x8_6 a0_0 a0_1 = some r) ∧ Aside0 (kq ≤ kj6) ∧ Aside0 (Kd.R (Kd.int .i64) 3 w' w0.heap.size (fun k_ => (P1_ k_ ∨ w.heap.size ≤ k_)) v1 x1_2) ∧ Aside0 (w'.heap[gb456]? = some (.cells #[.int .i64 a0_0, .bool a0_1] 25 (0, 0))) ∧ Aside0 (Kept w w' (fun k_ => P1_ k_)) ∧ Aside0 (Below w0.heap.size w0 w'))
     case atStart => exact ⟨(l1), ((rd l1 (ji4))), (by first | rfl | (simp; done) | (simp only [← hji4] <;> (first | rfl | simp)) | (simp [*]; done)), H', ⟨Nat.le_refl _⟩, ⟨rq HO_1⟩, ⟨bq BK456⟩, ⟨by repeat (first | (with_reducible first | exact HK.out | apply Kept.alloc | apply Kept.drewN | apply Kept.drew | refine Kept.setCell ?_ (.inr GW456.out) _) | exact HK.out)⟩, ⟨hq HB⟩⟩
     case round =>
      clear H'
      try clear c1
      try clear p2
      try clear p4
      try clear q4
      try clear hx4
      try clear c5
      try clear c5b0
      try clear c6
      try clear c6b0
      try clear p6
      try clear c8
      try clear c11
      try clear c12
      try clear c12b0
      try clear c12b1
      try clear c13
      try clear c13b0
      try clear c16
      try clear c16b0
      try clear hcz10_0
      try clear hcz10_1
      try clear hcz14_0
      try clear hcz14_1
      try clear hcz15_0
      try clear hcz15_1
      try clear hfz10_0
      try clear hfz10_1
      try clear hfz14_0
      try clear hfz14_1
      try clear hfz15_0
      try clear hfz15_1
      try clear hx457_0
      try clear p2
      try clear p4
      try clear p457
      try clear p6
      try clear q4
      try clear q457
      obtain ⟨x1_2, x7_2, rfl, HA, HK2, HO_1, BK456, HK, HB⟩ := hrel
      cases gk with
      | zero => exact absurd HA.out (by simp [impl_Road_straight.l0])
      | succ k2 =>
       have H := HA.out
       clear HA
       simp only [impl_Road_straight.l0] at H
       by_cases c17 : x7_2 = a2
       ·
        rw [if_pos c17] at H
        have c17b0 : (x7_2 == a2) = true := beq_iff_eq.mpr c17
        have c17b1 : (x7_2 != a2) = false := bne_eq_false_iff_eq.mpr c17
        clear c17
        obtain rfl := Option.some.inj H
        go_wp2
        go_ret
        exact ⟨_, by first | rfl | (simp [errW_none, errW_some] <;> rfl) | (simp only [← hji4]; first | rfl | (simp [errW_none, errW_some] <;> rfl)) | (simp [*, errW_none, errW_some] <;> rfl), rq HO_1, hq HB, by repeat (first | (with_reducible first | exact HK.out | apply Kept.alloc | apply Kept.drewN | apply Kept.drew | refine Kept.setCell ?_ (.inr GW456.out) _) | exact HK.out)⟩
       ·
        rw [if_neg c17] at H
        have c17b0 : (x7_2 == a2) = false := beq_eq_false_iff_ne.mpr c17
        have c17b1 : (x7_2 != a2) = true := bne_iff_ne.mpr c17
        by_cases c18 : a0_0 = 0
        ·
         rw [if_pos c18] at H
         exact absurd H (by simp)
        ·
         rw [if_neg c18] at H
         have c18b0 : (a0_0 == 0) = false := beq_eq_false_iff_ne.mpr c18
         have c18b1 : (a0_0 != 0) = true := bne_iff_ne.mpr c18
         by_cases c19 : x1_2.length < 17592186044416
         ·
          rw [if_pos c19] at H
          have LMc19 := A_ c19
          clear c19
          obtain ⟨y458, hy458⟩ : ∃ y_ : List Int, y_ = (x1_2 ++ [Int.tmod (wrap64 ((wrap64 (x7_2 + x8_6)) + a0_0)) a0_0]) := ⟨_, rfl⟩
          replace H : (impl_Road_straight.l0 k2 y458 a2 (Int.tmod (wrap64 ((wrap64 (x7_2 + x8_6)) + a0_0)) a0_0) x8_6 a0_0 a0_1) = some r := by first | (rw [hy458]; with_reducible exact H) | (have H2_ := (Option.bind_some _ _).symm.trans H; rw [hy458]; with_reducible exact H2_) | (have H2_ := (Option.bind_some _ _).symm.trans H; with_reducible exact H2_) | with_reducible exact H | (rw [hy458]; exact H) | exact H
          have Ny458 := A_ hy458
          clear hy458
          have H' := A_ H
          clear H
          have hcz20_0 : wr.cell? ⟨gb456, 0, none⟩ = some (.int .i64 a0_0) := bc BK456 0
          have hcz20_1 : wr.cell? ⟨gb456, 1, none⟩ = some (.bool a0_1) := bc BK456 1
          have hfz20_0 := blk_frozen BK456.out 0
          have hfz20_1 := blk_frozen BK456.out 1
          go_wp2_with (first | ((with_reducible refine gate_builtin (b := .append) (xs := #[.tmp 50, .tmp 52]) rfl ?_); at_builtin; refine Kd.R_append (Kd.int .i64) (w0 := w0) w0.heap.size rfl (.tmp 50) (.tmp 52) 26 3 (.int .i64 0) 8 rfl Try.underlying26 info3 rfl (by decide) (by omega) u1 x1_2 (Int.tmod (wrap64 ((wrap64 (x7_2 + x8_6)) + a0_0)) a0_0) [.int .i64 (Int.tmod (wrap64 ((wrap64 (x7_2 + x8_6)) + a0_0)) a0_0)] (fun k_ => (P1_ k_ ∨ w.heap.size ≤ k_)) (fun _ => False) rfl rfl ?aP (fun _ hk => hk.elim) ?aF ?aO ?aB ?aS ?aL ?_; (case aP => exact rfl); (case aB => exact (hq HB)); (case aF => exact (fun k_ hk => (.inr (Nat.le_trans (by first | exact HK.out.1 | exact (show Kept w _ (fun k_ => P1_ k_) from by repeat (first | (with_reducible first | exact HK.out | apply Kept.alloc | apply Kept.drewN | apply Kept.drew | refine Kept.setCell ?_ (.inr GW456.out) _) | exact HK.out)).1) hk)))); (case aO => exact (rq HO_1)); (case aS => exact (below_size (hq HB))); (case aL => have := LMc19.out; omega); intro v459 w21 ho hb hg hat; rw [← Ny458.out] at ho; have n0_ := A_ (blk_grown (g := gb456) (o := .cells #[.int .i64 a0_0, .bool a0_1] 25 (0, 0)) (bq BK456) hg (Kd.R_ne HO_1.out BK456.out (by decide))); have n1_ := A_ (hb); have n2_ := A_ (Kept.of_grown (S := (fun k_ => P1_ k_)) hg (by repeat (first | (with_reducible first | exact HK.out | apply Kept.alloc | apply Kept.drewN | apply Kept.drew | refine Kept.setCell ?_ (.inr GW456.out) _) | exact HK.out)) (fun k_ e_ => (HO_1.out.1 k_ e_))); have n3_ := A_ (ho); clear BK456; clear HB; clear HK; clear HO_1; have BK456 := n0_; have HB := n1_; have HK := n2_; have HO460 := n3_; clear n0_ n1_ n2_ n3_; clear ho hb hg hat))
          go_roundg k2
          case measure => have := HJ6.out; have := HK2.out; omega
          case rel => exact ⟨(y458), (Int.tmod (wrap64 ((wrap64 (x7_2 + x8_6)) + a0_0)) a0_0), (by first | rfl | (simp; done) | (simp [*]; done)), H', ⟨by have := HJ6.out; have := HK2.out; omega⟩, ⟨rq HO460⟩, ⟨bq BK456⟩, ⟨by repeat (first | (with_reducible first | exact HK.out | apply Kept.alloc | apply Kept.drewN | apply Kept.drew | refine Kept.setCell ?_ (.inr GW456.out) _) | exact HK.out)⟩, ⟨hq HB⟩⟩
         ·
          rw [if_neg c19] at H
          exact absurd H (by simp)
  ·
   rw [if_neg c6] at H
   exact absurd H (by simp)
 ·
  rw [if_neg c5] at H
  exact absurd H (by simp)

end Go.Proofs.Ytmamhnbhahafgaa.PFnLeaving
