-- Printed, and told shorter by this session's program shrink.py.
-- Printed by this session's program myprint.py.
import Derived.Test.YtmamhnbhahafgaaPFnLeavingx0
import Derived.Test.YtmamhnbhahafgaaPFnLeavingx2
import Derived.Test.YtmamhnbhahafgaaPFnLeavingx3
import Derived.Test.YtmamhnbhahafgaaPFnLeavingx7
import Derived.Test.YtmamhnbhahafgaaPFnLeavingx9
namespace Go.Proofs.Ytmamhnbhahafgaa.PFnLeaving
open Go.RowKit Go.Proofs.Ytmamhnbhahafgaa.Own Go.Proofs.YtmamhnbhahafgaaW.PrintWords Go.Proofs.YtmamhnbhahafgaaW.PrintLast Go.Proofs.YtmamhnbhahafgaaW.PrintMore
attribute [local go_sem] max2_int min2_int max_two min_two max_three min_three max_four min_four   -- for this text's walks alone
set_option linter.unusedVariables false
set_option linter.unusedSimpArgs false

/-! ### spec_l6Leave: function 84 -/
mutual
def spec_l6Leave.l0 : Nat → List (List Int) → Int → Int → Int → Int → Bool → Option (Int)
  | 0, _, _, _, _, _, _ => none
  | k + 1, x1, x2, x7, x8, x413000, x413001 => if x8 < (x1.length : Int) then (if 0 ≤ x8 then ((spec_l2First.f k (rd_L2 x1 x8) x2).bind fun t414 => (if t414 ≥ 0 then (if x7 < 0 then (spec_l6Leave.l0 k x1 x2 t414 (wrap64 (x8 + 1)) x413000 x413001) else (if t414 < x7 then (spec_l6Leave.l0 k x1 x2 t414 (wrap64 (x8 + 1)) x413000 x413001) else (spec_l6Leave.l0 k x1 x2 x7 (wrap64 (x8 + 1)) x413000 x413001))) else (spec_l6Leave.l0 k x1 x2 x7 (wrap64 (x8 + 1)) x413000 x413001))) else (none)) else (if x7 < 0 then (some (-1)) else (spec_l6Leave.l1 k x1 x2 x7 x7 0 x413000 x413001))
def spec_l6Leave.l1 : Nat → List (List Int) → Int → Int → Int → Int → Int → Bool → Option (Int)
  | 0, _, _, _, _, _, _, _ => none
  | k + 1, x1, x2, x7, x10, x11, x413000, x413001 => if x11 < (x1.length : Int) then (if 0 ≤ x11 then ((spec_l2At.f (rd_L2 x1 x11) x7).bind fun t416 => ((spec_l2Gap.f x413000 x413001 t416 x2).bind fun t417 => ((spec_l1Most.f x10 (wrap64 (x7 + t417))).bind fun t418 => (spec_l6Leave.l1 k x1 x2 x7 t418 (wrap64 (x11 + 1)) x413000 x413001)))) else (none)) else (some x10)
end
def spec_l6Leave.f (k : Nat) (a0_0 : Int) (a0_1 : Bool) (l1 : List (List Int)) (a2 : Int) : Option (Int) := spec_l6Leave.l0 k l1 a2 (-1) 0 a0_0 a0_1
theorem spec_l6Leave.mono_l : ∀ k, (∀ y0 y1 y2 y3 y4 y5, LeO (spec_l6Leave.l0 k y0 y1 y2 y3 y4 y5) (spec_l6Leave.l0 (k + 1) y0 y1 y2 y3 y4 y5)) ∧ (∀ y0 y1 y2 y3 y4 y5 y6, LeO (spec_l6Leave.l1 k y0 y1 y2 y3 y4 y5 y6) (spec_l6Leave.l1 (k + 1) y0 y1 y2 y3 y4 y5 y6))
  | 0 => ⟨fun _ _ _ _ _ _ r h => by simp [spec_l6Leave.l0] at h, fun _ _ _ _ _ _ _ r h => by simp [spec_l6Leave.l1] at h⟩
  | k + 1 => by
    obtain ⟨ih0, ih1⟩ := spec_l6Leave.mono_l k
    refine ⟨?_, ?_⟩
    · intro y0 y1 y2 y3 y4 y5
      unfold spec_l6Leave.l0
      repeat' first
      | (with_reducible exact ih0 _ _ _ _ _ _)
      | (with_reducible exact ih1 _ _ _ _ _ _ _)
      | (with_reducible exact spec_l2First.mono _ _ _)
      | (with_reducible exact LeO.refl _)
      | (with_reducible exact LeO.none _)
      | (with_reducible refine LeO.ite ?_ ?_)
      | (with_reducible refine LeO.bind ?_ (fun _ => ?_))
      | exact ih0 _ _ _ _ _ _
      | exact ih1 _ _ _ _ _ _ _
      | exact spec_l2First.mono _ _ _
      | exact LeO.none _
      | refine LeO.ite ?_ ?_
      | refine LeO.bind ?_ (fun _ => ?_)
    · intro y0 y1 y2 y3 y4 y5 y6
      unfold spec_l6Leave.l1
      repeat' first
      | (with_reducible exact ih0 _ _ _ _ _ _)
      | (with_reducible exact ih1 _ _ _ _ _ _ _)
      | (with_reducible exact spec_l2First.mono _ _ _)
      | (with_reducible exact LeO.refl _)
      | (with_reducible exact LeO.none _)
      | (with_reducible refine LeO.ite ?_ ?_)
      | (with_reducible refine LeO.bind ?_ (fun _ => ?_))
      | exact ih0 _ _ _ _ _ _
      | exact ih1 _ _ _ _ _ _ _
      | exact spec_l2First.mono _ _ _
      | exact LeO.none _
      | refine LeO.ite ?_ ?_
      | refine LeO.bind ?_ (fun _ => ?_)
theorem spec_l6Leave.mono : ∀ a0 a1 a2 a3 k, LeO (spec_l6Leave.f k a0 a1 a2 a3) (spec_l6Leave.f (k + 1) a0 a1 a2 a3) := by
  intro a0 a1 a2 a3 k
  obtain ⟨ih0, ih1⟩ := spec_l6Leave.mono_l k
  unfold spec_l6Leave.f
  repeat' first
      | (with_reducible exact ih0 _ _ _ _ _ _)
      | (with_reducible exact ih1 _ _ _ _ _ _ _)
      | (with_reducible exact spec_l2First.mono _ _ _)
      | (with_reducible exact LeO.refl _)
      | (with_reducible exact LeO.none _)
      | (with_reducible refine LeO.ite ?_ ?_)
      | (with_reducible refine LeO.bind ?_ (fun _ => ?_))
      | exact ih0 _ _ _ _ _ _
      | exact ih1 _ _ _ _ _ _ _
      | exact spec_l2First.mono _ _ _
      | exact LeO.none _
      | refine LeO.ite ?_ ?_
      | refine LeO.bind ?_ (fun _ => ?_)
def spec_l6Leave.T14 : Bool × List (List Nat × List Nat) := (true, [([], []), ([], []), ([], []), ([], []), ([], []), ([3, 4], [3, 4]), ([5], [5]), ([], []), ([6, 7], [6, 7]), ([], []), ([2, 8, 9, 8], [2, 8, 9]), ([1, 10], [1, 10]), ([0, 11, 10], [0, 11]), ([12, 12, 0, 1, 2, 3, 4, 5, 6, 7, 8, 9, 10, 11, 12], [0, 12])])
def spec_l6Leave.B14 : List Nat := [0, 0, 0, 0, 0, 24, 56, 0, 248, 0, 1020, 2046, 4095, 8191]
theorem spec_l6Leave.tab14 : rtab .any (opsOf Try.f84 14) = spec_l6Leave.T14 := by kernel_rfl
theorem spec_l6Leave.bits14 : waitsOk spec_l6Leave.T14.2 spec_l6Leave.B14 = true := by kernel_rfl
set_option maxHeartbeats 8000000 in
set_option maxRecDepth 100000 in
theorem spec_l6Leave.calls (k : Nat) (a0_0 : Int) (a0_1 : Bool) (A1 : Option Addr) (c1 : Nat) (l1 : List (List Int)) (a2 : Int) (r : Int) (w : World) (hr1 : Kd.C (Kd.slice 3 (Kd.int .i64)) w A1 l1.length l1) (hc1 : l1.length ≤ c1) (h : spec_l6Leave.f k a0_0 a0_1 l1 a2 = some r) :
    Calls Try.prog 84 #[.agg #[.int .i64 a0_0, .bool a0_1], .slice A1 l1.length c1, .int .i64 a2] w fun e w' => e = .returned (.int .i64 r) ∧ Below w.heap.size w w' := by
 have hu25 := Try.underlying25
 have HR1 := A_ hr1
 have HC1 := A_ hc1
 clear hr1 hc1
 have HB := A_ (Below.refl w.heap.size w)
 have H : (spec_l6Leave.l0 k l1 a2 (-1) 0 a0_0 a0_1) = some r := h
 clear h
 have H' := A_ H
 clear H
 go_enter Try.func84, Try.ntmps84
 go_wp2_with (first | ((with_reducible refine gate_dst (N := 3) rfl ?_); refine box_event ?hg (N := 3) ?hd (cs := #[.int .i64 a0_0, .bool a0_1]) (t := 25) ?hr ?_; (case hd => rfl); (case hg => rfl); (case hr => first | (go_simp; done) | (go_simp; rfl)); intro gb412 hg w4 hbox hb; have n0_ := A_ (below_step (hq HB) hb); have n1_ := A_ (hbox); have n2_ := A_ ((by rw [hg]; exact (below_size (hq HB)) : w.heap.size ≤ gb412)); have n3_ := A_ ((by rw [hg]; exact (below_size (hq HB)) : w.heap.size ≤ gb412)); clear HB; have HB := n0_; have BK412 := n1_; have GW412 := n2_; have GE412 := n3_; clear n0_ n1_ n2_ n3_; clear hb hbox hg))
 go_loopg [7, 8] k (fun kq v7 v8 w' => ∃ (x7_1 : Int) (x8_1 : Int), v7 = .int .i64 x7_1 ∧ v8 = .int .i64 x8_1 ∧ Aside0 (spec_l6Leave.l0 kq l1 a2 x7_1 x8_1 a0_0 a0_1 = some r) ∧ Aside0 (kq ≤ k) ∧ Aside0 (w'.heap[gb412]? = some (.cells #[.int .i64 a0_0, .bool a0_1] 25 (0, 0))) ∧ Aside0 (Below w.heap.size w w'))
 case atStart => exact ⟨((-1)), (0), (by first | rfl | (simp; done) | (simp [*]; done)), (by first | rfl | (simp; done) | (simp [*]; done)), H', ⟨Nat.le_refl _⟩, ⟨bq BK412⟩, ⟨hq HB⟩⟩
 case round =>
  clear H'
  try clear c1
  try clear p2
  obtain ⟨x7_1, x8_1, rfl, rfl, HA, HK1, BK412, HB⟩ := hrel
  cases gk with
  | zero => exact absurd HA.out (by simp [spec_l6Leave.l0])
  | succ k1 =>
   have H := HA.out
   clear HA
   simp only [spec_l6Leave.l0] at H
   by_cases c5 : x8_1 < (l1.length : Int)
   ·
    rw [if_pos c5] at H
    have c5b0 : decide (x8_1 < (l1.length : Int)) = true := decide_eq_true c5
    clear c5
    by_cases c6 : 0 ≤ x8_1
    ·
     rw [if_pos c6] at H
     have c6b0 : decide (0 ≤ x8_1) = true := decide_eq_true c6
     clear c6
     replace H := Option.bind_eq_some_iff.mp H
     obtain ⟨t414, A70, H⟩ := H
     replace H : (if t414 ≥ 0 then (if x7_1 < 0 then (spec_l6Leave.l0 k1 l1 a2 t414 (wrap64 (x8_1 + 1)) a0_0 a0_1) else (if t414 < x7_1 then (spec_l6Leave.l0 k1 l1 a2 t414 (wrap64 (x8_1 + 1)) a0_0 a0_1) else (spec_l6Leave.l0 k1 l1 a2 x7_1 (wrap64 (x8_1 + 1)) a0_0 a0_1))) else (spec_l6Leave.l0 k1 l1 a2 x7_1 (wrap64 (x8_1 + 1)) a0_0 a0_1)) = some r := H
     have A7 := A_ A70
     clear A70
     by_cases c8 : t414 ≥ 0
     ·
      rw [if_pos c8] at H
      have c8b0 : decide (0 ≤ t414) = true := decide_eq_true c8
      clear c8
      by_cases c9 : x7_1 < 0
      ·
       rw [if_pos c9] at H
       have c9b0 : decide (x7_1 < 0) = true := decide_eq_true c9
       clear c9
       have H' := A_ H
       clear H
       have p413 : 0 ≤ (x8_1 : Int) := of_decide_eq_true (by first | (with_reducible assumption) | assumption)
       have q413 : x8_1 < (l1.length : Int) := of_decide_eq_true (by first | (with_reducible assumption) | assumption)
       obtain ⟨ad413, A413_0, c413_0, e413, hx413_0, hl413_0, hi413_0⟩ := at_L2 HR1.out x8_1 p413 q413
       cases e413
       replace hx413_0 := (HB.out.cell (World.block_lt_of_cell? w _ hx413_0)).trans hx413_0
       have HR413_0 := A_ hi413_0
       have HC413_0 := A_ hl413_0
       clear hi413_0 hl413_0
       replace p413 := eq_true p413
       replace q413 := eq_true q413
       go_wp2_with (first | ((with_reducible refine gate_callee (f := 53) rfl ?_); refine goesL_ (some 23) rfl rfl Try.func53 (by kernel_rfl) rfl #[.slice A413_0 (rd_L2 l1 x8_1).length c413_0, .int .i64 a2] rfl gq ?_; (with_reducible refine (spec_l2First.calls k1 _ _ (rd_L2 l1 x8_1) a2 t414 _ ?side1 ?side2 A7.out).mono ?_); (case side1 => exact cq (Kd.C_below HR413_0.out HB.out)); (case side2 => exact HC413_0.out); rintro e w' ⟨rfl, ⟨nd, rfl⟩⟩; refine ⟨_, rfl, ?_⟩))
       go_roundg k1
       case measure => have := HK1.out; omega
       case rel => exact ⟨(t414), (wrap64 (x8_1 + 1)), (by first | rfl | (simp; done) | (simp [*]; done)), (by first | rfl | (simp; done) | (simp [*]; done)), H', ⟨by have := HK1.out; omega⟩, ⟨bq BK412⟩, ⟨hq HB⟩⟩
      ·
       rw [if_neg c9] at H
       have c9b0 : decide (x7_1 < 0) = false := decide_eq_false c9
       clear c9
       by_cases c10 : t414 < x7_1
       ·
        rw [if_pos c10] at H
        have c10b0 : decide (t414 < x7_1) = true := decide_eq_true c10
        clear c10
        have H' := A_ H
        clear H
        have p413 : 0 ≤ (x8_1 : Int) := of_decide_eq_true (by first | (with_reducible assumption) | assumption)
        have q413 : x8_1 < (l1.length : Int) := of_decide_eq_true (by first | (with_reducible assumption) | assumption)
        obtain ⟨ad413, A413_0, c413_0, e413, hx413_0, hl413_0, hi413_0⟩ := at_L2 HR1.out x8_1 p413 q413
        cases e413
        replace hx413_0 := (HB.out.cell (World.block_lt_of_cell? w _ hx413_0)).trans hx413_0
        have HR413_0 := A_ hi413_0
        have HC413_0 := A_ hl413_0
        clear hi413_0 hl413_0
        replace p413 := eq_true p413
        replace q413 := eq_true q413
        go_wp2_with (first | ((with_reducible refine gate_callee (f := 53) rfl ?_); refine goesL_ (some 23) rfl rfl Try.func53 (by kernel_rfl) rfl #[.slice A413_0 (rd_L2 l1 x8_1).length c413_0, .int .i64 a2] rfl gq ?_; (with_reducible refine (spec_l2First.calls k1 _ _ (rd_L2 l1 x8_1) a2 t414 _ ?side1 ?side2 A7.out).mono ?_); (case side1 => exact cq (Kd.C_below HR413_0.out HB.out)); (case side2 => exact HC413_0.out); rintro e w' ⟨rfl, ⟨nd, rfl⟩⟩; refine ⟨_, rfl, ?_⟩))
        go_roundg k1
        case measure => have := HK1.out; omega
        case rel => exact ⟨(t414), (wrap64 (x8_1 + 1)), (by first | rfl | (simp; done) | (simp [*]; done)), (by first | rfl | (simp; done) | (simp [*]; done)), H', ⟨by have := HK1.out; omega⟩, ⟨bq BK412⟩, ⟨hq HB⟩⟩
       ·
        rw [if_neg c10] at H
        have c10b0 : decide (t414 < x7_1) = false := decide_eq_false c10
        clear c10
        have H' := A_ H
        clear H
        have p413 : 0 ≤ (x8_1 : Int) := of_decide_eq_true (by first | (with_reducible assumption) | assumption)
        have q413 : x8_1 < (l1.length : Int) := of_decide_eq_true (by first | (with_reducible assumption) | assumption)
        obtain ⟨ad413, A413_0, c413_0, e413, hx413_0, hl413_0, hi413_0⟩ := at_L2 HR1.out x8_1 p413 q413
        cases e413
        replace hx413_0 := (HB.out.cell (World.block_lt_of_cell? w _ hx413_0)).trans hx413_0
        have HR413_0 := A_ hi413_0
        have HC413_0 := A_ hl413_0
        clear hi413_0 hl413_0
        replace p413 := eq_true p413
        replace q413 := eq_true q413
        go_wp2_with (first | ((with_reducible refine gate_callee (f := 53) rfl ?_); refine goesL_ (some 23) rfl rfl Try.func53 (by kernel_rfl) rfl #[.slice A413_0 (rd_L2 l1 x8_1).length c413_0, .int .i64 a2] rfl gq ?_; (with_reducible refine (spec_l2First.calls k1 _ _ (rd_L2 l1 x8_1) a2 t414 _ ?side1 ?side2 A7.out).mono ?_); (case side1 => exact cq (Kd.C_below HR413_0.out HB.out)); (case side2 => exact HC413_0.out); rintro e w' ⟨rfl, ⟨nd, rfl⟩⟩; refine ⟨_, rfl, ?_⟩))
        go_roundg k1
        case measure => have := HK1.out; omega
        case rel => exact ⟨(x7_1), (wrap64 (x8_1 + 1)), (by first | rfl | (simp; done) | (simp [*]; done)), (by first | rfl | (simp; done) | (simp [*]; done)), H', ⟨by have := HK1.out; omega⟩, ⟨bq BK412⟩, ⟨hq HB⟩⟩
     ·
      rw [if_neg c8] at H
      have c8b0 : decide (0 ≤ t414) = false := decide_eq_false c8
      clear c8
      have H' := A_ H
      clear H
      have p413 : 0 ≤ (x8_1 : Int) := of_decide_eq_true (by first | (with_reducible assumption) | assumption)
      have q413 : x8_1 < (l1.length : Int) := of_decide_eq_true (by first | (with_reducible assumption) | assumption)
      obtain ⟨ad413, A413_0, c413_0, e413, hx413_0, hl413_0, hi413_0⟩ := at_L2 HR1.out x8_1 p413 q413
      cases e413
      replace hx413_0 := (HB.out.cell (World.block_lt_of_cell? w _ hx413_0)).trans hx413_0
      have HR413_0 := A_ hi413_0
      have HC413_0 := A_ hl413_0
      clear hi413_0 hl413_0
      replace p413 := eq_true p413
      replace q413 := eq_true q413
      go_wp2_with (first | ((with_reducible refine gate_callee (f := 53) rfl ?_); refine goesL_ (some 23) rfl rfl Try.func53 (by kernel_rfl) rfl #[.slice A413_0 (rd_L2 l1 x8_1).length c413_0, .int .i64 a2] rfl gq ?_; (with_reducible refine (spec_l2First.calls k1 _ _ (rd_L2 l1 x8_1) a2 t414 _ ?side1 ?side2 A7.out).mono ?_); (case side1 => exact cq (Kd.C_below HR413_0.out HB.out)); (case side2 => exact HC413_0.out); rintro e w' ⟨rfl, ⟨nd, rfl⟩⟩; refine ⟨_, rfl, ?_⟩))
      go_roundg k1
      case measure => have := HK1.out; omega
      case rel => exact ⟨(x7_1), (wrap64 (x8_1 + 1)), (by first | rfl | (simp; done) | (simp [*]; done)), (by first | rfl | (simp; done) | (simp [*]; done)), H', ⟨by have := HK1.out; omega⟩, ⟨bq BK412⟩, ⟨hq HB⟩⟩
    ·
     rw [if_neg c6] at H
     exact absurd H (by simp)
   ·
    rw [if_neg c5] at H
    have c5b0 : decide (x8_1 < (l1.length : Int)) = false := decide_eq_false c5
    clear c5
    by_cases c11 : x7_1 < 0
    ·
     rw [if_pos c11] at H
     have c11b0 : decide (x7_1 < 0) = true := decide_eq_true c11
     clear c11
     obtain rfl := Option.some.inj H
     go_wp2
     go_ret
     exact ⟨rt, hq HB⟩
    ·
     rw [if_neg c11] at H
     have c11b0 : decide (x7_1 < 0) = false := decide_eq_false c11
     clear c11
     have H' := A_ H
     clear H
     go_wp2
     go_loopg [10, 11] k1 (fun kq v10 v11 w' => ∃ (x10_2 : Int) (x11_2 : Int), v10 = .int .i64 x10_2 ∧ v11 = .int .i64 x11_2 ∧ Aside0 (spec_l6Leave.l1 kq l1 a2 x7_1 x10_2 x11_2 a0_0 a0_1 = some r) ∧ Aside0 (kq ≤ k1) ∧ Aside0 (w'.heap[gb412]? = some (.cells #[.int .i64 a0_0, .bool a0_1] 25 (0, 0))) ∧ Aside0 (Below w.heap.size w w'))
     case atStart => exact ⟨(x7_1), (0), (by first | rfl | (simp; done) | (simp [*]; done)), (by first | rfl | (simp; done) | (simp [*]; done)), H', ⟨Nat.le_refl _⟩, ⟨bq BK412⟩, ⟨hq HB⟩⟩
     case round =>
      clear H'
      try clear c1
      try clear p2
      try clear c4
      try clear p4
      try clear q4
      try clear hx4
      try clear c5
      try clear c5b0
      try clear c6
      try clear c6b0
      try clear p6
      try clear c8
      try clear c8b0
      try clear c9
      try clear c9b0
      try clear c10
      try clear c10b0
      try clear c11
      try clear c11b0
      try clear hx413_0
      try clear p2
      try clear p413
      try clear q413
      obtain ⟨x10_2, x11_2, rfl, rfl, HA, HK2, BK412, HB⟩ := hrel
      cases gk with
      | zero => exact absurd HA.out (by simp [spec_l6Leave.l1])
      | succ k2 =>
       have H := HA.out
       clear HA
       simp only [spec_l6Leave.l1] at H
       by_cases c12 : x11_2 < (l1.length : Int)
       ·
        rw [if_pos c12] at H
        have c12b0 : decide (x11_2 < (l1.length : Int)) = true := decide_eq_true c12
        clear c12
        by_cases c13 : 0 ≤ x11_2
        ·
         rw [if_pos c13] at H
         have c13b0 : decide (0 ≤ x11_2) = true := decide_eq_true c13
         clear c13
         replace H := Option.bind_eq_some_iff.mp H
         obtain ⟨t416, A140, H⟩ := H
         replace H : ((spec_l2Gap.f a0_0 a0_1 t416 a2).bind fun t417 => ((spec_l1Most.f x10_2 (wrap64 (x7_1 + t417))).bind fun t418 => (spec_l6Leave.l1 k2 l1 a2 x7_1 t418 (wrap64 (x11_2 + 1)) a0_0 a0_1))) = some r := H
         have A14 := A_ A140
         clear A140
         replace H := Option.bind_eq_some_iff.mp H
         obtain ⟨t417, A150, H⟩ := H
         replace H : ((spec_l1Most.f x10_2 (wrap64 (x7_1 + t417))).bind fun t418 => (spec_l6Leave.l1 k2 l1 a2 x7_1 t418 (wrap64 (x11_2 + 1)) a0_0 a0_1)) = some r := H
         have A15 := A_ A150
         clear A150
         replace H := Option.bind_eq_some_iff.mp H
         obtain ⟨t418, A160, H⟩ := H
         replace H : (spec_l6Leave.l1 k2 l1 a2 x7_1 t418 (wrap64 (x11_2 + 1)) a0_0 a0_1) = some r := H
         have A16 := A_ A160
         clear A160
         have H' := A_ H
         clear H
         try go_wp2
         have n0_ := A_ (blk_drew BK412.out)
         have n1_ := A_ (below_drew1 HB.out)
         clear BK412 HB; have BK412 := n0_; have HB := n1_; clear n0_ n1_
         have p415 : 0 ≤ (x11_2 : Int) := of_decide_eq_true (by first | (with_reducible assumption) | assumption)
         have q415 : x11_2 < (l1.length : Int) := of_decide_eq_true (by first | (with_reducible assumption) | assumption)
         obtain ⟨ad415, A415_0, c415_0, e415, hx415_0, hl415_0, hi415_0⟩ := at_L2 HR1.out x11_2 p415 q415
         have hw415_0 := hx415_0
         cases e415
         replace hx415_0 := (HB.out.cell (World.block_lt_of_cell? w _ hx415_0)).trans hx415_0
         have HR415_0 := A_ hi415_0
         have HC415_0 := A_ hl415_0
         clear hi415_0 hl415_0
         replace p415 := eq_true p415
         replace q415 := eq_true q415
         refine start_ (n := 14) (S := fun w' => w'.cell? ⟨gb412, 0, none⟩ = some (.int .i64 a0_0) ∧ w'.cell? ⟨gb412, 1, none⟩ = some (.bool a0_1) ∧ w'.cell? (ad415.add (x11_2).toNat) = some (.slice A415_0 (rd_L2 l1 x11_2).length c415_0)) (ds := []) #[false, false, false, false, false, false, false, false, false, false, false, false, false, false] (by kernel_rfl) rfl rfl ⟨bc BK412 0, bc BK412 1, ((HB.out.cell (World.block_lt_of_cell? w _ hw415_0)).trans hw415_0)⟩ (fun hHeld => ?_); refine with_tabW spec_l6Leave.tab14 spec_l6Leave.bits14 (fun HT_ HW_ => ?_)
         generalize wr.drew = w17 at BK412 HB HR415_0 hx415_0 hHeld ⊢
         refine pure_ (i := 0) (N := some 45) (v := ?_) (a' := ?_) #[true, false, false, false, false, false, false, false, false, false, false, false, false, false] rfl rfl (any_of HT_.out (by kernel_rfl)) (fun _ _ _ h => h) (Or.inl ⟨by rfl, ?_⟩) ?_ ?_
         rotate_left
         ·
          intro w'
          go_simp
          with_reducible rfl
         rotate_left
         ·
          simp only [Act.put, List.setIfInBounds_toArray, List.set_cons_zero, List.set_cons_succ, i64_w, i32_w]
          rfl
         refine pure_ (i := 1) (N := some 46) (v := ?_) (a' := ?_) #[true, true, false, false, false, false, false, false, false, false, false, false, false, false] rfl rfl (any_of HT_.out (by kernel_rfl)) (fun _ _ _ h => h) (Or.inl ⟨by rfl, ?_⟩) ?_ ?_
         rotate_left
         ·
          intro w'
          go_simp
          with_reducible rfl
         rotate_left
         ·
          simp only [Act.put, List.setIfInBounds_toArray, List.set_cons_zero, List.set_cons_succ, i64_w, i32_w]
          rfl
         refine pure_ (i := 3) (N := some 48) (v := ?_) (a' := ?_) #[true, true, false, true, false, false, false, false, false, false, false, false, false, false] rfl rfl (any_of HT_.out (by kernel_rfl)) (fun _ _ _ h => h) (Or.inl ⟨by rfl, ?_⟩) ?_ ?_
         rotate_left
         ·
          intro w'
          go_simp
          with_reducible rfl
         rotate_left
         ·
          simp only [Act.put, List.setIfInBounds_toArray, List.set_cons_zero, List.set_cons_succ, i64_w, i32_w]
          rfl
         refine pure_ (i := 4) (N := some 49) (v := ?_) (a' := ?_) #[true, true, false, true, true, false, false, false, false, false, false, false, false, false] rfl rfl (any_of HT_.out (by kernel_rfl)) (fun _ _ _ h => h) (Or.inl ⟨by rfl, ?_⟩) ?_ ?_
         rotate_left
         ·
          intro w'
          go_simp
          with_reducible rfl
         rotate_left
         ·
          simp only [Act.put, List.setIfInBounds_toArray, List.set_cons_zero, List.set_cons_succ, i64_w, i32_w]
          rfl
         refine pure_ (i := 5) (N := some 50) (v := ?_) (a' := ?_) #[true, true, false, true, true, true, false, false, false, false, false, false, false, false] rfl rfl (any_of HT_.out (by kernel_rfl)) (fun _ _ _ h => h) (Or.inl ⟨by rfl, ?_⟩) ?_ ?_
         rotate_left
         ·
          intro w'
          go_simp
          with_reducible rfl
         rotate_left
         ·
          simp only [Act.put, List.setIfInBounds_toArray, List.set_cons_zero, List.set_cons_succ, i64_w, i32_w]
          rfl
         refine pure_ (i := 7) (N := some 52) (v := ?_) (a' := ?_) #[true, true, false, true, true, true, false, true, false, false, false, false, false, false] rfl rfl (any_of HT_.out (by kernel_rfl)) (fun _ _ _ h => h) (Or.inl ⟨by rfl, ?_⟩) ?_ ?_
         rotate_left
         ·
          intro w'
          go_simp
          with_reducible rfl
         rotate_left
         ·
          simp only [Act.put, List.setIfInBounds_toArray, List.set_cons_zero, List.set_cons_succ, i64_w, i32_w]
          rfl
         refine pure_ (i := 9) (N := some 54) (v := ?_) (a' := ?_) #[true, true, false, true, true, true, false, true, false, true, false, false, false, false] rfl rfl (any_of HT_.out (by kernel_rfl)) (fun _ _ _ h => h) (Or.inl ⟨by rfl, ?_⟩) ?_ ?_
         rotate_left
         ·
          intro w'
          go_simp
          with_reducible rfl
         rotate_left
         ·
          simp only [Act.put, List.setIfInBounds_toArray, List.set_cons_zero, List.set_cons_succ, i64_w, i32_w]
          rfl
         refine take_ (i := 2) (N := some 47) (v := ?_) (a' := ?_) #[true, true, true, true, true, true, false, true, false, true, false, false, false, false] rfl rfl (take_ofW HT_.out HW_.out (by kernel_rfl)) (fun _ _ _ h => h) (Or.inl ⟨by rfl, ?_⟩) hHeld ?_ ?_
         rotate_left
         ·
          rintro w' ⟨s0, s1, s2⟩
          go_simp
          with_reducible rfl
         rotate_left
         ·
          simp only [Act.put, List.setIfInBounds_toArray, List.set_cons_zero, List.set_cons_succ, i64_w, i32_w]
          rfl
         refine take_ (i := 6) (N := some 51) (v := ?_) (a' := ?_) #[true, true, true, true, true, true, true, true, false, true, false, false, false, false] rfl rfl (take_ofW HT_.out HW_.out (by kernel_rfl)) (fun _ _ _ h => h) (Or.inl ⟨by rfl, ?_⟩) hHeld ?_ ?_
         rotate_left
         ·
          rintro w' ⟨s0, s1, s2⟩
          go_simp
          with_reducible rfl
         rotate_left
         ·
          simp only [Act.put, List.setIfInBounds_toArray, List.set_cons_zero, List.set_cons_succ, i64_w, i32_w]
          rfl
         refine one_ (i := 8) (N := some 53) #[true, true, true, true, true, true, true, true, true, true, false, false, false, false] rfl rfl (one_of HT_.out (by kernel_rfl)) (by decide) (fun K hK => ?_)
         refine goes_ Try.func78 (by kernel_rfl) rfl #[.slice A415_0 (rd_L2 l1 x11_2).length c415_0, .int .i64 x7_1] (by rfl) rfl rfl gq ?_
         with_reducible refine (spec_l2At.calls _ _ (rd_L2 l1 x11_2) x7_1 t416 _ ?side1 ?side2 A14.out).mono ?_
         (case side1 => exact cq (Kd.C_below HR415_0.out HB.out))
         (case side2 => exact HC415_0.out)
         rintro e w' ⟨rfl, ⟨nd, rfl⟩⟩
         refine ⟨_, rfl, ?_⟩
         refine hK.out _ _ ⟨bc BK412 0, bc BK412 1, ((HB.out.cell (World.block_lt_of_cell? w _ hw415_0)).trans hw415_0)⟩ (fun hHeld => ?_)
         clear hK K
         refine norm_ (a' := ?_) ?_ ?_
         rotate_left
         ·
          exact pq (d := some 53)
         refine one_ (i := 10) (N := some 55) #[true, true, true, true, true, true, true, true, true, true, true, false, false, false] rfl rfl (one_of HT_.out (by kernel_rfl)) (by decide) (fun K hK => ?_)
         refine goes_ Try.func102 (by kernel_rfl) rfl #[.agg #[.int .i64 a0_0, .bool a0_1], .int .i64 t416, .int .i64 a2] (by rfl) rfl rfl gq ?_
         with_reducible refine (spec_l2Gap.calls a0_0 a0_1 t416 a2 t417 _ A15.out).mono ?_
         rintro e w18 ⟨rfl, hb⟩
         refine ⟨_, rfl, ?_⟩
         have n0_ := A_ (blk_below (bq BK412) hb)
         have n1_ := A_ (below_step (hq HB) hb)
         clear BK412 HB; have BK412 := n0_; have HB := n1_; clear n0_ n1_; (try clear hb); (try clear hb2); (try clear hk); (try clear hi)
         refine hK.out _ _ ⟨bc BK412 0, bc BK412 1, ((HB.out.cell (World.block_lt_of_cell? w _ hw415_0)).trans hw415_0)⟩ (fun hHeld => ?_)
         clear hK K
         refine norm_ (a' := ?_) ?_ ?_
         rotate_left
         ·
          exact pq (d := some 55)
         refine pure_ (i := 11) (N := some 56) (v := ?_) (a' := ?_) #[true, true, true, true, true, true, true, true, true, true, true, true, false, false] rfl rfl (any_of HT_.out (by kernel_rfl)) (fun _ _ _ h => h) (Or.inl ⟨by rfl, ?_⟩) ?_ ?_
         rotate_left
         ·
          intro w'
          go_simp
          with_reducible rfl
         rotate_left
         ·
          simp only [Act.put, List.setIfInBounds_toArray, List.set_cons_zero, List.set_cons_succ, i64_w, i32_w]
          rfl
         refine one_ (i := 12) (N := some 57) #[true, true, true, true, true, true, true, true, true, true, true, true, true, false] rfl rfl (one_of HT_.out (by kernel_rfl)) (by decide) (fun K hK => ?_)
         refine goes_ Try.func70 (by kernel_rfl) rfl #[.int .i64 x10_2, .int .i64 (wrap64 (x7_1 + t417))] (by rfl) rfl rfl gq ?_
         with_reducible refine (spec_l1Most.calls x10_2 (wrap64 (x7_1 + t417)) t418 _ A16.out).mono ?_
         rintro e w' ⟨rfl, ⟨nd, rfl⟩⟩
         refine ⟨_, rfl, ?_⟩
         refine hK.out _ _ ⟨bc BK412 0, bc BK412 1, ((HB.out.cell (World.block_lt_of_cell? w _ hw415_0)).trans hw415_0)⟩ (fun hHeld => ?_)
         clear hK K
         refine norm_ (a' := ?_) ?_ ?_
         rotate_left
         ·
          exact pq (d := some 57)
         refine pure_ (i := 13) (N := some 10) (v := ?_) (a' := ?_) #[true, true, true, true, true, true, true, true, true, true, true, true, true, true] rfl rfl (any_of HT_.out (by kernel_rfl)) (fun _ _ _ h => h) (Or.inl ⟨by rfl, ?_⟩) ?_ ?_
         rotate_left
         ·
          intro w'
          go_simp
          with_reducible rfl
         rotate_left
         ·
          simp only [Act.put, List.setIfInBounds_toArray, List.set_cons_zero, List.set_cons_succ, i64_w, i32_w]
          rfl
         refine done_ (done_of HT_.out (by kernel_rfl)) ?_
         try go_wp2
         go_roundg k2
         case measure => have := HK1.out; have := HK2.out; omega
         case rel => exact ⟨(t418), (wrap64 (x11_2 + 1)), (by first | rfl | (simp; done) | (simp [*]; done)), (by first | rfl | (simp; done) | (simp [*]; done)), H', ⟨by have := HK1.out; have := HK2.out; omega⟩, ⟨bq BK412⟩, ⟨hq HB⟩⟩
        ·
         rw [if_neg c13] at H
         exact absurd H (by simp)
       ·
        rw [if_neg c12] at H
        have c12b0 : decide (x11_2 < (l1.length : Int)) = false := decide_eq_false c12
        clear c12
        obtain rfl := Option.some.inj H
        go_wp2
        go_ret
        exact ⟨rt, hq HB⟩

/-! ### spec_LeaveTimes: function 32 -/
def spec_LeaveTimes.l0 : Nat → List (List Int) → List Int → Int → Int → Bool → Option (List Int × Bool)
  | 0, _, _, _, _, _ => none
  | k + 1, x1, x6, x7, x420000, x420001 => if x7 < x420000 then ((spec_l6Leave.f k x420000 x420001 x1 x7).bind fun t424 => (if x6.length < 17592186044416 then (spec_LeaveTimes.l0 k x1 (x6 ++ [t424]) (wrap64 (x7 + 1)) x420000 x420001) else (none))) else (some (x6, true))
def spec_LeaveTimes.f (k : Nat) (a0_0 : Int) (a0_1 : Bool) (l1 : List (List Int)) : Option (List Int × Bool) := (some (([] : List Int) : List Int)).bind fun y420 => ((spec_l6Leavers.f k a0_0 a0_1 l1).bind fun t423 => (if t423 = true then (spec_LeaveTimes.l0 k l1 y420 0 a0_0 a0_1) else (some (y420, false))))
theorem spec_LeaveTimes.mono_l : ∀ k, (∀ y0 y1 y2 y3 y4, LeO (spec_LeaveTimes.l0 k y0 y1 y2 y3 y4) (spec_LeaveTimes.l0 (k + 1) y0 y1 y2 y3 y4))
  | 0 => fun _ _ _ _ _ r h => by simp [spec_LeaveTimes.l0] at h
  | k + 1 => by
    have ih0 := spec_LeaveTimes.mono_l k
    · intro y0 y1 y2 y3 y4
      unfold spec_LeaveTimes.l0
      repeat' first
      | (with_reducible exact ih0 _ _ _ _ _)
      | (with_reducible exact spec_l6Leave.mono _ _ _ _ _)
      | (with_reducible exact spec_l6Leavers.mono _ _ _ _)
      | (with_reducible exact LeO.refl _)
      | (with_reducible exact LeO.none _)
      | (with_reducible refine LeO.ite ?_ ?_)
      | (with_reducible refine LeO.bind ?_ (fun _ => ?_))
      | exact ih0 _ _ _ _ _
      | exact spec_l6Leave.mono _ _ _ _ _
      | exact spec_l6Leavers.mono _ _ _ _
      | exact LeO.none _
      | refine LeO.ite ?_ ?_
      | refine LeO.bind ?_ (fun _ => ?_)
theorem spec_LeaveTimes.mono : ∀ a0 a1 a2 k, LeO (spec_LeaveTimes.f k a0 a1 a2) (spec_LeaveTimes.f (k + 1) a0 a1 a2) := by
  intro a0 a1 a2 k
  have ih0 := spec_LeaveTimes.mono_l k
  unfold spec_LeaveTimes.f
  repeat' first
      | (with_reducible exact ih0 _ _ _ _ _)
      | (with_reducible exact spec_l6Leave.mono _ _ _ _ _)
      | (with_reducible exact spec_l6Leavers.mono _ _ _ _)
      | (with_reducible exact LeO.refl _)
      | (with_reducible exact LeO.none _)
      | (with_reducible refine LeO.ite ?_ ?_)
      | (with_reducible refine LeO.bind ?_ (fun _ => ?_))
      | exact ih0 _ _ _ _ _
      | exact spec_l6Leave.mono _ _ _ _ _
      | exact spec_l6Leavers.mono _ _ _ _
      | exact LeO.none _
      | refine LeO.ite ?_ ?_
      | refine LeO.bind ?_ (fun _ => ?_)
set_option maxHeartbeats 8000000 in
set_option maxRecDepth 100000 in
theorem spec_LeaveTimes.calls (k : Nat) (a0_0 : Int) (a0_1 : Bool) (A1 : Option Addr) (c1 : Nat) (l1 : List (List Int)) (r1 : List Int) (r2 : Bool) (w : World) (hr1 : Kd.C (Kd.slice 3 (Kd.int .i64)) w A1 l1.length l1) (hc1 : l1.length ≤ c1) (h : spec_LeaveTimes.f k a0_0 a0_1 l1 = some (r1, r2)) :
    Calls Try.prog 32 #[.agg #[.int .i64 a0_0, .bool a0_1], .slice A1 l1.length c1] w fun e w' => ∃ v0_ : Value, e = .returned (.tuple #[v0_, .bool r2]) ∧ Kd.R (Kd.int .i64) 3 w' w.heap.size (fun _ => True) v0_ r1 ∧ Below w.heap.size w w' := by
 have hu25 := Try.underlying25
 have HR1 := A_ hr1
 have HC1 := A_ hc1
 clear hr1 hc1
 have HB := A_ (Below.refl w.heap.size w)
 have H : ((some (([] : List Int) : List Int)).bind fun y420 => ((spec_l6Leavers.f k a0_0 a0_1 l1).bind fun t423 => (if t423 = true then (spec_LeaveTimes.l0 k l1 y420 0 a0_0 a0_1) else (some (y420, false))))) = some (r1, r2) := h
 clear h
 obtain ⟨y420, hy420⟩ : ∃ y_ : List Int, y_ = (([] : List Int)) := ⟨_, rfl⟩
 replace H : ((spec_l6Leavers.f k a0_0 a0_1 l1).bind fun t423 => (if t423 = true then (spec_LeaveTimes.l0 k l1 y420 0 a0_0 a0_1) else (some (y420, false)))) = some (r1, r2) := by first | (rw [hy420]; with_reducible exact H) | (have H2_ := (Option.bind_some _ _).symm.trans H; rw [hy420]; with_reducible exact H2_) | (have H2_ := (Option.bind_some _ _).symm.trans H; with_reducible exact H2_) | with_reducible exact H | (rw [hy420]; exact H) | exact H
 have Ny420 := A_ hy420
 clear hy420
 replace H := Option.bind_eq_some_iff.mp H
 obtain ⟨t423, A30, H⟩ := H
 replace H : (if t423 = true then (spec_LeaveTimes.l0 k l1 y420 0 a0_0 a0_1) else (some (y420, false))) = some (r1, r2) := H
 have A3 := A_ A30
 clear A30
 by_cases c4 : t423 = true
 ·
  subst c4
  have H1 : (spec_LeaveTimes.l0 k l1 y420 0 a0_0 a0_1) = some (r1, r2) := by rw [if_pos rfl] at H; exact H
  clear H
  have H := H1
  clear H1
  have H' := A_ H
  clear H
  go_enter Try.func32, Try.ntmps32
  go_wp2_with (first | ((with_reducible refine gate_dst (N := 2) rfl ?_); refine box_event ?hg (N := 2) ?hd (cs := #[.int .i64 a0_0, .bool a0_1]) (t := 25) ?hr ?_; (case hd => rfl); (case hg => rfl); (case hr => first | (go_simp; done) | (go_simp; rfl)); intro gb419 hg w5 hbox hb; have n0_ := A_ (below_step (hq HB) hb); have n1_ := A_ (hbox); have n2_ := A_ ((by rw [hg]; exact (below_size (hq HB)) : w.heap.size ≤ gb419)); have n3_ := A_ ((by rw [hg]; exact (below_size (hq HB)) : w.heap.size ≤ gb419)); clear HB; have HB := n0_; have BK419 := n1_; have GW419 := n2_; have GE419 := n3_; clear n0_ n1_ n2_ n3_; clear hb hbox hg) | ((with_reducible refine gate_dst (N := 8) rfl ?_); refine Kd.R_lit (Kd.int .i64) _ 3 ?hg (N := 8) ?hd (xs := ([] : List Int)) (inner := []) (ok := fun _ => True) (okp := fun _ => True) ?hr ?hp (fun _ hk => hk) trivial (Below.refl _ _) (Nat.le_refl _) (by simp) ?_; (case hd => rfl); (case hg => rfl); (case hr => first | (go_simp; done) | (go_simp; rfl)); (case hp => exact (Reps.none _ _)); intro v421 w6 ho7 hb hg_ hnew_; clear hg_ hnew_; (first | rw [← Ny420.out] at ho7 | (simp only [Int.reduceToNat] at ho7; rw [← Ny420.out] at ho7)); have n0_ := A_ (Kd.R_lower ho7 (below_size (hq HB))); have n1_ := A_ (blk_below (bq BK419) hb); have n2_ := A_ (below_step (hq HB) hb); clear BK419; clear HB; have HO422 := n0_; have BK419 := n1_; have HB := n2_; clear n0_ n1_ n2_; clear hb ho7; have hcz8_0 : w6.cell? ⟨gb419, 0, none⟩ = some (.int .i64 a0_0) := bc BK419 0; have hcz8_1 : w6.cell? ⟨gb419, 1, none⟩ = some (.bool a0_1) := bc BK419 1; have hfz8_0 := blk_frozen BK419.out 0; have hfz8_1 := blk_frozen BK419.out 1) | ((with_reducible refine gate_callee (f := 83) rfl ?_); refine goesL_ (some 11) rfl rfl Try.func83 (by kernel_rfl) rfl #[.agg #[.int .i64 a0_0, .bool a0_1], .slice A1 l1.length c1] rfl gq ?_; (with_reducible refine (spec_l6Leavers.calls k a0_0 a0_1 _ _ l1 true _ ?side1 ?side2 A3.out).mono ?_); (case side1 => exact cq (Kd.C_below HR1.out HB.out)); (case side2 => exact HC1.out); rintro e w9 ⟨rfl, hb⟩; refine ⟨_, rfl, ?_⟩; have n0_ := A_ (Kd.R_below (rq HO422) hb); have n1_ := A_ (blk_below (bq BK419) hb); have n2_ := A_ (below_step (hq HB) hb); clear HO422; clear BK419; clear HB; have HO422 := n0_; have BK419 := n1_; have HB := n2_; clear n0_ n1_ n2_; (try clear hb); (try clear hb2); (try clear hk); (try clear hi)))
  go_loopg [6, 7] k (fun kq v6 v7 w' => ∃ (x6_1 : List Int) (x7_1 : Int), v7 = .int .i64 x7_1 ∧ Aside0 (spec_LeaveTimes.l0 kq l1 x6_1 x7_1 a0_0 a0_1 = some (r1, r2)) ∧ Aside0 (kq ≤ k) ∧ Aside0 (Kd.R (Kd.int .i64) 3 w' w.heap.size (fun _ => True) v6 x6_1) ∧ Aside0 (w'.heap[gb419]? = some (.cells #[.int .i64 a0_0, .bool a0_1] 25 (0, 0))) ∧ Aside0 (Below w.heap.size w w'))
  case atStart => exact ⟨(y420), (0), (by first | rfl | (simp; done) | (simp [*]; done)), H', ⟨Nat.le_refl _⟩, ⟨rq HO422⟩, ⟨bq BK419⟩, ⟨hq HB⟩⟩
  case round =>
   clear H'
   try clear c1
   try clear p2
   try clear c3
   try clear c4
   try clear c8
   try clear hcz8_0
   try clear hcz8_1
   try clear hfz8_0
   try clear hfz8_1
   obtain ⟨x6_1, x7_1, rfl, HA, HK1, HO_6, BK419, HB⟩ := hrel
   cases gk with
   | zero => exact absurd HA.out (by simp [spec_LeaveTimes.l0])
   | succ k1 =>
    have H := HA.out
    clear HA
    simp only [spec_LeaveTimes.l0] at H
    by_cases c10 : x7_1 < a0_0
    ·
     rw [if_pos c10] at H
     have c10b0 : decide (x7_1 < a0_0) = true := decide_eq_true c10
     clear c10
     replace H := Option.bind_eq_some_iff.mp H
     obtain ⟨t424, A110, H⟩ := H
     replace H : (if x6_1.length < 17592186044416 then (spec_LeaveTimes.l0 k1 l1 (x6_1 ++ [t424]) (wrap64 (x7_1 + 1)) a0_0 a0_1) else (none)) = some (r1, r2) := H
     have A11 := A_ A110
     clear A110
     by_cases c12 : x6_1.length < 17592186044416
     ·
      rw [if_pos c12] at H
      have LMc12 := A_ c12
      clear c12
      obtain ⟨y425, hy425⟩ : ∃ y_ : List Int, y_ = (x6_1 ++ [t424]) := ⟨_, rfl⟩
      replace H : (spec_LeaveTimes.l0 k1 l1 y425 (wrap64 (x7_1 + 1)) a0_0 a0_1) = some (r1, r2) := by first | (rw [hy425]; with_reducible exact H) | (have H2_ := (Option.bind_some _ _).symm.trans H; rw [hy425]; with_reducible exact H2_) | (have H2_ := (Option.bind_some _ _).symm.trans H; with_reducible exact H2_) | with_reducible exact H | (rw [hy425]; exact H) | exact H
      have Ny425 := A_ hy425
      clear hy425
      have H' := A_ H
      clear H
      have hcz13_0 : wr.cell? ⟨gb419, 0, none⟩ = some (.int .i64 a0_0) := bc BK419 0
      have hcz13_1 : wr.cell? ⟨gb419, 1, none⟩ = some (.bool a0_1) := bc BK419 1
      have hfz13_0 := blk_frozen BK419.out 0
      have hfz13_1 := blk_frozen BK419.out 1
      go_wp2_with (first | ((with_reducible refine gate_callee (f := 84) rfl ?_); refine goesL_ (some 24) rfl rfl Try.func84 (by kernel_rfl) rfl #[.agg #[.int .i64 a0_0, .bool a0_1], .slice A1 l1.length c1, .int .i64 x7_1] rfl gq ?_; (with_reducible refine (spec_l6Leave.calls k1 a0_0 a0_1 _ _ l1 x7_1 t424 _ ?side1 ?side2 A11.out).mono ?_); (case side1 => exact cq (Kd.C_below HR1.out HB.out)); (case side2 => exact HC1.out); rintro e w14 ⟨rfl, hb⟩; refine ⟨_, rfl, ?_⟩; have n0_ := A_ (Kd.R_below (rq HO_6) hb); have n1_ := A_ (blk_below (bq BK419) hb); have n2_ := A_ (below_step (hq HB) hb); clear HO_6; clear BK419; clear HB; have HO_6 := n0_; have BK419 := n1_; have HB := n2_; clear n0_ n1_ n2_; (try clear hb); (try clear hb2); (try clear hk); (try clear hi)) | ((with_reducible refine gate_builtin (b := .append) (xs := #[.tmp 20, .tmp 25]) rfl ?_); at_builtin; refine Kd.R_append (Kd.int .i64) (w0 := w) w.heap.size rfl (.tmp 20) (.tmp 25) 26 3 (.int .i64 0) 8 rfl Try.underlying26 info3 rfl (by decide) (by omega) u6 x6_1 t424 [.int .i64 t424] (fun _ => True) (fun _ => False) rfl rfl ?aP (fun _ hk => hk.elim) ?aF ?aO ?aB ?aS ?aL ?_; (case aP => exact rfl); (case aB => exact (hq HB)); (case aF => exact (fun _ _ => trivial)); (case aO => exact (rq HO_6)); (case aS => exact (below_size (hq HB))); (case aL => have := LMc12.out; omega); intro v426 w15 ho hb hg hat; rw [← Ny425.out] at ho; have n0_ := A_ (blk_grown (g := gb419) (o := .cells #[.int .i64 a0_0, .bool a0_1] 25 (0, 0)) (bq BK419) hg (Kd.R_ne HO_6.out BK419.out (by decide))); have n1_ := A_ (hb); have n2_ := A_ (ho); clear BK419; clear HB; clear HO_6; have BK419 := n0_; have HB := n1_; have HO427 := n2_; clear n0_ n1_ n2_; clear ho hb hg hat))
      go_roundg k1
      case measure => have := HK1.out; omega
      case rel => exact ⟨(y425), (wrap64 (x7_1 + 1)), (by first | rfl | (simp; done) | (simp [*]; done)), H', ⟨by have := HK1.out; omega⟩, ⟨rq HO427⟩, ⟨bq BK419⟩, ⟨hq HB⟩⟩
     ·
      rw [if_neg c12] at H
      exact absurd H (by simp)
    ·
     rw [if_neg c10] at H
     have c10b0 : decide (x7_1 < a0_0) = false := decide_eq_false c10
     clear c10
     simp only [Option.some.injEq, Prod.mk.injEq] at H
     obtain ⟨rfl, rfl⟩ := H
     have hcz16_0 : wr.cell? ⟨gb419, 0, none⟩ = some (.int .i64 a0_0) := bc BK419 0
     have hcz16_1 : wr.cell? ⟨gb419, 1, none⟩ = some (.bool a0_1) := bc BK419 1
     have hfz16_0 := blk_frozen BK419.out 0
     have hfz16_1 := blk_frozen BK419.out 1
     go_wp2
     go_ret2
     exact ⟨_, rt, rq HO_6, hq HB⟩
 ·
  replace c4 := Bool.eq_false_iff.mpr c4
  subst c4
  have H1 : (some (y420, false)) = some (r1, r2) := by rw [if_neg (show ¬ (false = true) by decide)] at H; exact H
  clear H
  have H := H1
  clear H1
  simp only [Option.some.injEq, Prod.mk.injEq] at H
  obtain ⟨rfl, rfl⟩ := H
  go_enter Try.func32, Try.ntmps32
  go_wp2_with (first | ((with_reducible refine gate_dst (N := 2) rfl ?_); refine box_event ?hg (N := 2) ?hd (cs := #[.int .i64 a0_0, .bool a0_1]) (t := 25) ?hr ?_; (case hd => rfl); (case hg => rfl); (case hr => first | (go_simp; done) | (go_simp; rfl)); intro gb419 hg w17 hbox hb; have n0_ := A_ (below_step (hq HB) hb); have n1_ := A_ (hbox); have n2_ := A_ ((by rw [hg]; exact (below_size (hq HB)) : w.heap.size ≤ gb419)); have n3_ := A_ ((by rw [hg]; exact (below_size (hq HB)) : w.heap.size ≤ gb419)); clear HB; have HB := n0_; have BK419 := n1_; have GW419 := n2_; have GE419 := n3_; clear n0_ n1_ n2_ n3_; clear hb hbox hg) | ((with_reducible refine gate_dst (N := 8) rfl ?_); refine Kd.R_lit (Kd.int .i64) _ 3 ?hg (N := 8) ?hd (xs := ([] : List Int)) (inner := []) (ok := fun _ => True) (okp := fun _ => True) ?hr ?hp (fun _ hk => hk) trivial (Below.refl _ _) (Nat.le_refl _) (by simp) ?_; (case hd => rfl); (case hg => rfl); (case hr => first | (go_simp; done) | (go_simp; rfl)); (case hp => exact (Reps.none _ _)); intro v421 w18 ho19 hb hg_ hnew_; clear hg_ hnew_; (first | rw [← Ny420.out] at ho19 | (simp only [Int.reduceToNat] at ho19; rw [← Ny420.out] at ho19)); have n0_ := A_ (Kd.R_lower ho19 (below_size (hq HB))); have n1_ := A_ (blk_below (bq BK419) hb); have n2_ := A_ (below_step (hq HB) hb); clear BK419; clear HB; have HO422 := n0_; have BK419 := n1_; have HB := n2_; clear n0_ n1_ n2_; clear hb ho19; have hcz20_0 : w18.cell? ⟨gb419, 0, none⟩ = some (.int .i64 a0_0) := bc BK419 0; have hcz20_1 : w18.cell? ⟨gb419, 1, none⟩ = some (.bool a0_1) := bc BK419 1; have hfz20_0 := blk_frozen BK419.out 0; have hfz20_1 := blk_frozen BK419.out 1) | ((with_reducible refine gate_callee (f := 83) rfl ?_); refine goesL_ (some 11) rfl rfl Try.func83 (by kernel_rfl) rfl #[.agg #[.int .i64 a0_0, .bool a0_1], .slice A1 l1.length c1] rfl gq ?_; (with_reducible refine (spec_l6Leavers.calls k a0_0 a0_1 _ _ l1 false _ ?side1 ?side2 A3.out).mono ?_); (case side1 => exact cq (Kd.C_below HR1.out HB.out)); (case side2 => exact HC1.out); rintro e w21 ⟨rfl, hb⟩; refine ⟨_, rfl, ?_⟩; have n0_ := A_ (Kd.R_below (rq HO422) hb); have n1_ := A_ (blk_below (bq BK419) hb); have n2_ := A_ (below_step (hq HB) hb); clear HO422; clear BK419; clear HB; have HO422 := n0_; have BK419 := n1_; have HB := n2_; clear n0_ n1_ n2_; (try clear hb); (try clear hb2); (try clear hk); (try clear hi)))
  go_ret2
  exact ⟨_, rt, rq HO422, hq HB⟩

/-! ### impl_WorstLeave: function 33 -/
def impl_WorstLeave.j0 : Nat → List (List Int) → Bool → Int → Bool → Option (Int × Bool)
  | 0, _, _, _, _ => none
  | k + 1, x1, x15, x429000, x429001 => if x15 = true then (some (0, false)) else ((impl_Road_leaveTimes.f k x429000 x429001 x1).bind fun t434 => ((slices_Max_int_int.f k t434).bind fun t437 => (some (t437, true))))
def impl_WorstLeave.f (k : Nat) (a0_0 : Int) (a0_1 : Bool) (l1 : List (List Int)) : Option (Int × Bool) := (impl_areLeavers.f k a0_0 a0_1 l1).bind fun t429 => (if t429 = true then ((impl_Road_leaveTimes.f k a0_0 a0_1 l1).bind fun t430 => ((slices_Contains_int_int.f k t430 (-1)).bind fun t433 => (impl_WorstLeave.j0 k l1 t433 a0_0 a0_1))) else (impl_WorstLeave.j0 k l1 true a0_0 a0_1))
theorem impl_WorstLeave.mono_l : ∀ k, (∀ y0 y1 y2 y3, LeO (impl_WorstLeave.j0 k y0 y1 y2 y3) (impl_WorstLeave.j0 (k + 1) y0 y1 y2 y3))
  | 0 => fun _ _ _ _ r h => by simp [impl_WorstLeave.j0] at h
  | k + 1 => by
    have ih0 := impl_WorstLeave.mono_l k
    · intro y0 y1 y2 y3
      unfold impl_WorstLeave.j0
      repeat' first
      | (with_reducible exact ih0 _ _ _ _)
      | (with_reducible exact impl_Road_leaveTimes.mono _ _ _ _)
      | (with_reducible exact impl_areLeavers.mono _ _ _ _)
      | (with_reducible exact slices_Contains_int_int.mono _ _ _)
      | (with_reducible exact slices_Max_int_int.mono _ _)
      | (with_reducible exact LeO.refl _)
      | (with_reducible exact LeO.none _)
      | (with_reducible refine LeO.ite ?_ ?_)
      | (with_reducible refine LeO.bind ?_ (fun _ => ?_))
      | exact ih0 _ _ _ _
      | exact impl_Road_leaveTimes.mono _ _ _ _
      | exact impl_areLeavers.mono _ _ _ _
      | exact slices_Contains_int_int.mono _ _ _
      | exact slices_Max_int_int.mono _ _
      | exact LeO.none _
      | refine LeO.ite ?_ ?_
      | refine LeO.bind ?_ (fun _ => ?_)
theorem impl_WorstLeave.mono : ∀ a0 a1 a2 k, LeO (impl_WorstLeave.f k a0 a1 a2) (impl_WorstLeave.f (k + 1) a0 a1 a2) := by
  intro a0 a1 a2 k
  have ih0 := impl_WorstLeave.mono_l k
  unfold impl_WorstLeave.f
  repeat' first
      | (with_reducible exact ih0 _ _ _ _)
      | (with_reducible exact impl_Road_leaveTimes.mono _ _ _ _)
      | (with_reducible exact impl_areLeavers.mono _ _ _ _)
      | (with_reducible exact slices_Contains_int_int.mono _ _ _)
      | (with_reducible exact slices_Max_int_int.mono _ _)
      | (with_reducible exact LeO.refl _)
      | (with_reducible exact LeO.none _)
      | (with_reducible refine LeO.ite ?_ ?_)
      | (with_reducible refine LeO.bind ?_ (fun _ => ?_))
      | exact ih0 _ _ _ _
      | exact impl_Road_leaveTimes.mono _ _ _ _
      | exact impl_areLeavers.mono _ _ _ _
      | exact slices_Contains_int_int.mono _ _ _
      | exact slices_Max_int_int.mono _ _
      | exact LeO.none _
      | refine LeO.ite ?_ ?_
      | refine LeO.bind ?_ (fun _ => ?_)
set_option maxHeartbeats 8000000 in
set_option maxRecDepth 100000 in
theorem impl_WorstLeave.calls (k : Nat) (a0_0 : Int) (a0_1 : Bool) (A1 : Option Addr) (c1 : Nat) (l1 : List (List Int)) (r1 : Int) (r2 : Bool) (w : World) (hr1 : Kd.C (Kd.slice 3 (Kd.int .i64)) w A1 l1.length l1) (hc1 : l1.length ≤ c1) (h : impl_WorstLeave.f k a0_0 a0_1 l1 = some (r1, r2)) :
    Calls Try.prog 33 #[.agg #[.int .i64 a0_0, .bool a0_1], .slice A1 l1.length c1] w fun e w' => e = .returned (.tuple #[.int .i64 r1, .bool r2]) ∧ Below w.heap.size w w' := by
 have hu25 := Try.underlying25
 have HR1 := A_ hr1
 have HC1 := A_ hc1
 clear hr1 hc1
 have HB := A_ (Below.refl w.heap.size w)
 have H : ((impl_areLeavers.f k a0_0 a0_1 l1).bind fun t429 => (if t429 = true then ((impl_Road_leaveTimes.f k a0_0 a0_1 l1).bind fun t430 => ((slices_Contains_int_int.f k t430 (-1)).bind fun t433 => (impl_WorstLeave.j0 k l1 t433 a0_0 a0_1))) else (impl_WorstLeave.j0 k l1 true a0_0 a0_1))) = some (r1, r2) := h
 clear h
 have HC3 := A_ H
 clear H
 go_enter Try.func33, Try.ntmps33
 go_upto_region 1 with (first | ((with_reducible refine gate_dst (N := 2) rfl ?_); refine box_event ?hg (N := 2) ?hd (cs := #[.int .i64 a0_0, .bool a0_1]) (t := 25) ?hr ?_; (case hd => rfl); (case hg => rfl); (case hr => first | (go_simp; done) | (go_simp; rfl)); intro gb428 hg w4 hbox hb; have n0_ := A_ (below_step (hq HB) hb); have n1_ := A_ (hbox); have n2_ := A_ ((by rw [hg]; exact (below_size (hq HB)) : w.heap.size ≤ gb428)); have n3_ := A_ ((by rw [hg]; exact (below_size (hq HB)) : w.heap.size ≤ gb428)); clear HB; have HB := n0_; have BK428 := n1_; have GW428 := n2_; have GE428 := n3_; clear n0_ n1_ n2_ n3_; clear hb hbox hg))
 (try simp only [Act.put, List.setIfInBounds_toArray, List.set_cons_zero, List.set_cons_succ])
 go_cut [15] (fun v15 wc => ∃ (kq : Nat) (x15_2 : Bool), v15 = .bool x15_2 ∧ Aside0 (impl_WorstLeave.j0 kq l1 x15_2 a0_0 a0_1 = some (r1, r2)) ∧ Aside0 (kq ≤ k) ∧ Aside0 (wc.heap[gb428]? = some (.cells #[.int .i64 a0_0, .bool a0_1] 25 (0, 0))) ∧ Aside0 (Below w.heap.size w wc))
 case first =>
  have H := HC3.out
  clear HC3
  replace H := Option.bind_eq_some_iff.mp H
  obtain ⟨t429, A50, H⟩ := H
  replace H : (if t429 = true then ((impl_Road_leaveTimes.f k a0_0 a0_1 l1).bind fun t430 => ((slices_Contains_int_int.f k t430 (-1)).bind fun t433 => (impl_WorstLeave.j0 k l1 t433 a0_0 a0_1))) else (impl_WorstLeave.j0 k l1 true a0_0 a0_1)) = some (r1, r2) := H
  have A5 := A_ A50
  clear A50
  by_cases c6 : t429 = true
  ·
   subst c6
   have H1 : ((impl_Road_leaveTimes.f k a0_0 a0_1 l1).bind fun t430 => ((slices_Contains_int_int.f k t430 (-1)).bind fun t433 => (impl_WorstLeave.j0 k l1 t433 a0_0 a0_1))) = some (r1, r2) := by rw [if_pos rfl] at H; exact H
   clear H
   have H := H1
   clear H1
   replace H := Option.bind_eq_some_iff.mp H
   obtain ⟨t430, A70, H⟩ := H
   replace H : ((slices_Contains_int_int.f k t430 (-1)).bind fun t433 => (impl_WorstLeave.j0 k l1 t433 a0_0 a0_1)) = some (r1, r2) := H
   have A7 := A_ A70
   clear A70
   replace H := Option.bind_eq_some_iff.mp H
   obtain ⟨t433, A80, H⟩ := H
   replace H : (impl_WorstLeave.j0 k l1 t433 a0_0 a0_1) = some (r1, r2) := H
   have A8 := A_ A80
   clear A80
   have H' := A_ H
   clear H
   have hcz9_0 : w4.cell? ⟨gb428, 0, none⟩ = some (.int .i64 a0_0) := bc BK428 0
   have hcz9_1 : w4.cell? ⟨gb428, 1, none⟩ = some (.bool a0_1) := bc BK428 1
   have hfz9_0 := blk_frozen BK428.out 0
   have hfz9_1 := blk_frozen BK428.out 1
   go_wp2_with (first | ((with_reducible refine gate_callee (f := 81) rfl ?_); refine goesL_ (some 8) rfl rfl Try.func81 (by kernel_rfl) rfl #[.agg #[.int .i64 a0_0, .bool a0_1], .slice A1 l1.length c1] rfl gq ?_; (with_reducible refine (impl_areLeavers.calls k a0_0 a0_1 _ _ l1 true _ ?side1 ?side2 A5.out).mono ?_); (case side1 => exact cq (Kd.C_below HR1.out HB.out)); (case side2 => exact HC1.out); rintro e w10 ⟨rfl, hb⟩; refine ⟨_, rfl, ?_⟩; have n0_ := A_ (blk_below (bq BK428) hb); have n1_ := A_ (below_step (hq HB) hb); clear BK428; clear HB; have BK428 := n0_; have HB := n1_; clear n0_ n1_; (try clear hb); (try clear hb2); (try clear hk); (try clear hi); have hcz11_0 : w10.cell? ⟨gb428, 0, none⟩ = some (.int .i64 a0_0) := bc BK428 0; have hcz11_1 : w10.cell? ⟨gb428, 1, none⟩ = some (.bool a0_1) := bc BK428 1; have hfz11_0 := blk_frozen BK428.out 0; have hfz11_1 := blk_frozen BK428.out 1) | (go_at_call 82; (with_reducible refine (impl_Road_leaveTimes.calls k a0_0 a0_1 _ _ l1 t430 _ ?side1 ?side2 A7.out).mono ?_); (case side1 => exact cq (Kd.C_below HR1.out HB.out)); (case side2 => exact HC1.out); rintro e w12 ⟨v431, rfl, ho0, hb⟩; have n0_ := A_ (Kd.R_lower ho0 (below_size (hq HB))); have n1_ := A_ (blk_below (bq BK428) hb); have n2_ := A_ (below_step (hq HB) hb); clear BK428; clear HB; have HO432 := n0_; have BK428 := n1_; have HB := n2_; clear n0_ n1_ n2_; (try clear hb); (try clear hb2); (try clear hk); (try clear hi); (try clear ho0); obtain ⟨Ao13, co13, eo13⟩ := Kd.R_slice HO432.out; subst eo13) | (go_at_call 68; (with_reducible refine (slices_Contains_int_int.calls k _ _ t430 (-1) t433 _ ?side1 ?side2 A8.out).mono ?_); (case side1 => exact cq (Kd.R_reads' HO432.out).2.2); (case side2 => exact (Kd.R_reads' HO432.out).2.1); rintro e w' ⟨rfl, ⟨nd, rfl⟩⟩))
   go_meet
   case rel => exact ⟨_, (t433), (by first | rfl | (simp; done) | (simp [*]; done)), H', ⟨by first | omega | exact Nat.le_refl _⟩, ⟨bq BK428⟩, ⟨hq HB⟩⟩
  ·
   replace c6 := Bool.eq_false_iff.mpr c6
   subst c6
   have H1 : (impl_WorstLeave.j0 k l1 true a0_0 a0_1) = some (r1, r2) := by rw [if_neg (show ¬ (false = true) by decide)] at H; exact H
   clear H
   have H := H1
   clear H1
   have H' := A_ H
   clear H
   have hcz14_0 : w4.cell? ⟨gb428, 0, none⟩ = some (.int .i64 a0_0) := bc BK428 0
   have hcz14_1 : w4.cell? ⟨gb428, 1, none⟩ = some (.bool a0_1) := bc BK428 1
   have hfz14_0 := blk_frozen BK428.out 0
   have hfz14_1 := blk_frozen BK428.out 1
   go_wp2_with (first | ((with_reducible refine gate_callee (f := 81) rfl ?_); refine goesL_ (some 8) rfl rfl Try.func81 (by kernel_rfl) rfl #[.agg #[.int .i64 a0_0, .bool a0_1], .slice A1 l1.length c1] rfl gq ?_; (with_reducible refine (impl_areLeavers.calls k a0_0 a0_1 _ _ l1 false _ ?side1 ?side2 A5.out).mono ?_); (case side1 => exact cq (Kd.C_below HR1.out HB.out)); (case side2 => exact HC1.out); rintro e w15 ⟨rfl, hb⟩; refine ⟨_, rfl, ?_⟩; have n0_ := A_ (blk_below (bq BK428) hb); have n1_ := A_ (below_step (hq HB) hb); clear BK428; clear HB; have BK428 := n0_; have HB := n1_; clear n0_ n1_; (try clear hb); (try clear hb2); (try clear hk); (try clear hi)))
   go_meet
   case rel => exact ⟨_, (true), (by first | rfl | (simp; done) | (simp [*]; done)), H', ⟨by first | omega | exact Nat.le_refl _⟩, ⟨bq BK428⟩, ⟨hq HB⟩⟩
 case rest =>
  clear HC3
  try clear c1
  try clear p2
  try clear c3
  try clear c6
  try clear c8
  try clear hcz11_0
  try clear hcz11_1
  try clear hcz14_0
  try clear hcz14_1
  try clear hcz9_0
  try clear hcz9_1
  try clear hfz11_0
  try clear hfz11_1
  try clear hfz14_0
  try clear hfz14_1
  try clear hfz9_0
  try clear hfz9_1
  obtain ⟨kq, x15_2, rfl, HA, HJ2, BK428, HB⟩ := hcut
  cases kq with
  | zero => exact absurd HA.out (by simp [impl_WorstLeave.j0])
  | succ kj2 =>
   have H := HA.out
   clear HA
   simp only [impl_WorstLeave.j0] at H
   by_cases c16 : x15_2 = true
   ·
    subst c16
    have H1 : (some (0, false)) = some (r1, r2) := by rw [if_pos rfl] at H; exact H
    clear H
    have H := H1
    clear H1
    simp only [Option.some.injEq, Prod.mk.injEq] at H
    obtain ⟨rfl, rfl⟩ := H
    go_wp2
    go_ret2
    exact ⟨rt, hq HB⟩
   ·
    replace c16 := Bool.eq_false_iff.mpr c16
    subst c16
    have H1 : ((impl_Road_leaveTimes.f kj2 a0_0 a0_1 l1).bind fun t434 => ((slices_Max_int_int.f kj2 t434).bind fun t437 => (some (t437, true)))) = some (r1, r2) := by rw [if_neg (show ¬ (false = true) by decide)] at H; exact H
    clear H
    have H := H1
    clear H1
    replace H := Option.bind_eq_some_iff.mp H
    obtain ⟨t434, A170, H⟩ := H
    replace H : ((slices_Max_int_int.f kj2 t434).bind fun t437 => (some (t437, true))) = some (r1, r2) := H
    have A17 := A_ A170
    clear A170
    replace H := Option.bind_eq_some_iff.mp H
    obtain ⟨t437, A180, H⟩ := H
    replace H : (some (t437, true)) = some (r1, r2) := H
    have A18 := A_ A180
    clear A180
    simp only [Option.some.injEq, Prod.mk.injEq] at H
    obtain ⟨rfl, rfl⟩ := H
    have hcz19_0 : wc.cell? ⟨gb428, 0, none⟩ = some (.int .i64 a0_0) := bc BK428 0
    have hcz19_1 : wc.cell? ⟨gb428, 1, none⟩ = some (.bool a0_1) := bc BK428 1
    have hfz19_0 := blk_frozen BK428.out 0
    have hfz19_1 := blk_frozen BK428.out 1
    go_wp2_with (first | ((with_reducible refine gate_callee (f := 82) rfl ?_); refine goesL_ (some 18) rfl rfl Try.func82 (by kernel_rfl) rfl #[.agg #[.int .i64 a0_0, .bool a0_1], .slice A1 l1.length c1] rfl gq ?_; (with_reducible refine (impl_Road_leaveTimes.calls kj2 a0_0 a0_1 _ _ l1 t434 _ ?side1 ?side2 A17.out).mono ?_); (case side1 => exact cq (Kd.C_below HR1.out HB.out)); (case side2 => exact HC1.out); rintro e w20 ⟨v435, rfl, ho0, hb⟩; refine ⟨_, rfl, ?_⟩; have n0_ := A_ (Kd.R_lower ho0 (below_size (hq HB))); have n1_ := A_ (blk_below (bq BK428) hb); have n2_ := A_ (below_step (hq HB) hb); clear BK428; clear HB; have HO436 := n0_; have BK428 := n1_; have HB := n2_; clear n0_ n1_ n2_; (try clear hb); (try clear hb2); (try clear hk); (try clear hi); (try clear ho0); obtain ⟨Ao21, co21, eo21⟩ := Kd.R_slice HO436.out; subst eo21) | ((with_reducible refine gate_callee (f := 69) rfl ?_); refine goesL_ (some 19) rfl rfl Try.func69 (by kernel_rfl) rfl #[.slice Ao21 t434.length co21] rfl gq ?_; (with_reducible refine (slices_Max_int_int.calls kj2 _ _ t434 t437 _ ?side1 ?side2 A18.out).mono ?_); (case side1 => exact cq (Kd.R_reads' HO436.out).2.2); (case side2 => exact (Kd.R_reads' HO436.out).2.1); rintro e w22 ⟨rfl, hb⟩; refine ⟨_, rfl, ?_⟩; have n0_ := A_ (Kd.R_below (rq HO436) hb); have n1_ := A_ (blk_below (bq BK428) hb); have n2_ := A_ (below_step (hq HB) hb); clear HO436; clear BK428; clear HB; have HO436 := n0_; have BK428 := n1_; have HB := n2_; clear n0_ n1_ n2_; (try clear hb); (try clear hb2); (try clear hk); (try clear hi)))
    go_ret2
    exact ⟨rt, hq HB⟩

end Go.Proofs.Ytmamhnbhahafgaa.PFnLeaving
