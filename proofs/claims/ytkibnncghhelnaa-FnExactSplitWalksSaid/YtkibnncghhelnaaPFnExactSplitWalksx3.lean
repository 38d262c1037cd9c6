-- Printed by this session's program myprint.py.
import Derived.Test.YtkibnncghhelnaaPFnExactSplitWalksx0
namespace Go.Proofs.Ytkibnncghhelnaa.PFnExactSplitWalks
open Go.RowKit Go.Proofs.Ytkibnncghhelnaa.Own Go.Proofs.YtkibnncghhelnaaW.PrintWords Go.Proofs.YtkibnncghhelnaaW.PrintLast Go.Proofs.YtkibnncghhelnaaW.PrintMore
attribute [local go_sem] max2_int min2_int max_two min_two max_three min_three max_four min_four   -- for this text's walks alone
set_option linter.unusedVariables false
set_option linter.unusedSimpArgs false

/-! ### impl_Road_straight: function 61 -/
mutual
def impl_Road_straight.j0 : Nat → List Int → Int → Int → Int → Int → Bool → Option (List Int)
  | 0, _, _, _, _, _, _ => none
  | k + 1, x1, x2, x7, x8, x157000, x157001 => impl_Road_straight.l0 k x1 x2 x7 x8 x157000 x157001
def impl_Road_straight.l0 : Nat → List Int → Int → Int → Int → Int → Bool → Option (List Int)
  | 0, _, _, _, _, _, _ => none
  | k + 1, x1, x2, x7, x8, x157000, x157001 => if x7 = x2 then (some x1) else (if x157000 = 0 then (none) else (if x1.length < 17592186044416 then (impl_Road_straight.l0 k (x1 ++ [Int.tmod (wrap64 ((wrap64 (x7 + x8)) + x157000)) x157000]) x2 (Int.tmod (wrap64 ((wrap64 (x7 + x8)) + x157000)) x157000) x8 x157000 x157001) else (none)))
end
def impl_Road_straight.f (k : Nat) (a0_0 : Int) (a0_1 : Bool) (l1 : List Int) (a2 : Int) : Option (List Int) := if 0 ≤ (wrap64 ((l1.length : Int) - 1)) then (if (wrap64 ((l1.length : Int) - 1)) < (l1.length : Int) then (if a0_1 = true then (if a0_0 = 0 then (none) else (if (Int.tmod (wrap64 ((wrap64 (a2 - (rd l1 (wrap64 ((l1.length : Int) - 1))))) + a0_0)) a0_0) > (wrap64 (a0_0 - (Int.tmod (wrap64 ((wrap64 (a2 - (rd l1 (wrap64 ((l1.length : Int) - 1))))) + a0_0)) a0_0))) then (impl_Road_straight.j0 k l1 a2 (rd l1 (wrap64 ((l1.length : Int) - 1))) (-1) a0_0 a0_1) else (impl_Road_straight.j0 k l1 a2 (rd l1 (wrap64 ((l1.length : Int) - 1))) 1 a0_0 a0_1))) else (if (wrap64 (a2 - (rd l1 (wrap64 ((l1.length : Int) - 1))))) < 0 then (impl_Road_straight.j0 k l1 a2 (rd l1 (wrap64 ((l1.length : Int) - 1))) (-1) a0_0 a0_1) else (impl_Road_straight.j0 k l1 a2 (rd l1 (wrap64 ((l1.length : Int) - 1))) 1 a0_0 a0_1))) else (none)) else (none)
theorem impl_Road_straight.mono_l : ∀ k, (∀ y0 y1 y2 y3 y4 y5, LeO (impl_Road_straight.j0 k y0 y1 y2 y3 y4 y5) (impl_Road_straight.j0 (k + 1) y0 y1 y2 y3 y4 y5)) ∧ (∀ y0 y1 y2 y3 y4 y5, LeO (impl_Road_straight.l0 k y0 y1 y2 y3 y4 y5) (impl_Road_straight.l0 (k + 1) y0 y1 y2 y3 y4 y5))
  | 0 => ⟨fun _ _ _ _ _ _ r h => by simp [impl_Road_straight.j0] at h, fun _ _ _ _ _ _ r h => by simp [impl_Road_straight.l0] at h⟩
  | k + 1 => by
    obtain ⟨ih0, ih1⟩ := impl_Road_straight.mono_l k
    refine ⟨?_, ?_⟩
    · intro y0 y1 y2 y3 y4 y5
      unfold impl_Road_straight.j0
      repeat' first
      | (with_reducible exact ih0 _ _ _ _ _ _)
      | (with_reducible exact ih1 _ _ _ _ _ _)
      | (with_reducible exact LeO.refl _)
      | (with_reducible exact LeO.none _)
      | (with_reducible refine LeO.ite ?_ ?_)
      | (with_reducible refine LeO.bind ?_ (fun _ => ?_))
      | exact ih0 _ _ _ _ _ _
      | exact ih1 _ _ _ _ _ _
      | exact LeO.none _
      | refine LeO.ite ?_ ?_
      | refine LeO.bind ?_ (fun _ => ?_)
    · intro y0 y1 y2 y3 y4 y5
      unfold impl_Road_straight.l0
      repeat' first
      | (with_reducible exact ih0 _ _ _ _ _ _)
      | (with_reducible exact ih1 _ _ _ _ _ _)
      | (with_reducible exact LeO.refl _)
      | (with_reducible exact LeO.none _)
      | (with_reducible refine LeO.ite ?_ ?_)
      | (with_reducible refine LeO.bind ?_ (fun _ => ?_))
      | exact ih0 _ _ _ _ _ _
      | exact ih1 _ _ _ _ _ _
      | exact LeO.none _
      | refine LeO.ite ?_ ?_
      | refine LeO.bind ?_ (fun _ => ?_)
theorem impl_Road_straight.mono : ∀ a0 a1 a2 a3 k, LeO (impl_Road_straight.f k a0 a1 a2 a3) (impl_Road_straight.f (k + 1) a0 a1 a2 a3) := by
  intro a0 a1 a2 a3 k
  obtain ⟨ih0, ih1⟩ := impl_Road_straight.mono_l k
  unfold impl_Road_straight.f
  repeat' first
      | (with_reducible exact ih0 _ _ _ _ _ _)
      | (with_reducible exact ih1 _ _ _ _ _ _)
      | (with_reducible exact LeO.refl _)
      | (with_reducible exact LeO.none _)
      | (with_reducible refine LeO.ite ?_ ?_)
      | (with_reducible refine LeO.bind ?_ (fun _ => ?_))
      | exact ih0 _ _ _ _ _ _
      | exact ih1 _ _ _ _ _ _
      | exact LeO.none _
      | refine LeO.ite ?_ ?_
      | refine LeO.bind ?_ (fun _ => ?_)
set_option maxHeartbeats 8000000 in
set_option maxRecDepth 100000 in
theorem impl_Road_straight.calls (k : Nat) (a0_0 : Int) (a0_1 : Bool) (P1_ : Nat → Prop) (u9000_ : Value) (l1 : List Int) (a2 : Int) (r : List Int) (w0 w : World) (hB : Below w0.heap.size w0 w) (ho1 : Kd.R (Kd.int .i64) 3 w w0.heap.size P1_ u9000_ l1) (h : impl_Road_straight.f k a0_0 a0_1 l1 a2 = some r) :
    Calls Try.prog 61 #[.agg #[.int .i64 a0_0, .bool a0_1], u9000_, .int .i64 a2] w fun e w' => ∃ v0_ : Value, e = .returned (v0_) ∧ Kd.R (Kd.int .i64) 3 w' w0.heap.size (fun k_ => (P1_ k_ ∨ w.heap.size ≤ k_)) v0_ r ∧ Below w0.heap.size w0 w' ∧ Kept w w' (fun k_ => P1_ k_) := by
  have hu29 := Try.underlying29
  have HO1 := Aside0.mk (show Kd.R (Kd.int .i64) 3 w w0.heap.size (fun k_ => (P1_ k_ ∨ w.heap.size ≤ k_)) u9000_ l1 from Kd.R_mono ho1 (fun k_ hk => (.inl hk)))
  have HK := Aside0.mk (Kept.refl w (fun k_ => P1_ k_))
  have HW0 := Aside0.mk hB.size
  have HB := Aside0.mk hB
  clear hB
  have H : (if 0 ≤ (wrap64 ((l1.length : Int) - 1)) then (if (wrap64 ((l1.length : Int) - 1)) < (l1.length : Int) then (if a0_1 = true then (if a0_0 = 0 then (none) else (if (Int.tmod (wrap64 ((wrap64 (a2 - (rd l1 (wrap64 ((l1.length : Int) - 1))))) + a0_0)) a0_0) > (wrap64 (a0_0 - (Int.tmod (wrap64 ((wrap64 (a2 - (rd l1 (wrap64 ((l1.length : Int) - 1))))) + a0_0)) a0_0))) then (impl_Road_straight.j0 k l1 a2 (rd l1 (wrap64 ((l1.length : Int) - 1))) (-1) a0_0 a0_1) else (impl_Road_straight.j0 k l1 a2 (rd l1 (wrap64 ((l1.length : Int) - 1))) 1 a0_0 a0_1))) else (if (wrap64 (a2 - (rd l1 (wrap64 ((l1.length : Int) - 1))))) < 0 then (impl_Road_straight.j0 k l1 a2 (rd l1 (wrap64 ((l1.length : Int) - 1))) (-1) a0_0 a0_1) else (impl_Road_straight.j0 k l1 a2 (rd l1 (wrap64 ((l1.length : Int) - 1))) 1 a0_0 a0_1))) else (none)) else (none)) = some r := h
  clear h
  obtain ⟨ji4, hji4⟩ : ∃ j_ : Int, (wrap64 ((l1.length : Int) - 1)) = j_ := ⟨_, rfl⟩
  replace H : (if 0 ≤ (ji4) then (if (ji4) < (l1.length : Int) then (if a0_1 = true then (if a0_0 = 0 then (none) else (if (Int.tmod (wrap64 ((wrap64 (a2 - (rd l1 (ji4)))) + a0_0)) a0_0) > (wrap64 (a0_0 - (Int.tmod (wrap64 ((wrap64 (a2 - (rd l1 (ji4)))) + a0_0)) a0_0))) then (impl_Road_straight.j0 k l1 a2 (rd l1 (ji4)) (-1) a0_0 a0_1) else (impl_Road_straight.j0 k l1 a2 (rd l1 (ji4)) 1 a0_0 a0_1))) else (if (wrap64 (a2 - (rd l1 (ji4)))) < 0 then (impl_Road_straight.j0 k l1 a2 (rd l1 (ji4)) (-1) a0_0 a0_1) else (impl_Road_straight.j0 k l1 a2 (rd l1 (ji4)) 1 a0_0 a0_1))) else (none)) else (none)) = some r := by first | (rw [hji4] at H; exact H) | (simp only [hji4] at H ⊢; exact H)
  have hji4w : (IntKind.i64.wrap ((l1.length : Int) - 1)) = ji4 := (i64_w _).trans hji4
  by_cases c5 : 0 ≤ (ji4)
  · rw [if_pos c5] at H
    have c5b0 : decide (0 ≤ (ji4)) = true := decide_eq_true c5
    clear c5
    by_cases c6 : (ji4) < (l1.length : Int)
    · rw [if_pos c6] at H
      have c6b0 : decide ((ji4) < (l1.length : Int)) = true := decide_eq_true c6
      clear c6
      have HC7 := Aside0.mk H
      clear H
      go_enter Try.func61, Try.ntmps61
      go_upto_if 20 with (first | ((with_reducible refine gate_dst (N := 3) rfl ?_); refine box_event ?hg (N := 3) ?hd (cs := #[.int .i64 a0_0, .bool a0_1]) (t := 29) ?hr ?_; (case hd => rfl); (case hg => rfl); (case hr => first | (go_simp; done) | (go_simp; rfl)); intro gb156 hg w8 hbox hb; have n0_ := Aside0.mk (Kd.R_below (by (with_reducible repeat (first | apply Kd.R_alloc | apply Kd.R_drewN | apply Kd.R_drew)); exact HO1.out) hb); have n1_ := Aside0.mk (Kept.below (S := (fun k_ => P1_ k_)) (by repeat (first | (with_reducible first | exact HK.out | apply Kept.alloc | apply Kept.drewN | apply Kept.drew) | exact HK.out)) hb); have n2_ := Aside0.mk (below_step (by repeat (first | (with_reducible first | exact HB.out | apply below_alloc | apply pw_below_drewN | apply below_drew1) | exact HB.out)) hb); have n3_ := Aside0.mk (hbox); have n4_ := Aside0.mk ((by rw [hg]; exact (by first | exact HK.out.1 | exact (show Kept w _ (fun k_ => P1_ k_) from by repeat (first | (with_reducible first | exact HK.out | apply Kept.alloc | apply Kept.drewN | apply Kept.drew) | exact HK.out)).1) : w.heap.size ≤ gb156)); have n5_ := Aside0.mk ((by rw [hg]; exact (below_size (by repeat (first | (with_reducible first | exact HB.out | apply below_alloc | apply pw_below_drewN | apply below_drew1) | exact HB.out))) : w0.heap.size ≤ gb156)); clear HO1; clear HK; clear HB; have HO1 := n0_; have HK := n1_; have HB := n2_; have BK156 := n3_; have GW156 := n4_; have GE156 := n5_; clear n0_ n1_ n2_ n3_ n4_ n5_; clear hb hbox hg; obtain ⟨Ao9, co9, eo9⟩ := Kd.R_slice HO1.out; subst eo9; have p157 : 0 ≤ ((ji4) : Int) := of_decide_eq_true (by first | (with_reducible assumption) | assumption); have q157 : (ji4) < (l1.length : Int) := of_decide_eq_true (by first | (with_reducible assumption) | assumption); obtain ⟨ad157, e157, hx157_0⟩ := Kd.at_int (Kd.R_reads' HO1.out).2.2 (ji4) p157 q157; cases e157; replace p157 := eq_true p157; replace q157 := eq_true q157; have hcz10_0 : w8.cell? ⟨gb156, 0, none⟩ = some (.int .i64 a0_0) := (blk_cell BK156.out 0).trans rfl; have hcz10_1 : w8.cell? ⟨gb156, 1, none⟩ = some (.bool a0_1) := (blk_cell BK156.out 1).trans rfl; have hfz10_0 := blk_frozen BK156.out 0; have hfz10_1 := blk_frozen BK156.out 1))
      (try simp only [Act.put, List.setIfInBounds_toArray, List.set_cons_zero, List.set_cons_succ])
      go_cut [8] (fun v8 wc => ∃ (kq : Nat) (x8_6 : Int), v8 = .int .i64 x8_6 ∧ Aside0 (impl_Road_straight.j0 kq l1 a2 (rd l1 (ji4)) x8_6 a0_0 a0_1 = some r) ∧ Aside0 (kq ≤ k) ∧ Aside0 (Kd.R (Kd.int .i64) 3 wc w0.heap.size (fun k_ => (P1_ k_ ∨ w.heap.size ≤ k_)) (.slice (some ad157) l1.length co9) l1) ∧ Aside0 (wc.heap[gb156]? = some (.cells #[.int .i64 a0_0, .bool a0_1] 29 (0, 0))) ∧ Aside0 (Kept w wc (fun k_ => P1_ k_)) ∧ Aside0 (Below w0.heap.size w0 wc))
      case first =>
        have H := HC7.out
        clear HC7
        by_cases c11 : a0_1 = true
        · subst c11
          have H1 : (if a0_0 = 0 then (none) else (if (Int.tmod (wrap64 ((wrap64 (a2 - (rd l1 (ji4)))) + a0_0)) a0_0) > (wrap64 (a0_0 - (Int.tmod (wrap64 ((wrap64 (a2 - (rd l1 (ji4)))) + a0_0)) a0_0))) then (impl_Road_straight.j0 k l1 a2 (rd l1 (ji4)) (-1) a0_0 true) else (impl_Road_straight.j0 k l1 a2 (rd l1 (ji4)) 1 a0_0 true))) = some r := by rw [if_pos rfl] at H; exact H
          clear H
          have H := H1
          clear H1
          by_cases c12 : a0_0 = 0
          · rw [if_pos c12] at H
            exact absurd H (by simp)
          · rw [if_neg c12] at H
            have c12b0 : (a0_0 == 0) = false := beq_eq_false_iff_ne.mpr c12
            have c12b1 : (a0_0 != 0) = true := bne_iff_ne.mpr c12
            (first | rw [c12b0] | (simp only [i64_w, i32_w]; rw [c12b0]) | skip)
            by_cases c13 : (Int.tmod (wrap64 ((wrap64 (a2 - (rd l1 (ji4)))) + a0_0)) a0_0) > (wrap64 (a0_0 - (Int.tmod (wrap64 ((wrap64 (a2 - (rd l1 (ji4)))) + a0_0)) a0_0)))
            · rw [if_pos c13] at H
              have c13b0 : decide ((wrap64 (a0_0 - (Int.tmod (wrap64 ((wrap64 (a2 - (rd l1 (ji4)))) + a0_0)) a0_0))) < (Int.tmod (wrap64 ((wrap64 (a2 - (rd l1 (ji4)))) + a0_0)) a0_0)) = true := decide_eq_true c13
              clear c13
              have H' := Aside0.mk H
              clear H
              have hcz14_0 : w8.cell? ⟨gb156, 0, none⟩ = some (.int .i64 a0_0) := (blk_cell BK156.out 0).trans rfl
              have hcz14_1 : w8.cell? ⟨gb156, 1, none⟩ = some (.bool true) := (blk_cell BK156.out 1).trans rfl
              have hfz14_0 := blk_frozen BK156.out 0
              have hfz14_1 := blk_frozen BK156.out 1
              go_wp2
              go_meet
              case rel => exact ⟨_, ((-1)), (by first | rfl | (simp; done) | (simp [*]; done)), H', ⟨by first | omega | exact Nat.le_refl _⟩, ⟨by (with_reducible repeat (first | apply Kd.R_alloc | apply Kd.R_drewN | apply Kd.R_drew)); exact HO1.out⟩, ⟨by (with_reducible repeat (first | refine blk_drewN ?_ _ | refine blk_drew ?_ | refine blk_alloc ?_ _)); exact BK156.out⟩, ⟨by repeat (first | (with_reducible first | exact HK.out | apply Kept.alloc | apply Kept.drewN | apply Kept.drew | refine Kept.setCell ?_ (.inr GW156.out) _) | exact HK.out)⟩, ⟨by repeat (first | (with_reducible first | exact HB.out | apply below_alloc | apply pw_below_drewN | apply below_drew1 | refine below_set ?_ GE156.out) | exact HB.out)⟩⟩
            · rw [if_neg c13] at H
              have c13b0 : decide ((wrap64 (a0_0 - (Int.tmod (wrap64 ((wrap64 (a2 - (rd l1 (ji4)))) + a0_0)) a0_0))) < (Int.tmod (wrap64 ((wrap64 (a2 - (rd l1 (ji4)))) + a0_0)) a0_0)) = false := decide_eq_false c13
              clear c13
              have H' := Aside0.mk H
              clear H
              have hcz15_0 : w8.cell? ⟨gb156, 0, none⟩ = some (.int .i64 a0_0) := (blk_cell BK156.out 0).trans rfl
              have hcz15_1 : w8.cell? ⟨gb156, 1, none⟩ = some (.bool true) := (blk_cell BK156.out 1).trans rfl
              have hfz15_0 := blk_frozen BK156.out 0
              have hfz15_1 := blk_frozen BK156.out 1
              go_wp2
              go_meet
              case rel => exact ⟨_, (1), (by first | rfl | (simp; done) | (simp [*]; done)), H', ⟨by first | omega | exact Nat.le_refl _⟩, ⟨by (with_reducible repeat (first | apply Kd.R_alloc | apply Kd.R_drewN | apply Kd.R_drew)); exact HO1.out⟩, ⟨by (with_reducible repeat (first | refine blk_drewN ?_ _ | refine blk_drew ?_ | refine blk_alloc ?_ _)); exact BK156.out⟩, ⟨by repeat (first | (with_reducible first | exact HK.out | apply Kept.alloc | apply Kept.drewN | apply Kept.drew | refine Kept.setCell ?_ (.inr GW156.out) _) | exact HK.out)⟩, ⟨by repeat (first | (with_reducible first | exact HB.out | apply below_alloc | apply pw_below_drewN | apply below_drew1 | refine below_set ?_ GE156.out) | exact HB.out)⟩⟩
        · replace c11 := Bool.eq_false_iff.mpr c11
          subst c11
          have H1 : (if (wrap64 (a2 - (rd l1 (ji4)))) < 0 then (impl_Road_straight.j0 k l1 a2 (rd l1 (ji4)) (-1) a0_0 false) else (impl_Road_straight.j0 k l1 a2 (rd l1 (ji4)) 1 a0_0 false)) = some r := by rw [if_neg (show ¬ (false = true) by decide)] at H; exact H
          clear H
          have H := H1
          clear H1
          by_cases c16 : (wrap64 (a2 - (rd l1 (ji4)))) < 0
          · rw [if_pos c16] at H
            have c16b0 : decide ((wrap64 (a2 - (rd l1 (ji4)))) < 0) = true := decide_eq_true c16
            clear c16
            have H' := Aside0.mk H
            clear H
            go_wp2
            go_meet
            case rel => exact ⟨_, ((-1)), (by first | rfl | (simp; done) | (simp [*]; done)), H', ⟨by first | omega | exact Nat.le_refl _⟩, ⟨by (with_reducible repeat (first | apply Kd.R_alloc | apply Kd.R_drewN | apply Kd.R_drew)); exact HO1.out⟩, ⟨by (with_reducible repeat (first | refine blk_drewN ?_ _ | refine blk_drew ?_ | refine blk_alloc ?_ _)); exact BK156.out⟩, ⟨by repeat (first | (with_reducible first | exact HK.out | apply Kept.alloc | apply Kept.drewN | apply Kept.drew | refine Kept.setCell ?_ (.inr GW156.out) _) | exact HK.out)⟩, ⟨by repeat (first | (with_reducible first | exact HB.out | apply below_alloc | apply pw_below_drewN | apply below_drew1 | refine below_set ?_ GE156.out) | exact HB.out)⟩⟩
          · rw [if_neg c16] at H
            have c16b0 : decide ((wrap64 (a2 - (rd l1 (ji4)))) < 0) = false := decide_eq_false c16
            clear c16
            have H' := Aside0.mk H
            clear H
            go_wp2
            go_meet
            case rel => exact ⟨_, (1), (by first | rfl | (simp; done) | (simp [*]; done)), H', ⟨by first | omega | exact Nat.le_refl _⟩, ⟨by (with_reducible repeat (first | apply Kd.R_alloc | apply Kd.R_drewN | apply Kd.R_drew)); exact HO1.out⟩, ⟨by (with_reducible repeat (first | refine blk_drewN ?_ _ | refine blk_drew ?_ | refine blk_alloc ?_ _)); exact BK156.out⟩, ⟨by repeat (first | (with_reducible first | exact HK.out | apply Kept.alloc | apply Kept.drewN | apply Kept.drew | refine Kept.setCell ?_ (.inr GW156.out) _) | exact HK.out)⟩, ⟨by repeat (first | (with_reducible first | exact HB.out | apply below_alloc | apply pw_below_drewN | apply below_drew1 | refine below_set ?_ GE156.out) | exact HB.out)⟩⟩
      case rest =>
        clear HC7
        try clear c1
        try clear p1
        try clear q1
        try clear hx1
        try clear p2
        try clear c5
        try clear c5b0
        try clear c6
        try clear c6b0
        try clear p6
        try clear c11
        try clear c12
        try clear c12b0
        try clear c12b1
        try clear c13
        try clear c13b0
        try clear p15
        try clear q15
        try clear hx15
        try clear c16
        try clear c16b0
        try clear hcz10_0
        try clear hcz10_1
        try clear hcz14_0
        try clear hcz14_1
        try clear hcz15_0
        try clear hcz15_1
        try clear hfz10_0
        try clear hfz10_1
        try clear hfz14_0
        try clear hfz14_1
        try clear hfz15_0
        try clear hfz15_1
        try clear hx157_0
        try clear p157
        try clear q157
        obtain ⟨kq, x8_6, rfl, HA, HJ6, HO_1, BK156, HK, HB⟩ := hcut
        cases kq with
        | zero => exact absurd HA.out (by simp [impl_Road_straight.j0])
        | succ kj6 =>
          have H := HA.out
          clear HA
          simp only [impl_Road_straight.j0] at H
          have H' := Aside0.mk H
          clear H
          go_wp2
          go_loopg [1, 7] kj6 (fun kq v1 v7 w' => ∃ (x1_2 : List Int) (x7_2 : Int), v7 = .int .i64 x7_2 ∧ Aside0 (impl_Road_straight.l0 kq x1_2 a2 x7_2 x8_6 a0_0 a0_1 = some r) ∧ Aside0 (kq ≤ kj6) ∧ Aside0 (Kd.R (Kd.int .i64) 3 w' w0.heap.size (fun k_ => (P1_ k_ ∨ w.heap.size ≤ k_)) v1 x1_2) ∧ Aside0 (w'.heap[gb156]? = some (.cells #[.int .i64 a0_0, .bool a0_1] 29 (0, 0))) ∧ Aside0 (Kept w w' (fun k_ => P1_ k_)) ∧ Aside0 (Below w0.heap.size w0 w'))
          case atStart => exact ⟨(l1), ((rd l1 (ji4))), (by first | rfl | (simp; done) | (simp only [← hji4] <;> (first | rfl | simp)) | (simp [*]; done)), H', ⟨Nat.le_refl _⟩, ⟨by (with_reducible repeat (first | apply Kd.R_alloc | apply Kd.R_drewN | apply Kd.R_drew)); exact HO_1.out⟩, ⟨by (with_reducible repeat (first | refine blk_drewN ?_ _ | refine blk_drew ?_ | refine blk_alloc ?_ _)); exact BK156.out⟩, ⟨by repeat (first | (with_reducible first | exact HK.out | apply Kept.alloc | apply Kept.drewN | apply Kept.drew | refine Kept.setCell ?_ (.inr GW156.out) _) | exact HK.out)⟩, ⟨by repeat (first | (with_reducible first | exact HB.out | apply below_alloc | apply pw_below_drewN | apply below_drew1 | refine below_set ?_ GE156.out) | exact HB.out)⟩⟩
          case round =>
            clear H'
            try clear c1
            try clear p1
            try clear q1
            try clear hx1
            try clear p2
            try clear c5
            try clear c5b0
            try clear c6
            try clear c6b0
            try clear p6
            try clear c11
            try clear c12
            try clear c12b0
            try clear c12b1
            try clear c13
            try clear c13b0
            try clear p15
            try clear q15
            try clear hx15
            try clear c16
            try clear c16b0
            try clear hcz10_0
            try clear hcz10_1
            try clear hcz14_0
            try clear hcz14_1
            try clear hcz15_0
            try clear hcz15_1
            try clear hfz10_0
            try clear hfz10_1
            try clear hfz14_0
            try clear hfz14_1
            try clear hfz15_0
            try clear hfz15_1
            try clear hx157_0
            try clear p1
            try clear p15
            try clear p157
            try clear p2
            try clear p6
            try clear q1
            try clear q15
            try clear q157
            obtain ⟨x1_2, x7_2, rfl, HA, HK2, HO_1, BK156, HK, HB⟩ := hrel
            cases gk with
            | zero => exact absurd HA.out (by simp [impl_Road_straight.l0])
            | succ k2 =>
              have H := HA.out
              clear HA
              simp only [impl_Road_straight.l0] at H
              by_cases c17 : x7_2 = a2
              · rw [if_pos c17] at H
                have c17b0 : (x7_2 == a2) = true := beq_iff_eq.mpr c17
                have c17b1 : (x7_2 != a2) = false := bne_eq_false_iff_eq.mpr c17
                clear c17
                obtain rfl := Option.some.inj H
                go_wp2
                go_ret
                exact ⟨_, by first | rfl | (simp [errW_none, errW_some] <;> rfl) | (simp only [← hji4]; first | rfl | (simp [errW_none, errW_some] <;> rfl)) | (simp [*, errW_none, errW_some] <;> rfl), by (with_reducible repeat (first | apply Kd.R_alloc | apply Kd.R_drewN | apply Kd.R_drew)); exact HO_1.out, by repeat (first | (with_reducible first | exact HB.out | apply below_alloc | apply pw_below_drewN | apply below_drew1 | refine below_set ?_ GE156.out) | exact HB.out), by repeat (first | (with_reducible first | exact HK.out | apply Kept.alloc | apply Kept.drewN | apply Kept.drew | refine Kept.setCell ?_ (.inr GW156.out) _) | exact HK.out)⟩
              · rw [if_neg c17] at H
                have c17b0 : (x7_2 == a2) = false := beq_eq_false_iff_ne.mpr c17
                have c17b1 : (x7_2 != a2) = true := bne_iff_ne.mpr c17
                by_cases c18 : a0_0 = 0
                · rw [if_pos c18] at H
                  exact absurd H (by simp)
                · rw [if_neg c18] at H
                  have c18b0 : (a0_0 == 0) = false := beq_eq_false_iff_ne.mpr c18
                  have c18b1 : (a0_0 != 0) = true := bne_iff_ne.mpr c18
                  by_cases c19 : x1_2.length < 17592186044416
                  · rw [if_pos c19] at H
                    have LMc19 := Aside0.mk c19
                    clear c19
                    obtain ⟨y158, hy158⟩ : ∃ y_ : List Int, y_ = (x1_2 ++ [Int.tmod (wrap64 ((wrap64 (x7_2 + x8_6)) + a0_0)) a0_0]) := ⟨_, rfl⟩
                    replace H : (impl_Road_straight.l0 k2 y158 a2 (Int.tmod (wrap64 ((wrap64 (x7_2 + x8_6)) + a0_0)) a0_0) x8_6 a0_0 a0_1) = some r := by first | (rw [hy158]; with_reducible exact H) | (have H2_ := (Option.bind_some _ _).symm.trans H; rw [hy158]; with_reducible exact H2_) | (have H2_ := (Option.bind_some _ _).symm.trans H; with_reducible exact H2_) | with_reducible exact H | (rw [hy158]; exact H) | exact H
                    have Ny158 := Aside0.mk hy158
                    clear hy158
                    have H' := Aside0.mk H
                    clear H
                    have hcz20_0 : wr.cell? ⟨gb156, 0, none⟩ = some (.int .i64 a0_0) := (blk_cell BK156.out 0).trans rfl
                    have hcz20_1 : wr.cell? ⟨gb156, 1, none⟩ = some (.bool a0_1) := (blk_cell BK156.out 1).trans rfl
                    have hfz20_0 := blk_frozen BK156.out 0
                    have hfz20_1 := blk_frozen BK156.out 1
                    go_wp2_with (first | ((with_reducible refine gate_builtin (b := .append) (xs := #[.tmp 50, .tmp 52]) rfl ?_); at_builtin; refine Kd.R_append (Kd.int .i64) (w0 := w0) w0.heap.size rfl (.tmp 50) (.tmp 52) 26 3 (.int .i64 0) 8 rfl Try.underlying26 info3 rfl (by decide) (by omega) u1 x1_2 (Int.tmod (wrap64 ((wrap64 (x7_2 + x8_6)) + a0_0)) a0_0) [.int .i64 (Int.tmod (wrap64 ((wrap64 (x7_2 + x8_6)) + a0_0)) a0_0)] (fun k_ => (P1_ k_ ∨ w.heap.size ≤ k_)) (fun _ => False) rfl rfl ?aP (fun _ hk => hk.elim) ?aF ?aO ?aB ?aS ?aL ?_; (case aP => exact rfl); (case aB => exact (by repeat (first | (with_reducible first | exact HB.out | apply below_alloc | apply pw_below_drewN | apply below_drew1 | refine below_set ?_ GE156.out) | exact HB.out))); (case aF => exact (fun k_ hk => (.inr (Nat.le_trans (by first | exact HK.out.1 | exact (show Kept w _ (fun k_ => P1_ k_) from by repeat (first | (with_reducible first | exact HK.out | apply Kept.alloc | apply Kept.drewN | apply Kept.drew | refine Kept.setCell ?_ (.inr GW156.out) _) | exact HK.out)).1) hk)))); (case aO => exact (by (with_reducible repeat (first | apply Kd.R_alloc | apply Kd.R_drewN | apply Kd.R_drew)); exact HO_1.out)); (case aS => exact (below_size (by repeat (first | (with_reducible first | exact HB.out | apply below_alloc | apply pw_below_drewN | apply below_drew1 | refine below_set ?_ GE156.out) | exact HB.out)))); (case aL => have := LMc19.out; omega); intro v159 w21 ho hb hg hat; rw [← Ny158.out] at ho; have n0_ := Aside0.mk (blk_grown (g := gb156) (o := .cells #[.int .i64 a0_0, .bool a0_1] 29 (0, 0)) (by (with_reducible repeat (first | refine blk_drewN ?_ _ | refine blk_drew ?_ | refine blk_alloc ?_ _)); exact BK156.out) hg (Kd.R_ne HO_1.out BK156.out (by decide))); have n1_ := Aside0.mk (hb); have n2_ := Aside0.mk (Kept.of_grown (S := (fun k_ => P1_ k_)) hg (by repeat (first | (with_reducible first | exact HK.out | apply Kept.alloc | apply Kept.drewN | apply Kept.drew | refine Kept.setCell ?_ (.inr GW156.out) _) | exact HK.out)) (fun k_ e_ => (HO_1.out.1 k_ e_))); have n3_ := Aside0.mk (ho); clear BK156; clear HB; clear HK; clear HO_1; have BK156 := n0_; have HB := n1_; have HK := n2_; have HO160 := n3_; clear n0_ n1_ n2_ n3_; clear ho hb hg hat))
                    go_roundg k2
                    case measure => have := HJ6.out; have := HK2.out; omega
                    case rel => exact ⟨(y158), (Int.tmod (wrap64 ((wrap64 (x7_2 + x8_6)) + a0_0)) a0_0), (by first | rfl | (simp; done) | (simp [*]; done)), H', ⟨by have := HJ6.out; have := HK2.out; omega⟩, ⟨by (with_reducible repeat (first | apply Kd.R_alloc | apply Kd.R_drewN | apply Kd.R_drew)); exact HO160.out⟩, ⟨by (with_reducible repeat (first | refine blk_drewN ?_ _ | refine blk_drew ?_ | refine blk_alloc ?_ _)); exact BK156.out⟩, ⟨by repeat (first | (with_reducible first | exact HK.out | apply Kept.alloc | apply Kept.drewN | apply Kept.drew | refine Kept.setCell ?_ (.inr GW156.out) _) | exact HK.out)⟩, ⟨by repeat (first | (with_reducible first | exact HB.out | apply below_alloc | apply pw_below_drewN | apply below_drew1 | refine below_set ?_ GE156.out) | exact HB.out)⟩⟩
                  · rw [if_neg c19] at H
                    exact absurd H (by simp)
    · rw [if_neg c6] at H
      exact absurd H (by simp)
  · rw [if_neg c5] at H
    exact absurd H (by simp)

end Go.Proofs.Ytkibnncghhelnaa.PFnExactSplitWalks
