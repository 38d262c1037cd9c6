-- Told shorter still by shrink2.py.
-- Printed, and told shorter by this session's program shrink.py.
-- Printed by this session's program myprint.py.
import Derived.Test.YtbjpfnpleajhgaaPFnWalksx0
import Derived.Test.YtbjpfnpleajhgaaPFnWalksx3
namespace Go.Proofs.Ytbjpfnpleajhgaa.PFnWalks
open Go.RowKit Go.Proofs.Ytbjpfnpleajhgaa.Own Go.Proofs.YtbjpfnpleajhgaaW.PrintWords Go.Proofs.YtbjpfnpleajhgaaW.PrintLast Go.Proofs.YtbjpfnpleajhgaaW.PrintMore
attribute [local go_sem] max2_int min2_int max_two min_two max_three min_three max_four min_four   -- for this text's walks alone
set_option linter.unusedVariables false
set_option linter.unusedSimpArgs false

/-! ### impl_Road_isWalk: function 34 -/
mutual
def Q7.j0 : Nat → List Int → Bool → Int → Bool → Option (Bool)
  | 0, _, _, _, _ => none
  | k + 1, x1, x15, x261000, x261001 => if x15 = true then (some false) else (Q7.l0 k x1 1 x261000 x261001)
def Q7.l0 : Nat → List Int → Int → Int → Bool → Option (Bool)
  | 0, _, _, _, _ => none
  | k + 1, x1, x5, x261000, x261001 => if x5 < (x1.length : Int) then (if 0 ≤ (wrap64 (x5 - 1)) then (if (wrap64 (x5 - 1)) < (x1.length : Int) then (if 0 ≤ x5 then ((Q64.f x261000 x261001 (rd x1 (wrap64 (x5 - 1))) (rd x1 x5)).bind fun t265 => (if t265 > 1 then (some false) else (Q7.l0 k x1 (wrap64 (x5 + 1)) x261000 x261001))) else (none)) else (none)) else (none)) else (some true)
end
def Q7.f (k : Nat) (a0_0 : Int) (a0_1 : Bool) (l1 : List Int) : Option (Bool) := (Q40.f (l1.length : Int) 1 61).bind fun t261 => (if t261 = true then ((Q38.f k a0_0 a0_1 l1).bind fun t262 => (Q7.j0 k l1 (!t262) a0_0 a0_1)) else (Q7.j0 k l1 true a0_0 a0_1))
def Q7.T6 : Bool × List (List Nat × List Nat) := (true, [([], []), ([], []), ([], []), ([2], [2]), ([1, 3], [1, 3]), ([4], [4]), ([], []), ([], []), ([6, 7], [6, 7]), ([8], [8]), ([0, 5, 9], [0, 5, 9]), ([10], [10])])
def Q7.B6 : List Nat := [0, 0, 0, 4, 14, 30, 0, 0, 192, 448, 1023, 2047]
theorem Q7.tab6 : rtab .any (opsOf Try.f34 6) = Q7.T6 := by kernel_rfl
theorem Q7.bits6 : waitsOk Q7.T6.2 Q7.B6 = true := by kernel_rfl
set_option maxHeartbeats 8000000 in
set_option maxRecDepth 100000 in
theorem Q7.calls (k : Nat) (a0_0 : Int) (a0_1 : Bool) (A1 : Option Addr) (c1 : Nat) (l1 : List Int) (r : Bool) (w : World) (hr1 : Kd.C (Kd.int .i64) w A1 l1.length l1) (hc1 : l1.length ≤ c1) (h : Q7.f k a0_0 a0_1 l1 = some r) :
    Calls Try.prog 34 #[.agg #[.int .i64 a0_0, .bool a0_1], .slice A1 l1.length c1] w fun e w' => e = .returned (.bool r) ∧ Below w.heap.size w w' := by
 have hu25 := Try.underlying25; have HR1 := A_ hr1; have HC1 := A_ hc1; clear hr1 hc1; have HB := A_ (Below.refl w.heap.size w); have H : ((Q40.f (l1.length : Int) 1 61).bind fun t261 => (if t261 = true then ((Q38.f k a0_0 a0_1 l1).bind fun t262 => (Q7.j0 k l1 (!t262) a0_0 a0_1)) else (Q7.j0 k l1 true a0_0 a0_1))) = some r := h; clear h; have HC3 := A_ H; clear H; go_enter Try.func34, Try.ntmps34
 go_upto_region 1 with (first | ((with_reducible refine gate_dst (N := 2) rfl ?_); refine bx (N := 2) #[.int .i64 a0_0, .bool a0_1] 25 ?_; intro gb260 hg w4 hbox hb; have BK260 := A_ (hbox); have GW260 := A_ (bs hg (hq HB) : w.heap.size ≤ gb260); have GE260 := A_ (bs hg (hq HB) : w.heap.size ≤ gb260); replace HB := A_ (below_step (hq HB) hb); clear hb hbox hg))
 (try simp only [Act.put, List.setIfInBounds_toArray, List.set_cons_zero, List.set_cons_succ]); go_cut [15] (fun v15 wc => ∃ (kq : Nat) (x15_2 : Bool), v15 = .bool x15_2 ∧ Aside0 (Q7.j0 kq l1 x15_2 a0_0 a0_1 = some r) ∧ Aside0 (kq ≤ k) ∧ Aside0 (wc.heap[gb260]? = some (.cells #[.int .i64 a0_0, .bool a0_1] 25 (0, 0))) ∧ Aside0 (Below w.heap.size w wc))
 case first =>
  have H := HC3.out; clear HC3; replace H := bm H; obtain ⟨t261, A5, H⟩ := H; by_cases c6 : t261 = true
  ·
   subst c6
   have H1 : ((Q38.f k a0_0 a0_1 l1).bind fun t262 => (Q7.j0 k l1 (!t262) a0_0 a0_1)) = some r := by rw [if_pos rfl] at H; exact H
   clear H; have H := H1; clear H1; replace H := bm H; obtain ⟨t262, A7, H⟩ := H; have H' := A_ H; clear H; go_wp2_with (first | ((with_reducible refine gate_callee (f := 63) rfl ?_); refine gL (some 8) Try.func63 #[.int .i64 (l1.length : Int), .int .i64 1, .int .i64 61] ?_; (with_reducible refine (Q40.calls (l1.length : Int) 1 61 true _ A5.out).mono ?_); rintro e w' ⟨rfl, ⟨nd, rfl⟩⟩; refine ⟨_, rfl, ?_⟩; have hcz8_0 : w4.cell? ⟨gb260, 0, none⟩ = some (.int .i64 a0_0) := bc BK260 0; have hcz8_1 : w4.cell? ⟨gb260, 1, none⟩ = some (.bool a0_1) := bc BK260 1; have hfz8_0 := blk_frozen BK260.out 0; have hfz8_1 := blk_frozen BK260.out 1) | (go_at_call 52; (with_reducible refine (Q38.calls k a0_0 a0_1 _ _ l1 t262 _ ?side1 ?side2 A7.out).mono ?_); (case side1 => exact cq (Kd.C_below HR1.out (hq HB))); (case side2 => exact HC1.out); rintro e w9 ⟨rfl, hb⟩; replace BK260 := A_ (blk_below (bq BK260) hb); replace HB := A_ (below_step (hq HB) hb); clear hb))
   go_meet
   case rel => exact ⟨_, (!t262), rf, H', ⟨by first | omega | exact Nat.le_refl _⟩, ⟨bq BK260⟩, ⟨hq HB⟩⟩
  ·
   replace c6 := Bool.eq_false_iff.mpr c6; subst c6
   have H1 : (Q7.j0 k l1 true a0_0 a0_1) = some r := by rw [if_neg (show ¬ (false = true) by decide)] at H; exact H
   clear H; have H := H1; clear H1; have H' := A_ H; clear H; go_wp2_with (first | ((with_reducible refine gate_callee (f := 63) rfl ?_); refine gL (some 8) Try.func63 #[.int .i64 (l1.length : Int), .int .i64 1, .int .i64 61] ?_; (with_reducible refine (Q40.calls (l1.length : Int) 1 61 false _ A5.out).mono ?_); rintro e w' ⟨rfl, ⟨nd, rfl⟩⟩; refine ⟨_, rfl, ?_⟩))
   go_meet
   case rel => exact ⟨_, (true), rf, H', ⟨by first | omega | exact Nat.le_refl _⟩, ⟨bq BK260⟩, ⟨hq HB⟩⟩
 case rest =>
  clear HC3; (try clear c6); (try clear hcz8_0); (try clear hcz8_1); (try clear hfz8_0); (try clear hfz8_1); obtain ⟨kq, x15_2, rfl, HA, HJ2, BK260, HB⟩ := hcut
  cases kq with
  | zero => exact absurd HA.out (by simp [Q7.j0])
  | succ kj2 =>
   have H := HA.out; clear HA; simp only [Q7.j0] at H
   by_cases c10 : x15_2 = true
   ·
    subst c10
    have H1 : (some false) = some r := by rw [if_pos rfl] at H; exact H
    clear H; have H := H1; clear H1; obtain rfl := Option.some.inj H; go_wp2
    go_ret
    exact ⟨rt, hq HB⟩
   ·
    replace c10 := Bool.eq_false_iff.mpr c10; subst c10
    have H1 : (Q7.l0 kj2 l1 1 a0_0 a0_1) = some r := by rw [if_neg (show ¬ (false = true) by decide)] at H; exact H
    clear H; have H := H1; clear H1; have H' := A_ H; clear H; go_wp2
    go_loopg [5] kj2 (fun kq v5 w' => ∃ (x5_2 : Int), v5 = .int .i64 x5_2 ∧ Aside0 (Q7.l0 kq l1 x5_2 a0_0 a0_1 = some r) ∧ Aside0 (kq ≤ kj2) ∧ Aside0 (w'.heap[gb260]? = some (.cells #[.int .i64 a0_0, .bool a0_1] 25 (0, 0))) ∧ Aside0 (Below w.heap.size w w'))
    case atStart => exact ⟨(1), rf, H', ⟨Nat.le_refl _⟩, ⟨bq BK260⟩, ⟨hq HB⟩⟩
    case round =>
     clear H'; (try clear c6); (try clear c10); (try clear hcz8_0); (try clear hcz8_1); (try clear hfz8_0); (try clear hfz8_1); obtain ⟨x5_2, rfl, HA, HK2, BK260, HB⟩ := hrel
     cases gk with
     | zero => exact absurd HA.out (by simp [Q7.l0])
     | succ k2 =>
      have H := HA.out; clear HA; simp only [Q7.l0] at H
      by_cases c11 : x5_2 < (l1.length : Int)
      ·
       rw [if_pos c11] at H; have c11b0 := decide_eq_true c11; clear c11
       obtain ⟨ji12, hji12⟩ : ∃ j_ : Int, (wrap64 (x5_2 - 1)) = j_ := ⟨_, rfl⟩
       replace H : (if 0 ≤ (ji12) then (if (ji12) < (l1.length : Int) then (if 0 ≤ x5_2 then ((Q64.f a0_0 a0_1 (rd l1 (ji12)) (rd l1 x5_2)).bind fun t265 => (if t265 > 1 then (some false) else (Q7.l0 k2 l1 (wrap64 (x5_2 + 1)) a0_0 a0_1))) else (none)) else (none)) else (none)) = some r := by first | (rw [hji12] at H; exact H) | (simp only [hji12] at H ⊢; exact H)
       have hji12w : (IntKind.i64.wrap (x5_2 - 1)) = ji12 := (i64_w _).trans hji12; by_cases c13 : 0 ≤ (ji12)
       ·
        rw [if_pos c13] at H; have c13b0 := decide_eq_true c13; clear c13; by_cases c14 : (ji12) < (l1.length : Int)
        ·
         rw [if_pos c14] at H; have c14b0 := decide_eq_true c14; clear c14; by_cases c15 : 0 ≤ x5_2
         ·
          rw [if_pos c15] at H; have c15b0 := decide_eq_true c15; clear c15; replace H := bm H; obtain ⟨t265, A16, H⟩ := H; by_cases c17 : t265 > 1
          ·
           rw [if_pos c17] at H; have c17b0 : decide (1 < t265) = true := decide_eq_true c17; clear c17; obtain rfl := Option.some.inj H; try go_wp2
           replace BK260 := A_ (blk_drew BK260.out); replace HB := A_ (below_drew1 HB.out); have p263 : 0 ≤ ((ji12) : Int) := dq; have q263 : (ji12) < (l1.length : Int) := dq; obtain ⟨ad263, e263, hx263_0⟩ := Kd.at_int HR1.out (ji12) p263 q263; have hw263_0 := hx263_0
           cases e263
           replace hx263_0 := (HB.out.cell (World.block_lt_of_cell? w _ hx263_0)).trans hx263_0; replace p263 := eq_true p263; replace q263 := eq_true q263; have p264 : 0 ≤ (x5_2 : Int) := dq; have q264 : x5_2 < (l1.length : Int) := dq; obtain ⟨ad264, e264, hx264_0⟩ := Kd.at_int HR1.out x5_2 p264 q264; have hw264_0 := hx264_0
           obtain rfl : ad263 = ad264 := (by injection e264)
           replace hx264_0 := (HB.out.cell (World.block_lt_of_cell? w _ hx264_0)).trans hx264_0; replace p264 := eq_true p264; replace q264 := eq_true q264; refine start_ (n := 12) (S := fun w' => w'.cell? ⟨gb260, 0, none⟩ = some (.int .i64 a0_0) ∧ w'.cell? ⟨gb260, 1, none⟩ = some (.bool a0_1) ∧ w'.cell? (ad263.add ((ji12)).toNat) = some (.int .i64 (rd l1 (ji12))) ∧ w'.cell? (ad263.add (x5_2).toNat) = some (.int .i64 (rd l1 x5_2))) (ds := []) #[false, false, false, false, false, false, false, false, false, false, false, false] (by kernel_rfl) rfl rfl ⟨bc BK260 0, bc BK260 1, ((HB.out.cell (World.block_lt_of_cell? w _ hw263_0)).trans hw263_0), ((HB.out.cell (World.block_lt_of_cell? w _ hw264_0)).trans hw264_0)⟩ (fun hHeld => ?_); refine with_tabW Q7.tab6 Q7.bits6 (fun HT_ HW_ => ?_); generalize wr.drew = w18 at BK260 HB hx263_0 hx264_0 hHeld ⊢; refine puT (i := 1) (N := some 23) HT_ #[false, true, false, false, false, false, false, false, false, false, false, false] ?_; refine puT (i := 2) (N := some 24) HT_ #[false, true, true, false, false, false, false, false, false, false, false, false] ?_; refine puT (i := 3) (N := some 25) HT_ #[false, true, true, true, false, false, false, false, false, false, false, false] ?_; refine puT (i := 4) (N := some 26) HT_ #[false, true, true, true, true, false, false, false, false, false, false, false] ?_; refine puT (i := 6) (N := some 28) HT_ #[false, true, true, true, true, false, true, false, false, false, false, false] ?_; refine puT (i := 7) (N := some 29) HT_ #[false, true, true, true, true, false, true, true, false, false, false, false] ?_; refine puT (i := 8) (N := some 30) HT_ #[false, true, true, true, true, false, true, true, true, false, false, false] ?_; refine tkT (i := 0) (N := some 22) HT_ HW_ hHeld #[true, true, true, true, true, false, true, true, true, false, false, false] ?_; refine tkT (i := 5) (N := some 27) HT_ HW_ hHeld #[true, true, true, true, true, true, true, true, true, false, false, false] ?_; refine tkT (i := 9) (N := some 31) HT_ HW_ hHeld #[true, true, true, true, true, true, true, true, true, true, false, false] ?_; refine onT (i := 10) (N := some 32) HT_ #[true, true, true, true, true, true, true, true, true, true, true, false] (fun K hK => ?_); refine goes_ Try.func64 (by kernel_rfl) rfl #[.agg #[.int .i64 a0_0, .bool a0_1], .int .i64 (rd l1 (ji12)), .int .i64 (rd l1 x5_2)] (by rfl) rfl rfl (by (try simp only [List.map_toArray, List.map_cons, List.map_nil]); first | done | (simp only [hji12]; rfl) | rfl | (simp only [List.length_drop, List.length_take]; rfl)) ?_; with_reducible refine (Q64.calls a0_0 a0_1 (rd l1 (ji12)) (rd l1 x5_2) t265 _ A16.out).mono ?_
           rintro e w19 ⟨rfl, hb⟩; refine ⟨_, rfl, ?_⟩; replace BK260 := A_ (blk_below (bq BK260) hb); replace HB := A_ (below_step (hq HB) hb); clear hb; refine hK.out _ _ ⟨bc BK260 0, bc BK260 1, ((HB.out.cell (World.block_lt_of_cell? w _ hw263_0)).trans hw263_0), ((HB.out.cell (World.block_lt_of_cell? w _ hw264_0)).trans hw264_0)⟩ (fun hHeld => ?_); clear hK K; refine nq_ (some 32) ?_; refine puT (i := 11) (N := some 33) HT_ #[true, true, true, true, true, true, true, true, true, true, true, true] ?_; refine done_ (done_of HT_.out (by kernel_rfl)) ?_; try go_wp2
           go_ret
           exact ⟨by first | rfl | (simp [errW_none, errW_some] <;> rfl) | (simp only [← hji12]; first | rfl | (simp [errW_none, errW_some] <;> rfl)) | (simp [*, errW_none, errW_some] <;> rfl), hq HB⟩
          ·
           rw [if_neg c17] at H; have c17b0 : decide (1 < t265) = false := decide_eq_false c17; clear c17; have H' := A_ H; clear H; try go_wp2
           replace BK260 := A_ (blk_drew BK260.out); replace HB := A_ (below_drew1 HB.out); have p263 : 0 ≤ ((ji12) : Int) := dq; have q263 : (ji12) < (l1.length : Int) := dq; obtain ⟨ad263, e263, hx263_0⟩ := Kd.at_int HR1.out (ji12) p263 q263; have hw263_0 := hx263_0
           cases e263
           replace hx263_0 := (HB.out.cell (World.block_lt_of_cell? w _ hx263_0)).trans hx263_0; replace p263 := eq_true p263; replace q263 := eq_true q263; have p264 : 0 ≤ (x5_2 : Int) := dq; have q264 : x5_2 < (l1.length : Int) := dq; obtain ⟨ad264, e264, hx264_0⟩ := Kd.at_int HR1.out x5_2 p264 q264; have hw264_0 := hx264_0
           obtain rfl : ad263 = ad264 := (by injection e264)
           replace hx264_0 := (HB.out.cell (World.block_lt_of_cell? w _ hx264_0)).trans hx264_0; replace p264 := eq_true p264; replace q264 := eq_true q264; refine start_ (n := 12) (S := fun w' => w'.cell? ⟨gb260, 0, none⟩ = some (.int .i64 a0_0) ∧ w'.cell? ⟨gb260, 1, none⟩ = some (.bool a0_1) ∧ w'.cell? (ad263.add ((ji12)).toNat) = some (.int .i64 (rd l1 (ji12))) ∧ w'.cell? (ad263.add (x5_2).toNat) = some (.int .i64 (rd l1 x5_2))) (ds := []) #[false, false, false, false, false, false, false, false, false, false, false, false] (by kernel_rfl) rfl rfl ⟨bc BK260 0, bc BK260 1, ((HB.out.cell (World.block_lt_of_cell? w _ hw263_0)).trans hw263_0), ((HB.out.cell (World.block_lt_of_cell? w _ hw264_0)).trans hw264_0)⟩ (fun hHeld => ?_); refine with_tabW Q7.tab6 Q7.bits6 (fun HT_ HW_ => ?_); generalize wr.drew = w20 at BK260 HB hx263_0 hx264_0 hHeld ⊢; refine puT (i := 1) (N := some 23) HT_ #[false, true, false, false, false, false, false, false, false, false, false, false] ?_; refine puT (i := 2) (N := some 24) HT_ #[false, true, true, false, false, false, false, false, false, false, false, false] ?_; refine puT (i := 3) (N := some 25) HT_ #[false, true, true, true, false, false, false, false, false, false, false, false] ?_; refine puT (i := 4) (N := some 26) HT_ #[false, true, true, true, true, false, false, false, false, false, false, false] ?_; refine puT (i := 6) (N := some 28) HT_ #[false, true, true, true, true, false, true, false, false, false, false, false] ?_; refine puT (i := 7) (N := some 29) HT_ #[false, true, true, true, true, false, true, true, false, false, false, false] ?_; refine puT (i := 8) (N := some 30) HT_ #[false, true, true, true, true, false, true, true, true, false, false, false] ?_; refine tkT (i := 0) (N := some 22) HT_ HW_ hHeld #[true, true, true, true, true, false, true, true, true, false, false, false] ?_; refine tkT (i := 5) (N := some 27) HT_ HW_ hHeld #[true, true, true, true, true, true, true, true, true, false, false, false] ?_; refine tkT (i := 9) (N := some 31) HT_ HW_ hHeld #[true, true, true, true, true, true, true, true, true, true, false, false] ?_; refine onT (i := 10) (N := some 32) HT_ #[true, true, true, true, true, true, true, true, true, true, true, false] (fun K hK => ?_); refine goes_ Try.func64 (by kernel_rfl) rfl #[.agg #[.int .i64 a0_0, .bool a0_1], .int .i64 (rd l1 (ji12)), .int .i64 (rd l1 x5_2)] (by rfl) rfl rfl (by (try simp only [List.map_toArray, List.map_cons, List.map_nil]); first | done | (simp only [hji12]; rfl) | rfl | (simp only [List.length_drop, List.length_take]; rfl)) ?_; with_reducible refine (Q64.calls a0_0 a0_1 (rd l1 (ji12)) (rd l1 x5_2) t265 _ A16.out).mono ?_
           rintro e w21 ⟨rfl, hb⟩; refine ⟨_, rfl, ?_⟩; replace BK260 := A_ (blk_below (bq BK260) hb); replace HB := A_ (below_step (hq HB) hb); clear hb; refine hK.out _ _ ⟨bc BK260 0, bc BK260 1, ((HB.out.cell (World.block_lt_of_cell? w _ hw263_0)).trans hw263_0), ((HB.out.cell (World.block_lt_of_cell? w _ hw264_0)).trans hw264_0)⟩ (fun hHeld => ?_); clear hK K; refine nq_ (some 32) ?_; refine puT (i := 11) (N := some 33) HT_ #[true, true, true, true, true, true, true, true, true, true, true, true] ?_; refine done_ (done_of HT_.out (by kernel_rfl)) ?_; try go_wp2
           go_roundg k2
           case measure => have := HJ2.out; have := HK2.out; omega
           case rel => exact ⟨(wrap64 (x5_2 + 1)), rf, H', ⟨by have := HJ2.out; have := HK2.out; omega⟩, ⟨bq BK260⟩, ⟨hq HB⟩⟩
         ·
          rw [if_neg c15] at H; exact absurd H (by simp)
        ·
         rw [if_neg c14] at H; exact absurd H (by simp)
       ·
        rw [if_neg c13] at H; exact absurd H (by simp)
      ·
       rw [if_neg c11] at H; have c11b0 := decide_eq_false c11; clear c11; obtain rfl := Option.some.inj H; go_wp2
       go_ret
       exact ⟨rt, hq HB⟩

/-! ### slices.IndexFunc at rows of ints, whatever the predicate -/
set_option maxHeartbeats 4000000 in
theorem idxf_ints.calls (q : List Int → Option Bool) (g : FuncId) (lb : Array Value) (eg : ∀ args w, (callFunc g args).run Try.prog w = .ok (.enter g args) w) (A0 : Option Addr) (c0 : Nat) (l : List (List Int)) (r : Int) (w : World)
  (hr0 : Kd.C (Kd.slice 3 (Kd.int .i64)) w A0 l.length l) (hc0 : l.length ≤ c0)
  (hp : ∀ (x : List Int) (A' : Option Addr) (c' : Nat) (b : Bool) (W : World), Below w.heap.size w W → Kd.C (Kd.int .i64) W A' x.length x → x.length ≤ c' → q x = some b → Calls Try.prog g (#[.slice A' x.length c'] ++ lb) W fun e W' => e = .returned (.bool b) ∧ Below W.heap.size W W')
  (h : idxO q l 0 = some r) :
    Calls Try.prog 72 #[.slice A0 l.length c0, .func (.func g) #[] lb] w fun e w' => e = .returned (.int .i64 r) ∧ Below w.heap.size w w' := by
 have HR0 := A_ hr0; have HC0 := A_ hc0; have HP := A_ hp; have HI := A_ h; have hmax : l.length ≤ 9223372036854775807 := hr0.2.1; clear hr0 hc0 hp h; go_enter Try.func72, Try.ntmps72
 go_wp2
 go_loopg [5, 8] l.length (fun gg _ s8 wr => ∃ kk : Nat, kk ≤ l.length ∧ l.length - kk ≤ gg ∧ s8 = .int .i64 kk ∧ Aside0 (Below w.heap.size w wr) ∧ Aside0 (idxO q (l.drop kk) kk = some r))
 case atStart => exact ⟨0, Nat.zero_le _, by omega, rfl, ⟨Below.refl _ w⟩, HI⟩
 case round =>
  clear HI; obtain ⟨kk, hkk, hg, rfl, HB, HI⟩ := hrel; by_cases hlt : kk < l.length
  ·
   have hltz : (kk : Int) < (l.length : Int) := by omega
   obtain ⟨ad, A3, c3, e3, hx, hl3, hi3⟩ := at_L2 HR0.out (kk : Int) (by omega) (by omega); subst e3; replace hx := (HB.out.cell (World.block_lt_of_cell? w _ hx)).trans hx; rw [Int.toNat_natCast] at hx; have h1 := HI.out
   have hg0 : l[kk] = rd_L2 l (kk : Int) := by unfold rd_L2; simp [List.getD_eq_getElem?_getD, List.getElem?_eq_getElem hlt]
   rw [List.drop_eq_getElem_cons hlt, hg0] at h1; simp only [idxO] at h1
   obtain ⟨b, hq, h2⟩ := Option.bind_eq_some_iff.mp h1; have hcall := HP.out (rd_L2 l (kk : Int)) A3 c3 b wr HB.out (Kd.C_below hi3 HB.out) hl3 hq; have H2 := A_ h2; clear h1 h2 hq hg0 hl3 hi3 HI
   cases b with
   | true =>
    go_wp2_with (go_at_fn g; refine hcall.mono ?_; rintro e w' ⟨rfl, hb'⟩)
    go_ret
    have h3 : some (kk : Int) = some r := by simpa using H2.out
    obtain rfl := Option.some.inj h3; exact ⟨rfl, below_step HB.out hb'⟩
   | false =>
    go_wp2_with (go_at_fn g; refine hcall.mono ?_; rintro e w' ⟨rfl, hb'⟩)
    go_roundg (l.length - (kk + 1))
    case measure => omega
    case rel => exact ⟨kk + 1, by omega, by omega, by go_num, ⟨below_step HB.out hb'⟩, ⟨by have h3 := H2.out; simpa using h3⟩⟩
  ·
   have hltz : ¬ (kk : Int) < (l.length : Int) := by omega
   have h1 := HI.out; rw [List.drop_of_length_le (by omega)] at h1; simp only [idxO] at h1
   have H1 := A_ (Option.some.inj h1); clear h1 HI; go_wp2
   go_ret
   have h3 := H1.out; subst h3; exact ⟨rfl, HB.out⟩

/-! ### slices.ContainsFunc at rows of ints, whatever the predicate -/
set_option maxHeartbeats 4000000 in
theorem conf_ints.calls (q : List Int → Option Bool) (g : FuncId) (lb : Array Value) (eg : ∀ args w, (callFunc g args).run Try.prog w = .ok (.enter g args) w) (A0 : Option Addr) (c0 : Nat) (l : List (List Int)) (b : Bool) (w : World)
  (hr0 : Kd.C (Kd.slice 3 (Kd.int .i64)) w A0 l.length l) (hc0 : l.length ≤ c0)
  (hp : ∀ (x : List Int) (A' : Option Addr) (c' : Nat) (b : Bool) (W : World), Below w.heap.size w W → Kd.C (Kd.int .i64) W A' x.length x → x.length ≤ c' → q x = some b → Calls Try.prog g (#[.slice A' x.length c'] ++ lb) W fun e W' => e = .returned (.bool b) ∧ Below W.heap.size W W')
  (h : anyO q l = some b) :
    Calls Try.prog 58 #[.slice A0 l.length c0, .func (.func g) #[] lb] w fun e w' => e = .returned (.bool b) ∧ Below w.heap.size w w' := by
 obtain ⟨r, hr, hb⟩ := idxO_any (i := 0) h; subst hb
 have hcall := fun W hr0 hp => idxf_ints.calls q g lb eg A0 c0 l r W hr0 hc0 hp hr
 have HR0 := A_ hr0; have HP := A_ hp; clear hr0 hp h hr hc0 eg; have HC := A_ hcall; clear hcall; go_enter Try.func58, Try.ntmps58
 go_wp2_with (go_at_call 72; refine (HC.out _ HR0.out HP.out).mono ?_; rintro e w' ⟨rfl, hb'⟩)
 go_ret
 exact ⟨rfl, hb'⟩

/-! ### impl_areWalks$1: the predicate areWalks hands on -/
set_option maxHeartbeats 4000000 in
theorem areWalks_1.calls (k : Nat) (s : Int) (r0 : Bool) (gb : Nat) (x : List Int) (A' : Option Addr) (c' : Nat) (b : Bool) (w : World) (hbk : w.heap[gb]? = some (.cells #[.int .i64 s, .bool r0] 25 (0, 0))) (hr0 : Kd.C (Kd.int .i64) w A' x.length x) (hc0 : x.length ≤ c')
  (h : (Q7.f k s r0 x).bind (fun b => some (!b)) = some b) :
    Calls Try.prog 59 (#[.slice A' x.length c'] ++ #[.pointer (some ⟨gb, 0, none⟩)]) w fun e w' => e = .returned (.bool b) ∧ Below w.heap.size w w' := by
 obtain ⟨b0, hb0, hb1⟩ := Option.bind_eq_some_iff.mp h; obtain rfl := Option.some.inj hb1; clear hb1 h; have HR0 := A_ hr0; have HC0 := A_ hc0; have A8 := A_ hb0; have HB := A_ (Below.refl w.heap.size w); have hx0 : w.cell? ⟨gb, 0, none⟩ = some (.int .i64 s) := (blk_cell hbk 0).trans rfl; have hx1 : w.cell? ⟨gb, 1, none⟩ = some (.bool r0) := (blk_cell hbk 1).trans rfl; have hlt : gb < w.heap.size := blk_lt hbk; clear hr0 hc0 hb0 hbk; go_enter Try.func59, Try.ntmps59
 go_wp2_with (first | ((with_reducible refine gate_callee (f := 34) rfl ?_); refine goesL_ (some 6) rfl rfl Try.func34 (by kernel_rfl) rfl #[.agg #[.int .i64 s, .bool r0], .slice A' x.length c'] rfl (by (try simp only [List.map_toArray, List.map_cons, List.map_nil]); first | done | rfl) ?_; (with_reducible refine (Q7.calls k s r0 _ _ x b0 _ ?side1 ?side2 A8.out).mono ?_); (case side1 => repeat (first | exact (Kd.C_below HR0.out HB.out) | exact HR0.out | (with_reducible refine Kd.C_alloc ?_ _) | (with_reducible refine Kd.C_drewN ?_ _))); (case side2 => exact HC0.out); rintro e w8 ⟨rfl, hb⟩; refine ⟨_, rfl, ?_⟩; have n_HB := A_ (below_step (hq HB) hb); clear HB; have HB := n_HB; clear n_HB hb))
 go_ret
 exact ⟨rfl, hq HB⟩
/-! ### impl_areWalks -/
def Q4.f (k : Nat) (a0_0 : Int) (a0_1 : Bool) (l1 : List (List Int)) : Option (Bool) := (Q50.f a0_0 a0_1).bind fun t => (if t = true then ((anyO (fun x : List Int => (Q7.f k a0_0 a0_1 x).bind fun b => some (!b)) l1).bind fun c => some (!c)) else (some false))
set_option maxHeartbeats 8000000 in
set_option maxRecDepth 100000 in
theorem Q4.calls (k : Nat) (a0_0 : Int) (a0_1 : Bool) (A1 : Option Addr) (c1 : Nat) (l1 : List (List Int)) (r : Bool) (w : World) (hr1 : Kd.C (Kd.slice 3 (Kd.int .i64)) w A1 l1.length l1) (hc1 : l1.length ≤ c1) (h : Q4.f k a0_0 a0_1 l1 = some r) :
    Calls Try.prog 29 #[.agg #[.int .i64 a0_0, .bool a0_1], .slice A1 l1.length c1] w fun e w' => e = .returned (.bool r) ∧ Below w.heap.size w w' := by
 have HR1 := A_ hr1; have HC1 := A_ hc1; clear hr1 hc1; have HB := A_ (Below.refl w.heap.size w); have hu := Try.underlying25; obtain ⟨t, ht, h1⟩ := Option.bind_eq_some_iff.mp h; have A2 := A_ ht; clear ht h
 cases t with
 | true =>
  rw [if_pos rfl] at h1; obtain ⟨c, hc, h2⟩ := Option.bind_eq_some_iff.mp h1; have A3 := A_ hc; obtain rfl := Option.some.inj h2; clear hc h1 h2; have EG := A_ (show ∀ (args : Array Value) (w : World), (callFunc 59 args).run Try.prog w = .ok (.enter 59 args) w from enters_of Try.func59 (by kernel_rfl) rfl); go_enter Try.func29, Try.ntmps29
  go_wp2_with (first | ((with_reducible refine gate_dst (N := 2) rfl ?_); refine bx (N := 2) #[.int .i64 a0_0, .bool a0_1] 25 ?_; intro gb2 hg wb2 hbox hb; replace HB := A_ (below_step (hq HB) hb); have BK2 := A_ (hbox); clear hb hbox hg; have hczb2_0 : wb2.cell? ⟨gb2, 0, none⟩ = some (.int .i64 a0_0) := bc BK2 0; have hczb2_1 : wb2.cell? ⟨gb2, 1, none⟩ = some (.bool a0_1) := bc BK2 1) | ((with_reducible refine gate_callee (f := 33) rfl ?_); refine goesL_ (some 6) rfl rfl Try.func33 (by kernel_rfl) rfl #[.agg #[.int .i64 a0_0, .bool a0_1]] rfl (by (try simp only [List.map_toArray, List.map_cons, List.map_nil]); first | done | rfl) ?_; (with_reducible refine (Q50.calls a0_0 a0_1 true _ A2.out).mono ?_); rintro e w3 ⟨rfl, hb⟩; refine ⟨_, rfl, ?_⟩; have n_BK2 := A_ (blk_below (bq BK2) hb); have n_HB := A_ (below_step (hq HB) hb); clear BK2; have BK2 := n_BK2; clear n_BK2; clear HB; have HB := n_HB; clear n_HB hb) | (go_at_call 58; (with_reducible refine (conf_ints.calls (fun x : List Int => (Q7.f k a0_0 a0_1 x).bind fun b => some (!b)) 59 #[.pointer (some ⟨gb2, 0, none⟩)] EG.out _ _ l1 c _ ?side1 ?side2 ?side3 A3.out).mono ?_); (case side1 => repeat (first | exact (Kd.C_below HR1.out HB.out) | (with_reducible refine Kd.C_alloc ?_ _) | (with_reducible refine Kd.C_drewN ?_ _))); (case side2 => exact HC1.out); (case side3 => exact fun x A' c' b W hbW hC hl hq => areWalks_1.calls k a0_0 a0_1 gb2 x A' c' b W (blk_below (bq BK2) hbW) hC hl hq); rintro e w10 ⟨rfl, hb⟩; have n_HB := A_ (below_step (hq HB) hb); clear HB; have HB := n_HB; clear n_HB hb))
  go_ret
  exact ⟨rfl, hq HB⟩
 | false =>
  rw [if_neg (by decide)] at h1; obtain rfl := Option.some.inj h1; clear h1; go_enter Try.func29, Try.ntmps29
  go_wp2_with (first | ((with_reducible refine gate_dst (N := 2) rfl ?_); refine bx (N := 2) #[.int .i64 a0_0, .bool a0_1] 25 ?_; intro gb2 hg wb2 hbox hb; replace HB := A_ (below_step (hq HB) hb); have BK2 := A_ (hbox); clear hb hbox hg; have hczb2_0 : wb2.cell? ⟨gb2, 0, none⟩ = some (.int .i64 a0_0) := bc BK2 0; have hczb2_1 : wb2.cell? ⟨gb2, 1, none⟩ = some (.bool a0_1) := bc BK2 1) | ((with_reducible refine gate_callee (f := 33) rfl ?_); refine goesL_ (some 6) rfl rfl Try.func33 (by kernel_rfl) rfl #[.agg #[.int .i64 a0_0, .bool a0_1]] rfl (by (try simp only [List.map_toArray, List.map_cons, List.map_nil]); first | done | rfl) ?_; (with_reducible refine (Q50.calls a0_0 a0_1 false _ A2.out).mono ?_); rintro e w3 ⟨rfl, hb⟩; refine ⟨_, rfl, ?_⟩; have n_BK2 := A_ (blk_below (bq BK2) hb); have n_HB := A_ (below_step (hq HB) hb); clear BK2; have BK2 := n_BK2; clear n_BK2; clear HB; have HB := n_HB; clear n_HB hb))
  go_ret
  exact ⟨rfl, hq HB⟩

/-! ### slices_Index_int_int: function 60 -/
def Q33.l0 : Nat → List Int → Int → Int → Int → Option (Int)
  | 0, _, _, _, _ => none
  | k + 1, x0, x1, x7, x8 => if x8 < x7 then (if 0 ≤ x8 then (if x8 < (x0.length : Int) then (if x1 = (rd x0 x8) then (some x8) else (Q33.l0 k x0 x1 x7 (wrap64 (x8 + 1)))) else (none)) else (none)) else (some (-1))
def Q33.f (k : Nat) (l0 : List Int) (a1 : Int) : Option (Int) := Q33.l0 k l0 a1 (l0.length : Int) 0
set_option maxHeartbeats 8000000 in
set_option maxRecDepth 100000 in
theorem Q33.calls (k : Nat) (A0 : Option Addr) (c0 : Nat) (l0 : List Int) (a1 : Int) (r : Int) (w : World) (hr0 : Kd.C (Kd.int .i64) w A0 l0.length l0) (hc0 : l0.length ≤ c0) (h : Q33.f k l0 a1 = some r) :
    Calls Try.prog 60 #[.slice A0 l0.length c0, .int .i64 a1] w fun e w' => e = .returned (.int .i64 r) ∧ Drawn0 w w' := by
 have HR0 := A_ hr0; have HC0 := A_ hc0; clear hr0 hc0; have H : (Q33.l0 k l0 a1 (l0.length : Int) 0) = some r := h; clear h; have H' := A_ H; clear H; go_enter Try.func60, Try.ntmps60
 go_wp2
 go_loopg [8] k (fun kq v8 w' => ∃ (x8_1 : Int), v8 = .int .i64 x8_1 ∧ Aside0 (Q33.l0 kq l0 a1 (l0.length : Int) x8_1 = some r) ∧ Aside0 (kq ≤ k) ∧ Drawn0 w w')
 case atStart => exact ⟨(0), rf, H', ⟨Nat.le_refl _⟩, by repeat (first | exact Drawn0.refl _ | apply Drawn0.step)⟩
 case round =>
  clear H'; obtain ⟨x8_1, rfl, HA, HK1, ⟨m1, rfl⟩⟩ := hrel
  cases gk with
  | zero => exact absurd HA.out (by simp [Q33.l0])
  | succ k1 =>
   have H := HA.out; clear HA; simp only [Q33.l0] at H
   by_cases c3 : x8_1 < (l0.length : Int)
   ·
    rw [if_pos c3] at H; have c3b0 := decide_eq_true c3; clear c3; by_cases c4 : 0 ≤ x8_1
    ·
     rw [if_pos c4] at H; have c4b0 := decide_eq_true c4; clear c4; by_cases c5 : x8_1 < (l0.length : Int)
     ·
      rw [if_pos c5] at H; have c5b0 := decide_eq_true c5; clear c5; by_cases c6 : a1 = (rd l0 x8_1)
      ·
       rw [if_pos c6] at H; have c6b0 : (a1 == (rd l0 x8_1)) = true := beq_iff_eq.mpr c6; have c6b1 : (a1 != (rd l0 x8_1)) = false := bne_eq_false_iff_eq.mpr c6; clear c6; obtain rfl := Option.some.inj H; have p266 : 0 ≤ (x8_1 : Int) := dq; have q266 : x8_1 < (l0.length : Int) := dq; obtain ⟨ad266, e266, hx266_0⟩ := Kd.at_int HR0.out x8_1 p266 q266
       cases e266
       replace p266 := eq_true p266; replace q266 := eq_true q266; go_wp2
       go_ret
       exact ⟨rf, by repeat (first | exact Drawn0.refl _ | apply Drawn0.step)⟩
      ·
       rw [if_neg c6] at H; have c6b0 : (a1 == (rd l0 x8_1)) = false := beq_eq_false_iff_ne.mpr c6; have c6b1 : (a1 != (rd l0 x8_1)) = true := bne_iff_ne.mpr c6; have H' := A_ H; clear H; have p266 : 0 ≤ (x8_1 : Int) := dq; have q266 : x8_1 < (l0.length : Int) := dq; obtain ⟨ad266, e266, hx266_0⟩ := Kd.at_int HR0.out x8_1 p266 q266
       cases e266
       replace p266 := eq_true p266; replace q266 := eq_true q266; go_wp2
       go_roundg k1
       case measure => have := HK1.out; omega
       case rel => exact ⟨(wrap64 (x8_1 + 1)), rf, H', ⟨by have := HK1.out; omega⟩, by repeat (first | exact Drawn0.refl _ | apply Drawn0.step)⟩
     ·
      rw [if_neg c5] at H; exact absurd H (by simp)
    ·
     rw [if_neg c4] at H; exact absurd H (by simp)
   ·
    rw [if_neg c3] at H; have c3b0 := decide_eq_false c3; clear c3; obtain rfl := Option.some.inj H; go_wp2
    go_ret
    exact ⟨rf, by repeat (first | exact Drawn0.refl _ | apply Drawn0.step)⟩

/-! ### impl_Road_firstVisits: function 30 -/
def Q17.l0 : Nat → List Int → List Int → Int → Int → Option (List Int)
  | 0, _, _, _, _ => none
  | k + 1, x1, x5, x9, x10 => if x10 < x9 then ((Q33.f k x1 x10).bind fun t271 => (if x5.length < 17592186044416 then (Q17.l0 k x1 (x5 ++ [t271]) x9 (wrap64 (x10 + 1))) else (none))) else (some x5)
def Q17.f (k : Nat) (a0_0 : Int) (a0_1 : Bool) (l1 : List Int) : Option (List Int) := Q17.l0 k l1 (([] : List Int)) a0_0 0
set_option maxHeartbeats 8000000 in
set_option maxRecDepth 100000 in
theorem Q17.calls (k : Nat) (a0_0 : Int) (a0_1 : Bool) (A1 : Option Addr) (c1 : Nat) (l1 : List Int) (r : List Int) (w : World) (hr1 : Kd.C (Kd.int .i64) w A1 l1.length l1) (hc1 : l1.length ≤ c1) (h : Q17.f k a0_0 a0_1 l1 = some r) :
    Calls Try.prog 30 #[.agg #[.int .i64 a0_0, .bool a0_1], .slice A1 l1.length c1] w fun e w' => ∃ v0_ : Value, e = .returned (v0_) ∧ Kd.R (Kd.int .i64) 3 w' w.heap.size (fun _ => True) v0_ r ∧ Below w.heap.size w w' := by
 have hu25 := Try.underlying25; have HR1 := A_ hr1; have HC1 := A_ hc1; clear hr1 hc1; have HB := A_ (Below.refl w.heap.size w); have H : (Q17.l0 k l1 (([] : List Int)) a0_0 0) = some r := h; clear h
 obtain ⟨y268, hy268⟩ : ∃ y_ : List Int, y_ = (([] : List Int)) := ⟨_, rfl⟩
 replace H : (Q17.l0 k l1 y268 a0_0 0) = some r := by first | (rw [hy268]; with_reducible exact H) | (have H2_ := (Option.bind_some _ _).symm.trans H; rw [hy268]; with_reducible exact H2_) | (have H2_ := (Option.bind_some _ _).symm.trans H; with_reducible exact H2_) | with_reducible exact H | (rw [hy268]; exact H) | exact H
 have Ny268 := A_ hy268; clear hy268; have H' := A_ H; clear H; go_enter Try.func30, Try.ntmps30
 go_wp2_with (first | ((with_reducible refine gate_dst (N := 2) rfl ?_); refine bx (N := 2) #[.int .i64 a0_0, .bool a0_1] 25 ?_; intro gb267 hg w3 hbox hb; have BK267 := A_ (hbox); have GW267 := A_ (bs hg (hq HB) : w.heap.size ≤ gb267); have GE267 := A_ (bs hg (hq HB) : w.heap.size ≤ gb267); replace HB := A_ (below_step (hq HB) hb); clear hb hbox hg) | ((with_reducible refine gate_dst (N := 7) rfl ?_); refine Kd.R_lit (Kd.int .i64) _ 3 ?hg (N := 7) ?hd (xs := ([] : List Int)) (inner := []) (ok := fun _ => True) (okp := fun _ => True) ?hr ?hp (fun _ hk => hk) trivial (Below.refl _ _) (Nat.le_refl _) (by simp) ?_; (case hd => rfl); (case hg => rfl); (case hr => first | (go_simp; done) | (go_simp; rfl)); (case hp => exact (Reps.none _ _)); intro v269 w4 ho5 hb hg_ hnew_; clear hg_ hnew_; (first | rw [← Ny268.out] at ho5 | (simp only [Int.reduceToNat] at ho5; rw [← Ny268.out] at ho5)); have HO270 := A_ (Kd.R_lower ho5 (below_size (hq HB))); replace BK267 := A_ (blk_below (bq BK267) hb); replace HB := A_ (below_step (hq HB) hb); clear hb ho5; have hcz6_0 : w4.cell? ⟨gb267, 0, none⟩ = some (.int .i64 a0_0) := bc BK267 0; have hcz6_1 : w4.cell? ⟨gb267, 1, none⟩ = some (.bool a0_1) := bc BK267 1; have hfz6_0 := blk_frozen BK267.out 0; have hfz6_1 := blk_frozen BK267.out 1))
 go_loopg [5, 10] k (fun kq v5 v10 w' => ∃ (x5_1 : List Int) (x10_1 : Int), v10 = .int .i64 x10_1 ∧ Aside0 (Q17.l0 kq l1 x5_1 a0_0 x10_1 = some r) ∧ Aside0 (kq ≤ k) ∧ Aside0 (Kd.R (Kd.int .i64) 3 w' w.heap.size (fun _ => True) v5 x5_1) ∧ Aside0 (w'.heap[gb267]? = some (.cells #[.int .i64 a0_0, .bool a0_1] 25 (0, 0))) ∧ Aside0 (Below w.heap.size w w'))
 case atStart => exact ⟨(y268), (0), rf, H', ⟨Nat.le_refl _⟩, ⟨rq HO270⟩, ⟨bq BK267⟩, ⟨hq HB⟩⟩
 case round =>
  clear H'; (try clear hcz6_0); (try clear hcz6_1); (try clear hfz6_0); (try clear hfz6_1); obtain ⟨x5_1, x10_1, rfl, HA, HK1, HO_5, BK267, HB⟩ := hrel
  cases gk with
  | zero => exact absurd HA.out (by simp [Q17.l0])
  | succ k1 =>
   have H := HA.out; clear HA; simp only [Q17.l0] at H
   by_cases c7 : x10_1 < a0_0
   ·
    rw [if_pos c7] at H; have c7b0 := decide_eq_true c7; clear c7; replace H := bm H; obtain ⟨t271, A8, H⟩ := H; by_cases c9 : x5_1.length < 17592186044416
    ·
     rw [if_pos c9] at H; have LMc9 := A_ c9; clear c9
     obtain ⟨y272, hy272⟩ : ∃ y_ : List Int, y_ = (x5_1 ++ [t271]) := ⟨_, rfl⟩
     replace H : (Q17.l0 k1 l1 y272 a0_0 (wrap64 (x10_1 + 1))) = some r := by first | (rw [hy272]; with_reducible exact H) | (have H2_ := (Option.bind_some _ _).symm.trans H; rw [hy272]; with_reducible exact H2_) | (have H2_ := (Option.bind_some _ _).symm.trans H; with_reducible exact H2_) | with_reducible exact H | (rw [hy272]; exact H) | exact H
     have Ny272 := A_ hy272; clear hy272; have H' := A_ H; clear H; go_wp2_with (first | ((with_reducible refine gate_callee (f := 60) rfl ?_); refine gL (some 16) Try.func60 #[.slice A1 l1.length c1, .int .i64 x10_1] ?_; (with_reducible refine (Q33.calls k1 _ _ l1 x10_1 t271 _ ?side1 ?side2 A8.out).mono ?_); (case side1 => exact cq (Kd.C_below HR1.out HB.out)); (case side2 => exact HC1.out); rintro e w' ⟨rfl, ⟨nd, rfl⟩⟩; refine ⟨_, rfl, ?_⟩) | ((with_reducible refine gate_builtin (b := .append) (xs := #[.tmp 13, .tmp 17]) rfl ?_); at_builtin; refine Kd.R_append (Kd.int .i64) (w0 := w) w.heap.size rfl (.tmp 13) (.tmp 17) 26 3 (.int .i64 0) 8 rfl Try.underlying26 info3 rfl (by decide) (by omega) u5 x5_1 t271 [.int .i64 t271] (fun _ => True) (fun _ => False) rfl rfl ?aP (fun _ hk => hk.elim) ?aF ?aO ?aB ?aS ?aL ?_; (case aP => exact rfl); (case aB => exact (hq HB)); (case aF => exact (fun _ _ => trivial)); (case aO => exact (rq HO_5)); (case aS => exact (below_size (hq HB))); (case aL => have := LMc9.out; omega); intro v273 w10 ho hb hg hat; rw [← Ny272.out] at ho; have n0_ := A_ (blk_grown (g := gb267) (o := .cells #[.int .i64 a0_0, .bool a0_1] 25 (0, 0)) (bq BK267) hg (Kd.R_ne HO_5.out BK267.out (by decide))); have n1_ := A_ (hb); have n2_ := A_ (ho); clear BK267; clear HB; clear HO_5; have BK267 := n0_; have HB := n1_; have HO274 := n2_; clear n0_ n1_ n2_; clear ho hb hg hat))
     go_roundg k1
     case measure => have := HK1.out; omega
     case rel => exact ⟨(y272), (wrap64 (x10_1 + 1)), rf, H', ⟨by have := HK1.out; omega⟩, ⟨rq HO274⟩, ⟨bq BK267⟩, ⟨hq HB⟩⟩
    ·
     rw [if_neg c9] at H; exact absurd H (by simp)
   ·
    rw [if_neg c7] at H; have c7b0 := decide_eq_false c7; clear c7; obtain rfl := Option.some.inj H; go_wp2
    go_ret
    exact ⟨_, rt, rq HO_5, hq HB⟩

end Go.Proofs.Ytbjpfnpleajhgaa.PFnWalks
