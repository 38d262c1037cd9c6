-- Told shorter still by shrink2.py.
-- Printed, and told shorter by this session's program shrink.py.
-- Printed by this session's program myprint.py.
import Derived.Test.YtjhppcpjobofbabGreatPFnRunsx0
import Derived.Test.YtjhppcpjobofbabGreatPFnRunsx1
import Derived.Test.YtjhppcpjobofbabGreatPFnRunsx10
import Derived.Test.YtjhppcpjobofbabGreatPFnRunsx11
namespace Go.Proofs.YtjhppcpjobofbabGreat.PFnRuns
open Go.RowKit Go.Proofs.YtjhppcpjobofbabGreat.Own Go.Proofs.YtjhppcpjobofbabGreatW.PrintWords Go.Proofs.YtjhppcpjobofbabGreatW.PrintLast Go.Proofs.YtjhppcpjobofbabGreatW.PrintMore
attribute [local go_sem] max2_int min2_int max_two min_two max_three min_three max_four min_four   -- for this text's walks alone
set_option linter.unusedVariables false
set_option linter.unusedSimpArgs false

/-! ### spec_TourTime: function 71 -/
mutual
def Q5.l0 : Nat → Int → List Int → Int → Int → Bool → Option (Int × Bool)
  | 0, _, _, _, _, _ => none
  | k + 1, x1, x2, x8, x488000, x488001 => if x8 < (x2.length : Int) then (if 0 ≤ x8 then ((Q13.f x488000 x488001 (rd x2 x8)).bind fun t490 => (if t490 = true then (Q5.l0 k x1 x2 (wrap64 (x8 + 1)) x488000 x488001) else (some (0, false)))) else (none)) else (if x488001 = true then (Q5.l2 k x1 x2 x488000 0 x488000 x488001) else (Q5.l1 k x1 x2 0 0 0))
def Q5.l2 : Nat → Int → List Int → Int → Int → Int → Bool → Option (Int × Bool)
  | 0, _, _, _, _, _, _ => none
  | k + 1, x1, x2, x12, x13, x488000, x488001 => if x13 < x488000 then (Q5.l3 k x1 x2 x12 x13 0 0 x488000 x488001) else (some (x12, true))
def Q5.l3 : Nat → Int → List Int → Int → Int → Int → Int → Int → Bool → Option (Int × Bool)
  | 0, _, _, _, _, _, _, _, _ => none
  | k + 1, x1, x2, x12, x13, x14, x15, x488000, x488001 => if x15 < (x2.length : Int) then (if 0 ≤ x15 then ((Q58.f x488000 x488001 x1 (rd x2 x15)).bind fun t499 => (if t499 > x13 then ((Q31.f x14 (wrap64 (x488000 - t499))).bind fun t500 => (Q5.l3 k x1 x2 x12 x13 t500 (wrap64 (x15 + 1)) x488000 x488001)) else (Q5.l3 k x1 x2 x12 x13 x14 (wrap64 (x15 + 1)) x488000 x488001))) else (none)) else ((Q66.f x14 x13).bind fun t496 => ((Q37.f x12 t496).bind fun t497 => (Q5.l2 k x1 x2 t497 (wrap64 (x13 + 1)) x488000 x488001)))
def Q5.l1 : Nat → Int → List Int → Int → Int → Int → Option (Int × Bool)
  | 0, _, _, _, _, _ => none
  | k + 1, x1, x2, x9, x10, x11 => if x11 < (x2.length : Int) then (if 0 ≤ x11 then ((Q31.f x9 (wrap64 (x1 - (rd x2 x11)))).bind fun t492 => ((Q31.f x10 (wrap64 ((rd x2 x11) - x1))).bind fun t494 => (Q5.l1 k x1 x2 t492 t494 (wrap64 (x11 + 1))))) else (none)) else ((Q66.f x9 x10).bind fun t495 => (some (t495, true)))
end
def Q5.f (k : Nat) (a0_0 : Int) (a0_1 : Bool) (a1 : Int) (l2 : List Int) : Option (Int × Bool) := (Q13.f a0_0 a0_1 a1).bind fun t488 => (if t488 = true then (Q5.l0 k a1 l2 0 a0_0 a0_1) else (some (0, false)))
def Q5.T24 : Bool × List (List Nat × List Nat) := (true, [([], []), ([], []), ([], []), ([], []), ([2, 3], [2, 3]), ([4], [4]), ([0, 1, 5], [0, 1, 5]), ([6, 6, 0, 1, 2, 3, 4, 5, 6], [6])])
def Q5.B24 : List Nat := [0, 0, 0, 0, 12, 28, 63, 127]
theorem Q5.tab24 : rtab .any (opsOf Tryz.f71 24) = Q5.T24 := by kernel_rfl
theorem Q5.bits24 : waitsOk Q5.T24.2 Q5.B24 = true := by kernel_rfl
set_option maxHeartbeats 8000000 in
set_option maxRecDepth 100000 in
theorem Q5.calls (k : Nat) (a0_0 : Int) (a0_1 : Bool) (a1 : Int) (A2 : Option Addr) (c2 : Nat) (l2 : List Int) (r1 : Int) (r2 : Bool) (w : World) (hr2 : Kd.C (Kd.int .i64) w A2 l2.length l2) (hc2 : l2.length ≤ c2) (h : Q5.f k a0_0 a0_1 a1 l2 = some (r1, r2)) :
    Calls Tryz.prog 71 #[.agg #[.int .i64 a0_0, .bool a0_1], .int .i64 a1, .slice A2 l2.length c2] w fun e w' => e = .returned (.tuple #[.int .i64 r1, .bool r2]) ∧ Below w.heap.size w w' := by
 have hu25 := Tryz.underlying25; have HR2 := A_ hr2; have HC2 := A_ hc2; clear hr2 hc2; have HB := A_ (Below.refl w.heap.size w); have H : ((Q13.f a0_0 a0_1 a1).bind fun t488 => (if t488 = true then (Q5.l0 k a1 l2 0 a0_0 a0_1) else (some (0, false)))) = some (r1, r2) := h; clear h; replace H := bm H; obtain ⟨t488, A4, H⟩ := H; by_cases c5 : t488 = true
 ·
  subst c5
  have H1 : (Q5.l0 k a1 l2 0 a0_0 a0_1) = some (r1, r2) := by rw [if_pos rfl] at H; exact H
  clear H; have H := H1; clear H1; have H' := A_ H; clear H; go_enter Tryz.func71, Tryz.ntmps71
  go_wp2_with (first | ((with_reducible refine gate_dst (N := 3) rfl ?_); refine bx (N := 3) #[.int .i64 a0_0, .bool a0_1] 25 ?_; intro gb487 hg w6 hbox hb; have BK487 := A_ (hbox); have GW487 := A_ (bs hg (hq HB) : w.heap.size ≤ gb487); have GE487 := A_ (bs hg (hq HB) : w.heap.size ≤ gb487); replace HB := A_ (below_step (hq HB) hb); clear hb hbox hg; obtain ⟨hcz7_0, hcz7_1, hfz7_0, hfz7_1⟩ := zc4 BK487) | ((with_reducible refine gate_callee (f := 36) rfl ?_); refine gL (some 19) Tryz.func36 #[.agg #[.int .i64 a0_0, .bool a0_1], .int .i64 a1] ?_; (with_reducible refine (Q13.calls a0_0 a0_1 a1 true _ A4.out).mono ?_); rintro e w8 ⟨rfl, hb⟩; refine ⟨_, rfl, ?_⟩; replace BK487 := A_ (blk_below (bq BK487) hb); replace HB := A_ (below_step (hq HB) hb); clear hb))
  go_loopg [8] k (fun kq v8 w' => ∃ (x8_1 : Int), v8 = .int .i64 x8_1 ∧ Aside0 (Q5.l0 kq a1 l2 x8_1 a0_0 a0_1 = some (r1, r2)) ∧ Aside0 (kq ≤ k) ∧ Aside0 (w'.heap[gb487]? = some (.cells #[.int .i64 a0_0, .bool a0_1] 25 (0, 0))) ∧ Aside0 (Below w.heap.size w w'))
  case atStart => exact ⟨(0), rf, H', ⟨Nat.le_refl _⟩, ⟨bq BK487⟩, ⟨hq HB⟩⟩
  case round =>
   clear H'; (try clear c5); (try clear hcz7_0); (try clear hcz7_1); (try clear hfz7_0); (try clear hfz7_1); obtain ⟨x8_1, rfl, HA, HK1, BK487, HB⟩ := hrel
   cases gk with
   | zero => exact absurd HA.out (by simp [Q5.l0])
   | succ k1 =>
    have H := HA.out; clear HA; simp only [Q5.l0] at H
    by_cases c9 : x8_1 < (l2.length : Int)
    ·
     rw [if_pos c9] at H; have c9b0 := decide_eq_true c9; clear c9; by_cases c10 : 0 ≤ x8_1
     ·
      rw [if_pos c10] at H; have c10b0 := decide_eq_true c10; clear c10; replace H := bm H; obtain ⟨t490, A11, H⟩ := H; by_cases c12 : t490 = true
      ·
       subst c12
       have H1 : (Q5.l0 k1 a1 l2 (wrap64 (x8_1 + 1)) a0_0 a0_1) = some (r1, r2) := by rw [if_pos rfl] at H; exact H
       clear H; have H := H1; clear H1; have H' := A_ H; clear H; try go_wp2
       replace BK487 := A_ (blk_drew BK487.out); replace HB := A_ (below_drew1 HB.out); have p489 : 0 ≤ (x8_1 : Int) := dq; have q489 : x8_1 < (l2.length : Int) := dq; obtain ⟨ad489, e489, hx489_0⟩ := Kd.at_int HR2.out x8_1 p489 q489; have hw489_0 := hx489_0
       cases e489
       replace hx489_0 := (HB.out.cell (World.block_lt_of_cell? w _ hx489_0)).trans hx489_0; replace p489 := eq_true p489; replace q489 := eq_true q489; refine start_ (n := 7) (S := fun w' => w'.cell? ⟨gb487, 0, none⟩ = some (.int .i64 a0_0) ∧ w'.cell? ⟨gb487, 1, none⟩ = some (.bool a0_1) ∧ w'.cell? (ad489.add (x8_1).toNat) = some (.int .i64 (rd l2 x8_1))) (ds := []) (bA 7 0) (by kernel_rfl) rfl rfl ⟨bc BK487 0, bc BK487 1, ((HB.out.cell (World.block_lt_of_cell? w _ hw489_0)).trans hw489_0)⟩ (fun hHeld => ?_); generalize wr.drew = w13 at BK487 HB hx489_0 hHeld ⊢; refine pu (i := 1) (N := some 28) (bA 7 2) ?_; refine pu (i := 2) (N := some 29) (bA 7 6) ?_; refine pu (i := 3) (N := some 30) (bA 7 14) ?_; refine tk (i := 0) (N := some 27) hHeld (bA 7 15) ?_; refine tk (i := 4) (N := some 31) hHeld (bA 7 31) ?_; refine on (i := 5) (N := some 32) (bA 7 63) (fun K hK => ?_); refine go_ Tryz.func36 #[.agg #[.int .i64 a0_0, .bool a0_1], .int .i64 (rd l2 x8_1)] ?_; with_reducible refine (Q13.calls a0_0 a0_1 (rd l2 x8_1) true _ A11.out).mono ?_
       rintro e w14 ⟨rfl, hb⟩; refine ⟨_, rfl, ?_⟩; replace BK487 := A_ (blk_below (bq BK487) hb); replace HB := A_ (below_step (hq HB) hb); clear hb; refine hK.out _ _ ⟨bc BK487 0, bc BK487 1, ((HB.out.cell (World.block_lt_of_cell? w _ hw489_0)).trans hw489_0)⟩ (fun hHeld => ?_); clear hK K; refine nq_ (some 32) ?_; refine pu (i := 6) (N := some 33) (bA 7 127) ?_; refine done_ (by kernel_rfl) ?_; try go_wp2
       go_roundg k1
       case measure => have := HK1.out; omega
       case rel => exact ⟨(wrap64 (x8_1 + 1)), rf, H', ⟨by have := HK1.out; omega⟩, ⟨bq BK487⟩, ⟨hq HB⟩⟩
      ·
       replace c12 := Bool.eq_false_iff.mpr c12; subst c12
       have H1 : (some (0, false)) = some (r1, r2) := by rw [if_neg (show ¬ (false = true) by decide)] at H; exact H
       clear H; have H := H1; clear H1; simp only [Option.some.injEq, Prod.mk.injEq] at H
       obtain ⟨rfl, rfl⟩ := H; try go_wp2
       replace BK487 := A_ (blk_drew BK487.out); replace HB := A_ (below_drew1 HB.out); have p489 : 0 ≤ (x8_1 : Int) := dq; have q489 : x8_1 < (l2.length : Int) := dq; obtain ⟨ad489, e489, hx489_0⟩ := Kd.at_int HR2.out x8_1 p489 q489; have hw489_0 := hx489_0
       cases e489
       replace hx489_0 := (HB.out.cell (World.block_lt_of_cell? w _ hx489_0)).trans hx489_0; replace p489 := eq_true p489; replace q489 := eq_true q489; refine start_ (n := 7) (S := fun w' => w'.cell? ⟨gb487, 0, none⟩ = some (.int .i64 a0_0) ∧ w'.cell? ⟨gb487, 1, none⟩ = some (.bool a0_1) ∧ w'.cell? (ad489.add (x8_1).toNat) = some (.int .i64 (rd l2 x8_1))) (ds := []) (bA 7 0) (by kernel_rfl) rfl rfl ⟨bc BK487 0, bc BK487 1, ((HB.out.cell (World.block_lt_of_cell? w _ hw489_0)).trans hw489_0)⟩ (fun hHeld => ?_); generalize wr.drew = w15 at BK487 HB hx489_0 hHeld ⊢; refine pu (i := 1) (N := some 28) (bA 7 2) ?_; refine pu (i := 2) (N := some 29) (bA 7 6) ?_; refine pu (i := 3) (N := some 30) (bA 7 14) ?_; refine tk (i := 0) (N := some 27) hHeld (bA 7 15) ?_; refine tk (i := 4) (N := some 31) hHeld (bA 7 31) ?_; refine on (i := 5) (N := some 32) (bA 7 63) (fun K hK => ?_); refine go_ Tryz.func36 #[.agg #[.int .i64 a0_0, .bool a0_1], .int .i64 (rd l2 x8_1)] ?_; with_reducible refine (Q13.calls a0_0 a0_1 (rd l2 x8_1) false _ A11.out).mono ?_
       rintro e w16 ⟨rfl, hb⟩; refine ⟨_, rfl, ?_⟩; replace BK487 := A_ (blk_below (bq BK487) hb); replace HB := A_ (below_step (hq HB) hb); clear hb; refine hK.out _ _ ⟨bc BK487 0, bc BK487 1, ((HB.out.cell (World.block_lt_of_cell? w _ hw489_0)).trans hw489_0)⟩ (fun hHeld => ?_); clear hK K; refine nq_ (some 32) ?_; refine pu (i := 6) (N := some 33) (bA 7 127) ?_; refine done_ (by kernel_rfl) ?_; try go_wp2
       go_ret2
       exact ⟨rt, hq HB⟩
     ·
      rw [if_neg c10] at H; exact absurd H (by simp)
    ·
     rw [if_neg c9] at H; have c9b0 := decide_eq_false c9; clear c9; by_cases c17 : a0_1 = true
     ·
      subst c17
      have H1 : (Q5.l2 k1 a1 l2 a0_0 0 a0_0 true) = some (r1, r2) := by rw [if_pos rfl] at H; exact H
      clear H; have H := H1; clear H1; have H' := A_ H; clear H; obtain ⟨hcz18_0, hcz18_1, hfz18_0, hfz18_1⟩ := zc4 BK487; go_wp2
      go_loopg [12, 13] k1 (fun kq v12 v13 w' => ∃ (x12_2 : Int) (x13_2 : Int), v12 = .int .i64 x12_2 ∧ v13 = .int .i64 x13_2 ∧ Aside0 (Q5.l2 kq a1 l2 x12_2 x13_2 a0_0 true = some (r1, r2)) ∧ Aside0 (kq ≤ k1) ∧ Aside0 (w'.heap[gb487]? = some (.cells #[.int .i64 a0_0, .bool true] 25 (0, 0))) ∧ Aside0 (Below w.heap.size w w'))
      case atStart => exact ⟨(a0_0), (0), rf, rf, H', ⟨Nat.le_refl _⟩, ⟨bq BK487⟩, ⟨hq HB⟩⟩
      case round =>
       clear H'; (try clear c5); (try clear c9); (try clear c9b0); (try clear c10); (try clear c10b0); (try clear c12); (try clear c17); (try clear hcz18_0); (try clear hcz18_1); (try clear hcz7_0); (try clear hcz7_1); (try clear hfz18_0); (try clear hfz18_1); (try clear hfz7_0); (try clear hfz7_1); (try clear hx489_0); (try clear p489); (try clear q489); obtain ⟨x12_2, x13_2, rfl, rfl, HA, HK2, BK487, HB⟩ := hrel
       cases gk with
       | zero => exact absurd HA.out (by simp [Q5.l2])
       | succ k2 =>
        have H := HA.out; clear HA; simp only [Q5.l2] at H
        by_cases c19 : x13_2 < a0_0
        ·
         rw [if_pos c19] at H; have c19b0 := decide_eq_true c19; clear c19; have H' := A_ H; clear H; obtain ⟨hcz20_0, hcz20_1, hfz20_0, hfz20_1⟩ := zc4 BK487; go_wp2
         go_loopg [14, 15] k2 (fun kq v14 v15 w' => ∃ (x14_3 : Int) (x15_3 : Int), v14 = .int .i64 x14_3 ∧ v15 = .int .i64 x15_3 ∧ Aside0 (Q5.l3 kq a1 l2 x12_2 x13_2 x14_3 x15_3 a0_0 true = some (r1, r2)) ∧ Aside0 (kq ≤ k2) ∧ Aside0 (w'.heap[gb487]? = some (.cells #[.int .i64 a0_0, .bool true] 25 (0, 0))) ∧ Aside0 (Below w.heap.size w w'))
         case atStart => exact ⟨(0), (0), rf, rf, H', ⟨Nat.le_refl _⟩, ⟨bq BK487⟩, ⟨hq HB⟩⟩
         case round =>
          clear H'; (try clear c5); (try clear c9); (try clear c9b0); (try clear c10); (try clear c10b0); (try clear c12); (try clear c17); (try clear c19); (try clear c19b0); (try clear hcz18_0); (try clear hcz18_1); (try clear hcz20_0); (try clear hcz20_1); (try clear hcz7_0); (try clear hcz7_1); (try clear hfz18_0); (try clear hfz18_1); (try clear hfz20_0); (try clear hfz20_1); (try clear hfz7_0); (try clear hfz7_1); (try clear hx489_0); (try clear p489); (try clear q489); obtain ⟨x14_3, x15_3, rfl, rfl, HA, HK3, BK487, HB⟩ := hrel
          cases gk with
          | zero => exact absurd HA.out (by simp [Q5.l3])
          | succ k3 =>
           have H := HA.out; clear HA; simp only [Q5.l3] at H
           by_cases c21 : x15_3 < (l2.length : Int)
           ·
            rw [if_pos c21] at H; have c21b0 := decide_eq_true c21; clear c21; by_cases c22 : 0 ≤ x15_3
            ·
             rw [if_pos c22] at H; have c22b0 := decide_eq_true c22; clear c22; replace H := bm H; obtain ⟨t499, A23, H⟩ := H; by_cases c24 : t499 > x13_2
             ·
              rw [if_pos c24] at H; have c24b0 : decide (x13_2 < t499) = true := decide_eq_true c24; clear c24; replace H := bm H; obtain ⟨t500, A25, H⟩ := H; have H' := A_ H; clear H; try go_wp2
              replace BK487 := A_ (blk_drew BK487.out); replace HB := A_ (below_drew1 HB.out); have p498 : 0 ≤ (x15_3 : Int) := dq; have q498 : x15_3 < (l2.length : Int) := dq; obtain ⟨ad498, e498, hx498_0⟩ := Kd.at_int HR2.out x15_3 p498 q498; have hw498_0 := hx498_0
              cases e498
              replace hx498_0 := (HB.out.cell (World.block_lt_of_cell? w _ hx498_0)).trans hx498_0; replace p498 := eq_true p498; replace q498 := eq_true q498; refine start_ (n := 8) (S := fun w' => w'.cell? ⟨gb487, 0, none⟩ = some (.int .i64 a0_0) ∧ w'.cell? ⟨gb487, 1, none⟩ = some (.bool true) ∧ w'.cell? (ad498.add (x15_3).toNat) = some (.int .i64 (rd l2 x15_3))) (ds := []) (bA 8 0) (by kernel_rfl) rfl rfl ⟨bc BK487 0, bc BK487 1, ((HB.out.cell (World.block_lt_of_cell? w _ hw498_0)).trans hw498_0)⟩ (fun hHeld => ?_); refine with_tabW Q5.tab24 Q5.bits24 (fun HT_ HW_ => ?_); generalize wr.drew = w26 at BK487 HB hx498_0 hHeld ⊢; refine puT (i := 1) (N := some 77) HT_ (bA 8 2) ?_; refine puT (i := 2) (N := some 78) HT_ (bA 8 6) ?_; refine puT (i := 3) (N := some 79) HT_ (bA 8 14) ?_; refine puT (i := 4) (N := some 80) HT_ (bA 8 30) ?_; refine tkT (i := 0) (N := some 76) HT_ HW_ hHeld (bA 8 31) ?_; refine tkT (i := 5) (N := some 81) HT_ HW_ hHeld (bA 8 63) ?_; refine onT (i := 6) (N := some 82) HT_ (bA 8 127) (fun K hK => ?_); refine go_ Tryz.func85 #[.agg #[.int .i64 a0_0, .bool true], .int .i64 a1, .int .i64 (rd l2 x15_3)] ?_; with_reducible refine (Q58.calls a0_0 true a1 (rd l2 x15_3) t499 _ A23.out).mono ?_
              rintro e w27 ⟨rfl, hb⟩; refine ⟨_, rfl, ?_⟩; replace BK487 := A_ (blk_below (bq BK487) hb); replace HB := A_ (below_step (hq HB) hb); clear hb; refine hK.out _ _ ⟨bc BK487 0, bc BK487 1, ((HB.out.cell (World.block_lt_of_cell? w _ hw498_0)).trans hw498_0)⟩ (fun hHeld => ?_); clear hK K; refine nq_ (some 82) ?_; refine puT (i := 7) (N := some 16) HT_ (bA 8 255) ?_; refine done_ (done_of HT_.out (by kernel_rfl)) ?_; obtain ⟨hcz28_0, hcz28_1, hfz28_0, hfz28_1⟩ := zc4 BK487; try go_wp2_with (first | ((with_reducible refine gate_callee (f := 51) rfl ?_); refine gL (some 91) Tryz.func51 #[.int .i64 x14_3, .int .i64 (wrap64 (a0_0 - t499))] ?_; (with_reducible refine (Q31.calls x14_3 (wrap64 (a0_0 - t499)) t500 _ A25.out).mono ?_); rintro e w' ⟨rfl, ⟨nd, rfl⟩⟩; refine ⟨_, rfl, ?_⟩))
              go_roundg k3
              case measure => have := HK1.out; have := HK2.out; have := HK3.out; omega
              case rel => exact ⟨(t500), (wrap64 (x15_3 + 1)), rf, rf, H', ⟨by have := HK1.out; have := HK2.out; have := HK3.out; omega⟩, ⟨bq BK487⟩, ⟨hq HB⟩⟩
             ·
              rw [if_neg c24] at H; have c24b0 : decide (x13_2 < t499) = false := decide_eq_false c24; clear c24; have H' := A_ H; clear H; try go_wp2
              replace BK487 := A_ (blk_drew BK487.out); replace HB := A_ (below_drew1 HB.out); have p498 : 0 ≤ (x15_3 : Int) := dq; have q498 : x15_3 < (l2.length : Int) := dq; obtain ⟨ad498, e498, hx498_0⟩ := Kd.at_int HR2.out x15_3 p498 q498; have hw498_0 := hx498_0
              cases e498
              replace hx498_0 := (HB.out.cell (World.block_lt_of_cell? w _ hx498_0)).trans hx498_0; replace p498 := eq_true p498; replace q498 := eq_true q498; refine start_ (n := 8) (S := fun w' => w'.cell? ⟨gb487, 0, none⟩ = some (.int .i64 a0_0) ∧ w'.cell? ⟨gb487, 1, none⟩ = some (.bool true) ∧ w'.cell? (ad498.add (x15_3).toNat) = some (.int .i64 (rd l2 x15_3))) (ds := []) (bA 8 0) (by kernel_rfl) rfl rfl ⟨bc BK487 0, bc BK487 1, ((HB.out.cell (World.block_lt_of_cell? w _ hw498_0)).trans hw498_0)⟩ (fun hHeld => ?_); refine with_tabW Q5.tab24 Q5.bits24 (fun HT_ HW_ => ?_); generalize wr.drew = w29 at BK487 HB hx498_0 hHeld ⊢; refine puT (i := 1) (N := some 77) HT_ (bA 8 2) ?_; refine puT (i := 2) (N := some 78) HT_ (bA 8 6) ?_; refine puT (i := 3) (N := some 79) HT_ (bA 8 14) ?_; refine puT (i := 4) (N := some 80) HT_ (bA 8 30) ?_; refine tkT (i := 0) (N := some 76) HT_ HW_ hHeld (bA 8 31) ?_; refine tkT (i := 5) (N := some 81) HT_ HW_ hHeld (bA 8 63) ?_; refine onT (i := 6) (N := some 82) HT_ (bA 8 127) (fun K hK => ?_); refine go_ Tryz.func85 #[.agg #[.int .i64 a0_0, .bool true], .int .i64 a1, .int .i64 (rd l2 x15_3)] ?_; with_reducible refine (Q58.calls a0_0 true a1 (rd l2 x15_3) t499 _ A23.out).mono ?_
              rintro e w30 ⟨rfl, hb⟩; refine ⟨_, rfl, ?_⟩; replace BK487 := A_ (blk_below (bq BK487) hb); replace HB := A_ (below_step (hq HB) hb); clear hb; refine hK.out _ _ ⟨bc BK487 0, bc BK487 1, ((HB.out.cell (World.block_lt_of_cell? w _ hw498_0)).trans hw498_0)⟩ (fun hHeld => ?_); clear hK K; refine nq_ (some 82) ?_; refine puT (i := 7) (N := some 16) HT_ (bA 8 255) ?_; refine done_ (done_of HT_.out (by kernel_rfl)) ?_; try go_wp2
              go_roundg k3
              case measure => have := HK1.out; have := HK2.out; have := HK3.out; omega
              case rel => exact ⟨(x14_3), (wrap64 (x15_3 + 1)), rf, rf, H', ⟨by have := HK1.out; have := HK2.out; have := HK3.out; omega⟩, ⟨bq BK487⟩, ⟨hq HB⟩⟩
            ·
             rw [if_neg c22] at H; exact absurd H (by simp)
           ·
            rw [if_neg c21] at H; have c21b0 := decide_eq_false c21; clear c21; replace H := bm H; obtain ⟨t496, A31, H⟩ := H; replace H := bm H; obtain ⟨t497, A32, H⟩ := H; have H' := A_ H; clear H; go_wp2_with (first | ((with_reducible refine gate_callee (f := 86) rfl ?_); refine gL (some 95) Tryz.func86 #[.int .i64 x14_3, .int .i64 x13_2] ?_; (with_reducible refine (Q66.calls x14_3 x13_2 t496 _ A31.out).mono ?_); rintro e w' ⟨rfl, ⟨nd, rfl⟩⟩; refine ⟨_, rfl, ?_⟩) | ((with_reducible refine gate_callee (f := 47) rfl ?_); refine gL (some 96) Tryz.func47 #[.int .i64 x12_2, .int .i64 t496] ?_; (with_reducible refine (Q37.calls x12_2 t496 t497 _ A32.out).mono ?_); rintro e w' ⟨rfl, ⟨nd, rfl⟩⟩; refine ⟨_, rfl, ?_⟩))
            go_roundg k3
            case measure => have := HK1.out; have := HK2.out; have := HK3.out; omega
            case rel => exact ⟨(t497), (wrap64 (x13_2 + 1)), rf, rf, H', ⟨by have := HK1.out; have := HK2.out; have := HK3.out; omega⟩, ⟨bq BK487⟩, ⟨hq HB⟩⟩
        ·
         rw [if_neg c19] at H; have c19b0 := decide_eq_false c19; clear c19; simp only [Option.some.injEq, Prod.mk.injEq] at H
         obtain ⟨rfl, rfl⟩ := H; obtain ⟨hcz33_0, hcz33_1, hfz33_0, hfz33_1⟩ := zc4 BK487; go_wp2
         go_ret2
         exact ⟨rt, hq HB⟩
     ·
      replace c17 := Bool.eq_false_iff.mpr c17; subst c17
      have H1 : (Q5.l1 k1 a1 l2 0 0 0) = some (r1, r2) := by rw [if_neg (show ¬ (false = true) by decide)] at H; exact H
      clear H; have H := H1; clear H1; have H' := A_ H; clear H; obtain ⟨hcz34_0, hcz34_1, hfz34_0, hfz34_1⟩ := zc4 BK487; go_wp2
      go_loopg [9, 10, 11] k1 (fun kq v9 v10 v11 w' => ∃ (x9_2 : Int) (x10_2 : Int) (x11_2 : Int), v9 = .int .i64 x9_2 ∧ v10 = .int .i64 x10_2 ∧ v11 = .int .i64 x11_2 ∧ Aside0 (Q5.l1 kq a1 l2 x9_2 x10_2 x11_2 = some (r1, r2)) ∧ Aside0 (kq ≤ k1) ∧ Aside0 (w'.heap[gb487]? = some (.cells #[.int .i64 a0_0, .bool false] 25 (0, 0))) ∧ Aside0 (Below w.heap.size w w'))
      case atStart => exact ⟨(0), (0), (0), rf, rf, rf, H', ⟨Nat.le_refl _⟩, ⟨bq BK487⟩, ⟨hq HB⟩⟩
      case round =>
       clear H'; (try clear c5); (try clear c9); (try clear c9b0); (try clear c10); (try clear c10b0); (try clear c12); (try clear c17); (try clear c19); (try clear c19b0); (try clear c21); (try clear c21b0); (try clear c22); (try clear c22b0); (try clear c24); (try clear c24b0); (try clear hcz18_0); (try clear hcz18_1); (try clear hcz20_0); (try clear hcz20_1); (try clear hcz28_0); (try clear hcz28_1); (try clear hcz33_0); (try clear hcz33_1); (try clear hcz34_0); (try clear hcz34_1); (try clear hcz7_0); (try clear hcz7_1); (try clear hfz18_0); (try clear hfz18_1); (try clear hfz20_0); (try clear hfz20_1); (try clear hfz28_0); (try clear hfz28_1); (try clear hfz33_0); (try clear hfz33_1); (try clear hfz34_0); (try clear hfz34_1); (try clear hfz7_0); (try clear hfz7_1); (try clear hx489_0); (try clear hx498_0); (try clear p489); (try clear p498); (try clear q489); (try clear q498); obtain ⟨x9_2, x10_2, x11_2, rfl, rfl, rfl, HA, HK2, BK487, HB⟩ := hrel
       cases gk with
       | zero => exact absurd HA.out (by simp [Q5.l1])
       | succ k2 =>
        have H := HA.out; clear HA; simp only [Q5.l1] at H
        by_cases c35 : x11_2 < (l2.length : Int)
        ·
         rw [if_pos c35] at H; have c35b0 := decide_eq_true c35; clear c35; by_cases c36 : 0 ≤ x11_2
         ·
          rw [if_pos c36] at H; have c36b0 := decide_eq_true c36; clear c36; replace H := bm H; obtain ⟨t492, A37, H⟩ := H; replace H := bm H; obtain ⟨t494, A38, H⟩ := H; have H' := A_ H; clear H; have p491 : 0 ≤ (x11_2 : Int) := dq; have q491 : x11_2 < (l2.length : Int) := dq; obtain ⟨ad491, e491, hx491_0⟩ := Kd.at_int HR2.out x11_2 p491 q491
          cases e491
          replace hx491_0 := (HB.out.cell (World.block_lt_of_cell? w _ hx491_0)).trans hx491_0; replace p491 := eq_true p491; replace q491 := eq_true q491; go_wp2_with (first | ((with_reducible refine gate_callee (f := 51) rfl ?_); refine gL (some 50) Tryz.func51 #[.int .i64 x9_2, .int .i64 (wrap64 (a1 - (rd l2 x11_2)))] ?_; (with_reducible refine (Q31.calls x9_2 (wrap64 (a1 - (rd l2 x11_2))) t492 _ A37.out).mono ?_); rintro e w' ⟨rfl, ⟨nd, rfl⟩⟩; refine ⟨_, rfl, ?_⟩; have p493 : 0 ≤ (x11_2 : Int) := dq; have q493 : x11_2 < (l2.length : Int) := dq; obtain ⟨ad493, e493, hx493_0⟩ := Kd.at_int HR2.out x11_2 p493 q493; obtain rfl : ad491 = ad493 := (by injection e493); replace hx493_0 := (HB.out.cell (World.block_lt_of_cell? w _ hx493_0)).trans hx493_0; replace p493 := eq_true p493; replace q493 := eq_true q493) | ((with_reducible refine gate_callee (f := 51) rfl ?_); refine gL (some 58) Tryz.func51 #[.int .i64 x10_2, .int .i64 (wrap64 ((rd l2 x11_2) - a1))] ?_; (with_reducible refine (Q31.calls x10_2 (wrap64 ((rd l2 x11_2) - a1)) t494 _ A38.out).mono ?_); rintro e w' ⟨rfl, ⟨nd, rfl⟩⟩; refine ⟨_, rfl, ?_⟩))
          go_roundg k2
          case measure => have := HK1.out; have := HK2.out; omega
          case rel => exact ⟨(t492), (t494), (wrap64 (x11_2 + 1)), rf, rf, rf, H', ⟨by have := HK1.out; have := HK2.out; omega⟩, ⟨bq BK487⟩, ⟨hq HB⟩⟩
         ·
          rw [if_neg c36] at H; exact absurd H (by simp)
        ·
         rw [if_neg c35] at H; have c35b0 := decide_eq_false c35; clear c35; replace H := bm H; obtain ⟨t495, A39, H⟩ := H; simp only [Option.some.injEq, Prod.mk.injEq] at H
         obtain ⟨rfl, rfl⟩ := H; go_wp2_with (first | ((with_reducible refine gate_callee (f := 86) rfl ?_); refine gL (some 61) Tryz.func86 #[.int .i64 x9_2, .int .i64 x10_2] ?_; (with_reducible refine (Q66.calls x9_2 x10_2 t495 _ A39.out).mono ?_); rintro e w' ⟨rfl, ⟨nd, rfl⟩⟩; refine ⟨_, rfl, ?_⟩))
         go_ret2
         exact ⟨rt, hq HB⟩
 ·
  replace c5 := Bool.eq_false_iff.mpr c5; subst c5
  have H1 : (some (0, false)) = some (r1, r2) := by rw [if_neg (show ¬ (false = true) by decide)] at H; exact H
  clear H; have H := H1; clear H1; simp only [Option.some.injEq, Prod.mk.injEq] at H
  obtain ⟨rfl, rfl⟩ := H; go_enter Tryz.func71, Tryz.ntmps71
  go_wp2_with (first | ((with_reducible refine gate_dst (N := 3) rfl ?_); refine bx (N := 3) #[.int .i64 a0_0, .bool a0_1] 25 ?_; intro gb487 hg w40 hbox hb; have BK487 := A_ (hbox); have GW487 := A_ (bs hg (hq HB) : w.heap.size ≤ gb487); have GE487 := A_ (bs hg (hq HB) : w.heap.size ≤ gb487); replace HB := A_ (below_step (hq HB) hb); clear hb hbox hg; obtain ⟨hcz41_0, hcz41_1, hfz41_0, hfz41_1⟩ := zc4 BK487) | ((with_reducible refine gate_callee (f := 36) rfl ?_); refine gL (some 19) Tryz.func36 #[.agg #[.int .i64 a0_0, .bool a0_1], .int .i64 a1] ?_; (with_reducible refine (Q13.calls a0_0 a0_1 a1 false _ A4.out).mono ?_); rintro e w42 ⟨rfl, hb⟩; refine ⟨_, rfl, ?_⟩; replace BK487 := A_ (blk_below (bq BK487) hb); replace HB := A_ (below_step (hq HB) hb); clear hb))
  go_ret2
  exact ⟨rt, hq HB⟩

end Go.Proofs.YtjhppcpjobofbabGreat.PFnRuns
