-- Told shorter still by shrink2.py.
-- Printed, and told shorter by this session's program shrink.py.
-- Printed by this session's program myprint.py.
import Derived.Test.YtjhppcpjobofbaaGreatPFnExplorersx0
import Derived.Test.YtjhppcpjobofbaaGreatPFnExplorersx1
import Derived.Test.YtjhppcpjobofbaaGreatPFnExplorersx8
import Derived.Test.YtjhppcpjobofbaaGreatPFnExplorersx10
namespace Go.Proofs.YtjhppcpjobofbaaGreat.PFnExplorers
open Go.RowKit Go.Proofs.YtjhppcpjobofbaaGreat.Own Go.Proofs.YtjhppcpjobofbaaGreatW.PrintWords Go.Proofs.YtjhppcpjobofbaaGreatW.PrintLast Go.Proofs.YtjhppcpjobofbaaGreatW.PrintMore
attribute [local go_sem] max2_int min2_int max_two min_two max_three min_three max_four min_four   -- for this text's walks alone
set_option linter.unusedVariables false
set_option linter.unusedSimpArgs false

/-! ### spec_TourTime: function 82 -/
mutual
def Q1.l0 : Nat → Int → List Int → Int → Int → Bool → Option (Int × Bool)
  | 0, _, _, _, _, _ => none
  | k + 1, x1, x2, x8, x432000, x432001 => if x8 < (x2.length : Int) then (if 0 ≤ x8 then ((Q43.f x432000 x432001 (rd x2 x8)).bind fun t434 => (if t434 = true then (Q1.l0 k x1 x2 (wrap64 (x8 + 1)) x432000 x432001) else (some (0, false)))) else (none)) else (if x432001 = true then (Q1.l2 k x1 x2 x432000 0 x432000 x432001) else (Q1.l1 k x1 x2 0 0 0))
def Q1.l2 : Nat → Int → List Int → Int → Int → Int → Bool → Option (Int × Bool)
  | 0, _, _, _, _, _, _ => none
  | k + 1, x1, x2, x12, x13, x432000, x432001 => if x13 < x432000 then (Q1.l3 k x1 x2 x12 x13 0 0 x432000 x432001) else (some (x12, true))
def Q1.l3 : Nat → Int → List Int → Int → Int → Int → Int → Int → Bool → Option (Int × Bool)
  | 0, _, _, _, _, _, _, _, _ => none
  | k + 1, x1, x2, x12, x13, x14, x15, x432000, x432001 => if x15 < (x2.length : Int) then (if 0 ≤ x15 then ((Q52.f x432000 x432001 x1 (rd x2 x15)).bind fun t443 => (if t443 > x13 then ((Q14.f x14 (wrap64 (x432000 - t443))).bind fun t444 => (Q1.l3 k x1 x2 x12 x13 t444 (wrap64 (x15 + 1)) x432000 x432001)) else (Q1.l3 k x1 x2 x12 x13 x14 (wrap64 (x15 + 1)) x432000 x432001))) else (none)) else ((Q67.f x14 x13).bind fun t440 => ((Q22.f x12 t440).bind fun t441 => (Q1.l2 k x1 x2 t441 (wrap64 (x13 + 1)) x432000 x432001)))
def Q1.l1 : Nat → Int → List Int → Int → Int → Int → Option (Int × Bool)
  | 0, _, _, _, _, _ => none
  | k + 1, x1, x2, x9, x10, x11 => if x11 < (x2.length : Int) then (if 0 ≤ x11 then ((Q14.f x9 (wrap64 (x1 - (rd x2 x11)))).bind fun t436 => ((Q14.f x10 (wrap64 ((rd x2 x11) - x1))).bind fun t438 => (Q1.l1 k x1 x2 t436 t438 (wrap64 (x11 + 1))))) else (none)) else ((Q67.f x9 x10).bind fun t439 => (some (t439, true)))
end
def Q1.f (k : Nat) (a0_0 : Int) (a0_1 : Bool) (a1 : Int) (l2 : List Int) : Option (Int × Bool) := (Q43.f a0_0 a0_1 a1).bind fun t432 => (if t432 = true then (Q1.l0 k a1 l2 0 a0_0 a0_1) else (some (0, false)))
def Q1.T24 : Bool × List (List Nat × List Nat) := (true, [([], []), ([], []), ([], []), ([], []), ([2, 3], [2, 3]), ([4], [4]), ([0, 1, 5], [0, 1, 5]), ([6, 6, 0, 1, 2, 3, 4, 5, 6], [6])])
def Q1.B24 : List Nat := [0, 0, 0, 0, 12, 28, 63, 127]
theorem Q1.tab24 : rtab .any (opsOf Tryz.f82 24) = Q1.T24 := by kernel_rfl
theorem Q1.bits24 : waitsOk Q1.T24.2 Q1.B24 = true := by kernel_rfl
set_option maxHeartbeats 8000000 in
set_option maxRecDepth 100000 in
theorem Q1.calls (k : Nat) (a0_0 : Int) (a0_1 : Bool) (a1 : Int) (A2 : Option Addr) (c2 : Nat) (l2 : List Int) (r1 : Int) (r2 : Bool) (w : World) (hr2 : Kd.C (Kd.int .i64) w A2 l2.length l2) (hc2 : l2.length ≤ c2) (h : Q1.f k a0_0 a0_1 a1 l2 = some (r1, r2)) :
    Calls Tryz.prog 82 #[.agg #[.int .i64 a0_0, .bool a0_1], .int .i64 a1, .slice A2 l2.length c2] w fun e w' => e = .returned (.tuple #[.int .i64 r1, .bool r2]) ∧ Below w.heap.size w w' := by
 have hu25 := Tryz.underlying25; have HR2 := A_ hr2; have HC2 := A_ hc2; clear hr2 hc2; have HB := A_ (Below.refl w.heap.size w); have H : ((Q43.f a0_0 a0_1 a1).bind fun t432 => (if t432 = true then (Q1.l0 k a1 l2 0 a0_0 a0_1) else (some (0, false)))) = some (r1, r2) := h; clear h; replace H := bm H; obtain ⟨t432, A4, H⟩ := H; by_cases c5 : t432 = true
 ·
  subst c5
  have H1 : (Q1.l0 k a1 l2 0 a0_0 a0_1) = some (r1, r2) := by rw [if_pos rfl] at H; exact H
  clear H; have H := H1; clear H1; have H' := A_ H; clear H; go_enter Tryz.func82, Tryz.ntmps82
  go_wp2_with (first | ((with_reducible refine gate_dst (N := 3) rfl ?_); refine bx (N := 3) #[.int .i64 a0_0, .bool a0_1] 25 ?_; intro gb431 hg w6 hbox hb; have BK431 := A_ (hbox); have GW431 := A_ (bs hg (hq HB) : w.heap.size ≤ gb431); have GE431 := A_ (bs hg (hq HB) : w.heap.size ≤ gb431); replace HB := A_ (below_step (hq HB) hb); clear hb hbox hg; have hcz7_0 : w6.cell? ⟨gb431, 0, none⟩ = some (.int .i64 a0_0) := bc BK431 0; have hcz7_1 : w6.cell? ⟨gb431, 1, none⟩ = some (.bool a0_1) := bc BK431 1; have hfz7_0 := blk_frozen BK431.out 0; have hfz7_1 := blk_frozen BK431.out 1) | ((with_reducible refine gate_callee (f := 39) rfl ?_); refine gL (some 19) Tryz.func39 #[.agg #[.int .i64 a0_0, .bool a0_1], .int .i64 a1] ?_; (with_reducible refine (Q43.calls a0_0 a0_1 a1 true _ A4.out).mono ?_); rintro e w8 ⟨rfl, hb⟩; refine ⟨_, rfl, ?_⟩; replace BK431 := A_ (blk_below (bq BK431) hb); replace HB := A_ (below_step (hq HB) hb); clear hb))
  go_loopg [8] k (fun kq v8 w' => ∃ (x8_1 : Int), v8 = .int .i64 x8_1 ∧ Aside0 (Q1.l0 kq a1 l2 x8_1 a0_0 a0_1 = some (r1, r2)) ∧ Aside0 (kq ≤ k) ∧ Aside0 (w'.heap[gb431]? = some (.cells #[.int .i64 a0_0, .bool a0_1] 25 (0, 0))) ∧ Aside0 (Below w.heap.size w w'))
  case atStart => exact ⟨(0), rf, H', ⟨Nat.le_refl _⟩, ⟨bq BK431⟩, ⟨hq HB⟩⟩
  case round =>
   clear H'; (try clear c5); (try clear hcz7_0); (try clear hcz7_1); (try clear hfz7_0); (try clear hfz7_1); obtain ⟨x8_1, rfl, HA, HK1, BK431, HB⟩ := hrel
   cases gk with
   | zero => exact absurd HA.out (by simp [Q1.l0])
   | succ k1 =>
    have H := HA.out; clear HA; simp only [Q1.l0] at H
    by_cases c9 : x8_1 < (l2.length : Int)
    ·
     rw [if_pos c9] at H; have c9b0 := decide_eq_true c9; clear c9; by_cases c10 : 0 ≤ x8_1
     ·
      rw [if_pos c10] at H; have c10b0 := decide_eq_true c10; clear c10; replace H := bm H; obtain ⟨t434, A11, H⟩ := H; by_cases c12 : t434 = true
      ·
       subst c12
       have H1 : (Q1.l0 k1 a1 l2 (wrap64 (x8_1 + 1)) a0_0 a0_1) = some (r1, r2) := by rw [if_pos rfl] at H; exact H
       clear H; have H := H1; clear H1; have H' := A_ H; clear H; try go_wp2
       replace BK431 := A_ (blk_drew BK431.out); replace HB := A_ (below_drew1 HB.out); have p433 : 0 ≤ (x8_1 : Int) := dq; have q433 : x8_1 < (l2.length : Int) := dq; obtain ⟨ad433, e433, hx433_0⟩ := Kd.at_int HR2.out x8_1 p433 q433; have hw433_0 := hx433_0
       cases e433
       replace hx433_0 := (HB.out.cell (World.block_lt_of_cell? w _ hx433_0)).trans hx433_0; replace p433 := eq_true p433; replace q433 := eq_true q433; refine start_ (n := 7) (S := fun w' => w'.cell? ⟨gb431, 0, none⟩ = some (.int .i64 a0_0) ∧ w'.cell? ⟨gb431, 1, none⟩ = some (.bool a0_1) ∧ w'.cell? (ad433.add (x8_1).toNat) = some (.int .i64 (rd l2 x8_1))) (ds := []) #[false, false, false, false, false, false, false] (by kernel_rfl) rfl rfl ⟨bc BK431 0, bc BK431 1, ((HB.out.cell (World.block_lt_of_cell? w _ hw433_0)).trans hw433_0)⟩ (fun hHeld => ?_); generalize wr.drew = w13 at BK431 HB hx433_0 hHeld ⊢; refine pu (i := 1) (N := some 28) #[false, true, false, false, false, false, false] ?_; refine pu (i := 2) (N := some 29) #[false, true, true, false, false, false, false] ?_; refine pu (i := 3) (N := some 30) #[false, true, true, true, false, false, false] ?_; refine tk (i := 0) (N := some 27) hHeld #[true, true, true, true, false, false, false] ?_; refine tk (i := 4) (N := some 31) hHeld #[true, true, true, true, true, false, false] ?_; refine on (i := 5) (N := some 32) #[true, true, true, true, true, true, false] (fun K hK => ?_); refine go_ Tryz.func39 #[.agg #[.int .i64 a0_0, .bool a0_1], .int .i64 (rd l2 x8_1)] ?_; with_reducible refine (Q43.calls a0_0 a0_1 (rd l2 x8_1) true _ A11.out).mono ?_
       rintro e w14 ⟨rfl, hb⟩; refine ⟨_, rfl, ?_⟩; replace BK431 := A_ (blk_below (bq BK431) hb); replace HB := A_ (below_step (hq HB) hb); clear hb; refine hK.out _ _ ⟨bc BK431 0, bc BK431 1, ((HB.out.cell (World.block_lt_of_cell? w _ hw433_0)).trans hw433_0)⟩ (fun hHeld => ?_); clear hK K; refine nq_ (some 32) ?_; refine pu (i := 6) (N := some 33) #[true, true, true, true, true, true, true] ?_; refine done_ (by kernel_rfl) ?_; try go_wp2
       go_roundg k1
       case measure => have := HK1.out; omega
       case rel => exact ⟨(wrap64 (x8_1 + 1)), rf, H', ⟨by have := HK1.out; omega⟩, ⟨bq BK431⟩, ⟨hq HB⟩⟩
      ·
       replace c12 := Bool.eq_false_iff.mpr c12; subst c12
       have H1 : (some (0, false)) = some (r1, r2) := by rw [if_neg (show ¬ (false = true) by decide)] at H; exact H
       clear H; have H := H1; clear H1; simp only [Option.some.injEq, Prod.mk.injEq] at H
       obtain ⟨rfl, rfl⟩ := H; try go_wp2
       replace BK431 := A_ (blk_drew BK431.out); replace HB := A_ (below_drew1 HB.out); have p433 : 0 ≤ (x8_1 : Int) := dq; have q433 : x8_1 < (l2.length : Int) := dq; obtain ⟨ad433, e433, hx433_0⟩ := Kd.at_int HR2.out x8_1 p433 q433; have hw433_0 := hx433_0
       cases e433
       replace hx433_0 := (HB.out.cell (World.block_lt_of_cell? w _ hx433_0)).trans hx433_0; replace p433 := eq_true p433; replace q433 := eq_true q433; refine start_ (n := 7) (S := fun w' => w'.cell? ⟨gb431, 0, none⟩ = some (.int .i64 a0_0) ∧ w'.cell? ⟨gb431, 1, none⟩ = some (.bool a0_1) ∧ w'.cell? (ad433.add (x8_1).toNat) = some (.int .i64 (rd l2 x8_1))) (ds := []) #[false, false, false, false, false, false, false] (by kernel_rfl) rfl rfl ⟨bc BK431 0, bc BK431 1, ((HB.out.cell (World.block_lt_of_cell? w _ hw433_0)).trans hw433_0)⟩ (fun hHeld => ?_); generalize wr.drew = w15 at BK431 HB hx433_0 hHeld ⊢; refine pu (i := 1) (N := some 28) #[false, true, false, false, false, false, false] ?_; refine pu (i := 2) (N := some 29) #[false, true, true, false, false, false, false] ?_; refine pu (i := 3) (N := some 30) #[false, true, true, true, false, false, false] ?_; refine tk (i := 0) (N := some 27) hHeld #[true, true, true, true, false, false, false] ?_; refine tk (i := 4) (N := some 31) hHeld #[true, true, true, true, true, false, false] ?_; refine on (i := 5) (N := some 32) #[true, true, true, true, true, true, false] (fun K hK => ?_); refine go_ Tryz.func39 #[.agg #[.int .i64 a0_0, .bool a0_1], .int .i64 (rd l2 x8_1)] ?_; with_reducible refine (Q43.calls a0_0 a0_1 (rd l2 x8_1) false _ A11.out).mono ?_
       rintro e w16 ⟨rfl, hb⟩; refine ⟨_, rfl, ?_⟩; replace BK431 := A_ (blk_below (bq BK431) hb); replace HB := A_ (below_step (hq HB) hb); clear hb; refine hK.out _ _ ⟨bc BK431 0, bc BK431 1, ((HB.out.cell (World.block_lt_of_cell? w _ hw433_0)).trans hw433_0)⟩ (fun hHeld => ?_); clear hK K; refine nq_ (some 32) ?_; refine pu (i := 6) (N := some 33) #[true, true, true, true, true, true, true] ?_; refine done_ (by kernel_rfl) ?_; try go_wp2
       go_ret2
       exact ⟨rt, hq HB⟩
     ·
      rw [if_neg c10] at H; exact absurd H (by simp)
    ·
     rw [if_neg c9] at H; have c9b0 := decide_eq_false c9; clear c9; by_cases c17 : a0_1 = true
     ·
      subst c17
      have H1 : (Q1.l2 k1 a1 l2 a0_0 0 a0_0 true) = some (r1, r2) := by rw [if_pos rfl] at H; exact H
      clear H; have H := H1; clear H1; have H' := A_ H; clear H; have hcz18_0 : wr.cell? ⟨gb431, 0, none⟩ = some (.int .i64 a0_0) := bc BK431 0; have hcz18_1 : wr.cell? ⟨gb431, 1, none⟩ = some (.bool true) := bc BK431 1; have hfz18_0 := blk_frozen BK431.out 0; have hfz18_1 := blk_frozen BK431.out 1; go_wp2
      go_loopg [12, 13] k1 (fun kq v12 v13 w' => ∃ (x12_2 : Int) (x13_2 : Int), v12 = .int .i64 x12_2 ∧ v13 = .int .i64 x13_2 ∧ Aside0 (Q1.l2 kq a1 l2 x12_2 x13_2 a0_0 true = some (r1, r2)) ∧ Aside0 (kq ≤ k1) ∧ Aside0 (w'.heap[gb431]? = some (.cells #[.int .i64 a0_0, .bool true] 25 (0, 0))) ∧ Aside0 (Below w.heap.size w w'))
      case atStart => exact ⟨(a0_0), (0), rf, rf, H', ⟨Nat.le_refl _⟩, ⟨bq BK431⟩, ⟨hq HB⟩⟩
      case round =>
       clear H'; (try clear c5); (try clear c9); (try clear c9b0); (try clear c10); (try clear c10b0); (try clear c12); (try clear c17); (try clear hcz18_0); (try clear hcz18_1); (try clear hcz7_0); (try clear hcz7_1); (try clear hfz18_0); (try clear hfz18_1); (try clear hfz7_0); (try clear hfz7_1); (try clear hx433_0); (try clear p433); (try clear q433); obtain ⟨x12_2, x13_2, rfl, rfl, HA, HK2, BK431, HB⟩ := hrel
       cases gk with
       | zero => exact absurd HA.out (by simp [Q1.l2])
       | succ k2 =>
        have H := HA.out; clear HA; simp only [Q1.l2] at H
        by_cases c19 : x13_2 < a0_0
        ·
         rw [if_pos c19] at H; have c19b0 := decide_eq_true c19; clear c19; have H' := A_ H; clear H; have hcz20_0 : wr.cell? ⟨gb431, 0, none⟩ = some (.int .i64 a0_0) := bc BK431 0; have hcz20_1 : wr.cell? ⟨gb431, 1, none⟩ = some (.bool true) := bc BK431 1; have hfz20_0 := blk_frozen BK431.out 0; have hfz20_1 := blk_frozen BK431.out 1; go_wp2
         go_loopg [14, 15] k2 (fun kq v14 v15 w' => ∃ (x14_3 : Int) (x15_3 : Int), v14 = .int .i64 x14_3 ∧ v15 = .int .i64 x15_3 ∧ Aside0 (Q1.l3 kq a1 l2 x12_2 x13_2 x14_3 x15_3 a0_0 true = some (r1, r2)) ∧ Aside0 (kq ≤ k2) ∧ Aside0 (w'.heap[gb431]? = some (.cells #[.int .i64 a0_0, .bool true] 25 (0, 0))) ∧ Aside0 (Below w.heap.size w w'))
         case atStart => exact ⟨(0), (0), rf, rf, H', ⟨Nat.le_refl _⟩, ⟨bq BK431⟩, ⟨hq HB⟩⟩
         case round =>
          clear H'; (try clear c5); (try clear c9); (try clear c9b0); (try clear c10); (try clear c10b0); (try clear c12); (try clear c17); (try clear c19); (try clear c19b0); (try clear hcz18_0); (try clear hcz18_1); (try clear hcz20_0); (try clear hcz20_1); (try clear hcz7_0); (try clear hcz7_1); (try clear hfz18_0); (try clear hfz18_1); (try clear hfz20_0); (try clear hfz20_1); (try clear hfz7_0); (try clear hfz7_1); (try clear hx433_0); (try clear p433); (try clear q433); obtain ⟨x14_3, x15_3, rfl, rfl, HA, HK3, BK431, HB⟩ := hrel
          cases gk with
          | zero => exact absurd HA.out (by simp [Q1.l3])
          | succ k3 =>
           have H := HA.out; clear HA; simp only [Q1.l3] at H
           by_cases c21 : x15_3 < (l2.length : Int)
           ·
            rw [if_pos c21] at H; have c21b0 := decide_eq_true c21; clear c21; by_cases c22 : 0 ≤ x15_3
            ·
             rw [if_pos c22] at H; have c22b0 := decide_eq_true c22; clear c22; replace H := bm H; obtain ⟨t443, A23, H⟩ := H; by_cases c24 : t443 > x13_2
             ·
              rw [if_pos c24] at H; have c24b0 : decide (x13_2 < t443) = true := decide_eq_true c24; clear c24; replace H := bm H; obtain ⟨t444, A25, H⟩ := H; have H' := A_ H; clear H; try go_wp2
              replace BK431 := A_ (blk_drew BK431.out); replace HB := A_ (below_drew1 HB.out); have p442 : 0 ≤ (x15_3 : Int) := dq; have q442 : x15_3 < (l2.length : Int) := dq; obtain ⟨ad442, e442, hx442_0⟩ := Kd.at_int HR2.out x15_3 p442 q442; have hw442_0 := hx442_0
              cases e442
              replace hx442_0 := (HB.out.cell (World.block_lt_of_cell? w _ hx442_0)).trans hx442_0; replace p442 := eq_true p442; replace q442 := eq_true q442; refine start_ (n := 8) (S := fun w' => w'.cell? ⟨gb431, 0, none⟩ = some (.int .i64 a0_0) ∧ w'.cell? ⟨gb431, 1, none⟩ = some (.bool true) ∧ w'.cell? (ad442.add (x15_3).toNat) = some (.int .i64 (rd l2 x15_3))) (ds := []) #[false, false, false, false, false, false, false, false] (by kernel_rfl) rfl rfl ⟨bc BK431 0, bc BK431 1, ((HB.out.cell (World.block_lt_of_cell? w _ hw442_0)).trans hw442_0)⟩ (fun hHeld => ?_); refine with_tabW Q1.tab24 Q1.bits24 (fun HT_ HW_ => ?_); generalize wr.drew = w26 at BK431 HB hx442_0 hHeld ⊢; refine puT (i := 1) (N := some 77) HT_ #[false, true, false, false, false, false, false, false] ?_; refine puT (i := 2) (N := some 78) HT_ #[false, true, true, false, false, false, false, false] ?_; refine puT (i := 3) (N := some 79) HT_ #[false, true, true, true, false, false, false, false] ?_; refine puT (i := 4) (N := some 80) HT_ #[false, true, true, true, true, false, false, false] ?_; refine tkT (i := 0) (N := some 76) HT_ HW_ hHeld #[true, true, true, true, true, false, false, false] ?_; refine tkT (i := 5) (N := some 81) HT_ HW_ hHeld #[true, true, true, true, true, true, false, false] ?_; refine onT (i := 6) (N := some 82) HT_ #[true, true, true, true, true, true, true, false] (fun K hK => ?_); refine go_ Tryz.func86 #[.agg #[.int .i64 a0_0, .bool true], .int .i64 a1, .int .i64 (rd l2 x15_3)] ?_; with_reducible refine (Q52.calls a0_0 true a1 (rd l2 x15_3) t443 _ A23.out).mono ?_
              rintro e w27 ⟨rfl, hb⟩; refine ⟨_, rfl, ?_⟩; replace BK431 := A_ (blk_below (bq BK431) hb); replace HB := A_ (below_step (hq HB) hb); clear hb; refine hK.out _ _ ⟨bc BK431 0, bc BK431 1, ((HB.out.cell (World.block_lt_of_cell? w _ hw442_0)).trans hw442_0)⟩ (fun hHeld => ?_); clear hK K; refine nq_ (some 82) ?_; refine puT (i := 7) (N := some 16) HT_ #[true, true, true, true, true, true, true, true] ?_; refine done_ (done_of HT_.out (by kernel_rfl)) ?_; have hcz28_0 : w27.cell? ⟨gb431, 0, none⟩ = some (.int .i64 a0_0) := bc BK431 0; have hcz28_1 : w27.cell? ⟨gb431, 1, none⟩ = some (.bool true) := bc BK431 1; have hfz28_0 := blk_frozen BK431.out 0; have hfz28_1 := blk_frozen BK431.out 1; try go_wp2_with (first | ((with_reducible refine gate_callee (f := 46) rfl ?_); refine gL (some 91) Tryz.func46 #[.int .i64 x14_3, .int .i64 (wrap64 (a0_0 - t443))] ?_; (with_reducible refine (Q14.calls x14_3 (wrap64 (a0_0 - t443)) t444 _ A25.out).mono ?_); rintro e w' ⟨rfl, ⟨nd, rfl⟩⟩; refine ⟨_, rfl, ?_⟩))
              go_roundg k3
              case measure => have := HK1.out; have := HK2.out; have := HK3.out; omega
              case rel => exact ⟨(t444), (wrap64 (x15_3 + 1)), rf, rf, H', ⟨by have := HK1.out; have := HK2.out; have := HK3.out; omega⟩, ⟨bq BK431⟩, ⟨hq HB⟩⟩
             ·
              rw [if_neg c24] at H; have c24b0 : decide (x13_2 < t443) = false := decide_eq_false c24; clear c24; have H' := A_ H; clear H; try go_wp2
              replace BK431 := A_ (blk_drew BK431.out); replace HB := A_ (below_drew1 HB.out); have p442 : 0 ≤ (x15_3 : Int) := dq; have q442 : x15_3 < (l2.length : Int) := dq; obtain ⟨ad442, e442, hx442_0⟩ := Kd.at_int HR2.out x15_3 p442 q442; have hw442_0 := hx442_0
              cases e442
              replace hx442_0 := (HB.out.cell (World.block_lt_of_cell? w _ hx442_0)).trans hx442_0; replace p442 := eq_true p442; replace q442 := eq_true q442; refine start_ (n := 8) (S := fun w' => w'.cell? ⟨gb431, 0, none⟩ = some (.int .i64 a0_0) ∧ w'.cell? ⟨gb431, 1, none⟩ = some (.bool true) ∧ w'.cell? (ad442.add (x15_3).toNat) = some (.int .i64 (rd l2 x15_3))) (ds := []) #[false, false, false, false, false, false, false, false] (by kernel_rfl) rfl rfl ⟨bc BK431 0, bc BK431 1, ((HB.out.cell (World.block_lt_of_cell? w _ hw442_0)).trans hw442_0)⟩ (fun hHeld => ?_); refine with_tabW Q1.tab24 Q1.bits24 (fun HT_ HW_ => ?_); generalize wr.drew = w29 at BK431 HB hx442_0 hHeld ⊢; refine puT (i := 1) (N := some 77) HT_ #[false, true, false, false, false, false, false, false] ?_; refine puT (i := 2) (N := some 78) HT_ #[false, true, true, false, false, false, false, false] ?_; refine puT (i := 3) (N := some 79) HT_ #[false, true, true, true, false, false, false, false] ?_; refine puT (i := 4) (N := some 80) HT_ #[false, true, true, true, true, false, false, false] ?_; refine tkT (i := 0) (N := some 76) HT_ HW_ hHeld #[true, true, true, true, true, false, false, false] ?_; refine tkT (i := 5) (N := some 81) HT_ HW_ hHeld #[true, true, true, true, true, true, false, false] ?_; refine onT (i := 6) (N := some 82) HT_ #[true, true, true, true, true, true, true, false] (fun K hK => ?_); refine go_ Tryz.func86 #[.agg #[.int .i64 a0_0, .bool true], .int .i64 a1, .int .i64 (rd l2 x15_3)] ?_; with_reducible refine (Q52.calls a0_0 true a1 (rd l2 x15_3) t443 _ A23.out).mono ?_
              rintro e w30 ⟨rfl, hb⟩; refine ⟨_, rfl, ?_⟩; replace BK431 := A_ (blk_below (bq BK431) hb); replace HB := A_ (below_step (hq HB) hb); clear hb; refine hK.out _ _ ⟨bc BK431 0, bc BK431 1, ((HB.out.cell (World.block_lt_of_cell? w _ hw442_0)).trans hw442_0)⟩ (fun hHeld => ?_); clear hK K; refine nq_ (some 82) ?_; refine puT (i := 7) (N := some 16) HT_ #[true, true, true, true, true, true, true, true] ?_; refine done_ (done_of HT_.out (by kernel_rfl)) ?_; try go_wp2
              go_roundg k3
              case measure => have := HK1.out; have := HK2.out; have := HK3.out; omega
              case rel => exact ⟨(x14_3), (wrap64 (x15_3 + 1)), rf, rf, H', ⟨by have := HK1.out; have := HK2.out; have := HK3.out; omega⟩, ⟨bq BK431⟩, ⟨hq HB⟩⟩
            ·
             rw [if_neg c22] at H; exact absurd H (by simp)
           ·
            rw [if_neg c21] at H; have c21b0 := decide_eq_false c21; clear c21; replace H := bm H; obtain ⟨t440, A31, H⟩ := H; replace H := bm H; obtain ⟨t441, A32, H⟩ := H; have H' := A_ H; clear H; go_wp2_with (first | ((with_reducible refine gate_callee (f := 87) rfl ?_); refine gL (some 95) Tryz.func87 #[.int .i64 x14_3, .int .i64 x13_2] ?_; (with_reducible refine (Q67.calls x14_3 x13_2 t440 _ A31.out).mono ?_); rintro e w' ⟨rfl, ⟨nd, rfl⟩⟩; refine ⟨_, rfl, ?_⟩) | ((with_reducible refine gate_callee (f := 44) rfl ?_); refine gL (some 96) Tryz.func44 #[.int .i64 x12_2, .int .i64 t440] ?_; (with_reducible refine (Q22.calls x12_2 t440 t441 _ A32.out).mono ?_); rintro e w' ⟨rfl, ⟨nd, rfl⟩⟩; refine ⟨_, rfl, ?_⟩))
            go_roundg k3
            case measure => have := HK1.out; have := HK2.out; have := HK3.out; omega
            case rel => exact ⟨(t441), (wrap64 (x13_2 + 1)), rf, rf, H', ⟨by have := HK1.out; have := HK2.out; have := HK3.out; omega⟩, ⟨bq BK431⟩, ⟨hq HB⟩⟩
        ·
         rw [if_neg c19] at H; have c19b0 := decide_eq_false c19; clear c19; simp only [Option.some.injEq, Prod.mk.injEq] at H
         obtain ⟨rfl, rfl⟩ := H; have hcz33_0 : wr.cell? ⟨gb431, 0, none⟩ = some (.int .i64 a0_0) := bc BK431 0; have hcz33_1 : wr.cell? ⟨gb431, 1, none⟩ = some (.bool true) := bc BK431 1; have hfz33_0 := blk_frozen BK431.out 0; have hfz33_1 := blk_frozen BK431.out 1; go_wp2
         go_ret2
         exact ⟨rt, hq HB⟩
     ·
      replace c17 := Bool.eq_false_iff.mpr c17; subst c17
      have H1 : (Q1.l1 k1 a1 l2 0 0 0) = some (r1, r2) := by rw [if_neg (show ¬ (false = true) by decide)] at H; exact H
      clear H; have H := H1; clear H1; have H' := A_ H; clear H; have hcz34_0 : wr.cell? ⟨gb431, 0, none⟩ = some (.int .i64 a0_0) := bc BK431 0; have hcz34_1 : wr.cell? ⟨gb431, 1, none⟩ = some (.bool false) := bc BK431 1; have hfz34_0 := blk_frozen BK431.out 0; have hfz34_1 := blk_frozen BK431.out 1; go_wp2
      go_loopg [9, 10, 11] k1 (fun kq v9 v10 v11 w' => ∃ (x9_2 : Int) (x10_2 : Int) (x11_2 : Int), v9 = .int .i64 x9_2 ∧ v10 = .int .i64 x10_2 ∧ v11 = .int .i64 x11_2 ∧ Aside0 (Q1.l1 kq a1 l2 x9_2 x10_2 x11_2 = some (r1, r2)) ∧ Aside0 (kq ≤ k1) ∧ Aside0 (w'.heap[gb431]? = some (.cells #[.int .i64 a0_0, .bool false] 25 (0, 0))) ∧ Aside0 (Below w.heap.size w w'))
      case atStart => exact ⟨(0), (0), (0), rf, rf, rf, H', ⟨Nat.le_refl _⟩, ⟨bq BK431⟩, ⟨hq HB⟩⟩
      case round =>
       clear H'; (try clear c5); (try clear c9); (try clear c9b0); (try clear c10); (try clear c10b0); (try clear c12); (try clear c17); (try clear c19); (try clear c19b0); (try clear c21); (try clear c21b0); (try clear c22); (try clear c22b0); (try clear c24); (try clear c24b0); (try clear hcz18_0); (try clear hcz18_1); (try clear hcz20_0); (try clear hcz20_1); (try clear hcz28_0); (try clear hcz28_1); (try clear hcz33_0); (try clear hcz33_1); (try clear hcz34_0); (try clear hcz34_1); (try clear hcz7_0); (try clear hcz7_1); (try clear hfz18_0); (try clear hfz18_1); (try clear hfz20_0); (try clear hfz20_1); (try clear hfz28_0); (try clear hfz28_1); (try clear hfz33_0); (try clear hfz33_1); (try clear hfz34_0); (try clear hfz34_1); (try clear hfz7_0); (try clear hfz7_1); (try clear hx433_0); (try clear hx442_0); (try clear p433); (try clear p442); (try clear q433); (try clear q442); obtain ⟨x9_2, x10_2, x11_2, rfl, rfl, rfl, HA, HK2, BK431, HB⟩ := hrel
       cases gk with
       | zero => exact absurd HA.out (by simp [Q1.l1])
       | succ k2 =>
        have H := HA.out; clear HA; simp only [Q1.l1] at H
        by_cases c35 : x11_2 < (l2.length : Int)
        ·
         rw [if_pos c35] at H; have c35b0 := decide_eq_true c35; clear c35; by_cases c36 : 0 ≤ x11_2
         ·
          rw [if_pos c36] at H; have c36b0 := decide_eq_true c36; clear c36; replace H := bm H; obtain ⟨t436, A37, H⟩ := H; replace H := bm H; obtain ⟨t438, A38, H⟩ := H; have H' := A_ H; clear H; have p435 : 0 ≤ (x11_2 : Int) := dq; have q435 : x11_2 < (l2.length : Int) := dq; obtain ⟨ad435, e435, hx435_0⟩ := Kd.at_int HR2.out x11_2 p435 q435
          cases e435
          replace hx435_0 := (HB.out.cell (World.block_lt_of_cell? w _ hx435_0)).trans hx435_0; replace p435 := eq_true p435; replace q435 := eq_true q435; go_wp2_with (first | ((with_reducible refine gate_callee (f := 46) rfl ?_); refine gL (some 50) Tryz.func46 #[.int .i64 x9_2, .int .i64 (wrap64 (a1 - (rd l2 x11_2)))] ?_; (with_reducible refine (Q14.calls x9_2 (wrap64 (a1 - (rd l2 x11_2))) t436 _ A37.out).mono ?_); rintro e w' ⟨rfl, ⟨nd, rfl⟩⟩; refine ⟨_, rfl, ?_⟩; have p437 : 0 ≤ (x11_2 : Int) := dq; have q437 : x11_2 < (l2.length : Int) := dq; obtain ⟨ad437, e437, hx437_0⟩ := Kd.at_int HR2.out x11_2 p437 q437; obtain rfl : ad435 = ad437 := (by injection e437); replace hx437_0 := (HB.out.cell (World.block_lt_of_cell? w _ hx437_0)).trans hx437_0; replace p437 := eq_true p437; replace q437 := eq_true q437) | ((with_reducible refine gate_callee (f := 46) rfl ?_); refine gL (some 58) Tryz.func46 #[.int .i64 x10_2, .int .i64 (wrap64 ((rd l2 x11_2) - a1))] ?_; (with_reducible refine (Q14.calls x10_2 (wrap64 ((rd l2 x11_2) - a1)) t438 _ A38.out).mono ?_); rintro e w' ⟨rfl, ⟨nd, rfl⟩⟩; refine ⟨_, rfl, ?_⟩))
          go_roundg k2
          case measure => have := HK1.out; have := HK2.out; omega
          case rel => exact ⟨(t436), (t438), (wrap64 (x11_2 + 1)), rf, rf, rf, H', ⟨by have := HK1.out; have := HK2.out; omega⟩, ⟨bq BK431⟩, ⟨hq HB⟩⟩
         ·
          rw [if_neg c36] at H; exact absurd H (by simp)
        ·
         rw [if_neg c35] at H; have c35b0 := decide_eq_false c35; clear c35; replace H := bm H; obtain ⟨t439, A39, H⟩ := H; simp only [Option.some.injEq, Prod.mk.injEq] at H
         obtain ⟨rfl, rfl⟩ := H; go_wp2_with (first | ((with_reducible refine gate_callee (f := 87) rfl ?_); refine gL (some 61) Tryz.func87 #[.int .i64 x9_2, .int .i64 x10_2] ?_; (with_reducible refine (Q67.calls x9_2 x10_2 t439 _ A39.out).mono ?_); rintro e w' ⟨rfl, ⟨nd, rfl⟩⟩; refine ⟨_, rfl, ?_⟩))
         go_ret2
         exact ⟨rt, hq HB⟩
 ·
  replace c5 := Bool.eq_false_iff.mpr c5; subst c5
  have H1 : (some (0, false)) = some (r1, r2) := by rw [if_neg (show ¬ (false = true) by decide)] at H; exact H
  clear H; have H := H1; clear H1; simp only [Option.some.injEq, Prod.mk.injEq] at H
  obtain ⟨rfl, rfl⟩ := H; go_enter Tryz.func82, Tryz.ntmps82
  go_wp2_with (first | ((with_reducible refine gate_dst (N := 3) rfl ?_); refine bx (N := 3) #[.int .i64 a0_0, .bool a0_1] 25 ?_; intro gb431 hg w40 hbox hb; have BK431 := A_ (hbox); have GW431 := A_ (bs hg (hq HB) : w.heap.size ≤ gb431); have GE431 := A_ (bs hg (hq HB) : w.heap.size ≤ gb431); replace HB := A_ (below_step (hq HB) hb); clear hb hbox hg; have hcz41_0 : w40.cell? ⟨gb431, 0, none⟩ = some (.int .i64 a0_0) := bc BK431 0; have hcz41_1 : w40.cell? ⟨gb431, 1, none⟩ = some (.bool a0_1) := bc BK431 1; have hfz41_0 := blk_frozen BK431.out 0; have hfz41_1 := blk_frozen BK431.out 1) | ((with_reducible refine gate_callee (f := 39) rfl ?_); refine gL (some 19) Tryz.func39 #[.agg #[.int .i64 a0_0, .bool a0_1], .int .i64 a1] ?_; (with_reducible refine (Q43.calls a0_0 a0_1 a1 false _ A4.out).mono ?_); rintro e w42 ⟨rfl, hb⟩; refine ⟨_, rfl, ?_⟩; replace BK431 := A_ (blk_below (bq BK431) hb); replace HB := A_ (below_step (hq HB) hb); clear hb))
  go_ret2
  exact ⟨rt, hq HB⟩

end Go.Proofs.YtjhppcpjobofbaaGreat.PFnExplorers
