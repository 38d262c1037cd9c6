-- Told shorter still by shrink2.py.
-- Printed, and told shorter by this session's program shrink.py.
-- Printed by this session's program myprint.py.
import Derived.Test.YthgbkekfekcfaaaPFnExactLeastPricex0
import Derived.Test.YthgbkekfekcfaaaPFnExactLeastPricex1
import Derived.Test.YthgbkekfekcfaaaPFnExactLeastPricex4
import Derived.Test.YthgbkekfekcfaaaPFnExactLeastPricex6
namespace Go.Proofs.Ythgbkekfekcfaaa.PFnExactLeastPrice
open Go.RowKit Go.Proofs.Ythgbkekfekcfaaa.Own Go.Proofs.YthgbkekfekcfaaaW.PrintWords Go.Proofs.YthgbkekfekcfaaaW.PrintLast Go.Proofs.YthgbkekfekcfaaaW.PrintMore
attribute [local go_sem] max2_int min2_int max_two min_two max_three min_three max_four min_four   -- for this text's walks alone
set_option linter.unusedVariables false
set_option linter.unusedSimpArgs false

/-! ### impl_LeastPrice: function 16 -/
def impl_LeastPrice.f (k : Nat) (a0_0 : Int) (a0_1 : Bool) (l1 : List (S61)) (a2 : Int) (a3 : Int) : Option (Int × Bool) := (impl_least__LeastPrice_1.f k a0_0 a0_1 l1 a2 a3 a0_0 a0_1).bind fun bt265 => (some (bt265.1, bt265.2))
theorem impl_LeastPrice.mono : ∀ a0 a1 a2 a3 a4 k, LeO (impl_LeastPrice.f k a0 a1 a2 a3 a4) (impl_LeastPrice.f (k + 1) a0 a1 a2 a3 a4) := by
  intro a0 a1 a2 a3 a4 k
  unfold impl_LeastPrice.f
  repeat' first
      | (with_reducible exact impl_least__LeastPrice_1.mono _ _ _ _ _ _ _ _)
      | (with_reducible exact LeO.refl _)
      | (with_reducible exact LeO.none _)
      | (with_reducible refine LeO.ite ?_ ?_)
      | (with_reducible refine LeO.bind ?_ (fun _ => ?_))
      | exact impl_least__LeastPrice_1.mono _ _ _ _ _ _ _ _
      | exact LeO.none _
      | refine LeO.ite ?_ ?_
      | refine LeO.bind ?_ (fun _ => ?_)
set_option maxHeartbeats 8000000 in
set_option maxRecDepth 100000 in
theorem impl_LeastPrice.calls (k : Nat) (a0_0 : Int) (a0_1 : Bool) (A1 : Option Addr) (c1 : Nat) (l1 : List (S61)) (a2 : Int) (a3 : Int) (r1 : Int) (r2 : Bool) (w : World) (hr1 : Kd.C k61 w A1 l1.length l1) (hc1 : l1.length ≤ c1) (h : impl_LeastPrice.f k a0_0 a0_1 l1 a2 a3 = some (r1, r2)) :
    Calls Try.prog 16 #[.agg #[.int .i64 a0_0, .bool a0_1], .slice A1 l1.length c1, .int .i64 a2, .int .i64 a3] w fun e w' => e = .returned (.tuple #[.int .i64 r1, .bool r2]) ∧ Below w.heap.size w w' := by
 have hu27 := Try.underlying27; have HR1 := A_ hr1; have HC1 := A_ hc1; clear hr1 hc1; have HB := A_ (Below.refl w.heap.size w); have H : ((impl_least__LeastPrice_1.f k a0_0 a0_1 l1 a2 a3 a0_0 a0_1).bind fun bt265 => (some (bt265.1, bt265.2))) = some (r1, r2) := h; clear h; replace H := bm H; obtain ⟨⟨t265, t266⟩, A5, H⟩ := H; (try dsimp only at H); simp only [Option.some.injEq, Prod.mk.injEq] at H
 obtain ⟨rfl, rfl⟩ := H; go_enter Try.func16, Try.ntmps16
 go_wp2_with (first | ((with_reducible refine gate_dst (N := 4) rfl ?_); refine bx (N := 4) #[.int .i64 a0_0, .bool a0_1] 27 ?_; intro gb264 hg w6 hbox hb; have BK264 := A_ (hbox); have GW264 := A_ (bs hg (hq HB) : w.heap.size ≤ gb264); have GE264 := A_ (bs hg (hq HB) : w.heap.size ≤ gb264); replace HB := A_ (below_step (hq HB) hb); clear hb hbox hg; have hcz7_0 : w6.cell? ⟨gb264, 0, none⟩ = some (.int .i64 a0_0) := bc BK264 0; have hcz7_1 : w6.cell? ⟨gb264, 1, none⟩ = some (.bool a0_1) := bc BK264 1; have hfz7_0 := blk_frozen BK264.out 0; have hfz7_1 := blk_frozen BK264.out 1) | ((with_reducible refine gate_callee (f := 39) rfl ?_); refine gL (some 15) Try.func39 #[.agg #[.int .i64 a0_0, .bool a0_1], .slice A1 l1.length c1, .int .i64 a2, .int .i64 a3, .func (.func 40) #[] #[.pointer (some ⟨gb264, 0, none⟩)]] ?_; (with_reducible refine (impl_least__LeastPrice_1.calls k a0_0 a0_1 _ _ l1 a2 a3 gb264 a0_0 a0_1 t265 t266 _ ?side1 ?side2 ?side3 A5.out).mono ?_); (case side1 => (with_reducible repeat (first | refine blk_drewN ?_ _ | refine blk_drew ?_ | refine blk_alloc ?_ _)); exact BK264.out); (case side2 => exact cq (Kd.C_below HR1.out HB.out)); (case side3 => exact HC1.out); rintro e w8 ⟨rfl, hb⟩; refine ⟨_, rfl, ?_⟩; replace BK264 := A_ (blk_below (bq BK264) hb); replace HB := A_ (below_step (hq HB) hb); clear hb))
 go_ret2
 exact ⟨rt, hq HB⟩

/-! ### laws_eqCarrier: function 42 -/
def laws_eqCarrier.f (a0_0 : Int) (a0_1 : Int) (a0_2 : Int) (a1_0 : Int) (a1_1 : Int) (a1_2 : Int) : Option (Bool) := if a0_0 = a1_0 then (if a0_1 = a1_1 then (if a0_2 = a1_2 then (some true) else (some false)) else (some false)) else (some false)
set_option maxHeartbeats 8000000 in
set_option maxRecDepth 100000 in
theorem laws_eqCarrier.calls (a0_0 : Int) (a0_1 : Int) (a0_2 : Int) (a1_0 : Int) (a1_1 : Int) (a1_2 : Int) (r : Bool) (w : World) (h : laws_eqCarrier.f a0_0 a0_1 a0_2 a1_0 a1_1 a1_2 = some r) :
    Calls Try.prog 42 #[.agg #[.int .i64 a0_0, .int .i64 a0_1, .int .i64 a0_2], .agg #[.int .i64 a1_0, .int .i64 a1_1, .int .i64 a1_2]] w fun e w' => e = .returned (.bool r) ∧ Below w.heap.size w w' := by
 have hu61 := Try.underlying61; have HB := A_ (Below.refl w.heap.size w); have H : (if a0_0 = a1_0 then (if a0_1 = a1_1 then (if a0_2 = a1_2 then (some true) else (some false)) else (some false)) else (some false)) = some r := h; clear h; by_cases c3 : a0_0 = a1_0
 ·
  rw [if_pos c3] at H; have c3b0 : (a0_0 == a1_0) = true := beq_iff_eq.mpr c3; have c3b1 : (a0_0 != a1_0) = false := bne_eq_false_iff_eq.mpr c3; clear c3; by_cases c4 : a0_1 = a1_1
  ·
   rw [if_pos c4] at H; have c4b0 : (a0_1 == a1_1) = true := beq_iff_eq.mpr c4; have c4b1 : (a0_1 != a1_1) = false := bne_eq_false_iff_eq.mpr c4; clear c4; by_cases c5 : a0_2 = a1_2
   ·
    rw [if_pos c5] at H; have c5b0 : (a0_2 == a1_2) = true := beq_iff_eq.mpr c5; have c5b1 : (a0_2 != a1_2) = false := bne_eq_false_iff_eq.mpr c5; clear c5; obtain rfl := Option.some.inj H; go_enter Try.func42, Try.ntmps42
    go_wp2_with (first | ((with_reducible refine gate_dst (N := 2) rfl ?_); refine bx (N := 2) #[.int .i64 a0_0, .int .i64 a0_1, .int .i64 a0_2] 61 ?_; intro gb267 hg w6 hbox hb; have BK267 := A_ (hbox); have GW267 := A_ (bs hg (hq HB) : w.heap.size ≤ gb267); have GE267 := A_ (bs hg (hq HB) : w.heap.size ≤ gb267); replace HB := A_ (below_step (hq HB) hb); clear hb hbox hg) | ((with_reducible refine gate_dst (N := 3) rfl ?_); refine bx (N := 3) #[.int .i64 a1_0, .int .i64 a1_1, .int .i64 a1_2] 61 ?_; intro gb268 hg w7 hbox hb; have BK268 := A_ (hbox); have GW268 := A_ (bs hg (hq HB) : w.heap.size ≤ gb268); have GE268 := A_ (bs hg (hq HB) : w.heap.size ≤ gb268); replace HB := A_ (below_step (hq HB) hb); have NB267_268 := A_ ((by rw [hg]; exact Nat.ne_of_lt (blk_lt (bq BK267)) : gb267 ≠ gb268)); have NB268_267 := A_ ((by rw [hg]; exact Nat.ne_of_gt (blk_lt (bq BK267)) : gb268 ≠ gb267)); replace BK267 := A_ (blk_below (bq BK267) hb); clear hb hbox hg; have hnb8 := NB267_268.out; have hnc8 := NB268_267.out; have hcz9_0 : w7.cell? ⟨gb267, 0, none⟩ = some (.int .i64 a0_0) := bc BK267 0; have hcz9_1 : w7.cell? ⟨gb267, 1, none⟩ = some (.int .i64 a0_1) := bc BK267 1; have hcz9_2 : w7.cell? ⟨gb267, 2, none⟩ = some (.int .i64 a0_2) := bc BK267 2; have hfz9_0 := blk_frozen BK267.out 0; have hfz9_1 := blk_frozen BK267.out 1; have hfz9_2 := blk_frozen BK267.out 2; have hcz10_0 : w7.cell? ⟨gb268, 0, none⟩ = some (.int .i64 a1_0) := bc BK268 0; have hcz10_1 : w7.cell? ⟨gb268, 1, none⟩ = some (.int .i64 a1_1) := bc BK268 1; have hcz10_2 : w7.cell? ⟨gb268, 2, none⟩ = some (.int .i64 a1_2) := bc BK268 2; have hfz10_0 := blk_frozen BK268.out 0; have hfz10_1 := blk_frozen BK268.out 1; have hfz10_2 := blk_frozen BK268.out 2))
    go_ret
    exact ⟨rt, hq HB⟩
   ·
    rw [if_neg c5] at H; have c5b0 : (a0_2 == a1_2) = false := beq_eq_false_iff_ne.mpr c5; have c5b1 : (a0_2 != a1_2) = true := bne_iff_ne.mpr c5; obtain rfl := Option.some.inj H; go_enter Try.func42, Try.ntmps42
    go_wp2_with (first | ((with_reducible refine gate_dst (N := 2) rfl ?_); refine bx (N := 2) #[.int .i64 a0_0, .int .i64 a0_1, .int .i64 a0_2] 61 ?_; intro gb267 hg w11 hbox hb; have BK267 := A_ (hbox); have GW267 := A_ (bs hg (hq HB) : w.heap.size ≤ gb267); have GE267 := A_ (bs hg (hq HB) : w.heap.size ≤ gb267); replace HB := A_ (below_step (hq HB) hb); clear hb hbox hg) | ((with_reducible refine gate_dst (N := 3) rfl ?_); refine bx (N := 3) #[.int .i64 a1_0, .int .i64 a1_1, .int .i64 a1_2] 61 ?_; intro gb268 hg w12 hbox hb; have BK268 := A_ (hbox); have GW268 := A_ (bs hg (hq HB) : w.heap.size ≤ gb268); have GE268 := A_ (bs hg (hq HB) : w.heap.size ≤ gb268); replace HB := A_ (below_step (hq HB) hb); have NB267_268 := A_ ((by rw [hg]; exact Nat.ne_of_lt (blk_lt (bq BK267)) : gb267 ≠ gb268)); have NB268_267 := A_ ((by rw [hg]; exact Nat.ne_of_gt (blk_lt (bq BK267)) : gb268 ≠ gb267)); replace BK267 := A_ (blk_below (bq BK267) hb); clear hb hbox hg; have hnb13 := NB267_268.out; have hnc13 := NB268_267.out; have hcz14_0 : w12.cell? ⟨gb267, 0, none⟩ = some (.int .i64 a0_0) := bc BK267 0; have hcz14_1 : w12.cell? ⟨gb267, 1, none⟩ = some (.int .i64 a0_1) := bc BK267 1; have hcz14_2 : w12.cell? ⟨gb267, 2, none⟩ = some (.int .i64 a0_2) := bc BK267 2; have hfz14_0 := blk_frozen BK267.out 0; have hfz14_1 := blk_frozen BK267.out 1; have hfz14_2 := blk_frozen BK267.out 2; have hcz15_0 : w12.cell? ⟨gb268, 0, none⟩ = some (.int .i64 a1_0) := bc BK268 0; have hcz15_1 : w12.cell? ⟨gb268, 1, none⟩ = some (.int .i64 a1_1) := bc BK268 1; have hcz15_2 : w12.cell? ⟨gb268, 2, none⟩ = some (.int .i64 a1_2) := bc BK268 2; have hfz15_0 := blk_frozen BK268.out 0; have hfz15_1 := blk_frozen BK268.out 1; have hfz15_2 := blk_frozen BK268.out 2))
    go_ret
    exact ⟨rt, hq HB⟩
  ·
   rw [if_neg c4] at H; have c4b0 : (a0_1 == a1_1) = false := beq_eq_false_iff_ne.mpr c4; have c4b1 : (a0_1 != a1_1) = true := bne_iff_ne.mpr c4; obtain rfl := Option.some.inj H; go_enter Try.func42, Try.ntmps42
   go_wp2_with (first | ((with_reducible refine gate_dst (N := 2) rfl ?_); refine bx (N := 2) #[.int .i64 a0_0, .int .i64 a0_1, .int .i64 a0_2] 61 ?_; intro gb267 hg w16 hbox hb; have BK267 := A_ (hbox); have GW267 := A_ (bs hg (hq HB) : w.heap.size ≤ gb267); have GE267 := A_ (bs hg (hq HB) : w.heap.size ≤ gb267); replace HB := A_ (below_step (hq HB) hb); clear hb hbox hg) | ((with_reducible refine gate_dst (N := 3) rfl ?_); refine bx (N := 3) #[.int .i64 a1_0, .int .i64 a1_1, .int .i64 a1_2] 61 ?_; intro gb268 hg w17 hbox hb; have BK268 := A_ (hbox); have GW268 := A_ (bs hg (hq HB) : w.heap.size ≤ gb268); have GE268 := A_ (bs hg (hq HB) : w.heap.size ≤ gb268); replace HB := A_ (below_step (hq HB) hb); have NB267_268 := A_ ((by rw [hg]; exact Nat.ne_of_lt (blk_lt (bq BK267)) : gb267 ≠ gb268)); have NB268_267 := A_ ((by rw [hg]; exact Nat.ne_of_gt (blk_lt (bq BK267)) : gb268 ≠ gb267)); replace BK267 := A_ (blk_below (bq BK267) hb); clear hb hbox hg; have hnb18 := NB267_268.out; have hnc18 := NB268_267.out; have hcz19_0 : w17.cell? ⟨gb267, 0, none⟩ = some (.int .i64 a0_0) := bc BK267 0; have hcz19_1 : w17.cell? ⟨gb267, 1, none⟩ = some (.int .i64 a0_1) := bc BK267 1; have hcz19_2 : w17.cell? ⟨gb267, 2, none⟩ = some (.int .i64 a0_2) := bc BK267 2; have hfz19_0 := blk_frozen BK267.out 0; have hfz19_1 := blk_frozen BK267.out 1; have hfz19_2 := blk_frozen BK267.out 2; have hcz20_0 : w17.cell? ⟨gb268, 0, none⟩ = some (.int .i64 a1_0) := bc BK268 0; have hcz20_1 : w17.cell? ⟨gb268, 1, none⟩ = some (.int .i64 a1_1) := bc BK268 1; have hcz20_2 : w17.cell? ⟨gb268, 2, none⟩ = some (.int .i64 a1_2) := bc BK268 2; have hfz20_0 := blk_frozen BK268.out 0; have hfz20_1 := blk_frozen BK268.out 1; have hfz20_2 := blk_frozen BK268.out 2))
   go_ret
   exact ⟨rt, hq HB⟩
 ·
  rw [if_neg c3] at H; have c3b0 : (a0_0 == a1_0) = false := beq_eq_false_iff_ne.mpr c3; have c3b1 : (a0_0 != a1_0) = true := bne_iff_ne.mpr c3; obtain rfl := Option.some.inj H; go_enter Try.func42, Try.ntmps42
  go_wp2_with (first | ((with_reducible refine gate_dst (N := 2) rfl ?_); refine bx (N := 2) #[.int .i64 a0_0, .int .i64 a0_1, .int .i64 a0_2] 61 ?_; intro gb267 hg w21 hbox hb; have BK267 := A_ (hbox); have GW267 := A_ (bs hg (hq HB) : w.heap.size ≤ gb267); have GE267 := A_ (bs hg (hq HB) : w.heap.size ≤ gb267); replace HB := A_ (below_step (hq HB) hb); clear hb hbox hg) | ((with_reducible refine gate_dst (N := 3) rfl ?_); refine bx (N := 3) #[.int .i64 a1_0, .int .i64 a1_1, .int .i64 a1_2] 61 ?_; intro gb268 hg w22 hbox hb; have BK268 := A_ (hbox); have GW268 := A_ (bs hg (hq HB) : w.heap.size ≤ gb268); have GE268 := A_ (bs hg (hq HB) : w.heap.size ≤ gb268); replace HB := A_ (below_step (hq HB) hb); have NB267_268 := A_ ((by rw [hg]; exact Nat.ne_of_lt (blk_lt (bq BK267)) : gb267 ≠ gb268)); have NB268_267 := A_ ((by rw [hg]; exact Nat.ne_of_gt (blk_lt (bq BK267)) : gb268 ≠ gb267)); replace BK267 := A_ (blk_below (bq BK267) hb); clear hb hbox hg; have hnb23 := NB267_268.out; have hnc23 := NB268_267.out; have hcz24_0 : w22.cell? ⟨gb267, 0, none⟩ = some (.int .i64 a0_0) := bc BK267 0; have hcz24_1 : w22.cell? ⟨gb267, 1, none⟩ = some (.int .i64 a0_1) := bc BK267 1; have hcz24_2 : w22.cell? ⟨gb267, 2, none⟩ = some (.int .i64 a0_2) := bc BK267 2; have hfz24_0 := blk_frozen BK267.out 0; have hfz24_1 := blk_frozen BK267.out 1; have hfz24_2 := blk_frozen BK267.out 2; have hcz25_0 : w22.cell? ⟨gb268, 0, none⟩ = some (.int .i64 a1_0) := bc BK268 0; have hcz25_1 : w22.cell? ⟨gb268, 1, none⟩ = some (.int .i64 a1_1) := bc BK268 1; have hcz25_2 : w22.cell? ⟨gb268, 2, none⟩ = some (.int .i64 a1_2) := bc BK268 2; have hfz25_0 := blk_frozen BK268.out 0; have hfz25_1 := blk_frozen BK268.out 1; have hfz25_2 := blk_frozen BK268.out 2))
  go_ret
  exact ⟨rt, hq HB⟩

/-! ### laws_eqCarrierS: function 17 -/
def laws_eqCarrierS.l0 : Nat → List (S61) → List (S61) → Int → Option (Bool)
  | 0, _, _, _ => none
  | k + 1, x0, x1, x5 => if x5 < (x0.length : Int) then (if 0 ≤ x5 then (if x5 < (x1.length : Int) then ((laws_eqCarrier.f ((rd_T61 x0 x5).f0) ((rd_T61 x0 x5).f1) ((rd_T61 x0 x5).f2) ((rd_T61 x1 x5).f0) ((rd_T61 x1 x5).f1) ((rd_T61 x1 x5).f2)).bind fun t271 => (if t271 = true then (laws_eqCarrierS.l0 k x0 x1 (wrap64 (x5 + 1))) else (some false))) else (none)) else (none)) else (some true)
def laws_eqCarrierS.f (k : Nat) (l0 : List (S61)) (l1 : List (S61)) : Option (Bool) := if (l0.length : Int) = (l1.length : Int) then (laws_eqCarrierS.l0 k l0 l1 0) else (some false)
theorem laws_eqCarrierS.mono_l : ∀ k, (∀ y0 y1 y2, LeO (laws_eqCarrierS.l0 k y0 y1 y2) (laws_eqCarrierS.l0 (k + 1) y0 y1 y2))
  | 0 => fun _ _ _ r h => by simp [laws_eqCarrierS.l0] at h
  | k + 1 => by
    have ih0 := laws_eqCarrierS.mono_l k
    · intro y0 y1 y2
      unfold laws_eqCarrierS.l0
      repeat' first
      | (with_reducible exact ih0 _ _ _)
      | (with_reducible exact LeO.refl _)
      | (with_reducible exact LeO.none _)
      | (with_reducible refine LeO.ite ?_ ?_)
      | (with_reducible refine LeO.bind ?_ (fun _ => ?_))
      | exact ih0 _ _ _
      | exact LeO.none _
      | refine LeO.ite ?_ ?_
      | refine LeO.bind ?_ (fun _ => ?_)
theorem laws_eqCarrierS.mono : ∀ a0 a1 k, LeO (laws_eqCarrierS.f k a0 a1) (laws_eqCarrierS.f (k + 1) a0 a1) := by
  intro a0 a1 k
  have ih0 := laws_eqCarrierS.mono_l k
  unfold laws_eqCarrierS.f
  repeat' first
      | (with_reducible exact ih0 _ _ _)
      | (with_reducible exact LeO.refl _)
      | (with_reducible exact LeO.none _)
      | (with_reducible refine LeO.ite ?_ ?_)
      | (with_reducible refine LeO.bind ?_ (fun _ => ?_))
      | exact ih0 _ _ _
      | exact LeO.none _
      | refine LeO.ite ?_ ?_
      | refine LeO.bind ?_ (fun _ => ?_)
def laws_eqCarrierS.T6 : Bool × List (List Nat × List Nat) := (true, [([], []), ([], []), ([0, 1], [0, 1]), ([2], [2]), ([], []), ([], []), ([4, 5], [4, 5]), ([6], [6]), ([3, 7], [3, 7]), ([8], [8])])
def laws_eqCarrierS.B6 : List Nat := [0, 0, 3, 7, 0, 0, 48, 112, 255, 511]
theorem laws_eqCarrierS.tab6 : rtab .any (opsOf Try.f17 6) = laws_eqCarrierS.T6 := by kernel_rfl
theorem laws_eqCarrierS.bits6 : waitsOk laws_eqCarrierS.T6.2 laws_eqCarrierS.B6 = true := by kernel_rfl
set_option maxHeartbeats 8000000 in
set_option maxRecDepth 100000 in
theorem laws_eqCarrierS.calls (k : Nat) (A0 : Option Addr) (c0 : Nat) (l0 : List (S61)) (A1 : Option Addr) (c1 : Nat) (l1 : List (S61)) (r : Bool) (w : World) (hr0 : Kd.C k61 w A0 l0.length l0) (hc0 : l0.length ≤ c0) (hr1 : Kd.C k61 w A1 l1.length l1) (hc1 : l1.length ≤ c1) (h : laws_eqCarrierS.f k l0 l1 = some r) :
    Calls Try.prog 17 #[.slice A0 l0.length c0, .slice A1 l1.length c1] w fun e w' => e = .returned (.bool r) ∧ Below w.heap.size w w' := by
 have hu61 := Try.underlying61; have HR0 := A_ hr0; have HC0 := A_ hc0; clear hr0 hc0; have HR1 := A_ hr1; have HC1 := A_ hc1; clear hr1 hc1; have HB := A_ (Below.refl w.heap.size w); have H : (if (l0.length : Int) = (l1.length : Int) then (laws_eqCarrierS.l0 k l0 l1 0) else (some false)) = some r := h; clear h; by_cases c3 : (l0.length : Int) = (l1.length : Int)
 ·
  rw [if_pos c3] at H; have c3b0 : ((l0.length : Int) == (l1.length : Int)) = true := beq_iff_eq.mpr c3; have c3b1 : ((l0.length : Int) != (l1.length : Int)) = false := bne_eq_false_iff_eq.mpr c3
  have c3b2 : (l0.length == l1.length) = true := by first | simpa using c3 | (simp at c3 ⊢; omega)
  clear c3; have H' := A_ H; clear H; go_enter Try.func17, Try.ntmps17
  go_wp2
  go_loopg [5] k (fun kq v5 w' => ∃ (x5_1 : Int), v5 = .int .i64 x5_1 ∧ Aside0 (laws_eqCarrierS.l0 kq l0 l1 x5_1 = some r) ∧ Aside0 (kq ≤ k) ∧ Aside0 (Below w.heap.size w w'))
  case atStart => exact ⟨(0), rf, H', ⟨Nat.le_refl _⟩, ⟨hq HB⟩⟩
  case round =>
   clear H'; (try clear c3); (try clear c3b0); (try clear c3b1); (try clear c3b2); obtain ⟨x5_1, rfl, HA, HK1, HB⟩ := hrel
   cases gk with
   | zero => exact absurd HA.out (by simp [laws_eqCarrierS.l0])
   | succ k1 =>
    have H := HA.out; clear HA; simp only [laws_eqCarrierS.l0] at H
    by_cases c4 : x5_1 < (l0.length : Int)
    ·
     rw [if_pos c4] at H; have c4b0 := decide_eq_true c4; clear c4; by_cases c5 : 0 ≤ x5_1
     ·
      rw [if_pos c5] at H; have c5b0 := decide_eq_true c5; clear c5; by_cases c6 : x5_1 < (l1.length : Int)
      ·
       rw [if_pos c6] at H; have c6b0 := decide_eq_true c6; clear c6; replace H := bm H; obtain ⟨t271, A7, H⟩ := H; by_cases c8 : t271 = true
       ·
        subst c8
        have H1 : (laws_eqCarrierS.l0 k1 l0 l1 (wrap64 (x5_1 + 1))) = some r := by rw [if_pos rfl] at H; exact H
        clear H; have H := H1; clear H1; have H' := A_ H; clear H; try go_wp2
        replace HB := A_ (below_drew1 HB.out); have p269 : 0 ≤ (x5_1 : Int) := dq; have q269 : x5_1 < (l0.length : Int) := dq; obtain ⟨ad269, e269, hx269_0, hx269_1, hx269_2⟩ := at_T61 HR0.out x5_1 p269 q269; have hw269_2 := hx269_2; have hw269_1 := hx269_1; have hw269_0 := hx269_0
        cases e269
        replace hx269_0 := (HB.out.cell (World.block_lt_of_cell? w _ hx269_0)).trans hx269_0; replace hx269_1 := (HB.out.cell (World.block_lt_of_cell? w _ hx269_1)).trans hx269_1; replace hx269_2 := (HB.out.cell (World.block_lt_of_cell? w _ hx269_2)).trans hx269_2; replace p269 := eq_true p269; replace q269 := eq_true q269; have p270 : 0 ≤ (x5_1 : Int) := dq; have q270 : x5_1 < (l1.length : Int) := dq; obtain ⟨ad270, e270, hx270_0, hx270_1, hx270_2⟩ := at_T61 HR1.out x5_1 p270 q270; have hw270_2 := hx270_2; have hw270_1 := hx270_1; have hw270_0 := hx270_0
        cases e270
        replace hx270_0 := (HB.out.cell (World.block_lt_of_cell? w _ hx270_0)).trans hx270_0; replace hx270_1 := (HB.out.cell (World.block_lt_of_cell? w _ hx270_1)).trans hx270_1; replace hx270_2 := (HB.out.cell (World.block_lt_of_cell? w _ hx270_2)).trans hx270_2; replace p270 := eq_true p270; replace q270 := eq_true q270; refine start_ (n := 10) (S := fun w' => w'.cell? (ad269.add ((x5_1).toNat * 3)) = some (.int .i64 ((rd_T61 l0 x5_1).f0)) ∧ w'.cell? ⟨(ad269.add ((x5_1).toNat * 3)).block, (ad269.add ((x5_1).toNat * 3)).off + 1, none⟩ = some (.int .i64 ((rd_T61 l0 x5_1).f1)) ∧ w'.cell? ⟨(ad269.add ((x5_1).toNat * 3)).block, (ad269.add ((x5_1).toNat * 3)).off + 2, none⟩ = some (.int .i64 ((rd_T61 l0 x5_1).f2)) ∧ w'.cell? (ad270.add ((x5_1).toNat * 3)) = some (.int .i64 ((rd_T61 l1 x5_1).f0)) ∧ w'.cell? ⟨(ad270.add ((x5_1).toNat * 3)).block, (ad270.add ((x5_1).toNat * 3)).off + 1, none⟩ = some (.int .i64 ((rd_T61 l1 x5_1).f1)) ∧ w'.cell? ⟨(ad270.add ((x5_1).toNat * 3)).block, (ad270.add ((x5_1).toNat * 3)).off + 2, none⟩ = some (.int .i64 ((rd_T61 l1 x5_1).f2))) (ds := []) #[false, false, false, false, false, false, false, false, false, false] (by kernel_rfl) rfl rfl ⟨((HB.out.cell (World.block_lt_of_cell? w _ hw269_0)).trans hw269_0), ((HB.out.cell (World.block_lt_of_cell? w _ hw269_1)).trans hw269_1), ((HB.out.cell (World.block_lt_of_cell? w _ hw269_2)).trans hw269_2), ((HB.out.cell (World.block_lt_of_cell? w _ hw270_0)).trans hw270_0), ((HB.out.cell (World.block_lt_of_cell? w _ hw270_1)).trans hw270_1), ((HB.out.cell (World.block_lt_of_cell? w _ hw270_2)).trans hw270_2)⟩ (fun hHeld => ?_); refine with_tabW laws_eqCarrierS.tab6 laws_eqCarrierS.bits6 (fun HT_ HW_ => ?_); generalize wr.drew = w9 at HB hx269_0 hx269_1 hx269_2 hx270_0 hx270_1 hx270_2 hHeld ⊢; refine puT (i := 0) (N := some 17) HT_ #[true, false, false, false, false, false, false, false, false, false] ?_; refine puT (i := 1) (N := some 18) HT_ #[true, true, false, false, false, false, false, false, false, false] ?_; refine puT (i := 2) (N := some 19) HT_ #[true, true, true, false, false, false, false, false, false, false] ?_; refine puT (i := 4) (N := some 21) HT_ #[true, true, true, false, true, false, false, false, false, false] ?_; refine puT (i := 5) (N := some 22) HT_ #[true, true, true, false, true, true, false, false, false, false] ?_; refine puT (i := 6) (N := some 23) HT_ #[true, true, true, false, true, true, true, false, false, false] ?_; refine tkT (i := 3) (N := some 20) HT_ HW_ hHeld #[true, true, true, true, true, true, true, false, false, false] ?_; refine tkT (i := 7) (N := some 24) HT_ HW_ hHeld #[true, true, true, true, true, true, true, true, false, false] ?_; refine onT (i := 8) (N := some 25) HT_ #[true, true, true, true, true, true, true, true, true, false] (fun K hK => ?_); refine go_ Try.func42 #[.agg #[.int .i64 ((rd_T61 l0 x5_1).f0), .int .i64 ((rd_T61 l0 x5_1).f1), .int .i64 ((rd_T61 l0 x5_1).f2)], .agg #[.int .i64 ((rd_T61 l1 x5_1).f0), .int .i64 ((rd_T61 l1 x5_1).f1), .int .i64 ((rd_T61 l1 x5_1).f2)]] ?_; with_reducible refine (laws_eqCarrier.calls ((rd_T61 l0 x5_1).f0) ((rd_T61 l0 x5_1).f1) ((rd_T61 l0 x5_1).f2) ((rd_T61 l1 x5_1).f0) ((rd_T61 l1 x5_1).f1) ((rd_T61 l1 x5_1).f2) true _ A7.out).mono ?_
        rintro e w10 ⟨rfl, hb⟩; refine ⟨_, rfl, ?_⟩; replace HB := A_ (below_step (hq HB) hb); clear hb; refine hK.out _ _ ⟨((HB.out.cell (World.block_lt_of_cell? w _ hw269_0)).trans hw269_0), ((HB.out.cell (World.block_lt_of_cell? w _ hw269_1)).trans hw269_1), ((HB.out.cell (World.block_lt_of_cell? w _ hw269_2)).trans hw269_2), ((HB.out.cell (World.block_lt_of_cell? w _ hw270_0)).trans hw270_0), ((HB.out.cell (World.block_lt_of_cell? w _ hw270_1)).trans hw270_1), ((HB.out.cell (World.block_lt_of_cell? w _ hw270_2)).trans hw270_2)⟩ (fun hHeld => ?_); clear hK K; refine nq_ (some 25) ?_; refine puT (i := 9) (N := some 26) HT_ #[true, true, true, true, true, true, true, true, true, true] ?_; refine done_ (done_of HT_.out (by kernel_rfl)) ?_; try go_wp2
        go_roundg k1
        case measure => have := HK1.out; omega
        case rel => exact ⟨(wrap64 (x5_1 + 1)), rf, H', ⟨by have := HK1.out; omega⟩, ⟨hq HB⟩⟩
       ·
        replace c8 := Bool.eq_false_iff.mpr c8; subst c8
        have H1 : (some false) = some r := by rw [if_neg (show ¬ (false = true) by decide)] at H; exact H
        clear H; have H := H1; clear H1; obtain rfl := Option.some.inj H; try go_wp2
        replace HB := A_ (below_drew1 HB.out); have p269 : 0 ≤ (x5_1 : Int) := dq; have q269 : x5_1 < (l0.length : Int) := dq; obtain ⟨ad269, e269, hx269_0, hx269_1, hx269_2⟩ := at_T61 HR0.out x5_1 p269 q269; have hw269_2 := hx269_2; have hw269_1 := hx269_1; have hw269_0 := hx269_0
        cases e269
        replace hx269_0 := (HB.out.cell (World.block_lt_of_cell? w _ hx269_0)).trans hx269_0; replace hx269_1 := (HB.out.cell (World.block_lt_of_cell? w _ hx269_1)).trans hx269_1; replace hx269_2 := (HB.out.cell (World.block_lt_of_cell? w _ hx269_2)).trans hx269_2; replace p269 := eq_true p269; replace q269 := eq_true q269; have p270 : 0 ≤ (x5_1 : Int) := dq; have q270 : x5_1 < (l1.length : Int) := dq; obtain ⟨ad270, e270, hx270_0, hx270_1, hx270_2⟩ := at_T61 HR1.out x5_1 p270 q270; have hw270_2 := hx270_2; have hw270_1 := hx270_1; have hw270_0 := hx270_0
        cases e270
        replace hx270_0 := (HB.out.cell (World.block_lt_of_cell? w _ hx270_0)).trans hx270_0; replace hx270_1 := (HB.out.cell (World.block_lt_of_cell? w _ hx270_1)).trans hx270_1; replace hx270_2 := (HB.out.cell (World.block_lt_of_cell? w _ hx270_2)).trans hx270_2; replace p270 := eq_true p270; replace q270 := eq_true q270; refine start_ (n := 10) (S := fun w' => w'.cell? (ad269.add ((x5_1).toNat * 3)) = some (.int .i64 ((rd_T61 l0 x5_1).f0)) ∧ w'.cell? ⟨(ad269.add ((x5_1).toNat * 3)).block, (ad269.add ((x5_1).toNat * 3)).off + 1, none⟩ = some (.int .i64 ((rd_T61 l0 x5_1).f1)) ∧ w'.cell? ⟨(ad269.add ((x5_1).toNat * 3)).block, (ad269.add ((x5_1).toNat * 3)).off + 2, none⟩ = some (.int .i64 ((rd_T61 l0 x5_1).f2)) ∧ w'.cell? (ad270.add ((x5_1).toNat * 3)) = some (.int .i64 ((rd_T61 l1 x5_1).f0)) ∧ w'.cell? ⟨(ad270.add ((x5_1).toNat * 3)).block, (ad270.add ((x5_1).toNat * 3)).off + 1, none⟩ = some (.int .i64 ((rd_T61 l1 x5_1).f1)) ∧ w'.cell? ⟨(ad270.add ((x5_1).toNat * 3)).block, (ad270.add ((x5_1).toNat * 3)).off + 2, none⟩ = some (.int .i64 ((rd_T61 l1 x5_1).f2))) (ds := []) #[false, false, false, false, false, false, false, false, false, false] (by kernel_rfl) rfl rfl ⟨((HB.out.cell (World.block_lt_of_cell? w _ hw269_0)).trans hw269_0), ((HB.out.cell (World.block_lt_of_cell? w _ hw269_1)).trans hw269_1), ((HB.out.cell (World.block_lt_of_cell? w _ hw269_2)).trans hw269_2), ((HB.out.cell (World.block_lt_of_cell? w _ hw270_0)).trans hw270_0), ((HB.out.cell (World.block_lt_of_cell? w _ hw270_1)).trans hw270_1), ((HB.out.cell (World.block_lt_of_cell? w _ hw270_2)).trans hw270_2)⟩ (fun hHeld => ?_); refine with_tabW laws_eqCarrierS.tab6 laws_eqCarrierS.bits6 (fun HT_ HW_ => ?_); generalize wr.drew = w11 at HB hx269_0 hx269_1 hx269_2 hx270_0 hx270_1 hx270_2 hHeld ⊢; refine puT (i := 0) (N := some 17) HT_ #[true, false, false, false, false, false, false, false, false, false] ?_; refine puT (i := 1) (N := some 18) HT_ #[true, true, false, false, false, false, false, false, false, false] ?_; refine puT (i := 2) (N := some 19) HT_ #[true, true, true, false, false, false, false, false, false, false] ?_; refine puT (i := 4) (N := some 21) HT_ #[true, true, true, false, true, false, false, false, false, false] ?_; refine puT (i := 5) (N := some 22) HT_ #[true, true, true, false, true, true, false, false, false, false] ?_; refine puT (i := 6) (N := some 23) HT_ #[true, true, true, false, true, true, true, false, false, false] ?_; refine tkT (i := 3) (N := some 20) HT_ HW_ hHeld #[true, true, true, true, true, true, true, false, false, false] ?_; refine tkT (i := 7) (N := some 24) HT_ HW_ hHeld #[true, true, true, true, true, true, true, true, false, false] ?_; refine onT (i := 8) (N := some 25) HT_ #[true, true, true, true, true, true, true, true, true, false] (fun K hK => ?_); refine go_ Try.func42 #[.agg #[.int .i64 ((rd_T61 l0 x5_1).f0), .int .i64 ((rd_T61 l0 x5_1).f1), .int .i64 ((rd_T61 l0 x5_1).f2)], .agg #[.int .i64 ((rd_T61 l1 x5_1).f0), .int .i64 ((rd_T61 l1 x5_1).f1), .int .i64 ((rd_T61 l1 x5_1).f2)]] ?_; with_reducible refine (laws_eqCarrier.calls ((rd_T61 l0 x5_1).f0) ((rd_T61 l0 x5_1).f1) ((rd_T61 l0 x5_1).f2) ((rd_T61 l1 x5_1).f0) ((rd_T61 l1 x5_1).f1) ((rd_T61 l1 x5_1).f2) false _ A7.out).mono ?_
        rintro e w12 ⟨rfl, hb⟩; refine ⟨_, rfl, ?_⟩; replace HB := A_ (below_step (hq HB) hb); clear hb; refine hK.out _ _ ⟨((HB.out.cell (World.block_lt_of_cell? w _ hw269_0)).trans hw269_0), ((HB.out.cell (World.block_lt_of_cell? w _ hw269_1)).trans hw269_1), ((HB.out.cell (World.block_lt_of_cell? w _ hw269_2)).trans hw269_2), ((HB.out.cell (World.block_lt_of_cell? w _ hw270_0)).trans hw270_0), ((HB.out.cell (World.block_lt_of_cell? w _ hw270_1)).trans hw270_1), ((HB.out.cell (World.block_lt_of_cell? w _ hw270_2)).trans hw270_2)⟩ (fun hHeld => ?_); clear hK K; refine nq_ (some 25) ?_; refine puT (i := 9) (N := some 26) HT_ #[true, true, true, true, true, true, true, true, true, true] ?_; refine done_ (done_of HT_.out (by kernel_rfl)) ?_; try go_wp2
        go_ret
        exact ⟨rt, hq HB⟩
      ·
       rw [if_neg c6] at H; exact absurd H (by simp)
     ·
      rw [if_neg c5] at H; exact absurd H (by simp)
    ·
     rw [if_neg c4] at H; have c4b0 := decide_eq_false c4; clear c4; obtain rfl := Option.some.inj H; go_wp2
     go_ret
     exact ⟨rt, hq HB⟩
 ·
  rw [if_neg c3] at H; have c3b0 : ((l0.length : Int) == (l1.length : Int)) = false := beq_eq_false_iff_ne.mpr c3; have c3b1 : ((l0.length : Int) != (l1.length : Int)) = true := bne_iff_ne.mpr c3
  have c3b2 : (l0.length == l1.length) = false := by first | simpa using c3 | (simp at c3 ⊢; omega)
  obtain rfl := Option.some.inj H; go_enter Try.func17, Try.ntmps17
  go_wp2
  go_ret
  exact ⟨rt, hq HB⟩

/-! ### laws_FnExactLeastPrice: function 4 -/
def laws_FnExactLeastPrice.j0 : Nat → List (S63) → List (S61) → Bool → Option (Bool)
  | 0, _, _, _ => none
  | k + 1, x1, x12, x48 => if x48 = true then (some false) else ((laws_toCarrierS.f k x1).bind fun t288 => ((laws_eqCarrierS.f k x12 t288).bind fun t291 => (if t291 = true then (some true) else (some false))))
def laws_FnExactLeastPrice.f (k : Nat) (a0_0 : Int) (a0_1 : Bool) (l1 : List (S63)) (a2 : Int) (a3 : Int) : Option (Bool) := (laws_szCarrierS.f l1 1048576).bind fun t273 => (if t273 < 0 then (some true) else ((laws_toRoad.f a0_0 a0_1).bind fun bt274 => ((laws_toCarrierS.f k l1).bind fun t276 => ((spec_LeastPrice.f k bt274.1 bt274.2 t276 a2 a3).bind fun bt279 => ((laws_toCarrierS.f k l1).bind fun t281 => ((laws_toRoad.f a0_0 a0_1).bind fun bt284 => ((impl_LeastPrice.f k bt284.1 bt284.2 t281 a2 a3).bind fun bt286 => (if bt286.1 = bt279.1 then (laws_FnExactLeastPrice.j0 k l1 t281 (bt286.2 != bt279.2)) else (laws_FnExactLeastPrice.j0 k l1 t281 true)))))))))
theorem laws_FnExactLeastPrice.bad0 {k} {r : Bool} {y0 y1} (h : laws_FnExactLeastPrice.j0 k y0 y1 true = some r) (hr : r = true) : False := by subst hr; cases k <;> simp [laws_FnExactLeastPrice.j0] at h
set_option maxHeartbeats 100000000 in
set_option maxRecDepth 100000 in
theorem laws_FnExactLeastPrice.calls (k : Nat) (a0_0 : Int) (a0_1 : Bool) (A1 : Option Addr) (c1 : Nat) (l1 : List (S63)) (a2 : Int) (a3 : Int) (r : Bool) (hr_ : r = true) (w : World) (hr1 : Kd.C k63 w A1 l1.length l1) (hc1 : l1.length ≤ c1) (h : laws_FnExactLeastPrice.f k a0_0 a0_1 l1 a2 a3 = some r) :
    Calls Try.prog 4 #[.agg #[.int .i64 a0_0, .bool a0_1], .slice A1 l1.length c1, .int .i64 a2, .int .i64 a3] w fun e w' => e = .returned (.bool r) ∧ Below w.heap.size w w' := by
 have hu23 := Try.underlying23; have HR1 := A_ hr1; have HC1 := A_ hc1; clear hr1 hc1; have HB := A_ (Below.refl w.heap.size w); have H : ((laws_szCarrierS.f l1 1048576).bind fun t273 => (if t273 < 0 then (some true) else ((laws_toRoad.f a0_0 a0_1).bind fun bt274 => ((laws_toCarrierS.f k l1).bind fun t276 => ((spec_LeastPrice.f k bt274.1 bt274.2 t276 a2 a3).bind fun bt279 => ((laws_toCarrierS.f k l1).bind fun t281 => ((laws_toRoad.f a0_0 a0_1).bind fun bt284 => ((impl_LeastPrice.f k bt284.1 bt284.2 t281 a2 a3).bind fun bt286 => (if bt286.1 = bt279.1 then (laws_FnExactLeastPrice.j0 k l1 t281 (bt286.2 != bt279.2)) else (laws_FnExactLeastPrice.j0 k l1 t281 true)))))))))) = some r := h; clear h; replace H := bm H; obtain ⟨t273, A5, H⟩ := H; by_cases c6 : t273 < 0
 ·
  rw [if_pos c6] at H; have c6b0 := decide_eq_true c6; clear c6; obtain rfl := Option.some.inj H; go_enter Try.func4, Try.ntmps4
  go_wp2_with (first | ((with_reducible refine gate_dst (N := 4) rfl ?_); refine bx (N := 4) #[.int .i64 a0_0, .bool a0_1] 23 ?_; intro gb272 hg w7 hbox hb; have BK272 := A_ (hbox); have GW272 := A_ (bs hg (hq HB) : w.heap.size ≤ gb272); have GE272 := A_ (bs hg (hq HB) : w.heap.size ≤ gb272); replace HB := A_ (below_step (hq HB) hb); clear hb hbox hg) | ((with_reducible refine gate_callee (f := 13) rfl ?_); refine gL (some 17) Try.func13 #[.slice A1 l1.length c1, .int .i64 1048576] ?_; (with_reducible refine (laws_szCarrierS.calls _ _ l1 1048576 t273 _ ?side1 ?side2 A5.out).mono ?_); (case side1 => exact cq (Kd.C_below HR1.out HB.out)); (case side2 => exact HC1.out); rintro e w' ⟨rfl, ⟨nd, rfl⟩⟩; refine ⟨_, rfl, ?_⟩))
  go_ret
  exact ⟨rt, hq HB⟩
 ·
  rw [if_neg c6] at H; have c6b0 := decide_eq_false c6; clear c6; replace H := bm H; obtain ⟨⟨t274, t275⟩, A8, H⟩ := H; (try dsimp only at H); replace H := bm H; obtain ⟨t276, A9, H⟩ := H; replace H := bm H; obtain ⟨⟨t279, t280⟩, A10, H⟩ := H; (try dsimp only at H); replace H := bm H; obtain ⟨t281, A11, H⟩ := H; replace H := bm H; obtain ⟨⟨t284, t285⟩, A12, H⟩ := H; (try dsimp only at H); replace H := bm H; obtain ⟨⟨t286, t287⟩, A13, H⟩ := H; (try dsimp only at H); have HC14 := A_ H; clear H; go_enter Try.func4, Try.ntmps4
  go_upto_region 8 with (first | ((with_reducible refine gate_dst (N := 4) rfl ?_); refine bx (N := 4) #[.int .i64 a0_0, .bool a0_1] 23 ?_; intro gb272 hg w15 hbox hb; have BK272 := A_ (hbox); have GW272 := A_ (bs hg (hq HB) : w.heap.size ≤ gb272); have GE272 := A_ (bs hg (hq HB) : w.heap.size ≤ gb272); replace HB := A_ (below_step (hq HB) hb); clear hb hbox hg) | ((with_reducible refine gate_callee (f := 13) rfl ?_); refine gL (some 17) Try.func13 #[.slice A1 l1.length c1, .int .i64 1048576] ?_; (with_reducible refine (laws_szCarrierS.calls _ _ l1 1048576 t273 _ ?side1 ?side2 A5.out).mono ?_); (case side1 => exact cq (Kd.C_below HR1.out HB.out)); (case side2 => exact HC1.out); rintro e w' ⟨rfl, ⟨nd, rfl⟩⟩; refine ⟨_, rfl, ?_⟩; have hcz16_0 : w15.cell? ⟨gb272, 0, none⟩ = some (.int .i64 a0_0) := bc BK272 0; have hcz16_1 : w15.cell? ⟨gb272, 1, none⟩ = some (.bool a0_1) := bc BK272 1; have hfz16_0 := blk_frozen BK272.out 0; have hfz16_1 := blk_frozen BK272.out 1) | ((with_reducible refine gate_callee (f := 8) rfl ?_); refine gL (some 22) Try.func8 #[.agg #[.int .i64 a0_0, .bool a0_1]] ?_; (with_reducible refine (laws_toRoad.calls a0_0 a0_1 t274 t275 _ A8.out).mono ?_); rintro e w17 ⟨rfl, hb⟩; refine ⟨_, rfl, ?_⟩; replace BK272 := A_ (blk_below (bq BK272) hb); replace HB := A_ (below_step (hq HB) hb); clear hb) | ((with_reducible refine gate_callee (f := 15) rfl ?_); refine gL (some 24) Try.func15 #[.slice A1 l1.length c1] ?_; (with_reducible refine (laws_toCarrierS.calls k _ _ l1 t276 _ ?side1 ?side2 A9.out).mono ?_); (case side1 => exact cq (Kd.C_below HR1.out HB.out)); (case side2 => exact HC1.out); rintro e w18 ⟨v277, rfl, ho0, hb⟩; refine ⟨_, rfl, ?_⟩; have HO278 := A_ (Kd.R_lower ho0 (below_size (hq HB))); replace BK272 := A_ (blk_below (bq BK272) hb); replace HB := A_ (below_step (hq HB) hb); clear hb ho0; obtain ⟨Ao19, co19, eo19⟩ := Kd.R_slice HO278.out; subst eo19) | ((with_reducible refine gate_callee (f := 14) rfl ?_); refine gL (some 27) Try.func14 #[.agg #[.int .i64 t274, .bool t275], .slice Ao19 t276.length co19, .int .i64 a2, .int .i64 a3] ?_; (with_reducible refine (spec_LeastPrice.calls k t274 t275 _ _ t276 a2 a3 t279 t280 _ ?side1 ?side2 A10.out).mono ?_); (case side1 => exact cq (Kd.R_reads' HO278.out).2.2); (case side2 => exact (Kd.R_reads' HO278.out).2.1); rintro e w20 ⟨rfl, hb⟩; refine ⟨_, rfl, ?_⟩; replace HO278 := A_ (Kd.R_below (rq HO278) hb); replace BK272 := A_ (blk_below (bq BK272) hb); replace HB := A_ (below_step (hq HB) hb); clear hb) | ((with_reducible refine gate_callee (f := 15) rfl ?_); refine gL (some 31) Try.func15 #[.slice A1 l1.length c1] ?_; (with_reducible refine (laws_toCarrierS.calls k _ _ l1 t281 _ ?side1 ?side2 A11.out).mono ?_); (case side1 => exact cq (Kd.C_below HR1.out HB.out)); (case side2 => exact HC1.out); rintro e w21 ⟨v282, rfl, ho0, hb⟩; refine ⟨_, rfl, ?_⟩; have HO283 := A_ (Kd.R_lower (Kd.R_new' ho0 (Kd.R_lt (rq HO278))) (below_size (hq HB))); replace HO278 := A_ (Kd.R_elder' (rq HO278) (Kd.R_base ho0) hb); replace BK272 := A_ (blk_below (bq BK272) hb); replace HB := A_ (below_step (hq HB) hb); clear hb ho0; have hcz22_0 : w21.cell? ⟨gb272, 0, none⟩ = some (.int .i64 a0_0) := bc BK272 0; have hcz22_1 : w21.cell? ⟨gb272, 1, none⟩ = some (.bool a0_1) := bc BK272 1; have hfz22_0 := blk_frozen BK272.out 0; have hfz22_1 := blk_frozen BK272.out 1) | ((with_reducible refine gate_callee (f := 8) rfl ?_); refine gL (some 34) Try.func8 #[.agg #[.int .i64 a0_0, .bool a0_1]] ?_; (with_reducible refine (laws_toRoad.calls a0_0 a0_1 t284 t285 _ A12.out).mono ?_); rintro e w23 ⟨rfl, hb⟩; refine ⟨_, rfl, ?_⟩; replace HO278 := A_ (Kd.R_below (rq HO278) hb); replace HO283 := A_ (Kd.R_below (rq HO283) hb); replace BK272 := A_ (blk_below (bq BK272) hb); replace HB := A_ (below_step (hq HB) hb); clear hb; obtain ⟨Ao24, co24, eo24⟩ := Kd.R_slice HO283.out; subst eo24) | ((with_reducible refine gate_callee (f := 16) rfl ?_); refine gL (some 38) Try.func16 #[.agg #[.int .i64 t284, .bool t285], .slice Ao24 t281.length co24, .int .i64 a2, .int .i64 a3] ?_; (with_reducible refine (impl_LeastPrice.calls k t284 t285 _ _ t281 a2 a3 t286 t287 _ ?side1 ?side2 A13.out).mono ?_); (case side1 => exact cq (Kd.R_reads' HO283.out).2.2); (case side2 => exact (Kd.R_reads' HO283.out).2.1); rintro e w25 ⟨rfl, hb⟩; refine ⟨_, rfl, ?_⟩; replace HO278 := A_ (Kd.R_below (rq HO278) hb); replace HO283 := A_ (Kd.R_below (rq HO283) hb); replace BK272 := A_ (blk_below (bq BK272) hb); replace HB := A_ (below_step (hq HB) hb); clear hb))
  (try simp only [Act.put, List.setIfInBounds_toArray, List.set_cons_zero, List.set_cons_succ]); go_cut [48] (fun v48 wc => ∃ (kq : Nat) (x48_13 : Bool), v48 = .bool x48_13 ∧ Aside0 (laws_FnExactLeastPrice.j0 kq l1 t281 x48_13 = some r) ∧ Aside0 (kq ≤ k) ∧ Aside0 (Kd.R k61 61 wc w.heap.size (fun _ => True) (.slice Ao24 t281.length co24) t281) ∧ Aside0 (wc.heap[gb272]? = some (.cells #[.int .i64 a0_0, .bool a0_1] 23 (0, 0))) ∧ Aside0 (Below w.heap.size w wc))
  case first =>
   have H := HC14.out; clear HC14; by_cases c26 : t286 = t279
   ·
    rw [if_pos c26] at H; have c26b0 : (t286 == t279) = true := beq_iff_eq.mpr c26; have c26b1 : (t286 != t279) = false := bne_eq_false_iff_eq.mpr c26; clear c26; (first | rw [c26b0] | (simp only [i64_w, i32_w]; rw [c26b0]) | skip); have H' := A_ H; clear H; go_wp2
    go_meet
    case rel => exact ⟨_, ((t287 != t280)), rf, H', ⟨by first | omega | exact Nat.le_refl _⟩, ⟨by (with_reducible repeat (first | apply Kd.R_alloc | apply Kd.R_drewN | apply Kd.R_drew)); exact Kd.R_mono HO283.out (fun _ hk => trivial)⟩, ⟨bq BK272⟩, ⟨hq HB⟩⟩
   ·
    rw [if_neg c26] at H; have c26b0 : (t286 == t279) = false := beq_eq_false_iff_ne.mpr c26; have c26b1 : (t286 != t279) = true := bne_iff_ne.mpr c26; (first | rw [c26b0] | (simp only [i64_w, i32_w]; rw [c26b0]) | skip); exact (laws_FnExactLeastPrice.bad0 H hr_).elim
  case rest =>
   as_aux_lemma =>
    clear HC14; (try clear c6); (try clear c6b0); (try clear c26); (try clear c26b0); (try clear c26b1); (try clear hcz16_0); (try clear hcz16_1); (try clear hcz22_0); (try clear hcz22_1); (try clear hfz16_0); (try clear hfz16_1); (try clear hfz22_0); (try clear hfz22_1); obtain ⟨kq, x48_13, rfl, HA, HJ13, HO_12, BK272, HB⟩ := hcut
    cases kq with
    | zero => exact absurd HA.out (by simp [laws_FnExactLeastPrice.j0])
    | succ kj13 =>
     have H := HA.out; clear HA; simp only [laws_FnExactLeastPrice.j0] at H
     by_cases c27 : x48_13 = true
     ·
      subst c27
      have H1 : (some false) = some r := by rw [if_pos rfl] at H; exact H
      clear H; have H := H1; clear H1; obtain rfl := Option.some.inj H; exact absurd hr_ (by decide)
     ·
      replace c27 := Bool.eq_false_iff.mpr c27; subst c27
      have H1 : ((laws_toCarrierS.f kj13 l1).bind fun t288 => ((laws_eqCarrierS.f kj13 t281 t288).bind fun t291 => (if t291 = true then (some true) else (some false)))) = some r := by rw [if_neg (show ¬ (false = true) by decide)] at H; exact H
      clear H; have H := H1; clear H1; replace H := bm H; obtain ⟨t288, A28, H⟩ := H; replace H := bm H; obtain ⟨t291, A29, H⟩ := H; by_cases c30 : t291 = true
      ·
       subst c30
       have H1 : (some true) = some r := by rw [if_pos rfl] at H; exact H
       clear H; have H := H1; clear H1; obtain rfl := Option.some.inj H; go_wp2_with (first | ((with_reducible refine gate_callee (f := 15) rfl ?_); refine gL (some 51) Try.func15 #[.slice A1 l1.length c1] ?_; (with_reducible refine (laws_toCarrierS.calls kj13 _ _ l1 t288 _ ?side1 ?side2 A28.out).mono ?_); (case side1 => exact cq (Kd.C_below HR1.out HB.out)); (case side2 => exact HC1.out); rintro e w31 ⟨v289, rfl, ho0, hb⟩; refine ⟨_, rfl, ?_⟩; have HO290 := A_ (Kd.R_lower (Kd.R_new' ho0 (Kd.R_lt (rq HO_12))) (below_size (hq HB))); replace HO_12 := A_ (Kd.R_elder' (rq HO_12) (Kd.R_base ho0) hb); replace BK272 := A_ (blk_below (bq BK272) hb); replace HB := A_ (below_step (hq HB) hb); clear hb ho0; obtain ⟨Ao32, co32, eo32⟩ := Kd.R_slice HO290.out; subst eo32) | ((with_reducible refine gate_callee (f := 17) rfl ?_); refine gL (some 52) Try.func17 #[.slice Ao24 t281.length co24, .slice Ao32 t288.length co32] ?_; (with_reducible refine (laws_eqCarrierS.calls kj13 _ _ t281 _ _ t288 true _ ?side1 ?side2 ?side3 ?side4 A29.out).mono ?_); (case side1 => exact cq (Kd.R_reads' HO_12.out).2.2); (case side2 => exact (Kd.R_reads' HO_12.out).2.1); (case side3 => exact cq (Kd.R_reads' HO290.out).2.2); (case side4 => exact (Kd.R_reads' HO290.out).2.1); rintro e w33 ⟨rfl, hb⟩; refine ⟨_, rfl, ?_⟩; replace HO_12 := A_ (Kd.R_below (rq HO_12) hb); replace HO290 := A_ (Kd.R_below (rq HO290) hb); replace BK272 := A_ (blk_below (bq BK272) hb); replace HB := A_ (below_step (hq HB) hb); clear hb))
       go_ret
       exact ⟨rt, hq HB⟩
      ·
       replace c30 := Bool.eq_false_iff.mpr c30; subst c30
       have H1 : (some false) = some r := by rw [if_neg (show ¬ (false = true) by decide)] at H; exact H
       clear H; have H := H1; clear H1; obtain rfl := Option.some.inj H; exact absurd hr_ (by decide)
end Go.Proofs.Ythgbkekfekcfaaa.PFnExactLeastPrice
