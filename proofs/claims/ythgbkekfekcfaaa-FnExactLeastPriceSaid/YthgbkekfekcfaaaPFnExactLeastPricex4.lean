-- Told shorter still by shrink2.py.
-- Printed, and told shorter by this session's program shrink.py.
-- Printed by this session's program myprint.py.
import Derived.Test.YthgbkekfekcfaaaPFnExactLeastPricex0
import Derived.Test.YthgbkekfekcfaaaPFnExactLeastPricex1
import Derived.Test.YthgbkekfekcfaaaPFnExactLeastPricex3
namespace Go.Proofs.Ythgbkekfekcfaaa.PFnExactLeastPrice
open Go.RowKit Go.Proofs.Ythgbkekfekcfaaa.Own Go.Proofs.YthgbkekfekcfaaaW.PrintWords Go.Proofs.YthgbkekfekcfaaaW.PrintLast Go.Proofs.YthgbkekfekcfaaaW.PrintMore
attribute [local go_sem] max2_int min2_int max_two min_two max_three min_three max_four min_four   -- for this text's walks alone
set_option linter.unusedVariables false
set_option linter.unusedSimpArgs false

/-! ### spec_LeastPrice: function 14 -/
def spec_LeastPrice.f (k : Nat) (a0_0 : Int) (a0_1 : Bool) (l1 : List (S61)) (a2 : Int) (a3 : Int) : Option (Int × Bool) := (spec_l7Asks.f k a0_0 a0_1 l1 a2 a3).bind fun t193 => (if t193 = true then ((spec_l7Best.f k a0_0 a0_1 l1 a2 a3 false).bind fun t194 => ((spec_l7Told.f t194).bind fun bt195 => (some (bt195.1, bt195.2)))) else (some (0, false)))
theorem spec_LeastPrice.mono : ∀ a0 a1 a2 a3 a4 k, LeO (spec_LeastPrice.f k a0 a1 a2 a3 a4) (spec_LeastPrice.f (k + 1) a0 a1 a2 a3 a4) := by
  intro a0 a1 a2 a3 a4 k
  unfold spec_LeastPrice.f
  repeat' first
      | (with_reducible exact spec_l7Asks.mono _ _ _ _ _ _)
      | (with_reducible exact spec_l7Best.mono _ _ _ _ _ _ _)
      | (with_reducible exact LeO.refl _)
      | (with_reducible exact LeO.none _)
      | (with_reducible refine LeO.ite ?_ ?_)
      | (with_reducible refine LeO.bind ?_ (fun _ => ?_))
      | exact spec_l7Asks.mono _ _ _ _ _ _
      | exact spec_l7Best.mono _ _ _ _ _ _ _
      | exact LeO.none _
      | refine LeO.ite ?_ ?_
      | refine LeO.bind ?_ (fun _ => ?_)
set_option maxHeartbeats 8000000 in
set_option maxRecDepth 100000 in
theorem spec_LeastPrice.calls (k : Nat) (a0_0 : Int) (a0_1 : Bool) (A1 : Option Addr) (c1 : Nat) (l1 : List (S61)) (a2 : Int) (a3 : Int) (r1 : Int) (r2 : Bool) (w : World) (hr1 : Kd.C k61 w A1 l1.length l1) (hc1 : l1.length ≤ c1) (h : spec_LeastPrice.f k a0_0 a0_1 l1 a2 a3 = some (r1, r2)) :
    Calls Try.prog 14 #[.agg #[.int .i64 a0_0, .bool a0_1], .slice A1 l1.length c1, .int .i64 a2, .int .i64 a3] w fun e w' => e = .returned (.tuple #[.int .i64 r1, .bool r2]) ∧ Below w.heap.size w w' := by
 have hu27 := Try.underlying27; have HR1 := A_ hr1; have HC1 := A_ hc1; clear hr1 hc1; have HB := A_ (Below.refl w.heap.size w); have H : ((spec_l7Asks.f k a0_0 a0_1 l1 a2 a3).bind fun t193 => (if t193 = true then ((spec_l7Best.f k a0_0 a0_1 l1 a2 a3 false).bind fun t194 => ((spec_l7Told.f t194).bind fun bt195 => (some (bt195.1, bt195.2)))) else (some (0, false)))) = some (r1, r2) := h; clear h; replace H := bm H; obtain ⟨t193, A5, H⟩ := H; by_cases c6 : t193 = true
 ·
  subst c6
  have H1 : ((spec_l7Best.f k a0_0 a0_1 l1 a2 a3 false).bind fun t194 => ((spec_l7Told.f t194).bind fun bt195 => (some (bt195.1, bt195.2)))) = some (r1, r2) := by rw [if_pos rfl] at H; exact H
  clear H; have H := H1; clear H1; replace H := bm H; obtain ⟨t194, A7, H⟩ := H; replace H := bm H; obtain ⟨⟨t195, t196⟩, A8, H⟩ := H; (try dsimp only at H); simp only [Option.some.injEq, Prod.mk.injEq] at H
  obtain ⟨rfl, rfl⟩ := H; go_enter Try.func14, Try.ntmps14
  go_wp2_with (first | ((with_reducible refine gate_dst (N := 4) rfl ?_); refine bx (N := 4) #[.int .i64 a0_0, .bool a0_1] 27 ?_; intro gb192 hg w9 hbox hb; have BK192 := A_ (hbox); have GW192 := A_ (bs hg (hq HB) : w.heap.size ≤ gb192); have GE192 := A_ (bs hg (hq HB) : w.heap.size ≤ gb192); replace HB := A_ (below_step (hq HB) hb); clear hb hbox hg; have hcz10_0 : w9.cell? ⟨gb192, 0, none⟩ = some (.int .i64 a0_0) := bc BK192 0; have hcz10_1 : w9.cell? ⟨gb192, 1, none⟩ = some (.bool a0_1) := bc BK192 1; have hfz10_0 := blk_frozen BK192.out 0; have hfz10_1 := blk_frozen BK192.out 1) | ((with_reducible refine gate_callee (f := 35) rfl ?_); refine gL (some 14) Try.func35 #[.agg #[.int .i64 a0_0, .bool a0_1], .slice A1 l1.length c1, .int .i64 a2, .int .i64 a3] ?_; (with_reducible refine (spec_l7Asks.calls k a0_0 a0_1 _ _ l1 a2 a3 true _ ?side1 ?side2 A5.out).mono ?_); (case side1 => exact cq (Kd.C_below HR1.out HB.out)); (case side2 => exact HC1.out); rintro e w11 ⟨rfl, hb⟩; refine ⟨_, rfl, ?_⟩; replace BK192 := A_ (blk_below (bq BK192) hb); replace HB := A_ (below_step (hq HB) hb); clear hb; have hcz12_0 : w11.cell? ⟨gb192, 0, none⟩ = some (.int .i64 a0_0) := bc BK192 0; have hcz12_1 : w11.cell? ⟨gb192, 1, none⟩ = some (.bool a0_1) := bc BK192 1; have hfz12_0 := blk_frozen BK192.out 0; have hfz12_1 := blk_frozen BK192.out 1) | ((with_reducible refine gate_callee (f := 37) rfl ?_); refine gL (some 20) Try.func37 #[.agg #[.int .i64 a0_0, .bool a0_1], .slice A1 l1.length c1, .int .i64 a2, .int .i64 a3, .bool false] ?_; (with_reducible refine (spec_l7Best.calls k a0_0 a0_1 _ _ l1 a2 a3 false t194 _ ?side1 ?side2 A7.out).mono ?_); (case side1 => exact cq (Kd.C_below HR1.out HB.out)); (case side2 => exact HC1.out); rintro e w13 ⟨rfl, hb⟩; refine ⟨_, rfl, ?_⟩; replace BK192 := A_ (blk_below (bq BK192) hb); replace HB := A_ (below_step (hq HB) hb); clear hb) | ((with_reducible refine gate_callee (f := 36) rfl ?_); refine gL (some 21) Try.func36 #[.int .i64 t194] ?_; (with_reducible refine (spec_l7Told.calls t194 t195 t196 _ A8.out).mono ?_); rintro e w' ⟨rfl, ⟨nd, rfl⟩⟩; refine ⟨_, rfl, ?_⟩))
  go_ret2
  exact ⟨rt, hq HB⟩
 ·
  replace c6 := Bool.eq_false_iff.mpr c6; subst c6
  have H1 : (some (0, false)) = some (r1, r2) := by rw [if_neg (show ¬ (false = true) by decide)] at H; exact H
  clear H; have H := H1; clear H1; simp only [Option.some.injEq, Prod.mk.injEq] at H
  obtain ⟨rfl, rfl⟩ := H; go_enter Try.func14, Try.ntmps14
  go_wp2_with (first | ((with_reducible refine gate_dst (N := 4) rfl ?_); refine bx (N := 4) #[.int .i64 a0_0, .bool a0_1] 27 ?_; intro gb192 hg w14 hbox hb; have BK192 := A_ (hbox); have GW192 := A_ (bs hg (hq HB) : w.heap.size ≤ gb192); have GE192 := A_ (bs hg (hq HB) : w.heap.size ≤ gb192); replace HB := A_ (below_step (hq HB) hb); clear hb hbox hg; have hcz15_0 : w14.cell? ⟨gb192, 0, none⟩ = some (.int .i64 a0_0) := bc BK192 0; have hcz15_1 : w14.cell? ⟨gb192, 1, none⟩ = some (.bool a0_1) := bc BK192 1; have hfz15_0 := blk_frozen BK192.out 0; have hfz15_1 := blk_frozen BK192.out 1) | ((with_reducible refine gate_callee (f := 35) rfl ?_); refine gL (some 14) Try.func35 #[.agg #[.int .i64 a0_0, .bool a0_1], .slice A1 l1.length c1, .int .i64 a2, .int .i64 a3] ?_; (with_reducible refine (spec_l7Asks.calls k a0_0 a0_1 _ _ l1 a2 a3 false _ ?side1 ?side2 A5.out).mono ?_); (case side1 => exact cq (Kd.C_below HR1.out HB.out)); (case side2 => exact HC1.out); rintro e w16 ⟨rfl, hb⟩; refine ⟨_, rfl, ?_⟩; replace BK192 := A_ (blk_below (bq BK192) hb); replace HB := A_ (below_step (hq HB) hb); clear hb))
  go_ret2
  exact ⟨rt, hq HB⟩

/-! ### laws_toCarrier: function 38 -/
def laws_toCarrier.f (a0_0 : Int) (a0_1 : Int) (a0_2 : Int) : Option (Int × Int × Int) := some (a0_0, a0_1, a0_2)
set_option maxHeartbeats 8000000 in
set_option maxRecDepth 100000 in
theorem laws_toCarrier.calls (a0_0 : Int) (a0_1 : Int) (a0_2 : Int) (r1 : Int) (r2 : Int) (r3 : Int) (w : World) (h : laws_toCarrier.f a0_0 a0_1 a0_2 = some (r1, r2, r3)) :
    Calls Try.prog 38 #[.agg #[.int .i64 a0_0, .int .i64 a0_1, .int .i64 a0_2]] w fun e w' => e = .returned (.agg #[.int .i64 r1, .int .i64 r2, .int .i64 r3]) ∧ Below w.heap.size w w' := by
 have hu63 := Try.underlying63; have hu61 := Try.underlying61; have HB := A_ (Below.refl w.heap.size w); have H : (some (a0_0, a0_1, a0_2)) = some (r1, r2, r3) := h; clear h; simp only [Option.some.injEq, Prod.mk.injEq] at H
 obtain ⟨rfl, rfl, rfl⟩ := H; go_enter Try.func38, Try.ntmps38
 go_wp2_with (first | ((with_reducible refine gate_dst (N := 1) rfl ?_); refine bx (N := 1) #[.int .i64 a0_0, .int .i64 a0_1, .int .i64 a0_2] 63 ?_; intro gb197 hg w2 hbox hb; have BK197 := A_ (hbox); have GW197 := A_ (bs hg (hq HB) : w.heap.size ≤ gb197); have GE197 := A_ (bs hg (hq HB) : w.heap.size ≤ gb197); replace HB := A_ (below_step (hq HB) hb); clear hb hbox hg) | ((with_reducible refine gate_dst (N := 2) rfl ?_); refine bx (N := 2) #[.int .i64 0, .int .i64 0, .int .i64 0] 61 ?_; intro gb198 hg w3 hbox hb; have BK198 := A_ (hbox); have GW198 := A_ (bs hg (hq HB) : w.heap.size ≤ gb198); have GE198 := A_ (bs hg (hq HB) : w.heap.size ≤ gb198); replace HB := A_ (below_step (hq HB) hb); have NB197_198 := A_ ((by rw [hg]; exact Nat.ne_of_lt (blk_lt (bq BK197)) : gb197 ≠ gb198)); have NB198_197 := A_ ((by rw [hg]; exact Nat.ne_of_gt (blk_lt (bq BK197)) : gb198 ≠ gb197)); replace BK197 := A_ (blk_below (bq BK197) hb); clear hb hbox hg) | ((with_reducible refine gate_dst (N := 3) rfl ?_); refine bx (N := 3) #[.int .i64 0, .int .i64 0, .int .i64 0] 61 ?_; intro gb199 hg w4 hbox hb; have BK199 := A_ (hbox); have GW199 := A_ (bs hg (hq HB) : w.heap.size ≤ gb199); have GE199 := A_ (bs hg (hq HB) : w.heap.size ≤ gb199); replace HB := A_ (below_step (hq HB) hb); have NB197_199 := A_ ((by rw [hg]; exact Nat.ne_of_lt (blk_lt (bq BK197)) : gb197 ≠ gb199)); have NB199_197 := A_ ((by rw [hg]; exact Nat.ne_of_gt (blk_lt (bq BK197)) : gb199 ≠ gb197)); replace BK197 := A_ (blk_below (bq BK197) hb); have NB198_199 := A_ ((by rw [hg]; exact Nat.ne_of_lt (blk_lt (bq BK198)) : gb198 ≠ gb199)); have NB199_198 := A_ ((by rw [hg]; exact Nat.ne_of_gt (blk_lt (bq BK198)) : gb199 ≠ gb198)); replace BK198 := A_ (blk_below (bq BK198) hb); clear hb hbox hg; have hnb5 := NB197_198.out; have hnc5 := NB198_197.out; have hnb6 := NB197_199.out; have hnc6 := NB199_197.out; have hcz7_0 : w4.cell? ⟨gb197, 0, none⟩ = some (.int .i64 a0_0) := bc BK197 0; have hcz7_1 : w4.cell? ⟨gb197, 1, none⟩ = some (.int .i64 a0_1) := bc BK197 1; have hcz7_2 : w4.cell? ⟨gb197, 2, none⟩ = some (.int .i64 a0_2) := bc BK197 2; have hfz7_0 := blk_frozen BK197.out 0; have hfz7_1 := blk_frozen BK197.out 1; have hfz7_2 := blk_frozen BK197.out 2; have hnb8 := NB199_198.out; have hnc8 := NB198_199.out; have hcz9_0 : w4.cell? ⟨gb199, 0, none⟩ = some (.int .i64 0) := bc BK199 0; have hcz9_1 : w4.cell? ⟨gb199, 1, none⟩ = some (.int .i64 0) := bc BK199 1; have hcz9_2 : w4.cell? ⟨gb199, 2, none⟩ = some (.int .i64 0) := bc BK199 2; have hfz9_0 := blk_frozen BK199.out 0; have hfz9_1 := blk_frozen BK199.out 1; have hfz9_2 := blk_frozen BK199.out 2; have hcz10_0 : w4.cell? ⟨gb198, 0, none⟩ = some (.int .i64 0) := bc BK198 0; have hcz10_1 : w4.cell? ⟨gb198, 1, none⟩ = some (.int .i64 0) := bc BK198 1; have hcz10_2 : w4.cell? ⟨gb198, 2, none⟩ = some (.int .i64 0) := bc BK198 2; have hfz10_0 := blk_frozen BK198.out 0; have hfz10_1 := blk_frozen BK198.out 1; have hfz10_2 := blk_frozen BK198.out 2))
 refine bodyPost_ret (results_cell_row rfl _ _ gb198 61 #[.int .i64 a0_0, .int .i64 a0_1, .int .i64 a0_2] (0, 0) _ rfl (by (with_reducible repeat (first | refine blk_drewN ?_ _ | refine blk_drew ?_ | refine blk_alloc ?_ _)); refine blk_put (cs := #[.int .i64 a0_0, .int .i64 a0_1, .int .i64 0]) ?_ 2 _ rfl; (with_reducible repeat (first | refine blk_drewN ?_ _ | refine blk_drew ?_ | refine blk_alloc ?_ _)); refine blk_put (cs := #[.int .i64 a0_0, .int .i64 0, .int .i64 0]) ?_ 1 _ rfl; (with_reducible repeat (first | refine blk_drewN ?_ _ | refine blk_drew ?_ | refine blk_alloc ?_ _)); refine blk_put (cs := #[.int .i64 0, .int .i64 0, .int .i64 0]) ?_ 0 _ rfl; (with_reducible repeat (first | refine blk_drewN ?_ _ | refine blk_drew ?_ | refine blk_alloc ?_ _)); refine blk_far ?_ NB198_199.out _; (with_reducible repeat (first | refine blk_drewN ?_ _ | refine blk_drew ?_ | refine blk_alloc ?_ _)); refine blk_far ?_ NB198_199.out _; (with_reducible repeat (first | refine blk_drewN ?_ _ | refine blk_drew ?_ | refine blk_alloc ?_ _)); refine blk_far ?_ NB198_199.out _; (with_reducible repeat (first | refine blk_drewN ?_ _ | refine blk_drew ?_ | refine blk_alloc ?_ _)); exact BK198.out) Try.underlying61 rfl (by kernel_rfl)) rfl ?_; exact ⟨rt, hq HB⟩

/-! ### laws_toCarrierS: function 15 -/
def laws_toCarrierS.l0 : Nat → List (S63) → List (S61) → Int → Option ((List (S61)))
  | 0, _, _, _ => none
  | k + 1, x0, x3, x4 => if x4 < (x0.length : Int) then (if 0 ≤ x4 then ((laws_toCarrier.f ((rd_T63 x0 x4).f0) ((rd_T63 x0 x4).f1) ((rd_T63 x0 x4).f2)).bind fun bt204 => (if x4 < (x3.length : Int) then (laws_toCarrierS.l0 k x0 (x3.set (x4 : Int).toNat (⟨bt204.1, bt204.2.1, bt204.2.2⟩ : S61)) (wrap64 (x4 + 1))) else (none))) else (none)) else (some x3)
def laws_toCarrierS.f (k : Nat) (l0 : List (S63)) : Option ((List (S61))) := if 0 ≤ (l0.length : Int) then (if ((l0.length : Int) : Int).toNat ≤ 11728124029610 then (laws_toCarrierS.l0 k l0 (List.replicate ((l0.length : Int) : Int).toNat z61) 0) else (none)) else (none)
theorem laws_toCarrierS.mono_l : ∀ k, (∀ y0 y1 y2, LeO (laws_toCarrierS.l0 k y0 y1 y2) (laws_toCarrierS.l0 (k + 1) y0 y1 y2))
  | 0 => fun _ _ _ r h => by simp [laws_toCarrierS.l0] at h
  | k + 1 => by
    have ih0 := laws_toCarrierS.mono_l k
    · intro y0 y1 y2
      unfold laws_toCarrierS.l0
      repeat' first
      | (with_reducible exact ih0 _ _ _)
      | (with_reducible exact LeO.refl _)
      | (with_reducible exact LeO.none _)
      | (with_reducible refine LeO.ite ?_ ?_)
      | (with_reducible refine LeO.bind ?_ (fun _ => ?_))
      | exact ih0 _ _ _
      | exact LeO.none _
      | refine LeO.ite ?_ ?_
      | refine LeO.bind ?_ (fun _ => ?_)
theorem laws_toCarrierS.mono : ∀ a0 k, LeO (laws_toCarrierS.f k a0) (laws_toCarrierS.f (k + 1) a0) := by
  intro a0 k
  have ih0 := laws_toCarrierS.mono_l k
  unfold laws_toCarrierS.f
  repeat' first
      | (with_reducible exact ih0 _ _ _)
      | (with_reducible exact LeO.refl _)
      | (with_reducible exact LeO.none _)
      | (with_reducible refine LeO.ite ?_ ?_)
      | (with_reducible refine LeO.bind ?_ (fun _ => ?_))
      | exact ih0 _ _ _
      | exact LeO.none _
      | refine LeO.ite ?_ ?_
      | refine LeO.bind ?_ (fun _ => ?_)
set_option maxHeartbeats 8000000 in
set_option maxRecDepth 100000 in
theorem laws_toCarrierS.calls (k : Nat) (A0 : Option Addr) (c0 : Nat) (l0 : List (S63)) (r : List (S61)) (w : World) (hr0 : Kd.C k63 w A0 l0.length l0) (hc0 : l0.length ≤ c0) (h : laws_toCarrierS.f k l0 = some r) :
    Calls Try.prog 15 #[.slice A0 l0.length c0] w fun e w' => ∃ v0_ : Value, e = .returned (v0_) ∧ Kd.R k61 61 w' w.heap.size (fun _ => True) v0_ r ∧ Below w.heap.size w w' := by
 have hu63 := Try.underlying63; have hu61 := Try.underlying61; have HR0 := A_ hr0; have HC0 := A_ hc0; clear hr0 hc0; have HB := A_ (Below.refl w.heap.size w); have H : (if 0 ≤ (l0.length : Int) then (if ((l0.length : Int) : Int).toNat ≤ 11728124029610 then (laws_toCarrierS.l0 k l0 (List.replicate ((l0.length : Int) : Int).toNat z61) 0) else (none)) else (none)) = some r := h; clear h; by_cases c2 : 0 ≤ (l0.length : Int)
 ·
  rw [if_pos c2] at H; have c2b0 := eq_true c2; have c2b1 := decide_eq_true c2; clear c2; by_cases c3 : ((l0.length : Int) : Int).toNat ≤ 11728124029610
  ·
   rw [if_pos c3] at H; have c3b0 := eq_true c3; have c3b1 := decide_eq_true c3; clear c3
   obtain ⟨y200, hy200⟩ : ∃ y_ : List (S61), y_ = (List.replicate ((l0.length : Int) : Int).toNat z61) := ⟨_, rfl⟩
   replace H : (laws_toCarrierS.l0 k l0 y200 0) = some r := by first | (rw [hy200]; with_reducible exact H) | (have H2_ := (Option.bind_some _ _).symm.trans H; rw [hy200]; with_reducible exact H2_) | (have H2_ := (Option.bind_some _ _).symm.trans H; with_reducible exact H2_) | with_reducible exact H | (rw [hy200]; exact H) | exact H
   have Ny200 := A_ hy200; clear hy200; have H' := A_ H; clear H; go_enter Try.func15, Try.ntmps15
   go_wp2_with (first | ((with_reducible refine gate_dst (N := 7) rfl ?_); refine Kd.R_make k61 _ 61 rfl (N := 7) rfl 36 _ _ rfl (l0.length : Int) rfl rfl Try.underlying36 (.agg #[(.int .i64 0), (.int .i64 0), (.int .i64 0)]) 24 info61 rfl (by decide) (by omega) z61 (ok := fun _ => True) (okp := fun _ => True) (k61_mkM _ _ _ z61 ) (fun _ hk => hk) trivial (dq) (Nat.le_trans (Nat.mul_le_mul_right _ (dq : (l0.length : Int).toNat ≤ 11728124029610)) (by omega)) (Below.refl _ _) (Nat.le_refl _) ?_; intro v201 w4 ho5 hb hg_ hnew_; clear hg_ hnew_; (first | rw [← Ny200.out] at ho5 | (simp only [Int.reduceToNat] at ho5; rw [← Ny200.out] at ho5)); have HO202 := A_ (Kd.R_lower ho5 (below_size (hq HB))); replace HB := A_ (below_step (hq HB) hb); clear hb ho5))
   go_loopg [4] k (fun kq v4 w' => ∃ (x3_1 : List (S61)) (x4_1 : Int), v4 = .int .i64 x4_1 ∧ Aside0 (laws_toCarrierS.l0 kq l0 x3_1 x4_1 = some r) ∧ Aside0 (kq ≤ k) ∧ Aside0 (Kd.R k61 61 w' w.heap.size (fun _ => True) v201 x3_1) ∧ Aside0 (Below w.heap.size w w'))
   case atStart => exact ⟨(y200), (0), rf, H', ⟨Nat.le_refl _⟩, ⟨rq HO202⟩, ⟨hq HB⟩⟩
   case round =>
    clear H'; (try clear c2); (try clear c2b0); (try clear c2b1); (try clear c3); (try clear c3b0); (try clear c3b1); obtain ⟨x3_1, x4_1, rfl, HA, HK1, HO_3, HB⟩ := hrel
    cases gk with
    | zero => exact absurd HA.out (by simp [laws_toCarrierS.l0])
    | succ k1 =>
     have H := HA.out; clear HA; simp only [laws_toCarrierS.l0] at H
     by_cases c6 : x4_1 < (l0.length : Int)
     ·
      rw [if_pos c6] at H; have c6b0 := decide_eq_true c6; clear c6; by_cases c7 : 0 ≤ x4_1
      ·
       rw [if_pos c7] at H; have c7b0 := decide_eq_true c7; clear c7; replace H := bm H; obtain ⟨⟨t204, t205, t206⟩, A8, H⟩ := H; (try dsimp only at H); by_cases c9 : x4_1 < (x3_1.length : Int)
       ·
        rw [if_pos c9] at H; have c9b0 := decide_eq_true c9; clear c9
        obtain ⟨y207, hy207⟩ : ∃ y_ : List (S61), y_ = (x3_1.set (x4_1 : Int).toNat (⟨t204, t205, t206⟩ : S61)) := ⟨_, rfl⟩
        replace H : (laws_toCarrierS.l0 k1 l0 y207 (wrap64 (x4_1 + 1))) = some r := by first | (rw [hy207]; with_reducible exact H) | (have H2_ := (Option.bind_some _ _).symm.trans H; rw [hy207]; with_reducible exact H2_) | (have H2_ := (Option.bind_some _ _).symm.trans H; with_reducible exact H2_) | with_reducible exact H | (rw [hy207]; exact H) | exact H
        have Ny207 := A_ hy207; clear hy207; have H' := A_ H; clear H; have p203 : 0 ≤ (x4_1 : Int) := dq; have q203 : x4_1 < (l0.length : Int) := dq; obtain ⟨ad203, e203, hx203_0, hx203_1, hx203_2⟩ := at_T63 HR0.out x4_1 p203 q203
        cases e203
        replace hx203_0 := (HB.out.cell (World.block_lt_of_cell? w _ hx203_0)).trans hx203_0; replace hx203_1 := (HB.out.cell (World.block_lt_of_cell? w _ hx203_1)).trans hx203_1; replace hx203_2 := (HB.out.cell (World.block_lt_of_cell? w _ hx203_2)).trans hx203_2; replace p203 := eq_true p203; replace q203 := eq_true q203; go_wp2_with (first | ((with_reducible refine gate_callee (f := 38) rfl ?_); refine gL (some 20) Try.func38 #[.agg #[.int .i64 ((rd_T63 l0 x4_1).f0), .int .i64 ((rd_T63 l0 x4_1).f1), .int .i64 ((rd_T63 l0 x4_1).f2)]] ?_; (with_reducible refine (laws_toCarrier.calls ((rd_T63 l0 x4_1).f0) ((rd_T63 l0 x4_1).f1) ((rd_T63 l0 x4_1).f2) t204 t205 t206 _ A8.out).mono ?_); rintro e w11 ⟨rfl, hb⟩; refine ⟨_, rfl, ?_⟩; replace HO_3 := A_ (Kd.R_below (rq HO_3) hb); replace HB := A_ (below_step (hq HB) hb); clear hb; have p10 : 0 ≤ (x4_1 : Int) := dq; have q10 : (x4_1 : Int) < ((x3_1.length : Int) : Int) := dq; obtain ⟨go10, co10, eo10, gb10, gl10, cl10, HG10⟩ := Kd.R_form HO_3.out (by omega); (first | cases eo10 | (injection eo10 with ea_ en_ ec_; (first | subst ea_ | (injection ea_ with ea_; subst ea_)); subst ec_; clear en_)); have GB10 := A_ gb10; have GG10 := A_ HG10; clear gb10 gl10 HG10; obtain ⟨ce10, hcl10, hM10, hcc10, hfr10⟩ := Kd.R_elem HO_3.out z61 (x4_1 : Int) p10 q10; obtain rfl := k61_openM hM10; have hx10_0 : w11.cell? ⟨go10, (x4_1 : Int).toNat * 3, none⟩ = some (.int .i64 ((rd_T61 x3_1 x4_1).f0)) := hcc10 0 _ rfl; have hx10_1 : w11.cell? ⟨go10, (x4_1 : Int).toNat * 3 + 1, none⟩ = some (.int .i64 ((rd_T61 x3_1 x4_1).f1)) := hcc10 1 _ rfl; have hx10_2 : w11.cell? ⟨go10, (x4_1 : Int).toNat * 3 + 2, none⟩ = some (.int .i64 ((rd_T61 x3_1 x4_1).f2)) := hcc10 2 _ rfl; have hf10_0 : w11.frozen? ⟨go10, (x4_1 : Int).toNat * 3, none⟩ = false := hfr10 0; have hf10_1 : w11.frozen? ⟨go10, (x4_1 : Int).toNat * 3 + 1, none⟩ = false := hfr10 1; have hf10_2 : w11.frozen? ⟨go10, (x4_1 : Int).toNat * 3 + 2, none⟩ = false := hfr10 2; clear hcl10 hcc10 hfr10; replace p10 := eq_true p10; replace q10 := eq_true q10; have HX12 := A_ (show Kd.R k61 61 w11 w.heap.size (fun _ => True) (.slice (some ⟨go10, 0, none⟩) x3_1.length co10) x3_1 from (rq HO_3)); obtain ⟨ce12, hcl12, hM12, hcc12, hfr12⟩ := Kd.R_elem HX12.out z61 (x4_1 : Int) (dq) (by have h_ : (x4_1 : Int) < ((x3_1.length : Int) : Int) := dq; first | exact h_ | (have e_ := (Kd.R_reads' HO_3.out).1; omega) | simpa using h_); obtain rfl := k61_openM hM12; have HP12 := Kd.R_seg HX12.out (x4_1 : Int) (dq) (by have h_ : (x4_1 : Int) < ((x3_1.length : Int) : Int) := dq; first | exact h_ | (have e_ := (Kd.R_reads' HO_3.out).1; omega) | simpa using h_) (seg := [.int .i64 t204, .int .i64 t205, .int .i64 t206]) (j := 0) hcl12 hcc12 (show 3 ≤ 3 from by decide) (x' := (⟨t204, t205, t206⟩ : S61)) (k61_mkM _ _ _ (⟨t204, t205, t206⟩ : S61) ) (fun _ hk => hk); have hx12_0 := hcc12 0 _ rfl; (try simp only [show (k61).sz = 3 from rfl, Nat.mul_one, Nat.add_zero] at hx12_0); have hf12_0 := hfr12 0; (try simp only [show (k61).sz = 3 from rfl, Nat.mul_one, Nat.add_zero] at hf12_0); have hx12_1 := hcc12 1 _ rfl; (try simp only [show (k61).sz = 3 from rfl, Nat.mul_one, Nat.add_zero] at hx12_1); have hf12_1 := hfr12 1; (try simp only [show (k61).sz = 3 from rfl, Nat.mul_one, Nat.add_zero] at hf12_1); have hx12_2 := hcc12 2 _ rfl; (try simp only [show (k61).sz = 3 from rfl, Nat.mul_one, Nat.add_zero] at hx12_2); have hf12_2 := hfr12 2; (try simp only [show (k61).sz = 3 from rfl, Nat.mul_one, Nat.add_zero] at hf12_2); clear hcl12 hcc12 hfr12) | ((with_reducible refine gate_store (t := 61) (p := 21) rfl ?_); refine store_event (t := 61) (p := 21) (v := ?vo_w13) (w1 := (((w11.setCell ⟨go10, (x4_1 : Int).toNat * 3, none⟩ (.int .i64 t204)).setCell ⟨go10, (x4_1 : Int).toNat * 3 + 1, none⟩ (.int .i64 t205)).setCell ⟨go10, (x4_1 : Int).toNat * 3 + 2, none⟩ (.int .i64 t206))) ?hg ?ho ?hn ?hr ?_; (case ho => rfl); (case hg => rfl); (case hn => rfl); (case hr => first | (go_simp; done) | (go_simp; rfl)); intro w13 hw; have hg : w11.grownBy w13 (some go10) := (by rw [hw]; exact HP12.2); have hp_ : Kd.R k61 61 w13 w.heap.size (fun _ => True) (.slice (some ⟨go10, 0, none⟩) x3_1.length co10) y207 := (by rw [hw, Ny207.out]; exact HP12.1); clear HP12; replace HO_3 := A_ (hp_); replace HB := A_ ((by rw [hw]; exact below_set (below_set (below_set (HB.out) GB10.out) GB10.out) GB10.out : Below w.heap.size w w13)); clear hg hw hp_))
        go_roundg k1
        case measure => have := HK1.out; omega
        case rel => exact ⟨(y207), (wrap64 (x4_1 + 1)), rf, H', ⟨by have := HK1.out; omega⟩, ⟨rq HO_3⟩, ⟨hq HB⟩⟩
       ·
        rw [if_neg c9] at H; exact absurd H (by simp)
      ·
       rw [if_neg c7] at H; exact absurd H (by simp)
     ·
      rw [if_neg c6] at H; have c6b0 := decide_eq_false c6; clear c6; obtain rfl := Option.some.inj H; go_wp2
      go_ret
      exact ⟨_, rt, rq HO_3, hq HB⟩
  ·
   rw [if_neg c3] at H; exact absurd H (by simp)
 ·
  rw [if_neg c2] at H; exact absurd H (by simp)

/-! ### impl_Road_gap: function 65 -/
def impl_Road_gap.f (a0_0 : Int) (a0_1 : Bool) (a1 : Int) (a2 : Int) : Option (Int) := if a0_1 = true then (some (mn (mx (wrap64 (a1 - a2)) (wrap64 (a2 - a1))) (wrap64 (a0_0 - (mx (wrap64 (a1 - a2)) (wrap64 (a2 - a1))))))) else (some (mx (wrap64 (a1 - a2)) (wrap64 (a2 - a1))))
set_option maxHeartbeats 8000000 in
set_option maxRecDepth 100000 in
theorem impl_Road_gap.calls (a0_0 : Int) (a0_1 : Bool) (a1 : Int) (a2 : Int) (r : Int) (w : World) (h : impl_Road_gap.f a0_0 a0_1 a1 a2 = some r) :
    Calls Try.prog 65 #[.agg #[.int .i64 a0_0, .bool a0_1], .int .i64 a1, .int .i64 a2] w fun e w' => e = .returned (.int .i64 r) ∧ Below w.heap.size w w' := by
 have hu27 := Try.underlying27; have HB := A_ (Below.refl w.heap.size w); have H : (if a0_1 = true then (some (mn (mx (wrap64 (a1 - a2)) (wrap64 (a2 - a1))) (wrap64 (a0_0 - (mx (wrap64 (a1 - a2)) (wrap64 (a2 - a1))))))) else (some (mx (wrap64 (a1 - a2)) (wrap64 (a2 - a1))))) = some r := h; clear h
 obtain ⟨ji4, hji4⟩ : ∃ j_ : Int, (mx (wrap64 (a1 - a2)) (wrap64 (a2 - a1))) = j_ := ⟨_, rfl⟩
 replace H : (if a0_1 = true then (some (mn (ji4) (wrap64 (a0_0 - (ji4))))) else (some ji4)) = some r := by first | (rw [hji4] at H; exact H) | (simp only [hji4] at H ⊢; exact H)
 have hji4_ : (if (wrap64 (a1 - a2)) < (wrap64 (a2 - a1)) then (wrap64 (a2 - a1)) else (wrap64 (a1 - a2))) = ji4 := hji4; by_cases c5 : a0_1 = true
 ·
  subst c5
  have H1 : (some (mn (ji4) (wrap64 (a0_0 - (ji4))))) = some r := by rw [if_pos rfl] at H; exact H
  clear H; have H := H1; clear H1
  obtain ⟨ji6, hji6⟩ : ∃ j_ : Int, (mn (ji4) (wrap64 (a0_0 - (ji4)))) = j_ := ⟨_, rfl⟩
  replace H : (some ji6) = some r := by first | (rw [hji6] at H; exact H) | (simp only [hji6] at H ⊢; exact H)
  have hji6_ : (if (wrap64 (a0_0 - (ji4))) < (ji4) then (wrap64 (a0_0 - (ji4))) else (ji4)) = ji6 := hji6; obtain rfl := Option.some.inj H; go_enter Try.func65, Try.ntmps65
  go_wp2_with (first | ((with_reducible refine gate_dst (N := 3) rfl ?_); refine bx (N := 3) #[.int .i64 a0_0, .bool true] 27 ?_; intro gb208 hg w7 hbox hb; have BK208 := A_ (hbox); have GW208 := A_ (bs hg (hq HB) : w.heap.size ≤ gb208); have GE208 := A_ (bs hg (hq HB) : w.heap.size ≤ gb208); replace HB := A_ (below_step (hq HB) hb); clear hb hbox hg; have hcz8_0 : w7.cell? ⟨gb208, 0, none⟩ = some (.int .i64 a0_0) := bc BK208 0; have hcz8_1 : w7.cell? ⟨gb208, 1, none⟩ = some (.bool true) := bc BK208 1; have hfz8_0 := blk_frozen BK208.out 0; have hfz8_1 := blk_frozen BK208.out 1))
  go_ret
  exact ⟨by first | rfl | (simp [errW_none, errW_some] <;> rfl) | (simp only [← hji4, ← hji6]; first | rfl | (simp [errW_none, errW_some] <;> rfl)) | (simp [*, errW_none, errW_some] <;> rfl), hq HB⟩
 ·
  replace c5 := Bool.eq_false_iff.mpr c5; subst c5
  have H1 : (some ji4) = some r := by rw [if_neg (show ¬ (false = true) by decide)] at H; exact H
  clear H; have H := H1; clear H1; obtain rfl := Option.some.inj H; go_enter Try.func65, Try.ntmps65
  go_wp2_with (first | ((with_reducible refine gate_dst (N := 3) rfl ?_); refine bx (N := 3) #[.int .i64 a0_0, .bool false] 27 ?_; intro gb208 hg w9 hbox hb; have BK208 := A_ (hbox); have GW208 := A_ (bs hg (hq HB) : w.heap.size ≤ gb208); have GE208 := A_ (bs hg (hq HB) : w.heap.size ≤ gb208); replace HB := A_ (below_step (hq HB) hb); clear hb hbox hg; have hcz10_0 : w9.cell? ⟨gb208, 0, none⟩ = some (.int .i64 a0_0) := bc BK208 0; have hcz10_1 : w9.cell? ⟨gb208, 1, none⟩ = some (.bool false) := bc BK208 1; have hfz10_0 := blk_frozen BK208.out 0; have hfz10_1 := blk_frozen BK208.out 1))
  go_ret
  exact ⟨by first | rfl | (simp [errW_none, errW_some] <;> rfl) | (simp only [← hji4]; first | rfl | (simp [errW_none, errW_some] <;> rfl)) | (simp [*, errW_none, errW_some] <;> rfl), hq HB⟩

/-! ### impl_Road_steps: function 41 -/
def impl_Road_steps.f (a0_0 : Int) (a0_1 : Bool) (a1_0 : Int) (a1_1 : Int) (a1_2 : Int) (a2 : Int) (a3 : Int) : Option (Int) := (impl_Road_gap.f a0_0 a0_1 a1_0 a2).bind fun t211 => ((impl_Road_gap.f a0_0 a0_1 a2 a3).bind fun t212 => (some (wrap64 (t211 + t212))))
def impl_Road_steps.T1 : Bool × List (List Nat × List Nat) := (true, [([], []), ([], []), ([1], [1]), ([], []), ([0, 2, 3], [0, 2, 3]), ([], []), ([], []), ([], []), ([5, 6, 7, 4], [5, 6, 7]), ([4, 8], [4, 8]), ([9, 8, 0, 1, 2, 3, 4, 5, 6, 7, 8, 9], [9])])
def impl_Road_steps.B1 : List Nat := [0, 0, 2, 0, 15, 0, 0, 0, 255, 511, 1023]
theorem impl_Road_steps.tab1 : rtab .any (opsOf Try.f41 1) = impl_Road_steps.T1 := by kernel_rfl
theorem impl_Road_steps.bits1 : waitsOk impl_Road_steps.T1.2 impl_Road_steps.B1 = true := by kernel_rfl
set_option maxHeartbeats 8000000 in
set_option maxRecDepth 100000 in
theorem impl_Road_steps.calls (a0_0 : Int) (a0_1 : Bool) (a1_0 : Int) (a1_1 : Int) (a1_2 : Int) (a2 : Int) (a3 : Int) (r : Int) (w : World) (h : impl_Road_steps.f a0_0 a0_1 a1_0 a1_1 a1_2 a2 a3 = some r) :
    Calls Try.prog 41 #[.agg #[.int .i64 a0_0, .bool a0_1], .agg #[.int .i64 a1_0, .int .i64 a1_1, .int .i64 a1_2], .int .i64 a2, .int .i64 a3] w fun e w' => e = .returned (.int .i64 r) ∧ Below w.heap.size w w' := by
 have hu27 := Try.underlying27; have hu61 := Try.underlying61; have HB := A_ (Below.refl w.heap.size w); have H : ((impl_Road_gap.f a0_0 a0_1 a1_0 a2).bind fun t211 => ((impl_Road_gap.f a0_0 a0_1 a2 a3).bind fun t212 => (some (wrap64 (t211 + t212))))) = some r := h; clear h; replace H := bm H; obtain ⟨t211, A5, H⟩ := H; replace H := bm H; obtain ⟨t212, A6, H⟩ := H; obtain rfl := Option.some.inj H; go_enter Try.func41, Try.ntmps41
 try go_wp2_with (first | ((with_reducible refine gate_dst (N := 4) rfl ?_); refine bx (N := 4) #[.int .i64 a0_0, .bool a0_1] 27 ?_; intro gb209 hg w7 hbox hb; have BK209 := A_ (hbox); have GW209 := A_ (bs hg (hq HB) : w.heap.size ≤ gb209); have GE209 := A_ (bs hg (hq HB) : w.heap.size ≤ gb209); replace HB := A_ (below_step (hq HB) hb); clear hb hbox hg) | ((with_reducible refine gate_dst (N := 5) rfl ?_); refine bx (N := 5) #[.int .i64 a1_0, .int .i64 a1_1, .int .i64 a1_2] 61 ?_; intro gb210 hg w8 hbox hb; have BK210 := A_ (hbox); have GW210 := A_ (bs hg (hq HB) : w.heap.size ≤ gb210); have GE210 := A_ (bs hg (hq HB) : w.heap.size ≤ gb210); replace HB := A_ (below_step (hq HB) hb); have NB209_210 := A_ ((by rw [hg]; exact Nat.ne_of_lt (blk_lt (bq BK209)) : gb209 ≠ gb210)); have NB210_209 := A_ ((by rw [hg]; exact Nat.ne_of_gt (blk_lt (bq BK209)) : gb210 ≠ gb209)); replace BK209 := A_ (blk_below (bq BK209) hb); clear hb hbox hg))
 replace BK209 := A_ (blk_drew BK209.out); replace BK210 := A_ (blk_drew BK210.out); replace HB := A_ (below_drew1 HB.out); refine start_ (n := 11) (S := fun w' => w'.cell? ⟨gb209, 0, none⟩ = some (.int .i64 a0_0) ∧ w'.cell? ⟨gb209, 1, none⟩ = some (.bool a0_1) ∧ w'.cell? ⟨gb210, 0, none⟩ = some (.int .i64 a1_0) ∧ w'.cell? ⟨gb210, 1, none⟩ = some (.int .i64 a1_1) ∧ w'.cell? ⟨gb210, 2, none⟩ = some (.int .i64 a1_2)) (ds := []) #[false, false, false, false, false, false, false, false, false, false, false] (by kernel_rfl) rfl rfl ⟨bc BK209 0, bc BK209 1, bc BK210 0, bc BK210 1, bc BK210 2⟩ (fun hHeld => ?_); refine with_tabW impl_Road_steps.tab1 impl_Road_steps.bits1 (fun HT_ HW_ => ?_); generalize w8.drew = w9 at BK209 BK210 HB hHeld ⊢; refine puT (i := 1) (N := some 10) HT_ #[false, true, false, false, false, false, false, false, false, false, false] ?_; refine puT (i := 3) (N := some 12) HT_ #[false, true, false, true, false, false, false, false, false, false, false] ?_; refine puT (i := 6) (N := some 15) HT_ #[false, true, false, true, false, false, true, false, false, false, false] ?_; refine puT (i := 7) (N := some 16) HT_ #[false, true, false, true, false, false, true, true, false, false, false] ?_; refine tkT (i := 0) (N := some 9) HT_ HW_ hHeld #[true, true, false, true, false, false, true, true, false, false, false] ?_; refine tkT (i := 2) (N := some 11) HT_ HW_ hHeld #[true, true, true, true, false, false, true, true, false, false, false] ?_; refine tkT (i := 5) (N := some 14) HT_ HW_ hHeld #[true, true, true, true, false, true, true, true, false, false, false] ?_; refine onT (i := 4) (N := some 13) HT_ #[true, true, true, true, true, true, true, true, false, false, false] (fun K hK => ?_); refine go_ Try.func65 #[.agg #[.int .i64 a0_0, .bool a0_1], .int .i64 a1_0, .int .i64 a2] ?_; with_reducible refine (impl_Road_gap.calls a0_0 a0_1 a1_0 a2 t211 _ A5.out).mono ?_
 rintro e w10 ⟨rfl, hb⟩; refine ⟨_, rfl, ?_⟩; replace BK209 := A_ (blk_below (bq BK209) hb); replace BK210 := A_ (blk_below (bq BK210) hb); replace HB := A_ (below_step (hq HB) hb); clear hb; refine hK.out _ _ ⟨bc BK209 0, bc BK209 1, bc BK210 0, bc BK210 1, bc BK210 2⟩ (fun hHeld => ?_); clear hK K; refine nq_ (some 13) ?_; refine onT (i := 8) (N := some 17) HT_ #[true, true, true, true, true, true, true, true, true, false, false] (fun K hK => ?_); refine go_ Try.func65 #[.agg #[.int .i64 a0_0, .bool a0_1], .int .i64 a2, .int .i64 a3] ?_; with_reducible refine (impl_Road_gap.calls a0_0 a0_1 a2 a3 t212 _ A6.out).mono ?_
 rintro e w11 ⟨rfl, hb⟩; refine ⟨_, rfl, ?_⟩; replace BK209 := A_ (blk_below (bq BK209) hb); replace BK210 := A_ (blk_below (bq BK210) hb); replace HB := A_ (below_step (hq HB) hb); clear hb; refine hK.out _ _ ⟨bc BK209 0, bc BK209 1, bc BK210 0, bc BK210 1, bc BK210 2⟩ (fun hHeld => ?_); clear hK K; refine nq_ (some 17) ?_; refine puT (i := 9) (N := some 18) HT_ #[true, true, true, true, true, true, true, true, true, true, false] ?_; refine puT (i := 10) (N := some 8) HT_ #[true, true, true, true, true, true, true, true, true, true, true] ?_; refine done_ (done_of HT_.out (by kernel_rfl)) ?_; try go_wp2
 go_ret
 exact ⟨rt, hq HB⟩

/-! ### impl_within: function 32 -/
def impl_within.f (a0 : Int) (a1 : Int) (a2 : Int) : Option (Bool) := if a0 ≥ a1 then (some (decide (a0 ≤ a2))) else (some false)
set_option maxHeartbeats 8000000 in
set_option maxRecDepth 100000 in
theorem impl_within.calls (a0 : Int) (a1 : Int) (a2 : Int) (r : Bool) (w : World) (h : impl_within.f a0 a1 a2 = some r) :
    Calls Try.prog 32 #[.int .i64 a0, .int .i64 a1, .int .i64 a2] w fun e w' => e = .returned (.bool r) ∧ Drawn0 w w' := by
 have H : (if a0 ≥ a1 then (some (decide (a0 ≤ a2))) else (some false)) = some r := h; clear h; by_cases c4 : a0 ≥ a1
 ·
  rw [if_pos c4] at H; have c4b0 : decide (a1 ≤ a0) = true := decide_eq_true c4; clear c4; obtain rfl := Option.some.inj H; go_enter Try.func32, Try.ntmps32
  go_wp2
  go_ret
  exact ⟨rf, by repeat (first | exact Drawn0.refl _ | apply Drawn0.step)⟩
 ·
  rw [if_neg c4] at H; have c4b0 : decide (a1 ≤ a0) = false := decide_eq_false c4; clear c4; obtain rfl := Option.some.inj H; go_enter Try.func32, Try.ntmps32
  go_wp2
  go_ret
  exact ⟨rf, by repeat (first | exact Drawn0.refl _ | apply Drawn0.step)⟩

/-! ### impl_IsRoad: function 31 -/
def impl_IsRoad.f (a0_0 : Int) (a0_1 : Bool) : Option (Bool) := (impl_within.f a0_0 2 24).bind fun t214 => (if t214 = true then (if a0_1 = true then (some (decide (a0_0 ≥ 3))) else (some true)) else (some false))
set_option maxHeartbeats 8000000 in
set_option maxRecDepth 100000 in
theorem impl_IsRoad.calls (a0_0 : Int) (a0_1 : Bool) (r : Bool) (w : World) (h : impl_IsRoad.f a0_0 a0_1 = some r) :
    Calls Try.prog 31 #[.agg #[.int .i64 a0_0, .bool a0_1]] w fun e w' => e = .returned (.bool r) ∧ Below w.heap.size w w' := by
 have hu27 := Try.underlying27; have HB := A_ (Below.refl w.heap.size w); have H : ((impl_within.f a0_0 2 24).bind fun t214 => (if t214 = true then (if a0_1 = true then (some (decide (a0_0 ≥ 3))) else (some true)) else (some false))) = some r := h; clear h; replace H := bm H; obtain ⟨t214, A2, H⟩ := H; by_cases c3 : t214 = true
 ·
  subst c3
  have H1 : (if a0_1 = true then (some (decide (a0_0 ≥ 3))) else (some true)) = some r := by rw [if_pos rfl] at H; exact H
  clear H; have H := H1; clear H1; by_cases c4 : a0_1 = true
  ·
   subst c4
   have H1 : (some (decide (a0_0 ≥ 3))) = some r := by rw [if_pos rfl] at H; exact H
   clear H; have H := H1; clear H1; obtain rfl := Option.some.inj H; go_enter Try.func31, Try.ntmps31
   go_wp2_with (first | ((with_reducible refine gate_dst (N := 1) rfl ?_); refine bx (N := 1) #[.int .i64 a0_0, .bool true] 27 ?_; intro gb213 hg w5 hbox hb; have BK213 := A_ (hbox); have GW213 := A_ (bs hg (hq HB) : w.heap.size ≤ gb213); have GE213 := A_ (bs hg (hq HB) : w.heap.size ≤ gb213); replace HB := A_ (below_step (hq HB) hb); clear hb hbox hg; have hcz6_0 : w5.cell? ⟨gb213, 0, none⟩ = some (.int .i64 a0_0) := bc BK213 0; have hcz6_1 : w5.cell? ⟨gb213, 1, none⟩ = some (.bool true) := bc BK213 1; have hfz6_0 := blk_frozen BK213.out 0; have hfz6_1 := blk_frozen BK213.out 1) | ((with_reducible refine gate_callee (f := 32) rfl ?_); refine gL (some 5) Try.func32 #[.int .i64 a0_0, .int .i64 2, .int .i64 24] ?_; (with_reducible refine (impl_within.calls a0_0 2 24 true _ A2.out).mono ?_); rintro e w' ⟨rfl, ⟨nd, rfl⟩⟩; refine ⟨_, rfl, ?_⟩))
   go_ret
   exact ⟨rt, hq HB⟩
  ·
   replace c4 := Bool.eq_false_iff.mpr c4; subst c4
   have H1 : (some true) = some r := by rw [if_neg (show ¬ (false = true) by decide)] at H; exact H
   clear H; have H := H1; clear H1; obtain rfl := Option.some.inj H; go_enter Try.func31, Try.ntmps31
   go_wp2_with (first | ((with_reducible refine gate_dst (N := 1) rfl ?_); refine bx (N := 1) #[.int .i64 a0_0, .bool false] 27 ?_; intro gb213 hg w7 hbox hb; have BK213 := A_ (hbox); have GW213 := A_ (bs hg (hq HB) : w.heap.size ≤ gb213); have GE213 := A_ (bs hg (hq HB) : w.heap.size ≤ gb213); replace HB := A_ (below_step (hq HB) hb); clear hb hbox hg; have hcz8_0 : w7.cell? ⟨gb213, 0, none⟩ = some (.int .i64 a0_0) := bc BK213 0; have hcz8_1 : w7.cell? ⟨gb213, 1, none⟩ = some (.bool false) := bc BK213 1; have hfz8_0 := blk_frozen BK213.out 0; have hfz8_1 := blk_frozen BK213.out 1) | ((with_reducible refine gate_callee (f := 32) rfl ?_); refine gL (some 5) Try.func32 #[.int .i64 a0_0, .int .i64 2, .int .i64 24] ?_; (with_reducible refine (impl_within.calls a0_0 2 24 true _ A2.out).mono ?_); rintro e w' ⟨rfl, ⟨nd, rfl⟩⟩; refine ⟨_, rfl, ?_⟩))
   go_ret
   exact ⟨rt, hq HB⟩
 ·
  replace c3 := Bool.eq_false_iff.mpr c3; subst c3
  have H1 : (some false) = some r := by rw [if_neg (show ¬ (false = true) by decide)] at H; exact H
  clear H; have H := H1; clear H1; obtain rfl := Option.some.inj H; go_enter Try.func31, Try.ntmps31
  go_wp2_with (first | ((with_reducible refine gate_dst (N := 1) rfl ?_); refine bx (N := 1) #[.int .i64 a0_0, .bool a0_1] 27 ?_; intro gb213 hg w9 hbox hb; have BK213 := A_ (hbox); have GW213 := A_ (bs hg (hq HB) : w.heap.size ≤ gb213); have GE213 := A_ (bs hg (hq HB) : w.heap.size ≤ gb213); replace HB := A_ (below_step (hq HB) hb); clear hb hbox hg; have hcz10_0 : w9.cell? ⟨gb213, 0, none⟩ = some (.int .i64 a0_0) := bc BK213 0; have hcz10_1 : w9.cell? ⟨gb213, 1, none⟩ = some (.bool a0_1) := bc BK213 1; have hfz10_0 := blk_frozen BK213.out 0; have hfz10_1 := blk_frozen BK213.out 1) | ((with_reducible refine gate_callee (f := 32) rfl ?_); refine gL (some 5) Try.func32 #[.int .i64 a0_0, .int .i64 2, .int .i64 24] ?_; (with_reducible refine (impl_within.calls a0_0 2 24 false _ A2.out).mono ?_); rintro e w' ⟨rfl, ⟨nd, rfl⟩⟩; refine ⟨_, rfl, ?_⟩))
  go_ret
  exact ⟨rt, hq HB⟩

/-! ### impl_isLine: function 67 -/
def impl_isLine.f (a0_0 : Int) (a0_1 : Bool) : Option (Bool) := (impl_IsRoad.f a0_0 a0_1).bind fun t216 => (if t216 = true then (some (!a0_1)) else (some false))
set_option maxHeartbeats 8000000 in
set_option maxRecDepth 100000 in
theorem impl_isLine.calls (a0_0 : Int) (a0_1 : Bool) (r : Bool) (w : World) (h : impl_isLine.f a0_0 a0_1 = some r) :
    Calls Try.prog 67 #[.agg #[.int .i64 a0_0, .bool a0_1]] w fun e w' => e = .returned (.bool r) ∧ Below w.heap.size w w' := by
 have hu27 := Try.underlying27; have HB := A_ (Below.refl w.heap.size w); have H : ((impl_IsRoad.f a0_0 a0_1).bind fun t216 => (if t216 = true then (some (!a0_1)) else (some false))) = some r := h; clear h; replace H := bm H; obtain ⟨t216, A2, H⟩ := H; by_cases c3 : t216 = true
 ·
  subst c3
  have H1 : (some (!a0_1)) = some r := by rw [if_pos rfl] at H; exact H
  clear H; have H := H1; clear H1; obtain rfl := Option.some.inj H; go_enter Try.func67, Try.ntmps67
  go_wp2_with (first | ((with_reducible refine gate_dst (N := 1) rfl ?_); refine bx (N := 1) #[.int .i64 a0_0, .bool a0_1] 27 ?_; intro gb215 hg w4 hbox hb; have BK215 := A_ (hbox); have GW215 := A_ (bs hg (hq HB) : w.heap.size ≤ gb215); have GE215 := A_ (bs hg (hq HB) : w.heap.size ≤ gb215); replace HB := A_ (below_step (hq HB) hb); clear hb hbox hg; have hcz5_0 : w4.cell? ⟨gb215, 0, none⟩ = some (.int .i64 a0_0) := bc BK215 0; have hcz5_1 : w4.cell? ⟨gb215, 1, none⟩ = some (.bool a0_1) := bc BK215 1; have hfz5_0 := blk_frozen BK215.out 0; have hfz5_1 := blk_frozen BK215.out 1) | ((with_reducible refine gate_callee (f := 31) rfl ?_); refine gL (some 4) Try.func31 #[.agg #[.int .i64 a0_0, .bool a0_1]] ?_; (with_reducible refine (impl_IsRoad.calls a0_0 a0_1 true _ A2.out).mono ?_); rintro e w6 ⟨rfl, hb⟩; refine ⟨_, rfl, ?_⟩; replace BK215 := A_ (blk_below (bq BK215) hb); replace HB := A_ (below_step (hq HB) hb); clear hb; have hcz7_0 : w6.cell? ⟨gb215, 0, none⟩ = some (.int .i64 a0_0) := bc BK215 0; have hcz7_1 : w6.cell? ⟨gb215, 1, none⟩ = some (.bool a0_1) := bc BK215 1; have hfz7_0 := blk_frozen BK215.out 0; have hfz7_1 := blk_frozen BK215.out 1))
  go_ret
  exact ⟨rt, hq HB⟩
 ·
  replace c3 := Bool.eq_false_iff.mpr c3; subst c3
  have H1 : (some false) = some r := by rw [if_neg (show ¬ (false = true) by decide)] at H; exact H
  clear H; have H := H1; clear H1; obtain rfl := Option.some.inj H; go_enter Try.func67, Try.ntmps67
  go_wp2_with (first | ((with_reducible refine gate_dst (N := 1) rfl ?_); refine bx (N := 1) #[.int .i64 a0_0, .bool a0_1] 27 ?_; intro gb215 hg w8 hbox hb; have BK215 := A_ (hbox); have GW215 := A_ (bs hg (hq HB) : w.heap.size ≤ gb215); have GE215 := A_ (bs hg (hq HB) : w.heap.size ≤ gb215); replace HB := A_ (below_step (hq HB) hb); clear hb hbox hg; have hcz9_0 : w8.cell? ⟨gb215, 0, none⟩ = some (.int .i64 a0_0) := bc BK215 0; have hcz9_1 : w8.cell? ⟨gb215, 1, none⟩ = some (.bool a0_1) := bc BK215 1; have hfz9_0 := blk_frozen BK215.out 0; have hfz9_1 := blk_frozen BK215.out 1) | ((with_reducible refine gate_callee (f := 31) rfl ?_); refine gL (some 4) Try.func31 #[.agg #[.int .i64 a0_0, .bool a0_1]] ?_; (with_reducible refine (impl_IsRoad.calls a0_0 a0_1 false _ A2.out).mono ?_); rintro e w10 ⟨rfl, hb⟩; refine ⟨_, rfl, ?_⟩; replace BK215 := A_ (blk_below (bq BK215) hb); replace HB := A_ (below_step (hq HB) hb); clear hb))
  go_ret
  exact ⟨rt, hq HB⟩

/-! ### impl_allWithin: function 79 -/
def impl_allWithin.l0 : Nat → Int → Int → List Int → Int → Int → Option (Bool)
  | 0, _, _, _, _, _ => none
  | k + 1, x1, x2, x9, x10, x11 => if x11 < x10 then (if 0 ≤ x11 then (if x11 < (x9.length : Int) then ((impl_within.f (rd x9 x11) x1 x2).bind fun t218 => (if t218 = true then (impl_allWithin.l0 k x1 x2 x9 x10 (wrap64 (x11 + 1))) else (some false))) else (none)) else (none)) else (some true)
def impl_allWithin.f (k : Nat) (l0 : List Int) (a1 : Int) (a2 : Int) : Option (Bool) := impl_allWithin.l0 k a1 a2 l0 (l0.length : Int) 0
theorem impl_allWithin.mono_l : ∀ k, (∀ y0 y1 y2 y3 y4, LeO (impl_allWithin.l0 k y0 y1 y2 y3 y4) (impl_allWithin.l0 (k + 1) y0 y1 y2 y3 y4))
  | 0 => fun _ _ _ _ _ r h => by simp [impl_allWithin.l0] at h
  | k + 1 => by
    have ih0 := impl_allWithin.mono_l k
    · intro y0 y1 y2 y3 y4
      unfold impl_allWithin.l0
      repeat' first
      | (with_reducible exact ih0 _ _ _ _ _)
      | (with_reducible exact LeO.refl _)
      | (with_reducible exact LeO.none _)
      | (with_reducible refine LeO.ite ?_ ?_)
      | (with_reducible refine LeO.bind ?_ (fun _ => ?_))
      | exact ih0 _ _ _ _ _
      | exact LeO.none _
      | refine LeO.ite ?_ ?_
      | refine LeO.bind ?_ (fun _ => ?_)
theorem impl_allWithin.mono : ∀ a0 a1 a2 k, LeO (impl_allWithin.f k a0 a1 a2) (impl_allWithin.f (k + 1) a0 a1 a2) := by
  intro a0 a1 a2 k
  have ih0 := impl_allWithin.mono_l k
  unfold impl_allWithin.f
  repeat' first
      | (with_reducible exact ih0 _ _ _ _ _)
      | (with_reducible exact LeO.refl _)
      | (with_reducible exact LeO.none _)
      | (with_reducible refine LeO.ite ?_ ?_)
      | (with_reducible refine LeO.bind ?_ (fun _ => ?_))
      | exact ih0 _ _ _ _ _
      | exact LeO.none _
      | refine LeO.ite ?_ ?_
      | refine LeO.bind ?_ (fun _ => ?_)
set_option maxHeartbeats 8000000 in
set_option maxRecDepth 100000 in
theorem impl_allWithin.calls (k : Nat) (A0 : Option Addr) (c0 : Nat) (l0 : List Int) (a1 : Int) (a2 : Int) (r : Bool) (w : World) (hr0 : Kd.C (Kd.int .i64) w A0 l0.length l0) (hc0 : l0.length ≤ c0) (h : impl_allWithin.f k l0 a1 a2 = some r) :
    Calls Try.prog 79 #[.slice A0 l0.length c0, .int .i64 a1, .int .i64 a2] w fun e w' => e = .returned (.bool r) ∧ Drawn0 w w' := by
 have HR0 := A_ hr0; have HC0 := A_ hc0; clear hr0 hc0; have H : (impl_allWithin.l0 k a1 a2 l0 (l0.length : Int) 0) = some r := h; clear h; have H' := A_ H; clear H; go_enter Try.func79, Try.ntmps79
 go_wp2
 go_loopg [11] k (fun kq v11 w' => ∃ (x11_1 : Int), v11 = .int .i64 x11_1 ∧ Aside0 (impl_allWithin.l0 kq a1 a2 l0 (l0.length : Int) x11_1 = some r) ∧ Aside0 (kq ≤ k) ∧ Drawn0 w w')
 case atStart => exact ⟨(0), rf, H', ⟨Nat.le_refl _⟩, by repeat (first | exact Drawn0.refl _ | apply Drawn0.step)⟩
 case round =>
  clear H'; obtain ⟨x11_1, rfl, HA, HK1, ⟨m1, rfl⟩⟩ := hrel
  cases gk with
  | zero => exact absurd HA.out (by simp [impl_allWithin.l0])
  | succ k1 =>
   have H := HA.out; clear HA; simp only [impl_allWithin.l0] at H
   by_cases c4 : x11_1 < (l0.length : Int)
   ·
    rw [if_pos c4] at H; have c4b0 := decide_eq_true c4; clear c4; by_cases c5 : 0 ≤ x11_1
    ·
     rw [if_pos c5] at H; have c5b0 := decide_eq_true c5; clear c5; by_cases c6 : x11_1 < (l0.length : Int)
     ·
      rw [if_pos c6] at H; have c6b0 := decide_eq_true c6; clear c6; replace H := bm H; obtain ⟨t218, A7, H⟩ := H; by_cases c8 : t218 = true
      ·
       subst c8
       have H1 : (impl_allWithin.l0 k1 a1 a2 l0 (l0.length : Int) (wrap64 (x11_1 + 1))) = some r := by rw [if_pos rfl] at H; exact H
       clear H; have H := H1; clear H1; have H' := A_ H; clear H; have p217 : 0 ≤ (x11_1 : Int) := dq; have q217 : x11_1 < (l0.length : Int) := dq; obtain ⟨ad217, e217, hx217_0⟩ := Kd.at_int HR0.out x11_1 p217 q217
       cases e217
       replace p217 := eq_true p217; replace q217 := eq_true q217; go_wp2_with (first | ((with_reducible refine gate_callee (f := 32) rfl ?_); refine gL (some 18) Try.func32 #[.int .i64 (rd l0 x11_1), .int .i64 a1, .int .i64 a2] ?_; (with_reducible refine (impl_within.calls (rd l0 x11_1) a1 a2 true _ A7.out).mono ?_); rintro e w' ⟨rfl, ⟨nd, rfl⟩⟩; refine ⟨_, rfl, ?_⟩))
       go_roundg k1
       case measure => have := HK1.out; omega
       case rel => exact ⟨(wrap64 (x11_1 + 1)), rf, H', ⟨by have := HK1.out; omega⟩, by repeat (first | exact Drawn0.refl _ | apply Drawn0.step)⟩
      ·
       replace c8 := Bool.eq_false_iff.mpr c8; subst c8
       have H1 : (some false) = some r := by rw [if_neg (show ¬ (false = true) by decide)] at H; exact H
       clear H; have H := H1; clear H1; obtain rfl := Option.some.inj H; have p217 : 0 ≤ (x11_1 : Int) := dq; have q217 : x11_1 < (l0.length : Int) := dq; obtain ⟨ad217, e217, hx217_0⟩ := Kd.at_int HR0.out x11_1 p217 q217
       cases e217
       replace p217 := eq_true p217; replace q217 := eq_true q217; go_wp2_with (first | ((with_reducible refine gate_callee (f := 32) rfl ?_); refine gL (some 18) Try.func32 #[.int .i64 (rd l0 x11_1), .int .i64 a1, .int .i64 a2] ?_; (with_reducible refine (impl_within.calls (rd l0 x11_1) a1 a2 false _ A7.out).mono ?_); rintro e w' ⟨rfl, ⟨nd, rfl⟩⟩; refine ⟨_, rfl, ?_⟩))
       go_ret
       exact ⟨rf, by repeat (first | exact Drawn0.refl _ | apply Drawn0.step)⟩
     ·
      rw [if_neg c6] at H; exact absurd H (by simp)
    ·
     rw [if_neg c5] at H; exact absurd H (by simp)
   ·
    rw [if_neg c4] at H; have c4b0 := decide_eq_false c4; clear c4; obtain rfl := Option.some.inj H; go_wp2
    go_ret
    exact ⟨rf, by repeat (first | exact Drawn0.refl _ | apply Drawn0.step)⟩

/-! ### impl_Road_has: function 69 -/
def impl_Road_has.f (k : Nat) (a0_0 : Int) (a0_1 : Bool) (l1 : List Int) : Option (Bool) := (impl_allWithin.f k l1 0 (wrap64 (a0_0 - 1))).bind fun t220 => (some t220)
theorem impl_Road_has.mono : ∀ a0 a1 a2 k, LeO (impl_Road_has.f k a0 a1 a2) (impl_Road_has.f (k + 1) a0 a1 a2) := by
  intro a0 a1 a2 k
  unfold impl_Road_has.f
  repeat' first
      | (with_reducible exact impl_allWithin.mono _ _ _ _)
      | (with_reducible exact LeO.refl _)
      | (with_reducible exact LeO.none _)
      | (with_reducible refine LeO.ite ?_ ?_)
      | (with_reducible refine LeO.bind ?_ (fun _ => ?_))
      | exact impl_allWithin.mono _ _ _ _
      | exact LeO.none _
      | refine LeO.ite ?_ ?_
      | refine LeO.bind ?_ (fun _ => ?_)
set_option maxHeartbeats 8000000 in
set_option maxRecDepth 100000 in
theorem impl_Road_has.calls (k : Nat) (a0_0 : Int) (a0_1 : Bool) (A1 : Option Addr) (c1 : Nat) (l1 : List Int) (r : Bool) (w : World) (hr1 : Kd.C (Kd.int .i64) w A1 l1.length l1) (hc1 : l1.length ≤ c1) (h : impl_Road_has.f k a0_0 a0_1 l1 = some r) :
    Calls Try.prog 69 #[.agg #[.int .i64 a0_0, .bool a0_1], .slice A1 l1.length c1] w fun e w' => e = .returned (.bool r) ∧ Below w.heap.size w w' := by
 have hu27 := Try.underlying27; have HR1 := A_ hr1; have HC1 := A_ hc1; clear hr1 hc1; have HB := A_ (Below.refl w.heap.size w); have H : ((impl_allWithin.f k l1 0 (wrap64 (a0_0 - 1))).bind fun t220 => (some t220)) = some r := h; clear h; replace H := bm H; obtain ⟨t220, A3, H⟩ := H; obtain rfl := Option.some.inj H; go_enter Try.func69, Try.ntmps69
 go_wp2_with (first | ((with_reducible refine gate_dst (N := 2) rfl ?_); refine bx (N := 2) #[.int .i64 a0_0, .bool a0_1] 27 ?_; intro gb219 hg w4 hbox hb; have BK219 := A_ (hbox); have GW219 := A_ (bs hg (hq HB) : w.heap.size ≤ gb219); have GE219 := A_ (bs hg (hq HB) : w.heap.size ≤ gb219); replace HB := A_ (below_step (hq HB) hb); clear hb hbox hg; have hcz5_0 : w4.cell? ⟨gb219, 0, none⟩ = some (.int .i64 a0_0) := bc BK219 0; have hcz5_1 : w4.cell? ⟨gb219, 1, none⟩ = some (.bool a0_1) := bc BK219 1; have hfz5_0 := blk_frozen BK219.out 0; have hfz5_1 := blk_frozen BK219.out 1) | ((with_reducible refine gate_callee (f := 79) rfl ?_); refine gL (some 9) Try.func79 #[.slice A1 l1.length c1, .int .i64 0, .int .i64 (wrap64 (a0_0 - 1))] ?_; (with_reducible refine (impl_allWithin.calls k _ _ l1 0 (wrap64 (a0_0 - 1)) t220 _ ?side1 ?side2 A3.out).mono ?_); (case side1 => exact cq (Kd.C_below HR1.out HB.out)); (case side2 => exact HC1.out); rintro e w' ⟨rfl, ⟨nd, rfl⟩⟩; refine ⟨_, rfl, ?_⟩))
 go_ret
 exact ⟨rt, hq HB⟩

/-! ### impl_Road_areCarriers: function 68 -/
def impl_Road_areCarriers.l0 : Nat → List (S61) → List (S61) → Int → Int → Int → Bool → Option (Bool)
  | 0, _, _, _, _, _, _ => none
  | k + 1, x1, x7, x8, x9, x222000, x222001 => if x9 < x8 then (if 0 ≤ x9 then (if x9 < (x7.length : Int) then ((impl_Road_has.f k x222000 x222001 (([(rd_T61 x7 x9).f0] : List Int))).bind fun t227 => (if t227 = true then ((impl_within.f ((rd_T61 x7 x9).f1) 0 48).bind fun t228 => (if t228 = true then ((impl_within.f ((rd_T61 x7 x9).f2) 0 20).bind fun t229 => (if t229 = true then (impl_Road_areCarriers.l0 k x1 x7 x8 (wrap64 (x9 + 1)) x222000 x222001) else (some false))) else (some false))) else (some false))) else (none)) else (none)) else (some (decide ((x1.length : Int) ≤ 6)))
def impl_Road_areCarriers.f (k : Nat) (a0_0 : Int) (a0_1 : Bool) (l1 : List (S61)) : Option (Bool) := impl_Road_areCarriers.l0 k l1 l1 (l1.length : Int) 0 a0_0 a0_1
theorem impl_Road_areCarriers.mono_l : ∀ k, (∀ y0 y1 y2 y3 y4 y5, LeO (impl_Road_areCarriers.l0 k y0 y1 y2 y3 y4 y5) (impl_Road_areCarriers.l0 (k + 1) y0 y1 y2 y3 y4 y5))
  | 0 => fun _ _ _ _ _ _ r h => by simp [impl_Road_areCarriers.l0] at h
  | k + 1 => by
    have ih0 := impl_Road_areCarriers.mono_l k
    · intro y0 y1 y2 y3 y4 y5
      unfold impl_Road_areCarriers.l0
      repeat' first
      | (with_reducible exact ih0 _ _ _ _ _ _)
      | (with_reducible exact impl_Road_has.mono _ _ _ _)
      | (with_reducible exact LeO.refl _)
      | (with_reducible exact LeO.none _)
      | (with_reducible refine LeO.ite ?_ ?_)
      | (with_reducible refine LeO.bind ?_ (fun _ => ?_))
      | exact ih0 _ _ _ _ _ _
      | exact impl_Road_has.mono _ _ _ _
      | exact LeO.none _
      | refine LeO.ite ?_ ?_
      | refine LeO.bind ?_ (fun _ => ?_)
theorem impl_Road_areCarriers.mono : ∀ a0 a1 a2 k, LeO (impl_Road_areCarriers.f k a0 a1 a2) (impl_Road_areCarriers.f (k + 1) a0 a1 a2) := by
  intro a0 a1 a2 k
  have ih0 := impl_Road_areCarriers.mono_l k
  unfold impl_Road_areCarriers.f
  repeat' first
      | (with_reducible exact ih0 _ _ _ _ _ _)
      | (with_reducible exact impl_Road_has.mono _ _ _ _)
      | (with_reducible exact LeO.refl _)
      | (with_reducible exact LeO.none _)
      | (with_reducible refine LeO.ite ?_ ?_)
      | (with_reducible refine LeO.bind ?_ (fun _ => ?_))
      | exact ih0 _ _ _ _ _ _
      | exact impl_Road_has.mono _ _ _ _
      | exact LeO.none _
      | refine LeO.ite ?_ ?_
      | refine LeO.bind ?_ (fun _ => ?_)
set_option maxHeartbeats 8000000 in
set_option maxRecDepth 100000 in
theorem impl_Road_areCarriers.calls (k : Nat) (a0_0 : Int) (a0_1 : Bool) (A1 : Option Addr) (c1 : Nat) (l1 : List (S61)) (r : Bool) (w : World) (hr1 : Kd.C k61 w A1 l1.length l1) (hc1 : l1.length ≤ c1) (h : impl_Road_areCarriers.f k a0_0 a0_1 l1 = some r) :
    Calls Try.prog 68 #[.agg #[.int .i64 a0_0, .bool a0_1], .slice A1 l1.length c1] w fun e w' => e = .returned (.bool r) ∧ Below w.heap.size w w' := by
 have hu27 := Try.underlying27; have hu61 := Try.underlying61; have HR1 := A_ hr1; have HC1 := A_ hc1; clear hr1 hc1; have HB := A_ (Below.refl w.heap.size w); have H : (impl_Road_areCarriers.l0 k l1 l1 (l1.length : Int) 0 a0_0 a0_1) = some r := h; clear h; have H' := A_ H; clear H; go_enter Try.func68, Try.ntmps68
 go_wp2_with (first | ((with_reducible refine gate_dst (N := 2) rfl ?_); refine bx (N := 2) #[.int .i64 a0_0, .bool a0_1] 27 ?_; intro gb221 hg w3 hbox hb; have BK221 := A_ (hbox); have GW221 := A_ (bs hg (hq HB) : w.heap.size ≤ gb221); have GE221 := A_ (bs hg (hq HB) : w.heap.size ≤ gb221); replace HB := A_ (below_step (hq HB) hb); clear hb hbox hg))
 go_loopg [9] k (fun kq v9 w' => ∃ (x9_1 : Int), v9 = .int .i64 x9_1 ∧ Aside0 (impl_Road_areCarriers.l0 kq l1 l1 (l1.length : Int) x9_1 a0_0 a0_1 = some r) ∧ Aside0 (kq ≤ k) ∧ Aside0 (w'.heap[gb221]? = some (.cells #[.int .i64 a0_0, .bool a0_1] 27 (0, 0))) ∧ Aside0 (Below w.heap.size w w'))
 case atStart => exact ⟨(0), rf, H', ⟨Nat.le_refl _⟩, ⟨bq BK221⟩, ⟨hq HB⟩⟩
 case round =>
  clear H'; obtain ⟨x9_1, rfl, HA, HK1, BK221, HB⟩ := hrel
  cases gk with
  | zero => exact absurd HA.out (by simp [impl_Road_areCarriers.l0])
  | succ k1 =>
   have H := HA.out; clear HA; simp only [impl_Road_areCarriers.l0] at H
   by_cases c4 : x9_1 < (l1.length : Int)
   ·
    rw [if_pos c4] at H; have c4b0 := decide_eq_true c4; clear c4; by_cases c5 : 0 ≤ x9_1
    ·
     rw [if_pos c5] at H; have c5b0 := decide_eq_true c5; clear c5; by_cases c6 : x9_1 < (l1.length : Int)
     ·
      rw [if_pos c6] at H; have c6b0 := decide_eq_true c6; clear c6
      obtain ⟨y224, hy224⟩ : ∃ y_ : List Int, y_ = (([(rd_T61 l1 x9_1).f0] : List Int)) := ⟨_, rfl⟩
      replace H : ((impl_Road_has.f k1 a0_0 a0_1 y224).bind fun t227 => (if t227 = true then ((impl_within.f ((rd_T61 l1 x9_1).f1) 0 48).bind fun t228 => (if t228 = true then ((impl_within.f ((rd_T61 l1 x9_1).f2) 0 20).bind fun t229 => (if t229 = true then (impl_Road_areCarriers.l0 k1 l1 l1 (l1.length : Int) (wrap64 (x9_1 + 1)) a0_0 a0_1) else (some false))) else (some false))) else (some false))) = some r := by first | (rw [hy224]; with_reducible exact H) | (have H2_ := (Option.bind_some _ _).symm.trans H; rw [hy224]; with_reducible exact H2_) | (have H2_ := (Option.bind_some _ _).symm.trans H; with_reducible exact H2_) | with_reducible exact H | (rw [hy224]; exact H) | exact H
      have Ny224 := A_ hy224; clear hy224; replace H := bm H; obtain ⟨t227, A7, H⟩ := H; by_cases c8 : t227 = true
      ·
       subst c8
       have H1 : ((impl_within.f ((rd_T61 l1 x9_1).f1) 0 48).bind fun t228 => (if t228 = true then ((impl_within.f ((rd_T61 l1 x9_1).f2) 0 20).bind fun t229 => (if t229 = true then (impl_Road_areCarriers.l0 k1 l1 l1 (l1.length : Int) (wrap64 (x9_1 + 1)) a0_0 a0_1) else (some false))) else (some false))) = some r := by rw [if_pos rfl] at H; exact H
       clear H; have H := H1; clear H1; replace H := bm H; obtain ⟨t228, A9, H⟩ := H; by_cases c10 : t228 = true
       ·
        subst c10
        have H1 : ((impl_within.f ((rd_T61 l1 x9_1).f2) 0 20).bind fun t229 => (if t229 = true then (impl_Road_areCarriers.l0 k1 l1 l1 (l1.length : Int) (wrap64 (x9_1 + 1)) a0_0 a0_1) else (some false))) = some r := by rw [if_pos rfl] at H; exact H
        clear H; have H := H1; clear H1; replace H := bm H; obtain ⟨t229, A11, H⟩ := H; by_cases c12 : t229 = true
        ·
         subst c12
         have H1 : (impl_Road_areCarriers.l0 k1 l1 l1 (l1.length : Int) (wrap64 (x9_1 + 1)) a0_0 a0_1) = some r := by rw [if_pos rfl] at H; exact H
         clear H; have H := H1; clear H1; have H' := A_ H; clear H; have p222 : 0 ≤ (x9_1 : Int) := dq; have q222 : x9_1 < (l1.length : Int) := dq; obtain ⟨ad222, e222, hx222_0, hx222_1, hx222_2⟩ := at_T61 HR1.out x9_1 p222 q222
         cases e222
         replace hx222_0 := (HB.out.cell (World.block_lt_of_cell? w _ hx222_0)).trans hx222_0; replace hx222_1 := (HB.out.cell (World.block_lt_of_cell? w _ hx222_1)).trans hx222_1; replace hx222_2 := (HB.out.cell (World.block_lt_of_cell? w _ hx222_2)).trans hx222_2; replace p222 := eq_true p222; replace q222 := eq_true q222; go_wp2_with (first | ((with_reducible refine gate_dst (N := 6) rfl ?_); refine bx (N := 6) #[.int .i64 0, .int .i64 0, .int .i64 0] 61 ?_; intro gb223 hg w13 hbox hb; have BK223 := A_ (hbox); have GW223 := A_ (bs hg (hq HB) : w.heap.size ≤ gb223); have GE223 := A_ (bs hg (hq HB) : w.heap.size ≤ gb223); replace HB := A_ (below_step (hq HB) hb); have NB221_223 := A_ ((by rw [hg]; exact Nat.ne_of_lt (blk_lt (bq BK221)) : gb221 ≠ gb223)); have NB223_221 := A_ ((by rw [hg]; exact Nat.ne_of_gt (blk_lt (bq BK221)) : gb223 ≠ gb221)); replace BK221 := A_ (blk_below (bq BK221) hb); clear hb hbox hg; have hnb14 := NB223_221.out; have hnc14 := NB221_223.out; have hcz15_0 : w13.cell? ⟨gb223, 0, none⟩ = some (.int .i64 0) := bc BK223 0; have hcz15_1 : w13.cell? ⟨gb223, 1, none⟩ = some (.int .i64 0) := bc BK223 1; have hcz15_2 : w13.cell? ⟨gb223, 2, none⟩ = some (.int .i64 0) := bc BK223 2; have hfz15_0 := blk_frozen BK223.out 0; have hfz15_1 := blk_frozen BK223.out 1; have hfz15_2 := blk_frozen BK223.out 2; have hcz16_0 : w13.cell? ⟨gb221, 0, none⟩ = some (.int .i64 a0_0) := bc BK221 0; have hcz16_1 : w13.cell? ⟨gb221, 1, none⟩ = some (.bool a0_1) := bc BK221 1; have hfz16_0 := blk_frozen BK221.out 0; have hfz16_1 := blk_frozen BK221.out 1) | ((with_reducible refine gate_dst (N := 16) rfl ?_); refine Kd.R_lit (Kd.int .i64) _ 3 ?hg (N := 16) ?hd (xs := ([(rd_T61 l1 x9_1).f0] : List Int)) (inner := [.int .i64 ((rd_T61 l1 x9_1).f0)]) (ok := fun _ => True) (okp := fun _ => True) ?hr ?hp (fun _ hk => hk) trivial (Below.refl _ _) (Nat.le_refl _) (by simp) ?_; (case hd => rfl); (case hg => rfl); (case hr => first | (go_simp; done) | (go_simp; rfl)); (case hp => exact (Reps.one (show Kd.M (Kd.int .i64) _ _ _ ((rd_T61 l1 x9_1).f0) [.int .i64 ((rd_T61 l1 x9_1).f0)] from rfl) (Reps.none _ _))); intro v225 w17 ho18 hb hg_ hnew_; clear hg_ hnew_; (first | rw [← Ny224.out] at ho18 | (simp only [Int.reduceToNat] at ho18; rw [← Ny224.out] at ho18)); have HO226 := A_ (Kd.R_lower ho18 (below_size (hq HB))); replace BK221 := A_ (blk_below (g := gb221) (o := .cells #[.int .i64 a0_0, .bool a0_1] 27 (0, 0)) (by (with_reducible repeat (first | refine blk_drewN ?_ _ | refine blk_drew ?_ | refine blk_alloc ?_ _)); refine blk_far ?_ NB221_223.out _; (with_reducible repeat (first | refine blk_drewN ?_ _ | refine blk_drew ?_ | refine blk_alloc ?_ _)); refine blk_far ?_ NB221_223.out _; (with_reducible repeat (first | refine blk_drewN ?_ _ | refine blk_drew ?_ | refine blk_alloc ?_ _)); refine blk_far ?_ NB221_223.out _; (with_reducible repeat (first | refine blk_drewN ?_ _ | refine blk_drew ?_ | refine blk_alloc ?_ _)); exact BK221.out) hb); replace BK223 := A_ (blk_below (g := gb223) (o := .cells #[.int .i64 ((rd_T61 l1 x9_1).f0), .int .i64 ((rd_T61 l1 x9_1).f1), .int .i64 ((rd_T61 l1 x9_1).f2)] 61 (0, 0)) (by (with_reducible repeat (first | refine blk_drewN ?_ _ | refine blk_drew ?_ | refine blk_alloc ?_ _)); refine blk_put (cs := #[.int .i64 ((rd_T61 l1 x9_1).f0), .int .i64 ((rd_T61 l1 x9_1).f1), .int .i64 0]) ?_ 2 _ rfl; (with_reducible repeat (first | refine blk_drewN ?_ _ | refine blk_drew ?_ | refine blk_alloc ?_ _)); refine blk_put (cs := #[.int .i64 ((rd_T61 l1 x9_1).f0), .int .i64 0, .int .i64 0]) ?_ 1 _ rfl; (with_reducible repeat (first | refine blk_drewN ?_ _ | refine blk_drew ?_ | refine blk_alloc ?_ _)); refine blk_put (cs := #[.int .i64 0, .int .i64 0, .int .i64 0]) ?_ 0 _ rfl; (with_reducible repeat (first | refine blk_drewN ?_ _ | refine blk_drew ?_ | refine blk_alloc ?_ _)); exact BK223.out) hb); replace HB := A_ (below_step (hq HB) hb); clear hb ho18; obtain ⟨Ao19, co19, eo19⟩ := Kd.R_slice HO226.out; subst eo19) | ((with_reducible refine gate_callee (f := 69) rfl ?_); refine gL (some 17) Try.func69 #[.agg #[.int .i64 a0_0, .bool a0_1], .slice Ao19 y224.length co19] ?_; (with_reducible refine (impl_Road_has.calls k1 a0_0 a0_1 _ _ y224 true _ ?side1 ?side2 A7.out).mono ?_); (case side1 => exact cq (Kd.R_reads' HO226.out).2.2); (case side2 => exact (Kd.R_reads' HO226.out).2.1); rintro e w20 ⟨rfl, hb⟩; refine ⟨_, rfl, ?_⟩; replace HO226 := A_ (Kd.R_below (rq HO226) hb); replace BK221 := A_ (blk_below (bq BK221) hb); replace BK223 := A_ (blk_below (bq BK223) hb); replace HB := A_ (below_step (hq HB) hb); clear hb; have hcz21_0 : w20.cell? ⟨gb223, 0, none⟩ = some (.int .i64 ((rd_T61 l1 x9_1).f0)) := bc BK223 0; have hcz21_1 : w20.cell? ⟨gb223, 1, none⟩ = some (.int .i64 ((rd_T61 l1 x9_1).f1)) := bc BK223 1; have hcz21_2 : w20.cell? ⟨gb223, 2, none⟩ = some (.int .i64 ((rd_T61 l1 x9_1).f2)) := bc BK223 2; have hfz21_0 := blk_frozen BK223.out 0; have hfz21_1 := blk_frozen BK223.out 1; have hfz21_2 := blk_frozen BK223.out 2) | (go_at_call 32; (with_reducible refine (impl_within.calls ((rd_T61 l1 x9_1).f1) 0 48 true _ A9.out).mono ?_); rintro e w' ⟨rfl, ⟨nd, rfl⟩⟩) | (go_at_call 32; (with_reducible refine (impl_within.calls ((rd_T61 l1 x9_1).f2) 0 20 true _ A11.out).mono ?_); rintro e w' ⟨rfl, ⟨nd, rfl⟩⟩))
         go_roundg k1
         case measure => have := HK1.out; omega
         case rel => exact ⟨(wrap64 (x9_1 + 1)), rf, H', ⟨by have := HK1.out; omega⟩, ⟨bq BK221⟩, ⟨hq HB⟩⟩
        ·
         replace c12 := Bool.eq_false_iff.mpr c12; subst c12
         have H1 : (some false) = some r := by rw [if_neg (show ¬ (false = true) by decide)] at H; exact H
         clear H; have H := H1; clear H1; obtain rfl := Option.some.inj H; have p222 : 0 ≤ (x9_1 : Int) := dq; have q222 : x9_1 < (l1.length : Int) := dq; obtain ⟨ad222, e222, hx222_0, hx222_1, hx222_2⟩ := at_T61 HR1.out x9_1 p222 q222
         cases e222
         replace hx222_0 := (HB.out.cell (World.block_lt_of_cell? w _ hx222_0)).trans hx222_0; replace hx222_1 := (HB.out.cell (World.block_lt_of_cell? w _ hx222_1)).trans hx222_1; replace hx222_2 := (HB.out.cell (World.block_lt_of_cell? w _ hx222_2)).trans hx222_2; replace p222 := eq_true p222; replace q222 := eq_true q222; go_wp2_with (first | ((with_reducible refine gate_dst (N := 6) rfl ?_); refine bx (N := 6) #[.int .i64 0, .int .i64 0, .int .i64 0] 61 ?_; intro gb223 hg w22 hbox hb; have BK223 := A_ (hbox); have GW223 := A_ (bs hg (hq HB) : w.heap.size ≤ gb223); have GE223 := A_ (bs hg (hq HB) : w.heap.size ≤ gb223); replace HB := A_ (below_step (hq HB) hb); have NB221_223 := A_ ((by rw [hg]; exact Nat.ne_of_lt (blk_lt (bq BK221)) : gb221 ≠ gb223)); have NB223_221 := A_ ((by rw [hg]; exact Nat.ne_of_gt (blk_lt (bq BK221)) : gb223 ≠ gb221)); replace BK221 := A_ (blk_below (bq BK221) hb); clear hb hbox hg; have hnb23 := NB223_221.out; have hnc23 := NB221_223.out; have hcz24_0 : w22.cell? ⟨gb223, 0, none⟩ = some (.int .i64 0) := bc BK223 0; have hcz24_1 : w22.cell? ⟨gb223, 1, none⟩ = some (.int .i64 0) := bc BK223 1; have hcz24_2 : w22.cell? ⟨gb223, 2, none⟩ = some (.int .i64 0) := bc BK223 2; have hfz24_0 := blk_frozen BK223.out 0; have hfz24_1 := blk_frozen BK223.out 1; have hfz24_2 := blk_frozen BK223.out 2; have hcz25_0 : w22.cell? ⟨gb221, 0, none⟩ = some (.int .i64 a0_0) := bc BK221 0; have hcz25_1 : w22.cell? ⟨gb221, 1, none⟩ = some (.bool a0_1) := bc BK221 1; have hfz25_0 := blk_frozen BK221.out 0; have hfz25_1 := blk_frozen BK221.out 1) | ((with_reducible refine gate_dst (N := 16) rfl ?_); refine Kd.R_lit (Kd.int .i64) _ 3 ?hg (N := 16) ?hd (xs := ([(rd_T61 l1 x9_1).f0] : List Int)) (inner := [.int .i64 ((rd_T61 l1 x9_1).f0)]) (ok := fun _ => True) (okp := fun _ => True) ?hr ?hp (fun _ hk => hk) trivial (Below.refl _ _) (Nat.le_refl _) (by simp) ?_; (case hd => rfl); (case hg => rfl); (case hr => first | (go_simp; done) | (go_simp; rfl)); (case hp => exact (Reps.one (show Kd.M (Kd.int .i64) _ _ _ ((rd_T61 l1 x9_1).f0) [.int .i64 ((rd_T61 l1 x9_1).f0)] from rfl) (Reps.none _ _))); intro v225 w26 ho27 hb hg_ hnew_; clear hg_ hnew_; (first | rw [← Ny224.out] at ho27 | (simp only [Int.reduceToNat] at ho27; rw [← Ny224.out] at ho27)); have HO226 := A_ (Kd.R_lower ho27 (below_size (hq HB))); replace BK221 := A_ (blk_below (g := gb221) (o := .cells #[.int .i64 a0_0, .bool a0_1] 27 (0, 0)) (by (with_reducible repeat (first | refine blk_drewN ?_ _ | refine blk_drew ?_ | refine blk_alloc ?_ _)); refine blk_far ?_ NB221_223.out _; (with_reducible repeat (first | refine blk_drewN ?_ _ | refine blk_drew ?_ | refine blk_alloc ?_ _)); refine blk_far ?_ NB221_223.out _; (with_reducible repeat (first | refine blk_drewN ?_ _ | refine blk_drew ?_ | refine blk_alloc ?_ _)); refine blk_far ?_ NB221_223.out _; (with_reducible repeat (first | refine blk_drewN ?_ _ | refine blk_drew ?_ | refine blk_alloc ?_ _)); exact BK221.out) hb); replace BK223 := A_ (blk_below (g := gb223) (o := .cells #[.int .i64 ((rd_T61 l1 x9_1).f0), .int .i64 ((rd_T61 l1 x9_1).f1), .int .i64 ((rd_T61 l1 x9_1).f2)] 61 (0, 0)) (by (with_reducible repeat (first | refine blk_drewN ?_ _ | refine blk_drew ?_ | refine blk_alloc ?_ _)); refine blk_put (cs := #[.int .i64 ((rd_T61 l1 x9_1).f0), .int .i64 ((rd_T61 l1 x9_1).f1), .int .i64 0]) ?_ 2 _ rfl; (with_reducible repeat (first | refine blk_drewN ?_ _ | refine blk_drew ?_ | refine blk_alloc ?_ _)); refine blk_put (cs := #[.int .i64 ((rd_T61 l1 x9_1).f0), .int .i64 0, .int .i64 0]) ?_ 1 _ rfl; (with_reducible repeat (first | refine blk_drewN ?_ _ | refine blk_drew ?_ | refine blk_alloc ?_ _)); refine blk_put (cs := #[.int .i64 0, .int .i64 0, .int .i64 0]) ?_ 0 _ rfl; (with_reducible repeat (first | refine blk_drewN ?_ _ | refine blk_drew ?_ | refine blk_alloc ?_ _)); exact BK223.out) hb); replace HB := A_ (below_step (hq HB) hb); clear hb ho27; obtain ⟨Ao28, co28, eo28⟩ := Kd.R_slice HO226.out; subst eo28) | ((with_reducible refine gate_callee (f := 69) rfl ?_); refine gL (some 17) Try.func69 #[.agg #[.int .i64 a0_0, .bool a0_1], .slice Ao28 y224.length co28] ?_; (with_reducible refine (impl_Road_has.calls k1 a0_0 a0_1 _ _ y224 true _ ?side1 ?side2 A7.out).mono ?_); (case side1 => exact cq (Kd.R_reads' HO226.out).2.2); (case side2 => exact (Kd.R_reads' HO226.out).2.1); rintro e w29 ⟨rfl, hb⟩; refine ⟨_, rfl, ?_⟩; replace HO226 := A_ (Kd.R_below (rq HO226) hb); replace BK221 := A_ (blk_below (bq BK221) hb); replace BK223 := A_ (blk_below (bq BK223) hb); replace HB := A_ (below_step (hq HB) hb); clear hb; have hcz30_0 : w29.cell? ⟨gb223, 0, none⟩ = some (.int .i64 ((rd_T61 l1 x9_1).f0)) := bc BK223 0; have hcz30_1 : w29.cell? ⟨gb223, 1, none⟩ = some (.int .i64 ((rd_T61 l1 x9_1).f1)) := bc BK223 1; have hcz30_2 : w29.cell? ⟨gb223, 2, none⟩ = some (.int .i64 ((rd_T61 l1 x9_1).f2)) := bc BK223 2; have hfz30_0 := blk_frozen BK223.out 0; have hfz30_1 := blk_frozen BK223.out 1; have hfz30_2 := blk_frozen BK223.out 2) | (go_at_call 32; (with_reducible refine (impl_within.calls ((rd_T61 l1 x9_1).f1) 0 48 true _ A9.out).mono ?_); rintro e w' ⟨rfl, ⟨nd, rfl⟩⟩) | (go_at_call 32; (with_reducible refine (impl_within.calls ((rd_T61 l1 x9_1).f2) 0 20 false _ A11.out).mono ?_); rintro e w' ⟨rfl, ⟨nd, rfl⟩⟩))
         go_ret
         exact ⟨rt, hq HB⟩
       ·
        replace c10 := Bool.eq_false_iff.mpr c10; subst c10
        have H1 : (some false) = some r := by rw [if_neg (show ¬ (false = true) by decide)] at H; exact H
        clear H; have H := H1; clear H1; obtain rfl := Option.some.inj H; have p222 : 0 ≤ (x9_1 : Int) := dq; have q222 : x9_1 < (l1.length : Int) := dq; obtain ⟨ad222, e222, hx222_0, hx222_1, hx222_2⟩ := at_T61 HR1.out x9_1 p222 q222
        cases e222
        replace hx222_0 := (HB.out.cell (World.block_lt_of_cell? w _ hx222_0)).trans hx222_0; replace hx222_1 := (HB.out.cell (World.block_lt_of_cell? w _ hx222_1)).trans hx222_1; replace hx222_2 := (HB.out.cell (World.block_lt_of_cell? w _ hx222_2)).trans hx222_2; replace p222 := eq_true p222; replace q222 := eq_true q222; go_wp2_with (first | ((with_reducible refine gate_dst (N := 6) rfl ?_); refine bx (N := 6) #[.int .i64 0, .int .i64 0, .int .i64 0] 61 ?_; intro gb223 hg w31 hbox hb; have BK223 := A_ (hbox); have GW223 := A_ (bs hg (hq HB) : w.heap.size ≤ gb223); have GE223 := A_ (bs hg (hq HB) : w.heap.size ≤ gb223); replace HB := A_ (below_step (hq HB) hb); have NB221_223 := A_ ((by rw [hg]; exact Nat.ne_of_lt (blk_lt (bq BK221)) : gb221 ≠ gb223)); have NB223_221 := A_ ((by rw [hg]; exact Nat.ne_of_gt (blk_lt (bq BK221)) : gb223 ≠ gb221)); replace BK221 := A_ (blk_below (bq BK221) hb); clear hb hbox hg; have hnb32 := NB223_221.out; have hnc32 := NB221_223.out; have hcz33_0 : w31.cell? ⟨gb223, 0, none⟩ = some (.int .i64 0) := bc BK223 0; have hcz33_1 : w31.cell? ⟨gb223, 1, none⟩ = some (.int .i64 0) := bc BK223 1; have hcz33_2 : w31.cell? ⟨gb223, 2, none⟩ = some (.int .i64 0) := bc BK223 2; have hfz33_0 := blk_frozen BK223.out 0; have hfz33_1 := blk_frozen BK223.out 1; have hfz33_2 := blk_frozen BK223.out 2; have hcz34_0 : w31.cell? ⟨gb221, 0, none⟩ = some (.int .i64 a0_0) := bc BK221 0; have hcz34_1 : w31.cell? ⟨gb221, 1, none⟩ = some (.bool a0_1) := bc BK221 1; have hfz34_0 := blk_frozen BK221.out 0; have hfz34_1 := blk_frozen BK221.out 1) | ((with_reducible refine gate_dst (N := 16) rfl ?_); refine Kd.R_lit (Kd.int .i64) _ 3 ?hg (N := 16) ?hd (xs := ([(rd_T61 l1 x9_1).f0] : List Int)) (inner := [.int .i64 ((rd_T61 l1 x9_1).f0)]) (ok := fun _ => True) (okp := fun _ => True) ?hr ?hp (fun _ hk => hk) trivial (Below.refl _ _) (Nat.le_refl _) (by simp) ?_; (case hd => rfl); (case hg => rfl); (case hr => first | (go_simp; done) | (go_simp; rfl)); (case hp => exact (Reps.one (show Kd.M (Kd.int .i64) _ _ _ ((rd_T61 l1 x9_1).f0) [.int .i64 ((rd_T61 l1 x9_1).f0)] from rfl) (Reps.none _ _))); intro v225 w35 ho36 hb hg_ hnew_; clear hg_ hnew_; (first | rw [← Ny224.out] at ho36 | (simp only [Int.reduceToNat] at ho36; rw [← Ny224.out] at ho36)); have HO226 := A_ (Kd.R_lower ho36 (below_size (hq HB))); replace BK221 := A_ (blk_below (g := gb221) (o := .cells #[.int .i64 a0_0, .bool a0_1] 27 (0, 0)) (by (with_reducible repeat (first | refine blk_drewN ?_ _ | refine blk_drew ?_ | refine blk_alloc ?_ _)); refine blk_far ?_ NB221_223.out _; (with_reducible repeat (first | refine blk_drewN ?_ _ | refine blk_drew ?_ | refine blk_alloc ?_ _)); refine blk_far ?_ NB221_223.out _; (with_reducible repeat (first | refine blk_drewN ?_ _ | refine blk_drew ?_ | refine blk_alloc ?_ _)); refine blk_far ?_ NB221_223.out _; (with_reducible repeat (first | refine blk_drewN ?_ _ | refine blk_drew ?_ | refine blk_alloc ?_ _)); exact BK221.out) hb); replace BK223 := A_ (blk_below (g := gb223) (o := .cells #[.int .i64 ((rd_T61 l1 x9_1).f0), .int .i64 ((rd_T61 l1 x9_1).f1), .int .i64 ((rd_T61 l1 x9_1).f2)] 61 (0, 0)) (by (with_reducible repeat (first | refine blk_drewN ?_ _ | refine blk_drew ?_ | refine blk_alloc ?_ _)); refine blk_put (cs := #[.int .i64 ((rd_T61 l1 x9_1).f0), .int .i64 ((rd_T61 l1 x9_1).f1), .int .i64 0]) ?_ 2 _ rfl; (with_reducible repeat (first | refine blk_drewN ?_ _ | refine blk_drew ?_ | refine blk_alloc ?_ _)); refine blk_put (cs := #[.int .i64 ((rd_T61 l1 x9_1).f0), .int .i64 0, .int .i64 0]) ?_ 1 _ rfl; (with_reducible repeat (first | refine blk_drewN ?_ _ | refine blk_drew ?_ | refine blk_alloc ?_ _)); refine blk_put (cs := #[.int .i64 0, .int .i64 0, .int .i64 0]) ?_ 0 _ rfl; (with_reducible repeat (first | refine blk_drewN ?_ _ | refine blk_drew ?_ | refine blk_alloc ?_ _)); exact BK223.out) hb); replace HB := A_ (below_step (hq HB) hb); clear hb ho36; obtain ⟨Ao37, co37, eo37⟩ := Kd.R_slice HO226.out; subst eo37) | ((with_reducible refine gate_callee (f := 69) rfl ?_); refine gL (some 17) Try.func69 #[.agg #[.int .i64 a0_0, .bool a0_1], .slice Ao37 y224.length co37] ?_; (with_reducible refine (impl_Road_has.calls k1 a0_0 a0_1 _ _ y224 true _ ?side1 ?side2 A7.out).mono ?_); (case side1 => exact cq (Kd.R_reads' HO226.out).2.2); (case side2 => exact (Kd.R_reads' HO226.out).2.1); rintro e w38 ⟨rfl, hb⟩; refine ⟨_, rfl, ?_⟩; replace HO226 := A_ (Kd.R_below (rq HO226) hb); replace BK221 := A_ (blk_below (bq BK221) hb); replace BK223 := A_ (blk_below (bq BK223) hb); replace HB := A_ (below_step (hq HB) hb); clear hb; have hcz39_0 : w38.cell? ⟨gb223, 0, none⟩ = some (.int .i64 ((rd_T61 l1 x9_1).f0)) := bc BK223 0; have hcz39_1 : w38.cell? ⟨gb223, 1, none⟩ = some (.int .i64 ((rd_T61 l1 x9_1).f1)) := bc BK223 1; have hcz39_2 : w38.cell? ⟨gb223, 2, none⟩ = some (.int .i64 ((rd_T61 l1 x9_1).f2)) := bc BK223 2; have hfz39_0 := blk_frozen BK223.out 0; have hfz39_1 := blk_frozen BK223.out 1; have hfz39_2 := blk_frozen BK223.out 2) | (go_at_call 32; (with_reducible refine (impl_within.calls ((rd_T61 l1 x9_1).f1) 0 48 false _ A9.out).mono ?_); rintro e w' ⟨rfl, ⟨nd, rfl⟩⟩))
        go_ret
        exact ⟨rt, hq HB⟩
      ·
       replace c8 := Bool.eq_false_iff.mpr c8; subst c8
       have H1 : (some false) = some r := by rw [if_neg (show ¬ (false = true) by decide)] at H; exact H
       clear H; have H := H1; clear H1; obtain rfl := Option.some.inj H; have p222 : 0 ≤ (x9_1 : Int) := dq; have q222 : x9_1 < (l1.length : Int) := dq; obtain ⟨ad222, e222, hx222_0, hx222_1, hx222_2⟩ := at_T61 HR1.out x9_1 p222 q222
       cases e222
       replace hx222_0 := (HB.out.cell (World.block_lt_of_cell? w _ hx222_0)).trans hx222_0; replace hx222_1 := (HB.out.cell (World.block_lt_of_cell? w _ hx222_1)).trans hx222_1; replace hx222_2 := (HB.out.cell (World.block_lt_of_cell? w _ hx222_2)).trans hx222_2; replace p222 := eq_true p222; replace q222 := eq_true q222; go_wp2_with (first | ((with_reducible refine gate_dst (N := 6) rfl ?_); refine bx (N := 6) #[.int .i64 0, .int .i64 0, .int .i64 0] 61 ?_; intro gb223 hg w40 hbox hb; have BK223 := A_ (hbox); have GW223 := A_ (bs hg (hq HB) : w.heap.size ≤ gb223); have GE223 := A_ (bs hg (hq HB) : w.heap.size ≤ gb223); replace HB := A_ (below_step (hq HB) hb); have NB221_223 := A_ ((by rw [hg]; exact Nat.ne_of_lt (blk_lt (bq BK221)) : gb221 ≠ gb223)); have NB223_221 := A_ ((by rw [hg]; exact Nat.ne_of_gt (blk_lt (bq BK221)) : gb223 ≠ gb221)); replace BK221 := A_ (blk_below (bq BK221) hb); clear hb hbox hg; have hnb41 := NB223_221.out; have hnc41 := NB221_223.out; have hcz42_0 : w40.cell? ⟨gb223, 0, none⟩ = some (.int .i64 0) := bc BK223 0; have hcz42_1 : w40.cell? ⟨gb223, 1, none⟩ = some (.int .i64 0) := bc BK223 1; have hcz42_2 : w40.cell? ⟨gb223, 2, none⟩ = some (.int .i64 0) := bc BK223 2; have hfz42_0 := blk_frozen BK223.out 0; have hfz42_1 := blk_frozen BK223.out 1; have hfz42_2 := blk_frozen BK223.out 2; have hcz43_0 : w40.cell? ⟨gb221, 0, none⟩ = some (.int .i64 a0_0) := bc BK221 0; have hcz43_1 : w40.cell? ⟨gb221, 1, none⟩ = some (.bool a0_1) := bc BK221 1; have hfz43_0 := blk_frozen BK221.out 0; have hfz43_1 := blk_frozen BK221.out 1) | ((with_reducible refine gate_dst (N := 16) rfl ?_); refine Kd.R_lit (Kd.int .i64) _ 3 ?hg (N := 16) ?hd (xs := ([(rd_T61 l1 x9_1).f0] : List Int)) (inner := [.int .i64 ((rd_T61 l1 x9_1).f0)]) (ok := fun _ => True) (okp := fun _ => True) ?hr ?hp (fun _ hk => hk) trivial (Below.refl _ _) (Nat.le_refl _) (by simp) ?_; (case hd => rfl); (case hg => rfl); (case hr => first | (go_simp; done) | (go_simp; rfl)); (case hp => exact (Reps.one (show Kd.M (Kd.int .i64) _ _ _ ((rd_T61 l1 x9_1).f0) [.int .i64 ((rd_T61 l1 x9_1).f0)] from rfl) (Reps.none _ _))); intro v225 w44 ho45 hb hg_ hnew_; clear hg_ hnew_; (first | rw [← Ny224.out] at ho45 | (simp only [Int.reduceToNat] at ho45; rw [← Ny224.out] at ho45)); have HO226 := A_ (Kd.R_lower ho45 (below_size (hq HB))); replace BK221 := A_ (blk_below (g := gb221) (o := .cells #[.int .i64 a0_0, .bool a0_1] 27 (0, 0)) (by (with_reducible repeat (first | refine blk_drewN ?_ _ | refine blk_drew ?_ | refine blk_alloc ?_ _)); refine blk_far ?_ NB221_223.out _; (with_reducible repeat (first | refine blk_drewN ?_ _ | refine blk_drew ?_ | refine blk_alloc ?_ _)); refine blk_far ?_ NB221_223.out _; (with_reducible repeat (first | refine blk_drewN ?_ _ | refine blk_drew ?_ | refine blk_alloc ?_ _)); refine blk_far ?_ NB221_223.out _; (with_reducible repeat (first | refine blk_drewN ?_ _ | refine blk_drew ?_ | refine blk_alloc ?_ _)); exact BK221.out) hb); replace BK223 := A_ (blk_below (g := gb223) (o := .cells #[.int .i64 ((rd_T61 l1 x9_1).f0), .int .i64 ((rd_T61 l1 x9_1).f1), .int .i64 ((rd_T61 l1 x9_1).f2)] 61 (0, 0)) (by (with_reducible repeat (first | refine blk_drewN ?_ _ | refine blk_drew ?_ | refine blk_alloc ?_ _)); refine blk_put (cs := #[.int .i64 ((rd_T61 l1 x9_1).f0), .int .i64 ((rd_T61 l1 x9_1).f1), .int .i64 0]) ?_ 2 _ rfl; (with_reducible repeat (first | refine blk_drewN ?_ _ | refine blk_drew ?_ | refine blk_alloc ?_ _)); refine blk_put (cs := #[.int .i64 ((rd_T61 l1 x9_1).f0), .int .i64 0, .int .i64 0]) ?_ 1 _ rfl; (with_reducible repeat (first | refine blk_drewN ?_ _ | refine blk_drew ?_ | refine blk_alloc ?_ _)); refine blk_put (cs := #[.int .i64 0, .int .i64 0, .int .i64 0]) ?_ 0 _ rfl; (with_reducible repeat (first | refine blk_drewN ?_ _ | refine blk_drew ?_ | refine blk_alloc ?_ _)); exact BK223.out) hb); replace HB := A_ (below_step (hq HB) hb); clear hb ho45; obtain ⟨Ao46, co46, eo46⟩ := Kd.R_slice HO226.out; subst eo46) | ((with_reducible refine gate_callee (f := 69) rfl ?_); refine gL (some 17) Try.func69 #[.agg #[.int .i64 a0_0, .bool a0_1], .slice Ao46 y224.length co46] ?_; (with_reducible refine (impl_Road_has.calls k1 a0_0 a0_1 _ _ y224 false _ ?side1 ?side2 A7.out).mono ?_); (case side1 => exact cq (Kd.R_reads' HO226.out).2.2); (case side2 => exact (Kd.R_reads' HO226.out).2.1); rintro e w47 ⟨rfl, hb⟩; refine ⟨_, rfl, ?_⟩; replace HO226 := A_ (Kd.R_below (rq HO226) hb); replace BK221 := A_ (blk_below (bq BK221) hb); replace BK223 := A_ (blk_below (bq BK223) hb); replace HB := A_ (below_step (hq HB) hb); clear hb))
       go_ret
       exact ⟨rt, hq HB⟩
     ·
      rw [if_neg c6] at H; exact absurd H (by simp)
    ·
     rw [if_neg c5] at H; exact absurd H (by simp)
   ·
    rw [if_neg c4] at H; have c4b0 := decide_eq_false c4; clear c4; obtain rfl := Option.some.inj H; go_wp2
    go_ret
    exact ⟨rt, hq HB⟩

end Go.Proofs.Ythgbkekfekcfaaa.PFnExactLeastPrice
