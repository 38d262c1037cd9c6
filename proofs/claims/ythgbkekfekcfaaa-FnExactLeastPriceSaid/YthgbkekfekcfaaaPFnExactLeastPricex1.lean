-- Told shorter still by shrink2.py.
-- Printed, and told shorter by this session's program shrink.py.
-- Printed by this session's program myprint.py.
import Derived.Test.YthgbkekfekcfaaaPFnExactLeastPricex0
namespace Go.Proofs.Ythgbkekfekcfaaa.PFnExactLeastPrice
open Go.RowKit Go.Proofs.Ythgbkekfekcfaaa.Own Go.Proofs.YthgbkekfekcfaaaW.PrintWords Go.Proofs.YthgbkekfekcfaaaW.PrintLast Go.Proofs.YthgbkekfekcfaaaW.PrintMore
attribute [local go_sem] max2_int min2_int max_two min_two max_three min_three max_four min_four   -- for this text's walks alone
set_option linter.unusedVariables false
set_option linter.unusedSimpArgs false

/-! ### laws_toRoad: function 8 -/
def laws_toRoad.f (a0_0 : Int) (a0_1 : Bool) : Option (Int × Bool) := some (a0_0, a0_1)
set_option maxHeartbeats 8000000 in
set_option maxRecDepth 100000 in
theorem laws_toRoad.calls (a0_0 : Int) (a0_1 : Bool) (r1 : Int) (r2 : Bool) (w : World) (h : laws_toRoad.f a0_0 a0_1 = some (r1, r2)) :
    Calls Try.prog 8 #[.agg #[.int .i64 a0_0, .bool a0_1]] w fun e w' => e = .returned (.agg #[.int .i64 r1, .bool r2]) ∧ Below w.heap.size w w' := by
 have hu23 := Try.underlying23; have hu27 := Try.underlying27; have HB := A_ (Below.refl w.heap.size w); have H : (some (a0_0, a0_1)) = some (r1, r2) := h; clear h; simp only [Option.some.injEq, Prod.mk.injEq] at H
 obtain ⟨rfl, rfl⟩ := H; go_enter Try.func8, Try.ntmps8
 go_wp2_with (first | ((with_reducible refine gate_dst (N := 1) rfl ?_); refine bx (N := 1) #[.int .i64 a0_0, .bool a0_1] 23 ?_; intro gb101 hg w2 hbox hb; have BK101 := A_ (hbox); have GW101 := A_ (bs hg (hq HB) : w.heap.size ≤ gb101); have GE101 := A_ (bs hg (hq HB) : w.heap.size ≤ gb101); replace HB := A_ (below_step (hq HB) hb); clear hb hbox hg) | ((with_reducible refine gate_dst (N := 2) rfl ?_); refine bx (N := 2) #[.int .i64 0, .bool false] 27 ?_; intro gb102 hg w3 hbox hb; have BK102 := A_ (hbox); have GW102 := A_ (bs hg (hq HB) : w.heap.size ≤ gb102); have GE102 := A_ (bs hg (hq HB) : w.heap.size ≤ gb102); replace HB := A_ (below_step (hq HB) hb); have NB101_102 := A_ ((by rw [hg]; exact Nat.ne_of_lt (blk_lt (bq BK101)) : gb101 ≠ gb102)); have NB102_101 := A_ ((by rw [hg]; exact Nat.ne_of_gt (blk_lt (bq BK101)) : gb102 ≠ gb101)); replace BK101 := A_ (blk_below (bq BK101) hb); clear hb hbox hg) | ((with_reducible refine gate_dst (N := 3) rfl ?_); refine bx (N := 3) #[.int .i64 0, .bool false] 27 ?_; intro gb103 hg w4 hbox hb; have BK103 := A_ (hbox); have GW103 := A_ (bs hg (hq HB) : w.heap.size ≤ gb103); have GE103 := A_ (bs hg (hq HB) : w.heap.size ≤ gb103); replace HB := A_ (below_step (hq HB) hb); have NB101_103 := A_ ((by rw [hg]; exact Nat.ne_of_lt (blk_lt (bq BK101)) : gb101 ≠ gb103)); have NB103_101 := A_ ((by rw [hg]; exact Nat.ne_of_gt (blk_lt (bq BK101)) : gb103 ≠ gb101)); replace BK101 := A_ (blk_below (bq BK101) hb); have NB102_103 := A_ ((by rw [hg]; exact Nat.ne_of_lt (blk_lt (bq BK102)) : gb102 ≠ gb103)); have NB103_102 := A_ ((by rw [hg]; exact Nat.ne_of_gt (blk_lt (bq BK102)) : gb103 ≠ gb102)); replace BK102 := A_ (blk_below (bq BK102) hb); clear hb hbox hg; have hnb5 := NB101_102.out; have hnc5 := NB102_101.out; have hnb6 := NB101_103.out; have hnc6 := NB103_101.out; have hcz7_0 : w4.cell? ⟨gb101, 0, none⟩ = some (.int .i64 a0_0) := bc BK101 0; have hcz7_1 : w4.cell? ⟨gb101, 1, none⟩ = some (.bool a0_1) := bc BK101 1; have hfz7_0 := blk_frozen BK101.out 0; have hfz7_1 := blk_frozen BK101.out 1; have hnb8 := NB103_102.out; have hnc8 := NB102_103.out; have hcz9_0 : w4.cell? ⟨gb103, 0, none⟩ = some (.int .i64 0) := bc BK103 0; have hcz9_1 : w4.cell? ⟨gb103, 1, none⟩ = some (.bool false) := bc BK103 1; have hfz9_0 := blk_frozen BK103.out 0; have hfz9_1 := blk_frozen BK103.out 1; have hcz10_0 : w4.cell? ⟨gb102, 0, none⟩ = some (.int .i64 0) := bc BK102 0; have hcz10_1 : w4.cell? ⟨gb102, 1, none⟩ = some (.bool false) := bc BK102 1; have hfz10_0 := blk_frozen BK102.out 0; have hfz10_1 := blk_frozen BK102.out 1))
 refine bodyPost_ret (results_cell_row rfl _ _ gb102 27 #[.int .i64 a0_0, .bool a0_1] (0, 0) _ rfl (by (with_reducible repeat (first | refine blk_drewN ?_ _ | refine blk_drew ?_ | refine blk_alloc ?_ _)); refine blk_put (cs := #[.int .i64 a0_0, .bool false]) ?_ 1 _ rfl; (with_reducible repeat (first | refine blk_drewN ?_ _ | refine blk_drew ?_ | refine blk_alloc ?_ _)); refine blk_put (cs := #[.int .i64 0, .bool false]) ?_ 0 _ rfl; (with_reducible repeat (first | refine blk_drewN ?_ _ | refine blk_drew ?_ | refine blk_alloc ?_ _)); refine blk_far ?_ NB102_103.out _; (with_reducible repeat (first | refine blk_drewN ?_ _ | refine blk_drew ?_ | refine blk_alloc ?_ _)); refine blk_far ?_ NB102_103.out _; (with_reducible repeat (first | refine blk_drewN ?_ _ | refine blk_drew ?_ | refine blk_alloc ?_ _)); exact BK102.out) Try.underlying27 rfl (by kernel_rfl)) rfl ?_; exact ⟨rt, hq HB⟩

/-! ### laws_szCarrierS: function 13 -/
def laws_szCarrierS.f (l0 : List (S63)) (a1 : Int) : Option (Int) := if (wrap64 (a1 - (l0.length : Int))) < 0 then (some (-1)) else (some (wrap64 (a1 - (l0.length : Int))))
set_option maxHeartbeats 8000000 in
set_option maxRecDepth 100000 in
theorem laws_szCarrierS.calls (A0 : Option Addr) (c0 : Nat) (l0 : List (S63)) (a1 : Int) (r : Int) (w : World) (hr0 : Kd.C k63 w A0 l0.length l0) (hc0 : l0.length ≤ c0) (h : laws_szCarrierS.f l0 a1 = some r) :
    Calls Try.prog 13 #[.slice A0 l0.length c0, .int .i64 a1] w fun e w' => e = .returned (.int .i64 r) ∧ Drawn0 w w' := by
 have HR0 := A_ hr0; have HC0 := A_ hc0; clear hr0 hc0; have H : (if (wrap64 (a1 - (l0.length : Int))) < 0 then (some (-1)) else (some (wrap64 (a1 - (l0.length : Int))))) = some r := h; clear h; by_cases c3 : (wrap64 (a1 - (l0.length : Int))) < 0
 ·
  rw [if_pos c3] at H; have c3b0 := decide_eq_true c3; clear c3; obtain rfl := Option.some.inj H; go_enter Try.func13, Try.ntmps13
  go_wp2
  go_ret
  exact ⟨rf, by repeat (first | exact Drawn0.refl _ | apply Drawn0.step)⟩
 ·
  rw [if_neg c3] at H; have c3b0 := decide_eq_false c3; clear c3; obtain rfl := Option.some.inj H; go_enter Try.func13, Try.ntmps13
  go_wp2
  go_ret
  exact ⟨rf, by repeat (first | exact Drawn0.refl _ | apply Drawn0.step)⟩

/-! ### spec_l1In: function 26 -/
def spec_l1In.f (a0 : Int) (a1 : Int) (a2 : Int) : Option (Bool) := if a0 ≥ a1 then (some (decide (a0 ≤ a2))) else (some false)
set_option maxHeartbeats 8000000 in
set_option maxRecDepth 100000 in
theorem spec_l1In.calls (a0 : Int) (a1 : Int) (a2 : Int) (r : Bool) (w : World) (h : spec_l1In.f a0 a1 a2 = some r) :
    Calls Try.prog 26 #[.int .i64 a0, .int .i64 a1, .int .i64 a2] w fun e w' => e = .returned (.bool r) ∧ Drawn0 w w' := by
 have H : (if a0 ≥ a1 then (some (decide (a0 ≤ a2))) else (some false)) = some r := h; clear h; by_cases c4 : a0 ≥ a1
 ·
  rw [if_pos c4] at H; have c4b0 : decide (a1 ≤ a0) = true := decide_eq_true c4; clear c4; obtain rfl := Option.some.inj H; go_enter Try.func26, Try.ntmps26
  go_wp2
  go_ret
  exact ⟨rf, by repeat (first | exact Drawn0.refl _ | apply Drawn0.step)⟩
 ·
  rw [if_neg c4] at H; have c4b0 : decide (a1 ≤ a0) = false := decide_eq_false c4; clear c4; obtain rfl := Option.some.inj H; go_enter Try.func26, Try.ntmps26
  go_wp2
  go_ret
  exact ⟨rf, by repeat (first | exact Drawn0.refl _ | apply Drawn0.step)⟩

/-! ### spec_l2Road: function 25 -/
def spec_l2Road.f (a0_0 : Int) (a0_1 : Bool) : Option (Bool) := (spec_l1In.f a0_0 2 24).bind fun t105 => (if t105 = true then (if a0_1 = true then (some (decide (a0_0 > 2))) else (some true)) else (some false))
set_option maxHeartbeats 8000000 in
set_option maxRecDepth 100000 in
theorem spec_l2Road.calls (a0_0 : Int) (a0_1 : Bool) (r : Bool) (w : World) (h : spec_l2Road.f a0_0 a0_1 = some r) :
    Calls Try.prog 25 #[.agg #[.int .i64 a0_0, .bool a0_1]] w fun e w' => e = .returned (.bool r) ∧ Below w.heap.size w w' := by
 have hu27 := Try.underlying27; have HB := A_ (Below.refl w.heap.size w); have H : ((spec_l1In.f a0_0 2 24).bind fun t105 => (if t105 = true then (if a0_1 = true then (some (decide (a0_0 > 2))) else (some true)) else (some false))) = some r := h; clear h; replace H := bm H; obtain ⟨t105, A2, H⟩ := H; by_cases c3 : t105 = true
 ·
  subst c3
  have H1 : (if a0_1 = true then (some (decide (a0_0 > 2))) else (some true)) = some r := by rw [if_pos rfl] at H; exact H
  clear H; have H := H1; clear H1; by_cases c4 : a0_1 = true
  ·
   subst c4
   have H1 : (some (decide (a0_0 > 2))) = some r := by rw [if_pos rfl] at H; exact H
   clear H; have H := H1; clear H1; obtain rfl := Option.some.inj H; go_enter Try.func25, Try.ntmps25
   go_wp2_with (first | ((with_reducible refine gate_dst (N := 1) rfl ?_); refine bx (N := 1) #[.int .i64 a0_0, .bool true] 27 ?_; intro gb104 hg w5 hbox hb; have BK104 := A_ (hbox); have GW104 := A_ (bs hg (hq HB) : w.heap.size ≤ gb104); have GE104 := A_ (bs hg (hq HB) : w.heap.size ≤ gb104); replace HB := A_ (below_step (hq HB) hb); clear hb hbox hg; have hcz6_0 : w5.cell? ⟨gb104, 0, none⟩ = some (.int .i64 a0_0) := bc BK104 0; have hcz6_1 : w5.cell? ⟨gb104, 1, none⟩ = some (.bool true) := bc BK104 1; have hfz6_0 := blk_frozen BK104.out 0; have hfz6_1 := blk_frozen BK104.out 1) | ((with_reducible refine gate_callee (f := 26) rfl ?_); refine gL (some 5) Try.func26 #[.int .i64 a0_0, .int .i64 2, .int .i64 24] ?_; (with_reducible refine (spec_l1In.calls a0_0 2 24 true _ A2.out).mono ?_); rintro e w' ⟨rfl, ⟨nd, rfl⟩⟩; refine ⟨_, rfl, ?_⟩))
   go_ret
   exact ⟨rt, hq HB⟩
  ·
   replace c4 := Bool.eq_false_iff.mpr c4; subst c4
   have H1 : (some true) = some r := by rw [if_neg (show ¬ (false = true) by decide)] at H; exact H
   clear H; have H := H1; clear H1; obtain rfl := Option.some.inj H; go_enter Try.func25, Try.ntmps25
   go_wp2_with (first | ((with_reducible refine gate_dst (N := 1) rfl ?_); refine bx (N := 1) #[.int .i64 a0_0, .bool false] 27 ?_; intro gb104 hg w7 hbox hb; have BK104 := A_ (hbox); have GW104 := A_ (bs hg (hq HB) : w.heap.size ≤ gb104); have GE104 := A_ (bs hg (hq HB) : w.heap.size ≤ gb104); replace HB := A_ (below_step (hq HB) hb); clear hb hbox hg; have hcz8_0 : w7.cell? ⟨gb104, 0, none⟩ = some (.int .i64 a0_0) := bc BK104 0; have hcz8_1 : w7.cell? ⟨gb104, 1, none⟩ = some (.bool false) := bc BK104 1; have hfz8_0 := blk_frozen BK104.out 0; have hfz8_1 := blk_frozen BK104.out 1) | ((with_reducible refine gate_callee (f := 26) rfl ?_); refine gL (some 5) Try.func26 #[.int .i64 a0_0, .int .i64 2, .int .i64 24] ?_; (with_reducible refine (spec_l1In.calls a0_0 2 24 true _ A2.out).mono ?_); rintro e w' ⟨rfl, ⟨nd, rfl⟩⟩; refine ⟨_, rfl, ?_⟩))
   go_ret
   exact ⟨rt, hq HB⟩
 ·
  replace c3 := Bool.eq_false_iff.mpr c3; subst c3
  have H1 : (some false) = some r := by rw [if_neg (show ¬ (false = true) by decide)] at H; exact H
  clear H; have H := H1; clear H1; obtain rfl := Option.some.inj H; go_enter Try.func25, Try.ntmps25
  go_wp2_with (first | ((with_reducible refine gate_dst (N := 1) rfl ?_); refine bx (N := 1) #[.int .i64 a0_0, .bool a0_1] 27 ?_; intro gb104 hg w9 hbox hb; have BK104 := A_ (hbox); have GW104 := A_ (bs hg (hq HB) : w.heap.size ≤ gb104); have GE104 := A_ (bs hg (hq HB) : w.heap.size ≤ gb104); replace HB := A_ (below_step (hq HB) hb); clear hb hbox hg; have hcz10_0 : w9.cell? ⟨gb104, 0, none⟩ = some (.int .i64 a0_0) := bc BK104 0; have hcz10_1 : w9.cell? ⟨gb104, 1, none⟩ = some (.bool a0_1) := bc BK104 1; have hfz10_0 := blk_frozen BK104.out 0; have hfz10_1 := blk_frozen BK104.out 1) | ((with_reducible refine gate_callee (f := 26) rfl ?_); refine gL (some 5) Try.func26 #[.int .i64 a0_0, .int .i64 2, .int .i64 24] ?_; (with_reducible refine (spec_l1In.calls a0_0 2 24 false _ A2.out).mono ?_); rintro e w' ⟨rfl, ⟨nd, rfl⟩⟩; refine ⟨_, rfl, ?_⟩))
  go_ret
  exact ⟨rt, hq HB⟩

/-! ### spec_l3Line: function 83 -/
def spec_l3Line.f (a0_0 : Int) (a0_1 : Bool) (a1 : Int) : Option (Bool) := (spec_l2Road.f a0_0 a0_1).bind fun t107 => (if t107 = true then (if a0_1 = true then (some false) else ((spec_l1In.f a1 0 (wrap64 (a0_0 - 1))).bind fun t108 => (some t108))) else (some false))
set_option maxHeartbeats 8000000 in
set_option maxRecDepth 100000 in
theorem spec_l3Line.calls (a0_0 : Int) (a0_1 : Bool) (a1 : Int) (r : Bool) (w : World) (h : spec_l3Line.f a0_0 a0_1 a1 = some r) :
    Calls Try.prog 83 #[.agg #[.int .i64 a0_0, .bool a0_1], .int .i64 a1] w fun e w' => e = .returned (.bool r) ∧ Below w.heap.size w w' := by
 have hu27 := Try.underlying27; have HB := A_ (Below.refl w.heap.size w); have H : ((spec_l2Road.f a0_0 a0_1).bind fun t107 => (if t107 = true then (if a0_1 = true then (some false) else ((spec_l1In.f a1 0 (wrap64 (a0_0 - 1))).bind fun t108 => (some t108))) else (some false))) = some r := h; clear h; replace H := bm H; obtain ⟨t107, A3, H⟩ := H; by_cases c4 : t107 = true
 ·
  subst c4
  have H1 : (if a0_1 = true then (some false) else ((spec_l1In.f a1 0 (wrap64 (a0_0 - 1))).bind fun t108 => (some t108))) = some r := by rw [if_pos rfl] at H; exact H
  clear H; have H := H1; clear H1; by_cases c5 : a0_1 = true
  ·
   subst c5
   have H1 : (some false) = some r := by rw [if_pos rfl] at H; exact H
   clear H; have H := H1; clear H1; obtain rfl := Option.some.inj H; go_enter Try.func83, Try.ntmps83
   go_wp2_with (first | ((with_reducible refine gate_dst (N := 2) rfl ?_); refine bx (N := 2) #[.int .i64 a0_0, .bool true] 27 ?_; intro gb106 hg w6 hbox hb; have BK106 := A_ (hbox); have GW106 := A_ (bs hg (hq HB) : w.heap.size ≤ gb106); have GE106 := A_ (bs hg (hq HB) : w.heap.size ≤ gb106); replace HB := A_ (below_step (hq HB) hb); clear hb hbox hg; have hcz7_0 : w6.cell? ⟨gb106, 0, none⟩ = some (.int .i64 a0_0) := bc BK106 0; have hcz7_1 : w6.cell? ⟨gb106, 1, none⟩ = some (.bool true) := bc BK106 1; have hfz7_0 := blk_frozen BK106.out 0; have hfz7_1 := blk_frozen BK106.out 1) | ((with_reducible refine gate_callee (f := 25) rfl ?_); refine gL (some 6) Try.func25 #[.agg #[.int .i64 a0_0, .bool true]] ?_; (with_reducible refine (spec_l2Road.calls a0_0 true true _ A3.out).mono ?_); rintro e w8 ⟨rfl, hb⟩; refine ⟨_, rfl, ?_⟩; replace BK106 := A_ (blk_below (bq BK106) hb); replace HB := A_ (below_step (hq HB) hb); clear hb; have hcz9_0 : w8.cell? ⟨gb106, 0, none⟩ = some (.int .i64 a0_0) := bc BK106 0; have hcz9_1 : w8.cell? ⟨gb106, 1, none⟩ = some (.bool true) := bc BK106 1; have hfz9_0 := blk_frozen BK106.out 0; have hfz9_1 := blk_frozen BK106.out 1))
   go_ret
   exact ⟨rt, hq HB⟩
  ·
   replace c5 := Bool.eq_false_iff.mpr c5; subst c5
   have H1 : ((spec_l1In.f a1 0 (wrap64 (a0_0 - 1))).bind fun t108 => (some t108)) = some r := by rw [if_neg (show ¬ (false = true) by decide)] at H; exact H
   clear H; have H := H1; clear H1; replace H := bm H; obtain ⟨t108, A10, H⟩ := H; obtain rfl := Option.some.inj H; go_enter Try.func83, Try.ntmps83
   go_wp2_with (first | ((with_reducible refine gate_dst (N := 2) rfl ?_); refine bx (N := 2) #[.int .i64 a0_0, .bool false] 27 ?_; intro gb106 hg w11 hbox hb; have BK106 := A_ (hbox); have GW106 := A_ (bs hg (hq HB) : w.heap.size ≤ gb106); have GE106 := A_ (bs hg (hq HB) : w.heap.size ≤ gb106); replace HB := A_ (below_step (hq HB) hb); clear hb hbox hg; have hcz12_0 : w11.cell? ⟨gb106, 0, none⟩ = some (.int .i64 a0_0) := bc BK106 0; have hcz12_1 : w11.cell? ⟨gb106, 1, none⟩ = some (.bool false) := bc BK106 1; have hfz12_0 := blk_frozen BK106.out 0; have hfz12_1 := blk_frozen BK106.out 1) | ((with_reducible refine gate_callee (f := 25) rfl ?_); refine gL (some 6) Try.func25 #[.agg #[.int .i64 a0_0, .bool false]] ?_; (with_reducible refine (spec_l2Road.calls a0_0 false true _ A3.out).mono ?_); rintro e w13 ⟨rfl, hb⟩; refine ⟨_, rfl, ?_⟩; replace BK106 := A_ (blk_below (bq BK106) hb); replace HB := A_ (below_step (hq HB) hb); clear hb; have hcz14_0 : w13.cell? ⟨gb106, 0, none⟩ = some (.int .i64 a0_0) := bc BK106 0; have hcz14_1 : w13.cell? ⟨gb106, 1, none⟩ = some (.bool false) := bc BK106 1; have hfz14_0 := blk_frozen BK106.out 0; have hfz14_1 := blk_frozen BK106.out 1) | (go_at_call 26; (with_reducible refine (spec_l1In.calls a1 0 (wrap64 (a0_0 - 1)) t108 _ A10.out).mono ?_); rintro e w' ⟨rfl, ⟨nd, rfl⟩⟩))
   go_ret
   exact ⟨rt, hq HB⟩
 ·
  replace c4 := Bool.eq_false_iff.mpr c4; subst c4
  have H1 : (some false) = some r := by rw [if_neg (show ¬ (false = true) by decide)] at H; exact H
  clear H; have H := H1; clear H1; obtain rfl := Option.some.inj H; go_enter Try.func83, Try.ntmps83
  go_wp2_with (first | ((with_reducible refine gate_dst (N := 2) rfl ?_); refine bx (N := 2) #[.int .i64 a0_0, .bool a0_1] 27 ?_; intro gb106 hg w15 hbox hb; have BK106 := A_ (hbox); have GW106 := A_ (bs hg (hq HB) : w.heap.size ≤ gb106); have GE106 := A_ (bs hg (hq HB) : w.heap.size ≤ gb106); replace HB := A_ (below_step (hq HB) hb); clear hb hbox hg; have hcz16_0 : w15.cell? ⟨gb106, 0, none⟩ = some (.int .i64 a0_0) := bc BK106 0; have hcz16_1 : w15.cell? ⟨gb106, 1, none⟩ = some (.bool a0_1) := bc BK106 1; have hfz16_0 := blk_frozen BK106.out 0; have hfz16_1 := blk_frozen BK106.out 1) | ((with_reducible refine gate_callee (f := 25) rfl ?_); refine gL (some 6) Try.func25 #[.agg #[.int .i64 a0_0, .bool a0_1]] ?_; (with_reducible refine (spec_l2Road.calls a0_0 a0_1 false _ A3.out).mono ?_); rintro e w17 ⟨rfl, hb⟩; refine ⟨_, rfl, ?_⟩; replace BK106 := A_ (blk_below (bq BK106) hb); replace HB := A_ (below_step (hq HB) hb); clear hb))
  go_ret
  exact ⟨rt, hq HB⟩

/-! ### spec_l7Carrier: function 77 -/
def spec_l7Carrier.f (a0_0 : Int) (a0_1 : Bool) (a1_0 : Int) (a1_1 : Int) (a1_2 : Int) : Option (Bool) := (spec_l3Line.f a0_0 a0_1 a1_0).bind fun t111 => (if t111 = true then ((spec_l1In.f a1_1 0 48).bind fun t112 => (if t112 = true then ((spec_l1In.f a1_2 0 20).bind fun t113 => (some t113)) else (some false))) else (some false))
set_option maxHeartbeats 8000000 in
set_option maxRecDepth 100000 in
theorem spec_l7Carrier.calls (a0_0 : Int) (a0_1 : Bool) (a1_0 : Int) (a1_1 : Int) (a1_2 : Int) (r : Bool) (w : World) (h : spec_l7Carrier.f a0_0 a0_1 a1_0 a1_1 a1_2 = some r) :
    Calls Try.prog 77 #[.agg #[.int .i64 a0_0, .bool a0_1], .agg #[.int .i64 a1_0, .int .i64 a1_1, .int .i64 a1_2]] w fun e w' => e = .returned (.bool r) ∧ Below w.heap.size w w' := by
 have hu27 := Try.underlying27; have hu61 := Try.underlying61; have HB := A_ (Below.refl w.heap.size w); have H : ((spec_l3Line.f a0_0 a0_1 a1_0).bind fun t111 => (if t111 = true then ((spec_l1In.f a1_1 0 48).bind fun t112 => (if t112 = true then ((spec_l1In.f a1_2 0 20).bind fun t113 => (some t113)) else (some false))) else (some false))) = some r := h; clear h; replace H := bm H; obtain ⟨t111, A3, H⟩ := H; by_cases c4 : t111 = true
 ·
  subst c4
  have H1 : ((spec_l1In.f a1_1 0 48).bind fun t112 => (if t112 = true then ((spec_l1In.f a1_2 0 20).bind fun t113 => (some t113)) else (some false))) = some r := by rw [if_pos rfl] at H; exact H
  clear H; have H := H1; clear H1; replace H := bm H; obtain ⟨t112, A5, H⟩ := H; by_cases c6 : t112 = true
  ·
   subst c6
   have H1 : ((spec_l1In.f a1_2 0 20).bind fun t113 => (some t113)) = some r := by rw [if_pos rfl] at H; exact H
   clear H; have H := H1; clear H1; replace H := bm H; obtain ⟨t113, A7, H⟩ := H; obtain rfl := Option.some.inj H; go_enter Try.func77, Try.ntmps77
   go_wp2_with (first | ((with_reducible refine gate_dst (N := 2) rfl ?_); refine bx (N := 2) #[.int .i64 a0_0, .bool a0_1] 27 ?_; intro gb109 hg w8 hbox hb; have BK109 := A_ (hbox); have GW109 := A_ (bs hg (hq HB) : w.heap.size ≤ gb109); have GE109 := A_ (bs hg (hq HB) : w.heap.size ≤ gb109); replace HB := A_ (below_step (hq HB) hb); clear hb hbox hg) | ((with_reducible refine gate_dst (N := 3) rfl ?_); refine bx (N := 3) #[.int .i64 a1_0, .int .i64 a1_1, .int .i64 a1_2] 61 ?_; intro gb110 hg w9 hbox hb; have BK110 := A_ (hbox); have GW110 := A_ (bs hg (hq HB) : w.heap.size ≤ gb110); have GE110 := A_ (bs hg (hq HB) : w.heap.size ≤ gb110); replace HB := A_ (below_step (hq HB) hb); have NB109_110 := A_ ((by rw [hg]; exact Nat.ne_of_lt (blk_lt (bq BK109)) : gb109 ≠ gb110)); have NB110_109 := A_ ((by rw [hg]; exact Nat.ne_of_gt (blk_lt (bq BK109)) : gb110 ≠ gb109)); replace BK109 := A_ (blk_below (bq BK109) hb); clear hb hbox hg; have hnb10 := NB109_110.out; have hnc10 := NB110_109.out; have hcz11_0 : w9.cell? ⟨gb109, 0, none⟩ = some (.int .i64 a0_0) := bc BK109 0; have hcz11_1 : w9.cell? ⟨gb109, 1, none⟩ = some (.bool a0_1) := bc BK109 1; have hfz11_0 := blk_frozen BK109.out 0; have hfz11_1 := blk_frozen BK109.out 1; have hcz12_0 : w9.cell? ⟨gb110, 0, none⟩ = some (.int .i64 a1_0) := bc BK110 0; have hcz12_1 : w9.cell? ⟨gb110, 1, none⟩ = some (.int .i64 a1_1) := bc BK110 1; have hcz12_2 : w9.cell? ⟨gb110, 2, none⟩ = some (.int .i64 a1_2) := bc BK110 2; have hfz12_0 := blk_frozen BK110.out 0; have hfz12_1 := blk_frozen BK110.out 1; have hfz12_2 := blk_frozen BK110.out 2) | ((with_reducible refine gate_callee (f := 83) rfl ?_); refine gL (some 8) Try.func83 #[.agg #[.int .i64 a0_0, .bool a0_1], .int .i64 a1_0] ?_; (with_reducible refine (spec_l3Line.calls a0_0 a0_1 a1_0 true _ A3.out).mono ?_); rintro e w13 ⟨rfl, hb⟩; refine ⟨_, rfl, ?_⟩; replace BK109 := A_ (blk_below (bq BK109) hb); replace BK110 := A_ (blk_below (bq BK110) hb); replace HB := A_ (below_step (hq HB) hb); clear hb; have hcz14_0 : w13.cell? ⟨gb110, 0, none⟩ = some (.int .i64 a1_0) := bc BK110 0; have hcz14_1 : w13.cell? ⟨gb110, 1, none⟩ = some (.int .i64 a1_1) := bc BK110 1; have hcz14_2 : w13.cell? ⟨gb110, 2, none⟩ = some (.int .i64 a1_2) := bc BK110 2; have hfz14_0 := blk_frozen BK110.out 0; have hfz14_1 := blk_frozen BK110.out 1; have hfz14_2 := blk_frozen BK110.out 2) | (go_at_call 26; (with_reducible refine (spec_l1In.calls a1_1 0 48 true _ A5.out).mono ?_); rintro e w' ⟨rfl, ⟨nd, rfl⟩⟩) | (go_at_call 26; (with_reducible refine (spec_l1In.calls a1_2 0 20 t113 _ A7.out).mono ?_); rintro e w' ⟨rfl, ⟨nd, rfl⟩⟩))
   go_ret
   exact ⟨rt, hq HB⟩
  ·
   replace c6 := Bool.eq_false_iff.mpr c6; subst c6
   have H1 : (some false) = some r := by rw [if_neg (show ¬ (false = true) by decide)] at H; exact H
   clear H; have H := H1; clear H1; obtain rfl := Option.some.inj H; go_enter Try.func77, Try.ntmps77
   go_wp2_with (first | ((with_reducible refine gate_dst (N := 2) rfl ?_); refine bx (N := 2) #[.int .i64 a0_0, .bool a0_1] 27 ?_; intro gb109 hg w15 hbox hb; have BK109 := A_ (hbox); have GW109 := A_ (bs hg (hq HB) : w.heap.size ≤ gb109); have GE109 := A_ (bs hg (hq HB) : w.heap.size ≤ gb109); replace HB := A_ (below_step (hq HB) hb); clear hb hbox hg) | ((with_reducible refine gate_dst (N := 3) rfl ?_); refine bx (N := 3) #[.int .i64 a1_0, .int .i64 a1_1, .int .i64 a1_2] 61 ?_; intro gb110 hg w16 hbox hb; have BK110 := A_ (hbox); have GW110 := A_ (bs hg (hq HB) : w.heap.size ≤ gb110); have GE110 := A_ (bs hg (hq HB) : w.heap.size ≤ gb110); replace HB := A_ (below_step (hq HB) hb); have NB109_110 := A_ ((by rw [hg]; exact Nat.ne_of_lt (blk_lt (bq BK109)) : gb109 ≠ gb110)); have NB110_109 := A_ ((by rw [hg]; exact Nat.ne_of_gt (blk_lt (bq BK109)) : gb110 ≠ gb109)); replace BK109 := A_ (blk_below (bq BK109) hb); clear hb hbox hg; have hnb17 := NB109_110.out; have hnc17 := NB110_109.out; have hcz18_0 : w16.cell? ⟨gb109, 0, none⟩ = some (.int .i64 a0_0) := bc BK109 0; have hcz18_1 : w16.cell? ⟨gb109, 1, none⟩ = some (.bool a0_1) := bc BK109 1; have hfz18_0 := blk_frozen BK109.out 0; have hfz18_1 := blk_frozen BK109.out 1; have hcz19_0 : w16.cell? ⟨gb110, 0, none⟩ = some (.int .i64 a1_0) := bc BK110 0; have hcz19_1 : w16.cell? ⟨gb110, 1, none⟩ = some (.int .i64 a1_1) := bc BK110 1; have hcz19_2 : w16.cell? ⟨gb110, 2, none⟩ = some (.int .i64 a1_2) := bc BK110 2; have hfz19_0 := blk_frozen BK110.out 0; have hfz19_1 := blk_frozen BK110.out 1; have hfz19_2 := blk_frozen BK110.out 2) | ((with_reducible refine gate_callee (f := 83) rfl ?_); refine gL (some 8) Try.func83 #[.agg #[.int .i64 a0_0, .bool a0_1], .int .i64 a1_0] ?_; (with_reducible refine (spec_l3Line.calls a0_0 a0_1 a1_0 true _ A3.out).mono ?_); rintro e w20 ⟨rfl, hb⟩; refine ⟨_, rfl, ?_⟩; replace BK109 := A_ (blk_below (bq BK109) hb); replace BK110 := A_ (blk_below (bq BK110) hb); replace HB := A_ (below_step (hq HB) hb); clear hb; have hcz21_0 : w20.cell? ⟨gb110, 0, none⟩ = some (.int .i64 a1_0) := bc BK110 0; have hcz21_1 : w20.cell? ⟨gb110, 1, none⟩ = some (.int .i64 a1_1) := bc BK110 1; have hcz21_2 : w20.cell? ⟨gb110, 2, none⟩ = some (.int .i64 a1_2) := bc BK110 2; have hfz21_0 := blk_frozen BK110.out 0; have hfz21_1 := blk_frozen BK110.out 1; have hfz21_2 := blk_frozen BK110.out 2) | (go_at_call 26; (with_reducible refine (spec_l1In.calls a1_1 0 48 false _ A5.out).mono ?_); rintro e w' ⟨rfl, ⟨nd, rfl⟩⟩))
   go_ret
   exact ⟨rt, hq HB⟩
 ·
  replace c4 := Bool.eq_false_iff.mpr c4; subst c4
  have H1 : (some false) = some r := by rw [if_neg (show ¬ (false = true) by decide)] at H; exact H
  clear H; have H := H1; clear H1; obtain rfl := Option.some.inj H; go_enter Try.func77, Try.ntmps77
  go_wp2_with (first | ((with_reducible refine gate_dst (N := 2) rfl ?_); refine bx (N := 2) #[.int .i64 a0_0, .bool a0_1] 27 ?_; intro gb109 hg w22 hbox hb; have BK109 := A_ (hbox); have GW109 := A_ (bs hg (hq HB) : w.heap.size ≤ gb109); have GE109 := A_ (bs hg (hq HB) : w.heap.size ≤ gb109); replace HB := A_ (below_step (hq HB) hb); clear hb hbox hg) | ((with_reducible refine gate_dst (N := 3) rfl ?_); refine bx (N := 3) #[.int .i64 a1_0, .int .i64 a1_1, .int .i64 a1_2] 61 ?_; intro gb110 hg w23 hbox hb; have BK110 := A_ (hbox); have GW110 := A_ (bs hg (hq HB) : w.heap.size ≤ gb110); have GE110 := A_ (bs hg (hq HB) : w.heap.size ≤ gb110); replace HB := A_ (below_step (hq HB) hb); have NB109_110 := A_ ((by rw [hg]; exact Nat.ne_of_lt (blk_lt (bq BK109)) : gb109 ≠ gb110)); have NB110_109 := A_ ((by rw [hg]; exact Nat.ne_of_gt (blk_lt (bq BK109)) : gb110 ≠ gb109)); replace BK109 := A_ (blk_below (bq BK109) hb); clear hb hbox hg; have hnb24 := NB109_110.out; have hnc24 := NB110_109.out; have hcz25_0 : w23.cell? ⟨gb109, 0, none⟩ = some (.int .i64 a0_0) := bc BK109 0; have hcz25_1 : w23.cell? ⟨gb109, 1, none⟩ = some (.bool a0_1) := bc BK109 1; have hfz25_0 := blk_frozen BK109.out 0; have hfz25_1 := blk_frozen BK109.out 1; have hcz26_0 : w23.cell? ⟨gb110, 0, none⟩ = some (.int .i64 a1_0) := bc BK110 0; have hcz26_1 : w23.cell? ⟨gb110, 1, none⟩ = some (.int .i64 a1_1) := bc BK110 1; have hcz26_2 : w23.cell? ⟨gb110, 2, none⟩ = some (.int .i64 a1_2) := bc BK110 2; have hfz26_0 := blk_frozen BK110.out 0; have hfz26_1 := blk_frozen BK110.out 1; have hfz26_2 := blk_frozen BK110.out 2) | ((with_reducible refine gate_callee (f := 83) rfl ?_); refine gL (some 8) Try.func83 #[.agg #[.int .i64 a0_0, .bool a0_1], .int .i64 a1_0] ?_; (with_reducible refine (spec_l3Line.calls a0_0 a0_1 a1_0 false _ A3.out).mono ?_); rintro e w27 ⟨rfl, hb⟩; refine ⟨_, rfl, ?_⟩; replace BK109 := A_ (blk_below (bq BK109) hb); replace BK110 := A_ (blk_below (bq BK110) hb); replace HB := A_ (below_step (hq HB) hb); clear hb))
  go_ret
  exact ⟨rt, hq HB⟩

/-! ### spec_l7Carriers: function 58 -/
def spec_l7Carriers.l0 : Nat → List (S61) → Int → Int → Bool → Option (Bool)
  | 0, _, _, _, _ => none
  | k + 1, x1, x5, x115000, x115001 => if x5 < (x1.length : Int) then (if 0 ≤ x5 then ((spec_l7Carrier.f x115000 x115001 ((rd_T61 x1 x5).f0) ((rd_T61 x1 x5).f1) ((rd_T61 x1 x5).f2)).bind fun t116 => (if t116 = true then (spec_l7Carriers.l0 k x1 (wrap64 (x5 + 1)) x115000 x115001) else (some false))) else (none)) else ((spec_l2Road.f x115000 x115001).bind fun t117 => (if t117 = true then (if x115001 = true then (some false) else (some (decide ((x1.length : Int) ≤ 6)))) else (some false)))
def spec_l7Carriers.f (k : Nat) (a0_0 : Int) (a0_1 : Bool) (l1 : List (S61)) : Option (Bool) := spec_l7Carriers.l0 k l1 0 a0_0 a0_1
theorem spec_l7Carriers.mono_l : ∀ k, (∀ y0 y1 y2 y3, LeO (spec_l7Carriers.l0 k y0 y1 y2 y3) (spec_l7Carriers.l0 (k + 1) y0 y1 y2 y3))
  | 0 => fun _ _ _ _ r h => by simp [spec_l7Carriers.l0] at h
  | k + 1 => by
    have ih0 := spec_l7Carriers.mono_l k
    · intro y0 y1 y2 y3
      unfold spec_l7Carriers.l0
      repeat' first
      | (with_reducible exact ih0 _ _ _ _)
      | (with_reducible exact LeO.refl _)
      | (with_reducible exact LeO.none _)
      | (with_reducible refine LeO.ite ?_ ?_)
      | (with_reducible refine LeO.bind ?_ (fun _ => ?_))
      | exact ih0 _ _ _ _
      | exact LeO.none _
      | refine LeO.ite ?_ ?_
      | refine LeO.bind ?_ (fun _ => ?_)
theorem spec_l7Carriers.mono : ∀ a0 a1 a2 k, LeO (spec_l7Carriers.f k a0 a1 a2) (spec_l7Carriers.f (k + 1) a0 a1 a2) := by
  intro a0 a1 a2 k
  have ih0 := spec_l7Carriers.mono_l k
  unfold spec_l7Carriers.f
  repeat' first
      | (with_reducible exact ih0 _ _ _ _)
      | (with_reducible exact LeO.refl _)
      | (with_reducible exact LeO.none _)
      | (with_reducible refine LeO.ite ?_ ?_)
      | (with_reducible refine LeO.bind ?_ (fun _ => ?_))
      | exact ih0 _ _ _ _
      | exact LeO.none _
      | refine LeO.ite ?_ ?_
      | refine LeO.bind ?_ (fun _ => ?_)
set_option maxHeartbeats 8000000 in
set_option maxRecDepth 100000 in
theorem spec_l7Carriers.calls (k : Nat) (a0_0 : Int) (a0_1 : Bool) (A1 : Option Addr) (c1 : Nat) (l1 : List (S61)) (r : Bool) (w : World) (hr1 : Kd.C k61 w A1 l1.length l1) (hc1 : l1.length ≤ c1) (h : spec_l7Carriers.f k a0_0 a0_1 l1 = some r) :
    Calls Try.prog 58 #[.agg #[.int .i64 a0_0, .bool a0_1], .slice A1 l1.length c1] w fun e w' => e = .returned (.bool r) ∧ Below w.heap.size w w' := by
 have hu27 := Try.underlying27; have hu61 := Try.underlying61; have HR1 := A_ hr1; have HC1 := A_ hc1; clear hr1 hc1; have HB := A_ (Below.refl w.heap.size w); have H : (spec_l7Carriers.l0 k l1 0 a0_0 a0_1) = some r := h; clear h; have H' := A_ H; clear H; go_enter Try.func58, Try.ntmps58
 go_wp2_with (first | ((with_reducible refine gate_dst (N := 2) rfl ?_); (try (refine gate_guard (by rfl) ?_; dsimp only)); refine bx (N := 2) #[.int .i64 a0_0, .bool a0_1] 27 ?_; intro gb114 hg w3 hbox hb; have BK114 := A_ (hbox); have GW114 := A_ (bs hg (hq HB) : w.heap.size ≤ gb114); have GE114 := A_ (bs hg (hq HB) : w.heap.size ≤ gb114); replace HB := A_ (below_step (hq HB) hb); clear hb hbox hg))
 go_loopg [5] k (fun kq v5 w' => ∃ (x5_1 : Int), v5 = .int .i64 x5_1 ∧ Aside0 (spec_l7Carriers.l0 kq l1 x5_1 a0_0 a0_1 = some r) ∧ Aside0 (kq ≤ k) ∧ Aside0 (w'.heap[gb114]? = some (.cells #[.int .i64 a0_0, .bool a0_1] 27 (0, 0))) ∧ Aside0 (Below w.heap.size w w'))
 case atStart => exact ⟨(0), rf, H', ⟨Nat.le_refl _⟩, ⟨bq BK114⟩, ⟨hq HB⟩⟩
 case round =>
  clear H'; obtain ⟨x5_1, rfl, HA, HK1, BK114, HB⟩ := hrel
  cases gk with
  | zero => exact absurd HA.out (by simp [spec_l7Carriers.l0])
  | succ k1 =>
   have H := HA.out; clear HA; simp only [spec_l7Carriers.l0] at H
   by_cases c4 : x5_1 < (l1.length : Int)
   ·
    rw [if_pos c4] at H; have c4b0 := decide_eq_true c4; clear c4; by_cases c5 : 0 ≤ x5_1
    ·
     rw [if_pos c5] at H; have c5b0 := decide_eq_true c5; clear c5; replace H := bm H; obtain ⟨t116, A6, H⟩ := H; by_cases c7 : t116 = true
     ·
      subst c7
      have H1 : (spec_l7Carriers.l0 k1 l1 (wrap64 (x5_1 + 1)) a0_0 a0_1) = some r := by rw [if_pos rfl] at H; exact H
      clear H; have H := H1; clear H1; have H' := A_ H; clear H; try go_wp2
      replace BK114 := A_ (blk_drew BK114.out); replace HB := A_ (below_drew1 HB.out); have p115 : 0 ≤ (x5_1 : Int) := dq; have q115 : x5_1 < (l1.length : Int) := dq; obtain ⟨ad115, e115, hx115_0, hx115_1, hx115_2⟩ := at_T61 HR1.out x5_1 p115 q115; have hw115_2 := hx115_2; have hw115_1 := hx115_1; have hw115_0 := hx115_0
      cases e115
      replace hx115_0 := (HB.out.cell (World.block_lt_of_cell? w _ hx115_0)).trans hx115_0; replace hx115_1 := (HB.out.cell (World.block_lt_of_cell? w _ hx115_1)).trans hx115_1; replace hx115_2 := (HB.out.cell (World.block_lt_of_cell? w _ hx115_2)).trans hx115_2; replace p115 := eq_true p115; replace q115 := eq_true q115; refine start_ (n := 7) (S := fun w' => w'.cell? ⟨gb114, 0, none⟩ = some (.int .i64 a0_0) ∧ w'.cell? ⟨gb114, 1, none⟩ = some (.bool a0_1) ∧ w'.cell? (ad115.add ((x5_1).toNat * 3)) = some (.int .i64 ((rd_T61 l1 x5_1).f0)) ∧ w'.cell? ⟨(ad115.add ((x5_1).toNat * 3)).block, (ad115.add ((x5_1).toNat * 3)).off + 1, none⟩ = some (.int .i64 ((rd_T61 l1 x5_1).f1)) ∧ w'.cell? ⟨(ad115.add ((x5_1).toNat * 3)).block, (ad115.add ((x5_1).toNat * 3)).off + 2, none⟩ = some (.int .i64 ((rd_T61 l1 x5_1).f2))) (ds := []) #[false, false, false, false, false, false, false] (by kernel_rfl) rfl rfl ⟨bc BK114 0, bc BK114 1, ((HB.out.cell (World.block_lt_of_cell? w _ hw115_0)).trans hw115_0), ((HB.out.cell (World.block_lt_of_cell? w _ hw115_1)).trans hw115_1), ((HB.out.cell (World.block_lt_of_cell? w _ hw115_2)).trans hw115_2)⟩ (fun hHeld => ?_); generalize wr.drew = w8 at BK114 HB hx115_0 hx115_1 hx115_2 hHeld ⊢; refine pu (i := 1) (N := some 13) #[false, true, false, false, false, false, false] ?_; refine pu (i := 2) (N := some 14) #[false, true, true, false, false, false, false] ?_; refine pu (i := 3) (N := some 15) #[false, true, true, true, false, false, false] ?_; refine tk (i := 0) (N := some 12) hHeld #[true, true, true, true, false, false, false] ?_; refine tk (i := 4) (N := some 16) hHeld #[true, true, true, true, true, false, false] ?_; refine on (i := 5) (N := some 17) #[true, true, true, true, true, true, false] (fun K hK => ?_); refine go_ Try.func77 #[.agg #[.int .i64 a0_0, .bool a0_1], .agg #[.int .i64 ((rd_T61 l1 x5_1).f0), .int .i64 ((rd_T61 l1 x5_1).f1), .int .i64 ((rd_T61 l1 x5_1).f2)]] ?_; with_reducible refine (spec_l7Carrier.calls a0_0 a0_1 ((rd_T61 l1 x5_1).f0) ((rd_T61 l1 x5_1).f1) ((rd_T61 l1 x5_1).f2) true _ A6.out).mono ?_
      rintro e w9 ⟨rfl, hb⟩; refine ⟨_, rfl, ?_⟩; replace BK114 := A_ (blk_below (bq BK114) hb); replace HB := A_ (below_step (hq HB) hb); clear hb; refine hK.out _ _ ⟨bc BK114 0, bc BK114 1, ((HB.out.cell (World.block_lt_of_cell? w _ hw115_0)).trans hw115_0), ((HB.out.cell (World.block_lt_of_cell? w _ hw115_1)).trans hw115_1), ((HB.out.cell (World.block_lt_of_cell? w _ hw115_2)).trans hw115_2)⟩ (fun hHeld => ?_); clear hK K; refine nq_ (some 17) ?_; refine pu (i := 6) (N := some 18) #[true, true, true, true, true, true, true] ?_; refine done_ (by kernel_rfl) ?_; try go_wp2
      go_roundg k1
      case measure => have := HK1.out; omega
      case rel => exact ⟨(wrap64 (x5_1 + 1)), rf, H', ⟨by have := HK1.out; omega⟩, ⟨bq BK114⟩, ⟨hq HB⟩⟩
     ·
      replace c7 := Bool.eq_false_iff.mpr c7; subst c7
      have H1 : (some false) = some r := by rw [if_neg (show ¬ (false = true) by decide)] at H; exact H
      clear H; have H := H1; clear H1; obtain rfl := Option.some.inj H; try go_wp2
      replace BK114 := A_ (blk_drew BK114.out); replace HB := A_ (below_drew1 HB.out); have p115 : 0 ≤ (x5_1 : Int) := dq; have q115 : x5_1 < (l1.length : Int) := dq; obtain ⟨ad115, e115, hx115_0, hx115_1, hx115_2⟩ := at_T61 HR1.out x5_1 p115 q115; have hw115_2 := hx115_2; have hw115_1 := hx115_1; have hw115_0 := hx115_0
      cases e115
      replace hx115_0 := (HB.out.cell (World.block_lt_of_cell? w _ hx115_0)).trans hx115_0; replace hx115_1 := (HB.out.cell (World.block_lt_of_cell? w _ hx115_1)).trans hx115_1; replace hx115_2 := (HB.out.cell (World.block_lt_of_cell? w _ hx115_2)).trans hx115_2; replace p115 := eq_true p115; replace q115 := eq_true q115; refine start_ (n := 7) (S := fun w' => w'.cell? ⟨gb114, 0, none⟩ = some (.int .i64 a0_0) ∧ w'.cell? ⟨gb114, 1, none⟩ = some (.bool a0_1) ∧ w'.cell? (ad115.add ((x5_1).toNat * 3)) = some (.int .i64 ((rd_T61 l1 x5_1).f0)) ∧ w'.cell? ⟨(ad115.add ((x5_1).toNat * 3)).block, (ad115.add ((x5_1).toNat * 3)).off + 1, none⟩ = some (.int .i64 ((rd_T61 l1 x5_1).f1)) ∧ w'.cell? ⟨(ad115.add ((x5_1).toNat * 3)).block, (ad115.add ((x5_1).toNat * 3)).off + 2, none⟩ = some (.int .i64 ((rd_T61 l1 x5_1).f2))) (ds := []) #[false, false, false, false, false, false, false] (by kernel_rfl) rfl rfl ⟨bc BK114 0, bc BK114 1, ((HB.out.cell (World.block_lt_of_cell? w _ hw115_0)).trans hw115_0), ((HB.out.cell (World.block_lt_of_cell? w _ hw115_1)).trans hw115_1), ((HB.out.cell (World.block_lt_of_cell? w _ hw115_2)).trans hw115_2)⟩ (fun hHeld => ?_); generalize wr.drew = w10 at BK114 HB hx115_0 hx115_1 hx115_2 hHeld ⊢; refine pu (i := 1) (N := some 13) #[false, true, false, false, false, false, false] ?_; refine pu (i := 2) (N := some 14) #[false, true, true, false, false, false, false] ?_; refine pu (i := 3) (N := some 15) #[false, true, true, true, false, false, false] ?_; refine tk (i := 0) (N := some 12) hHeld #[true, true, true, true, false, false, false] ?_; refine tk (i := 4) (N := some 16) hHeld #[true, true, true, true, true, false, false] ?_; refine on (i := 5) (N := some 17) #[true, true, true, true, true, true, false] (fun K hK => ?_); refine go_ Try.func77 #[.agg #[.int .i64 a0_0, .bool a0_1], .agg #[.int .i64 ((rd_T61 l1 x5_1).f0), .int .i64 ((rd_T61 l1 x5_1).f1), .int .i64 ((rd_T61 l1 x5_1).f2)]] ?_; with_reducible refine (spec_l7Carrier.calls a0_0 a0_1 ((rd_T61 l1 x5_1).f0) ((rd_T61 l1 x5_1).f1) ((rd_T61 l1 x5_1).f2) false _ A6.out).mono ?_
      rintro e w11 ⟨rfl, hb⟩; refine ⟨_, rfl, ?_⟩; replace BK114 := A_ (blk_below (bq BK114) hb); replace HB := A_ (below_step (hq HB) hb); clear hb; refine hK.out _ _ ⟨bc BK114 0, bc BK114 1, ((HB.out.cell (World.block_lt_of_cell? w _ hw115_0)).trans hw115_0), ((HB.out.cell (World.block_lt_of_cell? w _ hw115_1)).trans hw115_1), ((HB.out.cell (World.block_lt_of_cell? w _ hw115_2)).trans hw115_2)⟩ (fun hHeld => ?_); clear hK K; refine nq_ (some 17) ?_; refine pu (i := 6) (N := some 18) #[true, true, true, true, true, true, true] ?_; refine done_ (by kernel_rfl) ?_; try go_wp2
      go_ret
      exact ⟨rt, hq HB⟩
    ·
     rw [if_neg c5] at H; exact absurd H (by simp)
   ·
    rw [if_neg c4] at H; have c4b0 := decide_eq_false c4; clear c4; replace H := bm H; obtain ⟨t117, A12, H⟩ := H; by_cases c13 : t117 = true
    ·
     subst c13
     have H1 : (if a0_1 = true then (some false) else (some (decide ((l1.length : Int) ≤ 6)))) = some r := by rw [if_pos rfl] at H; exact H
     clear H; have H := H1; clear H1; by_cases c14 : a0_1 = true
     ·
      subst c14
      have H1 : (some false) = some r := by rw [if_pos rfl] at H; exact H
      clear H; have H := H1; clear H1; obtain rfl := Option.some.inj H; have hcz15_0 : wr.cell? ⟨gb114, 0, none⟩ = some (.int .i64 a0_0) := bc BK114 0; have hcz15_1 : wr.cell? ⟨gb114, 1, none⟩ = some (.bool true) := bc BK114 1; have hfz15_0 := blk_frozen BK114.out 0; have hfz15_1 := blk_frozen BK114.out 1; go_wp2_with (first | ((with_reducible refine gate_callee (f := 25) rfl ?_); refine gL (some 20) Try.func25 #[.agg #[.int .i64 a0_0, .bool true]] ?_; (with_reducible refine (spec_l2Road.calls a0_0 true true _ A12.out).mono ?_); rintro e w16 ⟨rfl, hb⟩; refine ⟨_, rfl, ?_⟩; replace BK114 := A_ (blk_below (bq BK114) hb); replace HB := A_ (below_step (hq HB) hb); clear hb; have hcz17_0 : w16.cell? ⟨gb114, 0, none⟩ = some (.int .i64 a0_0) := bc BK114 0; have hcz17_1 : w16.cell? ⟨gb114, 1, none⟩ = some (.bool true) := bc BK114 1; have hfz17_0 := blk_frozen BK114.out 0; have hfz17_1 := blk_frozen BK114.out 1))
      go_ret
      exact ⟨rt, hq HB⟩
     ·
      replace c14 := Bool.eq_false_iff.mpr c14; subst c14
      have H1 : (some (decide ((l1.length : Int) ≤ 6))) = some r := by rw [if_neg (show ¬ (false = true) by decide)] at H; exact H
      clear H; have H := H1; clear H1; obtain rfl := Option.some.inj H; have hcz18_0 : wr.cell? ⟨gb114, 0, none⟩ = some (.int .i64 a0_0) := bc BK114 0; have hcz18_1 : wr.cell? ⟨gb114, 1, none⟩ = some (.bool false) := bc BK114 1; have hfz18_0 := blk_frozen BK114.out 0; have hfz18_1 := blk_frozen BK114.out 1; go_wp2_with (first | ((with_reducible refine gate_callee (f := 25) rfl ?_); refine gL (some 20) Try.func25 #[.agg #[.int .i64 a0_0, .bool false]] ?_; (with_reducible refine (spec_l2Road.calls a0_0 false true _ A12.out).mono ?_); rintro e w19 ⟨rfl, hb⟩; refine ⟨_, rfl, ?_⟩; replace BK114 := A_ (blk_below (bq BK114) hb); replace HB := A_ (below_step (hq HB) hb); clear hb; have hcz20_0 : w19.cell? ⟨gb114, 0, none⟩ = some (.int .i64 a0_0) := bc BK114 0; have hcz20_1 : w19.cell? ⟨gb114, 1, none⟩ = some (.bool false) := bc BK114 1; have hfz20_0 := blk_frozen BK114.out 0; have hfz20_1 := blk_frozen BK114.out 1))
      go_ret
      exact ⟨rt, hq HB⟩
    ·
     replace c13 := Bool.eq_false_iff.mpr c13; subst c13
     have H1 : (some false) = some r := by rw [if_neg (show ¬ (false = true) by decide)] at H; exact H
     clear H; have H := H1; clear H1; obtain rfl := Option.some.inj H; have hcz21_0 : wr.cell? ⟨gb114, 0, none⟩ = some (.int .i64 a0_0) := bc BK114 0; have hcz21_1 : wr.cell? ⟨gb114, 1, none⟩ = some (.bool a0_1) := bc BK114 1; have hfz21_0 := blk_frozen BK114.out 0; have hfz21_1 := blk_frozen BK114.out 1; go_wp2_with (first | ((with_reducible refine gate_callee (f := 25) rfl ?_); refine gL (some 20) Try.func25 #[.agg #[.int .i64 a0_0, .bool a0_1]] ?_; (with_reducible refine (spec_l2Road.calls a0_0 a0_1 false _ A12.out).mono ?_); rintro e w22 ⟨rfl, hb⟩; refine ⟨_, rfl, ?_⟩; replace BK114 := A_ (blk_below (bq BK114) hb); replace HB := A_ (below_step (hq HB) hb); clear hb))
     go_ret
     exact ⟨rt, hq HB⟩

/-! ### spec_l2Place: function 59 -/
def spec_l2Place.f (a0_0 : Int) (a0_1 : Bool) (a1 : Int) : Option (Bool) := (spec_l2Road.f a0_0 a0_1).bind fun t119 => (if t119 = true then ((spec_l1In.f a1 0 (wrap64 (a0_0 - 1))).bind fun t120 => (some t120)) else (some false))
set_option maxHeartbeats 8000000 in
set_option maxRecDepth 100000 in
theorem spec_l2Place.calls (a0_0 : Int) (a0_1 : Bool) (a1 : Int) (r : Bool) (w : World) (h : spec_l2Place.f a0_0 a0_1 a1 = some r) :
    Calls Try.prog 59 #[.agg #[.int .i64 a0_0, .bool a0_1], .int .i64 a1] w fun e w' => e = .returned (.bool r) ∧ Below w.heap.size w w' := by
 have hu27 := Try.underlying27; have HB := A_ (Below.refl w.heap.size w); have H : ((spec_l2Road.f a0_0 a0_1).bind fun t119 => (if t119 = true then ((spec_l1In.f a1 0 (wrap64 (a0_0 - 1))).bind fun t120 => (some t120)) else (some false))) = some r := h; clear h; replace H := bm H; obtain ⟨t119, A3, H⟩ := H; by_cases c4 : t119 = true
 ·
  subst c4
  have H1 : ((spec_l1In.f a1 0 (wrap64 (a0_0 - 1))).bind fun t120 => (some t120)) = some r := by rw [if_pos rfl] at H; exact H
  clear H; have H := H1; clear H1; replace H := bm H; obtain ⟨t120, A5, H⟩ := H; obtain rfl := Option.some.inj H; go_enter Try.func59, Try.ntmps59
  go_wp2_with (first | ((with_reducible refine gate_dst (N := 2) rfl ?_); refine bx (N := 2) #[.int .i64 a0_0, .bool a0_1] 27 ?_; intro gb118 hg w6 hbox hb; have BK118 := A_ (hbox); have GW118 := A_ (bs hg (hq HB) : w.heap.size ≤ gb118); have GE118 := A_ (bs hg (hq HB) : w.heap.size ≤ gb118); replace HB := A_ (below_step (hq HB) hb); clear hb hbox hg; have hcz7_0 : w6.cell? ⟨gb118, 0, none⟩ = some (.int .i64 a0_0) := bc BK118 0; have hcz7_1 : w6.cell? ⟨gb118, 1, none⟩ = some (.bool a0_1) := bc BK118 1; have hfz7_0 := blk_frozen BK118.out 0; have hfz7_1 := blk_frozen BK118.out 1) | ((with_reducible refine gate_callee (f := 25) rfl ?_); refine gL (some 6) Try.func25 #[.agg #[.int .i64 a0_0, .bool a0_1]] ?_; (with_reducible refine (spec_l2Road.calls a0_0 a0_1 true _ A3.out).mono ?_); rintro e w8 ⟨rfl, hb⟩; refine ⟨_, rfl, ?_⟩; replace BK118 := A_ (blk_below (bq BK118) hb); replace HB := A_ (below_step (hq HB) hb); clear hb; have hcz9_0 : w8.cell? ⟨gb118, 0, none⟩ = some (.int .i64 a0_0) := bc BK118 0; have hcz9_1 : w8.cell? ⟨gb118, 1, none⟩ = some (.bool a0_1) := bc BK118 1; have hfz9_0 := blk_frozen BK118.out 0; have hfz9_1 := blk_frozen BK118.out 1) | (go_at_call 26; (with_reducible refine (spec_l1In.calls a1 0 (wrap64 (a0_0 - 1)) t120 _ A5.out).mono ?_); rintro e w' ⟨rfl, ⟨nd, rfl⟩⟩))
  go_ret
  exact ⟨rt, hq HB⟩
 ·
  replace c4 := Bool.eq_false_iff.mpr c4; subst c4
  have H1 : (some false) = some r := by rw [if_neg (show ¬ (false = true) by decide)] at H; exact H
  clear H; have H := H1; clear H1; obtain rfl := Option.some.inj H; go_enter Try.func59, Try.ntmps59
  go_wp2_with (first | ((with_reducible refine gate_dst (N := 2) rfl ?_); refine bx (N := 2) #[.int .i64 a0_0, .bool a0_1] 27 ?_; intro gb118 hg w10 hbox hb; have BK118 := A_ (hbox); have GW118 := A_ (bs hg (hq HB) : w.heap.size ≤ gb118); have GE118 := A_ (bs hg (hq HB) : w.heap.size ≤ gb118); replace HB := A_ (below_step (hq HB) hb); clear hb hbox hg; have hcz11_0 : w10.cell? ⟨gb118, 0, none⟩ = some (.int .i64 a0_0) := bc BK118 0; have hcz11_1 : w10.cell? ⟨gb118, 1, none⟩ = some (.bool a0_1) := bc BK118 1; have hfz11_0 := blk_frozen BK118.out 0; have hfz11_1 := blk_frozen BK118.out 1) | ((with_reducible refine gate_callee (f := 25) rfl ?_); refine gL (some 6) Try.func25 #[.agg #[.int .i64 a0_0, .bool a0_1]] ?_; (with_reducible refine (spec_l2Road.calls a0_0 a0_1 false _ A3.out).mono ?_); rintro e w12 ⟨rfl, hb⟩; refine ⟨_, rfl, ?_⟩; replace BK118 := A_ (blk_below (bq BK118) hb); replace HB := A_ (below_step (hq HB) hb); clear hb))
  go_ret
  exact ⟨rt, hq HB⟩

/-! ### spec_l7Asks: function 35 -/
def spec_l7Asks.f (k : Nat) (a0_0 : Int) (a0_1 : Bool) (l1 : List (S61)) (a2 : Int) (a3 : Int) : Option (Bool) := (spec_l7Carriers.f k a0_0 a0_1 l1).bind fun t122 => (if t122 = true then ((spec_l2Place.f a0_0 a0_1 a3).bind fun t123 => (if t123 = true then ((spec_l1In.f a2 0 a3).bind fun t124 => (some t124)) else (some false))) else (some false))
theorem spec_l7Asks.mono : ∀ a0 a1 a2 a3 a4 k, LeO (spec_l7Asks.f k a0 a1 a2 a3 a4) (spec_l7Asks.f (k + 1) a0 a1 a2 a3 a4) := by
  intro a0 a1 a2 a3 a4 k
  unfold spec_l7Asks.f
  repeat' first
      | (with_reducible exact spec_l7Carriers.mono _ _ _ _)
      | (with_reducible exact LeO.refl _)
      | (with_reducible exact LeO.none _)
      | (with_reducible refine LeO.ite ?_ ?_)
      | (with_reducible refine LeO.bind ?_ (fun _ => ?_))
      | exact spec_l7Carriers.mono _ _ _ _
      | exact LeO.none _
      | refine LeO.ite ?_ ?_
      | refine LeO.bind ?_ (fun _ => ?_)
set_option maxHeartbeats 8000000 in
set_option maxRecDepth 100000 in
theorem spec_l7Asks.calls (k : Nat) (a0_0 : Int) (a0_1 : Bool) (A1 : Option Addr) (c1 : Nat) (l1 : List (S61)) (a2 : Int) (a3 : Int) (r : Bool) (w : World) (hr1 : Kd.C k61 w A1 l1.length l1) (hc1 : l1.length ≤ c1) (h : spec_l7Asks.f k a0_0 a0_1 l1 a2 a3 = some r) :
    Calls Try.prog 35 #[.agg #[.int .i64 a0_0, .bool a0_1], .slice A1 l1.length c1, .int .i64 a2, .int .i64 a3] w fun e w' => e = .returned (.bool r) ∧ Below w.heap.size w w' := by
 have hu27 := Try.underlying27; have HR1 := A_ hr1; have HC1 := A_ hc1; clear hr1 hc1; have HB := A_ (Below.refl w.heap.size w); have H : ((spec_l7Carriers.f k a0_0 a0_1 l1).bind fun t122 => (if t122 = true then ((spec_l2Place.f a0_0 a0_1 a3).bind fun t123 => (if t123 = true then ((spec_l1In.f a2 0 a3).bind fun t124 => (some t124)) else (some false))) else (some false))) = some r := h; clear h; replace H := bm H; obtain ⟨t122, A5, H⟩ := H; by_cases c6 : t122 = true
 ·
  subst c6
  have H1 : ((spec_l2Place.f a0_0 a0_1 a3).bind fun t123 => (if t123 = true then ((spec_l1In.f a2 0 a3).bind fun t124 => (some t124)) else (some false))) = some r := by rw [if_pos rfl] at H; exact H
  clear H; have H := H1; clear H1; replace H := bm H; obtain ⟨t123, A7, H⟩ := H; by_cases c8 : t123 = true
  ·
   subst c8
   have H1 : ((spec_l1In.f a2 0 a3).bind fun t124 => (some t124)) = some r := by rw [if_pos rfl] at H; exact H
   clear H; have H := H1; clear H1; replace H := bm H; obtain ⟨t124, A9, H⟩ := H; obtain rfl := Option.some.inj H; go_enter Try.func35, Try.ntmps35
   go_wp2_with (first | ((with_reducible refine gate_dst (N := 4) rfl ?_); refine bx (N := 4) #[.int .i64 a0_0, .bool a0_1] 27 ?_; intro gb121 hg w10 hbox hb; have BK121 := A_ (hbox); have GW121 := A_ (bs hg (hq HB) : w.heap.size ≤ gb121); have GE121 := A_ (bs hg (hq HB) : w.heap.size ≤ gb121); replace HB := A_ (below_step (hq HB) hb); clear hb hbox hg; have hcz11_0 : w10.cell? ⟨gb121, 0, none⟩ = some (.int .i64 a0_0) := bc BK121 0; have hcz11_1 : w10.cell? ⟨gb121, 1, none⟩ = some (.bool a0_1) := bc BK121 1; have hfz11_0 := blk_frozen BK121.out 0; have hfz11_1 := blk_frozen BK121.out 1) | ((with_reducible refine gate_callee (f := 58) rfl ?_); refine gL (some 11) Try.func58 #[.agg #[.int .i64 a0_0, .bool a0_1], .slice A1 l1.length c1] ?_; (with_reducible refine (spec_l7Carriers.calls k a0_0 a0_1 _ _ l1 true _ ?side1 ?side2 A5.out).mono ?_); (case side1 => exact cq (Kd.C_below HR1.out HB.out)); (case side2 => exact HC1.out); rintro e w12 ⟨rfl, hb⟩; refine ⟨_, rfl, ?_⟩; replace BK121 := A_ (blk_below (bq BK121) hb); replace HB := A_ (below_step (hq HB) hb); clear hb; have hcz13_0 : w12.cell? ⟨gb121, 0, none⟩ = some (.int .i64 a0_0) := bc BK121 0; have hcz13_1 : w12.cell? ⟨gb121, 1, none⟩ = some (.bool a0_1) := bc BK121 1; have hfz13_0 := blk_frozen BK121.out 0; have hfz13_1 := blk_frozen BK121.out 1) | (go_at_call 59; (with_reducible refine (spec_l2Place.calls a0_0 a0_1 a3 true _ A7.out).mono ?_); rintro e w14 ⟨rfl, hb⟩; replace BK121 := A_ (blk_below (bq BK121) hb); replace HB := A_ (below_step (hq HB) hb); clear hb) | (go_at_call 26; (with_reducible refine (spec_l1In.calls a2 0 a3 t124 _ A9.out).mono ?_); rintro e w' ⟨rfl, ⟨nd, rfl⟩⟩))
   go_ret
   exact ⟨rt, hq HB⟩
  ·
   replace c8 := Bool.eq_false_iff.mpr c8; subst c8
   have H1 : (some false) = some r := by rw [if_neg (show ¬ (false = true) by decide)] at H; exact H
   clear H; have H := H1; clear H1; obtain rfl := Option.some.inj H; go_enter Try.func35, Try.ntmps35
   go_wp2_with (first | ((with_reducible refine gate_dst (N := 4) rfl ?_); refine bx (N := 4) #[.int .i64 a0_0, .bool a0_1] 27 ?_; intro gb121 hg w15 hbox hb; have BK121 := A_ (hbox); have GW121 := A_ (bs hg (hq HB) : w.heap.size ≤ gb121); have GE121 := A_ (bs hg (hq HB) : w.heap.size ≤ gb121); replace HB := A_ (below_step (hq HB) hb); clear hb hbox hg; have hcz16_0 : w15.cell? ⟨gb121, 0, none⟩ = some (.int .i64 a0_0) := bc BK121 0; have hcz16_1 : w15.cell? ⟨gb121, 1, none⟩ = some (.bool a0_1) := bc BK121 1; have hfz16_0 := blk_frozen BK121.out 0; have hfz16_1 := blk_frozen BK121.out 1) | ((with_reducible refine gate_callee (f := 58) rfl ?_); refine gL (some 11) Try.func58 #[.agg #[.int .i64 a0_0, .bool a0_1], .slice A1 l1.length c1] ?_; (with_reducible refine (spec_l7Carriers.calls k a0_0 a0_1 _ _ l1 true _ ?side1 ?side2 A5.out).mono ?_); (case side1 => exact cq (Kd.C_below HR1.out HB.out)); (case side2 => exact HC1.out); rintro e w17 ⟨rfl, hb⟩; refine ⟨_, rfl, ?_⟩; replace BK121 := A_ (blk_below (bq BK121) hb); replace HB := A_ (below_step (hq HB) hb); clear hb; have hcz18_0 : w17.cell? ⟨gb121, 0, none⟩ = some (.int .i64 a0_0) := bc BK121 0; have hcz18_1 : w17.cell? ⟨gb121, 1, none⟩ = some (.bool a0_1) := bc BK121 1; have hfz18_0 := blk_frozen BK121.out 0; have hfz18_1 := blk_frozen BK121.out 1) | (go_at_call 59; (with_reducible refine (spec_l2Place.calls a0_0 a0_1 a3 false _ A7.out).mono ?_); rintro e w19 ⟨rfl, hb⟩; replace BK121 := A_ (blk_below (bq BK121) hb); replace HB := A_ (below_step (hq HB) hb); clear hb))
   go_ret
   exact ⟨rt, hq HB⟩
 ·
  replace c6 := Bool.eq_false_iff.mpr c6; subst c6
  have H1 : (some false) = some r := by rw [if_neg (show ¬ (false = true) by decide)] at H; exact H
  clear H; have H := H1; clear H1; obtain rfl := Option.some.inj H; go_enter Try.func35, Try.ntmps35
  go_wp2_with (first | ((with_reducible refine gate_dst (N := 4) rfl ?_); refine bx (N := 4) #[.int .i64 a0_0, .bool a0_1] 27 ?_; intro gb121 hg w20 hbox hb; have BK121 := A_ (hbox); have GW121 := A_ (bs hg (hq HB) : w.heap.size ≤ gb121); have GE121 := A_ (bs hg (hq HB) : w.heap.size ≤ gb121); replace HB := A_ (below_step (hq HB) hb); clear hb hbox hg; have hcz21_0 : w20.cell? ⟨gb121, 0, none⟩ = some (.int .i64 a0_0) := bc BK121 0; have hcz21_1 : w20.cell? ⟨gb121, 1, none⟩ = some (.bool a0_1) := bc BK121 1; have hfz21_0 := blk_frozen BK121.out 0; have hfz21_1 := blk_frozen BK121.out 1) | ((with_reducible refine gate_callee (f := 58) rfl ?_); refine gL (some 11) Try.func58 #[.agg #[.int .i64 a0_0, .bool a0_1], .slice A1 l1.length c1] ?_; (with_reducible refine (spec_l7Carriers.calls k a0_0 a0_1 _ _ l1 false _ ?side1 ?side2 A5.out).mono ?_); (case side1 => exact cq (Kd.C_below HR1.out HB.out)); (case side2 => exact HC1.out); rintro e w22 ⟨rfl, hb⟩; refine ⟨_, rfl, ?_⟩; replace BK121 := A_ (blk_below (bq BK121) hb); replace HB := A_ (below_step (hq HB) hb); clear hb))
  go_ret
  exact ⟨rt, hq HB⟩

/-! ### spec_l1Most: function 49 -/
def spec_l1Most.f (a0 : Int) (a1 : Int) : Option (Int) := if a0 > a1 then (some a0) else (some a1)
set_option maxHeartbeats 8000000 in
set_option maxRecDepth 100000 in
theorem spec_l1Most.calls (a0 : Int) (a1 : Int) (r : Int) (w : World) (h : spec_l1Most.f a0 a1 = some r) :
    Calls Try.prog 49 #[.int .i64 a0, .int .i64 a1] w fun e w' => e = .returned (.int .i64 r) ∧ Drawn0 w w' := by
 have H : (if a0 > a1 then (some a0) else (some a1)) = some r := h; clear h; by_cases c3 : a0 > a1
 ·
  rw [if_pos c3] at H; have c3b0 : decide (a1 < a0) = true := decide_eq_true c3; clear c3; obtain rfl := Option.some.inj H; go_enter Try.func49, Try.ntmps49
  go_wp2
  go_ret
  exact ⟨rf, by repeat (first | exact Drawn0.refl _ | apply Drawn0.step)⟩
 ·
  rw [if_neg c3] at H; have c3b0 : decide (a1 < a0) = false := decide_eq_false c3; clear c3; obtain rfl := Option.some.inj H; go_enter Try.func49, Try.ntmps49
  go_wp2
  go_ret
  exact ⟨rf, by repeat (first | exact Drawn0.refl _ | apply Drawn0.step)⟩

/-! ### spec_l7Told: function 36 -/
def spec_l7Told.f (a0 : Int) : Option (Int × Bool) := (spec_l1Most.f a0 0).bind fun t125 => (some (t125, decide (a0 ≥ 0)))
set_option maxHeartbeats 8000000 in
set_option maxRecDepth 100000 in
theorem spec_l7Told.calls (a0 : Int) (r1 : Int) (r2 : Bool) (w : World) (h : spec_l7Told.f a0 = some (r1, r2)) :
    Calls Try.prog 36 #[.int .i64 a0] w fun e w' => e = .returned (.tuple #[.int .i64 r1, .bool r2]) ∧ Drawn0 w w' := by
 have H : ((spec_l1Most.f a0 0).bind fun t125 => (some (t125, decide (a0 ≥ 0)))) = some (r1, r2) := h; clear h; replace H := bm H; obtain ⟨t125, A2, H⟩ := H; simp only [Option.some.injEq, Prod.mk.injEq] at H
 obtain ⟨rfl, rfl⟩ := H; go_enter Try.func36, Try.ntmps36
 go_wp2_with (first | ((with_reducible refine gate_callee (f := 49) rfl ?_); refine gL (some 5) Try.func49 #[.int .i64 a0, .int .i64 0] ?_; (with_reducible refine (spec_l1Most.calls a0 0 t125 _ A2.out).mono ?_); rintro e w' ⟨rfl, ⟨nd, rfl⟩⟩; refine ⟨_, rfl, ?_⟩))
 go_ret2
 exact ⟨rf, by repeat (first | exact Drawn0.refl _ | apply Drawn0.step)⟩

/-! ### spec_l1Least: function 61 -/
def spec_l1Least.f (a0 : Int) (a1 : Int) : Option (Int) := if a0 < a1 then (some a0) else (some a1)
set_option maxHeartbeats 8000000 in
set_option maxRecDepth 100000 in
theorem spec_l1Least.calls (a0 : Int) (a1 : Int) (r : Int) (w : World) (h : spec_l1Least.f a0 a1 = some r) :
    Calls Try.prog 61 #[.int .i64 a0, .int .i64 a1] w fun e w' => e = .returned (.int .i64 r) ∧ Drawn0 w w' := by
 have H : (if a0 < a1 then (some a0) else (some a1)) = some r := h; clear h; by_cases c3 : a0 < a1
 ·
  rw [if_pos c3] at H; have c3b0 := decide_eq_true c3; clear c3; obtain rfl := Option.some.inj H; go_enter Try.func61, Try.ntmps61
  go_wp2
  go_ret
  exact ⟨rf, by repeat (first | exact Drawn0.refl _ | apply Drawn0.step)⟩
 ·
  rw [if_neg c3] at H; have c3b0 := decide_eq_false c3; clear c3; obtain rfl := Option.some.inj H; go_enter Try.func61, Try.ntmps61
  go_wp2
  go_ret
  exact ⟨rf, by repeat (first | exact Drawn0.refl _ | apply Drawn0.step)⟩

/-! ### spec_l2Gap: function 78 -/
def spec_l2Gap.f (a0_0 : Int) (a0_1 : Bool) (a1 : Int) (a2 : Int) : Option (Int) := (spec_l1Most.f (wrap64 (a1 - a2)) (wrap64 (a2 - a1))).bind fun t127 => (if a0_1 = true then ((spec_l1Least.f t127 (wrap64 (a0_0 - t127))).bind fun t128 => (some t128)) else (some t127))
set_option maxHeartbeats 8000000 in
set_option maxRecDepth 100000 in
theorem spec_l2Gap.calls (a0_0 : Int) (a0_1 : Bool) (a1 : Int) (a2 : Int) (r : Int) (w : World) (h : spec_l2Gap.f a0_0 a0_1 a1 a2 = some r) :
    Calls Try.prog 78 #[.agg #[.int .i64 a0_0, .bool a0_1], .int .i64 a1, .int .i64 a2] w fun e w' => e = .returned (.int .i64 r) ∧ Below w.heap.size w w' := by
 have hu27 := Try.underlying27; have HB := A_ (Below.refl w.heap.size w); have H : ((spec_l1Most.f (wrap64 (a1 - a2)) (wrap64 (a2 - a1))).bind fun t127 => (if a0_1 = true then ((spec_l1Least.f t127 (wrap64 (a0_0 - t127))).bind fun t128 => (some t128)) else (some t127))) = some r := h; clear h; replace H := bm H; obtain ⟨t127, A4, H⟩ := H; by_cases c5 : a0_1 = true
 ·
  subst c5
  have H1 : ((spec_l1Least.f t127 (wrap64 (a0_0 - t127))).bind fun t128 => (some t128)) = some r := by rw [if_pos rfl] at H; exact H
  clear H; have H := H1; clear H1; replace H := bm H; obtain ⟨t128, A6, H⟩ := H; obtain rfl := Option.some.inj H; go_enter Try.func78, Try.ntmps78
  go_wp2_with (first | ((with_reducible refine gate_dst (N := 3) rfl ?_); refine bx (N := 3) #[.int .i64 a0_0, .bool true] 27 ?_; intro gb126 hg w7 hbox hb; have BK126 := A_ (hbox); have GW126 := A_ (bs hg (hq HB) : w.heap.size ≤ gb126); have GE126 := A_ (bs hg (hq HB) : w.heap.size ≤ gb126); replace HB := A_ (below_step (hq HB) hb); clear hb hbox hg) | ((with_reducible refine gate_callee (f := 49) rfl ?_); refine gL (some 14) Try.func49 #[.int .i64 (wrap64 (a1 - a2)), .int .i64 (wrap64 (a2 - a1))] ?_; (with_reducible refine (spec_l1Most.calls (wrap64 (a1 - a2)) (wrap64 (a2 - a1)) t127 _ A4.out).mono ?_); rintro e w' ⟨rfl, ⟨nd, rfl⟩⟩; refine ⟨_, rfl, ?_⟩; have hcz8_0 : w7.cell? ⟨gb126, 0, none⟩ = some (.int .i64 a0_0) := bc BK126 0; have hcz8_1 : w7.cell? ⟨gb126, 1, none⟩ = some (.bool true) := bc BK126 1; have hfz8_0 := blk_frozen BK126.out 0; have hfz8_1 := blk_frozen BK126.out 1) | ((with_reducible refine gate_callee (f := 61) rfl ?_); refine gL (some 22) Try.func61 #[.int .i64 t127, .int .i64 (wrap64 (a0_0 - t127))] ?_; (with_reducible refine (spec_l1Least.calls t127 (wrap64 (a0_0 - t127)) t128 _ A6.out).mono ?_); rintro e w' ⟨rfl, ⟨nd, rfl⟩⟩; refine ⟨_, rfl, ?_⟩))
  go_ret
  exact ⟨rt, hq HB⟩
 ·
  replace c5 := Bool.eq_false_iff.mpr c5; subst c5
  have H1 : (some t127) = some r := by rw [if_neg (show ¬ (false = true) by decide)] at H; exact H
  clear H; have H := H1; clear H1; obtain rfl := Option.some.inj H; go_enter Try.func78, Try.ntmps78
  go_wp2_with (first | ((with_reducible refine gate_dst (N := 3) rfl ?_); refine bx (N := 3) #[.int .i64 a0_0, .bool false] 27 ?_; intro gb126 hg w9 hbox hb; have BK126 := A_ (hbox); have GW126 := A_ (bs hg (hq HB) : w.heap.size ≤ gb126); have GE126 := A_ (bs hg (hq HB) : w.heap.size ≤ gb126); replace HB := A_ (below_step (hq HB) hb); clear hb hbox hg) | ((with_reducible refine gate_callee (f := 49) rfl ?_); refine gL (some 14) Try.func49 #[.int .i64 (wrap64 (a1 - a2)), .int .i64 (wrap64 (a2 - a1))] ?_; (with_reducible refine (spec_l1Most.calls (wrap64 (a1 - a2)) (wrap64 (a2 - a1)) t127 _ A4.out).mono ?_); rintro e w' ⟨rfl, ⟨nd, rfl⟩⟩; refine ⟨_, rfl, ?_⟩; have hcz10_0 : w9.cell? ⟨gb126, 0, none⟩ = some (.int .i64 a0_0) := bc BK126 0; have hcz10_1 : w9.cell? ⟨gb126, 1, none⟩ = some (.bool false) := bc BK126 1; have hfz10_0 := blk_frozen BK126.out 0; have hfz10_1 := blk_frozen BK126.out 1))
  go_ret
  exact ⟨rt, hq HB⟩

end Go.Proofs.Ythgbkekfekcfaaa.PFnExactLeastPrice
