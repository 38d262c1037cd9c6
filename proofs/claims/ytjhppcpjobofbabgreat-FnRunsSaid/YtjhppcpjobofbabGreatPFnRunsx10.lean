-- Told shorter still by shrink2.py.
-- Printed, and told shorter by this session's program shrink.py.
-- Printed by this session's program myprint.py.
import Derived.Test.YtjhppcpjobofbabGreatPFnRunsx0
import Derived.Test.YtjhppcpjobofbabGreatPFnRunsx9
namespace Go.Proofs.YtjhppcpjobofbabGreat.PFnRuns
open Go.RowKit Go.Proofs.YtjhppcpjobofbabGreat.Own Go.Proofs.YtjhppcpjobofbabGreatW.PrintWords Go.Proofs.YtjhppcpjobofbabGreatW.PrintLast Go.Proofs.YtjhppcpjobofbabGreatW.PrintMore
attribute [local go_sem] max2_int min2_int max_two min_two max_three min_three max_four min_four   -- for this text's walks alone
set_option linter.unusedVariables false
set_option linter.unusedSimpArgs false

/-! ### spec_l2Road: function 63 -/
def Q53.f (a0_0 : Int) (a0_1 : Bool) : Option (Bool) := (Q26.f a0_0 2 24).bind fun t454 => (if t454 = true then (if a0_1 = true then (some (decide (a0_0 > 2))) else (some true)) else (some false))
set_option maxHeartbeats 8000000 in
set_option maxRecDepth 100000 in
theorem Q53.calls (a0_0 : Int) (a0_1 : Bool) (r : Bool) (w : World) (h : Q53.f a0_0 a0_1 = some r) :
    Calls Tryz.prog 63 #[.agg #[.int .i64 a0_0, .bool a0_1]] w fun e w' => e = .returned (.bool r) ∧ Below w.heap.size w w' := by
 have hu25 := Tryz.underlying25; have HB := A_ (Below.refl w.heap.size w); have H : ((Q26.f a0_0 2 24).bind fun t454 => (if t454 = true then (if a0_1 = true then (some (decide (a0_0 > 2))) else (some true)) else (some false))) = some r := h; clear h; replace H := bm H; obtain ⟨t454, A2, H⟩ := H; by_cases c3 : t454 = true
 ·
  subst c3
  rw [if_pos rfl] at H; by_cases c4 : a0_1 = true
  ·
   subst c4
   rw [if_pos rfl] at H; obtain rfl := Option.some.inj H; go_enter Tryz.func63, Tryz.ntmps63
   go_wp2_with (first | ((with_reducible refine gate_dst (N := 1) rfl ?_); refine bx (N := 1) #[.int .i64 a0_0, .bool true] 25 ?_; intro gb453 hg w5 hbox hb; have BK453 := A_ (hbox); have GW453 := A_ (bs hg (hq HB) : w.heap.size ≤ gb453); have GE453 := A_ (bs hg (hq HB) : w.heap.size ≤ gb453); replace HB := A_ (below_step (hq HB) hb); clear hb hbox hg; obtain ⟨hcz6_0, hcz6_1, hfz6_0, hfz6_1⟩ := zc4 BK453) | ((with_reducible refine gate_callee (f := 61) rfl ?_); refine gL (some 5) Tryz.func61 #[.int .i64 a0_0, .int .i64 2, .int .i64 24] ?_; (with_reducible refine (Q26.calls a0_0 2 24 true _ A2.out).mono ?_); rintro e w' ⟨rfl, ⟨nd, rfl⟩⟩; refine ⟨_, rfl, ?_⟩))
   go_ret
   exact ⟨rt, hq HB⟩
  ·
   replace c4 := Bool.eq_false_iff.mpr c4; subst c4
   rw [if_neg nf] at H; obtain rfl := Option.some.inj H; go_enter Tryz.func63, Tryz.ntmps63
   go_wp2_with (first | ((with_reducible refine gate_dst (N := 1) rfl ?_); refine bx (N := 1) #[.int .i64 a0_0, .bool false] 25 ?_; intro gb453 hg w7 hbox hb; have BK453 := A_ (hbox); have GW453 := A_ (bs hg (hq HB) : w.heap.size ≤ gb453); have GE453 := A_ (bs hg (hq HB) : w.heap.size ≤ gb453); replace HB := A_ (below_step (hq HB) hb); clear hb hbox hg; obtain ⟨hcz8_0, hcz8_1, hfz8_0, hfz8_1⟩ := zc4 BK453) | ((with_reducible refine gate_callee (f := 61) rfl ?_); refine gL (some 5) Tryz.func61 #[.int .i64 a0_0, .int .i64 2, .int .i64 24] ?_; (with_reducible refine (Q26.calls a0_0 2 24 true _ A2.out).mono ?_); rintro e w' ⟨rfl, ⟨nd, rfl⟩⟩; refine ⟨_, rfl, ?_⟩))
   go_ret
   exact ⟨rt, hq HB⟩
 ·
  replace c3 := Bool.eq_false_iff.mpr c3; subst c3
  rw [if_neg nf] at H; obtain rfl := Option.some.inj H; go_enter Tryz.func63, Tryz.ntmps63
  go_wp2_with (first | ((with_reducible refine gate_dst (N := 1) rfl ?_); refine bx (N := 1) #[.int .i64 a0_0, .bool a0_1] 25 ?_; intro gb453 hg w9 hbox hb; have BK453 := A_ (hbox); have GW453 := A_ (bs hg (hq HB) : w.heap.size ≤ gb453); have GE453 := A_ (bs hg (hq HB) : w.heap.size ≤ gb453); replace HB := A_ (below_step (hq HB) hb); clear hb hbox hg; obtain ⟨hcz10_0, hcz10_1, hfz10_0, hfz10_1⟩ := zc4 BK453) | ((with_reducible refine gate_callee (f := 61) rfl ?_); refine gL (some 5) Tryz.func61 #[.int .i64 a0_0, .int .i64 2, .int .i64 24] ?_; (with_reducible refine (Q26.calls a0_0 2 24 false _ A2.out).mono ?_); rintro e w' ⟨rfl, ⟨nd, rfl⟩⟩; refine ⟨_, rfl, ?_⟩))
  go_ret
  exact ⟨rt, hq HB⟩

/-! ### spec_l2Place: function 36 -/
def Q13.f (a0_0 : Int) (a0_1 : Bool) (a1 : Int) : Option (Bool) := (Q53.f a0_0 a0_1).bind fun t456 => (if t456 = true then ((Q26.f a1 0 (wrap64 (a0_0 - 1))).bind fun t457 => (some t457)) else (some false))
set_option maxHeartbeats 8000000 in
set_option maxRecDepth 100000 in
theorem Q13.calls (a0_0 : Int) (a0_1 : Bool) (a1 : Int) (r : Bool) (w : World) (h : Q13.f a0_0 a0_1 a1 = some r) :
    Calls Tryz.prog 36 #[.agg #[.int .i64 a0_0, .bool a0_1], .int .i64 a1] w fun e w' => e = .returned (.bool r) ∧ Below w.heap.size w w' := by
 have hu25 := Tryz.underlying25; have HB := A_ (Below.refl w.heap.size w); have H : ((Q53.f a0_0 a0_1).bind fun t456 => (if t456 = true then ((Q26.f a1 0 (wrap64 (a0_0 - 1))).bind fun t457 => (some t457)) else (some false))) = some r := h; clear h; replace H := bm H; obtain ⟨t456, A3, H⟩ := H; by_cases c4 : t456 = true
 ·
  subst c4
  rw [if_pos rfl] at H; replace H := bm H; obtain ⟨t457, A5, H⟩ := H; obtain rfl := Option.some.inj H; go_enter Tryz.func36, Tryz.ntmps36
  go_wp2_with (first | ((with_reducible refine gate_dst (N := 2) rfl ?_); refine bx (N := 2) #[.int .i64 a0_0, .bool a0_1] 25 ?_; intro gb455 hg w6 hbox hb; have BK455 := A_ (hbox); have GW455 := A_ (bs hg (hq HB) : w.heap.size ≤ gb455); have GE455 := A_ (bs hg (hq HB) : w.heap.size ≤ gb455); replace HB := A_ (below_step (hq HB) hb); clear hb hbox hg; obtain ⟨hcz7_0, hcz7_1, hfz7_0, hfz7_1⟩ := zc4 BK455) | ((with_reducible refine gate_callee (f := 63) rfl ?_); refine gL (some 6) Tryz.func63 #[.agg #[.int .i64 a0_0, .bool a0_1]] ?_; (with_reducible refine (Q53.calls a0_0 a0_1 true _ A3.out).mono ?_); rintro e w8 ⟨rfl, hb⟩; refine ⟨_, rfl, ?_⟩; replace BK455 := A_ (blk_below (bq BK455) hb); replace HB := A_ (below_step (hq HB) hb); clear hb; obtain ⟨hcz9_0, hcz9_1, hfz9_0, hfz9_1⟩ := zc4 BK455) | (go_at_call 61; (with_reducible refine (Q26.calls a1 0 (wrap64 (a0_0 - 1)) t457 _ A5.out).mono ?_); rintro e w' ⟨rfl, ⟨nd, rfl⟩⟩))
  go_ret
  exact ⟨rt, hq HB⟩
 ·
  replace c4 := Bool.eq_false_iff.mpr c4; subst c4
  rw [if_neg nf] at H; obtain rfl := Option.some.inj H; go_enter Tryz.func36, Tryz.ntmps36
  go_wp2_with (first | ((with_reducible refine gate_dst (N := 2) rfl ?_); refine bx (N := 2) #[.int .i64 a0_0, .bool a0_1] 25 ?_; intro gb455 hg w10 hbox hb; have BK455 := A_ (hbox); have GW455 := A_ (bs hg (hq HB) : w.heap.size ≤ gb455); have GE455 := A_ (bs hg (hq HB) : w.heap.size ≤ gb455); replace HB := A_ (below_step (hq HB) hb); clear hb hbox hg; obtain ⟨hcz11_0, hcz11_1, hfz11_0, hfz11_1⟩ := zc4 BK455) | ((with_reducible refine gate_callee (f := 63) rfl ?_); refine gL (some 6) Tryz.func63 #[.agg #[.int .i64 a0_0, .bool a0_1]] ?_; (with_reducible refine (Q53.calls a0_0 a0_1 false _ A3.out).mono ?_); rintro e w12 ⟨rfl, hb⟩; refine ⟨_, rfl, ?_⟩; replace BK455 := A_ (blk_below (bq BK455) hb); replace HB := A_ (below_step (hq HB) hb); clear hb))
  go_ret
  exact ⟨rt, hq HB⟩

/-! ### spec_l6Starts: function 62 -/
mutual
def Q32.l0 : Nat → List Int → Int → Int → Bool → Option (Bool)
  | 0, _, _, _, _ => none
  | k + 1, x1, x5, x459000, x459001 => if x5 < (x1.length : Int) then (Q32.j1 k x1 x5 (decide (x5 ≤ 4)) x459000 x459001) else (Q32.j1 k x1 x5 false x459000 x459001)
def Q32.j1 : Nat → List Int → Int → Bool → Int → Bool → Option (Bool)
  | 0, _, _, _, _, _ => none
  | k + 1, x1, x5, x13, x459000, x459001 => if x13 = true then (if 0 ≤ x5 then (if x5 < (x1.length : Int) then ((Q13.f x459000 x459001 (rd x1 x5)).bind fun t460 => (if t460 = true then (Q32.l0 k x1 (wrap64 (x5 + 1)) x459000 x459001) else (some false))) else (none)) else (none)) else ((Q53.f x459000 x459001).bind fun t461 => (if t461 = true then ((Q26.f (x1.length : Int) 1 4).bind fun t462 => (some t462)) else (some false)))
end
def Q32.f (k : Nat) (a0_0 : Int) (a0_1 : Bool) (l1 : List Int) : Option (Bool) := Q32.l0 k l1 0 a0_0 a0_1
set_option maxHeartbeats 8000000 in
set_option maxRecDepth 100000 in
theorem Q32.calls (k : Nat) (a0_0 : Int) (a0_1 : Bool) (A1 : Option Addr) (c1 : Nat) (l1 : List Int) (r : Bool) (w : World) (hr1 : Kd.C (Kd.int .i64) w A1 l1.length l1) (hc1 : l1.length ≤ c1) (h : Q32.f k a0_0 a0_1 l1 = some r) :
    Calls Tryz.prog 62 #[.agg #[.int .i64 a0_0, .bool a0_1], .slice A1 l1.length c1] w fun e w' => e = .returned (.bool r) ∧ Below w.heap.size w w' := by
 have hu25 := Tryz.underlying25; have HR1 := A_ hr1; have HC1 := A_ hc1; clear hr1 hc1; have HB := A_ (Below.refl w.heap.size w); have H : (Q32.l0 k l1 0 a0_0 a0_1) = some r := h; clear h; have H' := A_ H; clear H; go_enter Tryz.func62, Tryz.ntmps62
 go_wp2_with (first | ((with_reducible refine gate_dst (N := 2) rfl ?_); (try (refine gate_guard (by rfl) ?_; dsimp only)); refine bx (N := 2) #[.int .i64 a0_0, .bool a0_1] 25 ?_; intro gb458 hg w3 hbox hb; have BK458 := A_ (hbox); have GW458 := A_ (bs hg (hq HB) : w.heap.size ≤ gb458); have GE458 := A_ (bs hg (hq HB) : w.heap.size ≤ gb458); replace HB := A_ (below_step (hq HB) hb); clear hb hbox hg))
 go_loopg [5] k (fun kq v5 w' => ∃ (x5_1 : Int), v5 = .int .i64 x5_1 ∧ Aside0 (Q32.l0 kq l1 x5_1 a0_0 a0_1 = some r) ∧ Aside0 (kq ≤ k) ∧ Aside0 (w'.heap[gb458]? = some (.cells #[.int .i64 a0_0, .bool a0_1] 25 (0, 0))) ∧ Aside0 (Below w.heap.size w w'))
 case atStart => exact ⟨(0), rf, H', ⟨Nat.le_refl _⟩, ⟨bq BK458⟩, ⟨hq HB⟩⟩
 case round =>
  clear H'; obtain ⟨x5_1, rfl, HA, HK1, BK458, HB⟩ := hrel
  cases gk with
  | zero => exact absurd HA.out (by simp [Q32.l0])
  | succ k1 =>
   have H := HA.out; clear HA; simp only [Q32.l0] at H
   have HC4 := A_ H; clear H; go_upto_region 2 with (fail)
   go_cut [13] (fun v13 wc => ∃ (kq : Nat) (x13_3 : Bool), v13 = .bool x13_3 ∧ Aside0 (Q32.j1 kq l1 x5_1 x13_3 a0_0 a0_1 = some r) ∧ Aside0 (kq ≤ k1) ∧ Aside0 (wc.heap[gb458]? = some (.cells #[.int .i64 a0_0, .bool a0_1] 25 (0, 0))) ∧ Aside0 (Below w.heap.size w wc))
   case first =>
    have H := HC4.out; clear HC4; by_cases c5 : x5_1 < (l1.length : Int)
    ·
     rw [if_pos c5] at H; have c5b0 := decide_eq_true c5; clear c5; (first | rw [c5b0] | (simp only [i64_w, i32_w]; rw [c5b0]) | skip); have H' := A_ H; clear H; go_wp2
     go_meet
     case rel => exact ⟨_, (decide (x5_1 ≤ 4)), rf, H', ⟨by have := HK1.out; first | omega | exact Nat.le_refl _⟩, ⟨bq BK458⟩, ⟨hq HB⟩⟩
    ·
     rw [if_neg c5] at H; have c5b0 := decide_eq_false c5; clear c5; (first | rw [c5b0] | (simp only [i64_w, i32_w]; rw [c5b0]) | skip); have H' := A_ H; clear H; go_wp2
     go_meet
     case rel => exact ⟨_, (false), rf, H', ⟨by have := HK1.out; first | omega | exact Nat.le_refl _⟩, ⟨bq BK458⟩, ⟨hq HB⟩⟩
   case rest =>
    clear HC4; (try clear c5); (try clear c5b0); obtain ⟨kq, x13_3, rfl, HA, HJ3, BK458, HB⟩ := hcut
    cases kq with
    | zero => exact absurd HA.out (by simp [Q32.j1])
    | succ kj3 =>
     have H := HA.out; clear HA; simp only [Q32.j1] at H
     by_cases c6 : x13_3 = true
     ·
      subst c6
      rw [if_pos rfl] at H; by_cases c7 : 0 ≤ x5_1
      ·
       rw [if_pos c7] at H; have c7b0 := decide_eq_true c7; clear c7; by_cases c8 : x5_1 < (l1.length : Int)
       ·
        rw [if_pos c8] at H; have c8b0 := decide_eq_true c8; clear c8; replace H := bm H; obtain ⟨t460, A9, H⟩ := H; by_cases c10 : t460 = true
        ·
         subst c10
         rw [if_pos rfl] at H; have H' := A_ H; clear H; try go_wp2
         replace BK458 := A_ (blk_drew BK458.out); replace HB := A_ (below_drew1 HB.out); have p459 : 0 ≤ (x5_1 : Int) := dq; have q459 : x5_1 < (l1.length : Int) := dq; obtain ⟨ad459, e459, hx459_0⟩ := Kd.at_int HR1.out x5_1 p459 q459; have hw459_0 := hx459_0
         cases e459
         replace hx459_0 := (HB.out.cell (World.block_lt_of_cell? w _ hx459_0)).trans hx459_0; replace p459 := eq_true p459; replace q459 := eq_true q459; refine start_ (n := 7) (S := fun w' => w'.cell? ⟨gb458, 0, none⟩ = some (.int .i64 a0_0) ∧ w'.cell? ⟨gb458, 1, none⟩ = some (.bool a0_1) ∧ w'.cell? (ad459.add (x5_1).toNat) = some (.int .i64 (rd l1 x5_1))) (ds := []) (bA 7 0) (by kernel_rfl) rfl rfl ⟨bc BK458 0, bc BK458 1, ((HB.out.cell (World.block_lt_of_cell? w _ hw459_0)).trans hw459_0)⟩ (fun hHeld => ?_); generalize wc.drew = w11 at BK458 HB hx459_0 hHeld ⊢; refine pu (i := 1) (N := some 17) (bA 7 2) ?_; refine pu (i := 2) (N := some 18) (bA 7 6) ?_; refine pu (i := 3) (N := some 19) (bA 7 14) ?_; refine tk (i := 0) (N := some 16) hHeld (bA 7 15) ?_; refine tk (i := 4) (N := some 20) hHeld (bA 7 31) ?_; refine on (i := 5) (N := some 21) (bA 7 63) (fun K hK => ?_); refine go_ Tryz.func36 #[.agg #[.int .i64 a0_0, .bool a0_1], .int .i64 (rd l1 x5_1)] ?_; with_reducible refine (Q13.calls a0_0 a0_1 (rd l1 x5_1) true _ A9.out).mono ?_
         rintro e w12 ⟨rfl, hb⟩; refine ⟨_, rfl, ?_⟩; replace BK458 := A_ (blk_below (bq BK458) hb); replace HB := A_ (below_step (hq HB) hb); clear hb; refine hK.out _ _ ⟨bc BK458 0, bc BK458 1, ((HB.out.cell (World.block_lt_of_cell? w _ hw459_0)).trans hw459_0)⟩ (fun hHeld => ?_); clear hK K; refine nq_ (some 21) ?_; refine pu (i := 6) (N := some 22) (bA 7 127) ?_; refine done_ (by kernel_rfl) ?_; try go_wp2
         go_roundg kj3
         case measure => have := HK1.out; have := HJ3.out; omega
         case rel => exact ⟨(wrap64 (x5_1 + 1)), rf, H', ⟨by have := HK1.out; have := HJ3.out; omega⟩, ⟨bq BK458⟩, ⟨hq HB⟩⟩
        ·
         replace c10 := Bool.eq_false_iff.mpr c10; subst c10
         rw [if_neg nf] at H; obtain rfl := Option.some.inj H; try go_wp2
         replace BK458 := A_ (blk_drew BK458.out); replace HB := A_ (below_drew1 HB.out); have p459 : 0 ≤ (x5_1 : Int) := dq; have q459 : x5_1 < (l1.length : Int) := dq; obtain ⟨ad459, e459, hx459_0⟩ := Kd.at_int HR1.out x5_1 p459 q459; have hw459_0 := hx459_0
         cases e459
         replace hx459_0 := (HB.out.cell (World.block_lt_of_cell? w _ hx459_0)).trans hx459_0; replace p459 := eq_true p459; replace q459 := eq_true q459; refine start_ (n := 7) (S := fun w' => w'.cell? ⟨gb458, 0, none⟩ = some (.int .i64 a0_0) ∧ w'.cell? ⟨gb458, 1, none⟩ = some (.bool a0_1) ∧ w'.cell? (ad459.add (x5_1).toNat) = some (.int .i64 (rd l1 x5_1))) (ds := []) (bA 7 0) (by kernel_rfl) rfl rfl ⟨bc BK458 0, bc BK458 1, ((HB.out.cell (World.block_lt_of_cell? w _ hw459_0)).trans hw459_0)⟩ (fun hHeld => ?_); generalize wc.drew = w13 at BK458 HB hx459_0 hHeld ⊢; refine pu (i := 1) (N := some 17) (bA 7 2) ?_; refine pu (i := 2) (N := some 18) (bA 7 6) ?_; refine pu (i := 3) (N := some 19) (bA 7 14) ?_; refine tk (i := 0) (N := some 16) hHeld (bA 7 15) ?_; refine tk (i := 4) (N := some 20) hHeld (bA 7 31) ?_; refine on (i := 5) (N := some 21) (bA 7 63) (fun K hK => ?_); refine go_ Tryz.func36 #[.agg #[.int .i64 a0_0, .bool a0_1], .int .i64 (rd l1 x5_1)] ?_; with_reducible refine (Q13.calls a0_0 a0_1 (rd l1 x5_1) false _ A9.out).mono ?_
         rintro e w14 ⟨rfl, hb⟩; refine ⟨_, rfl, ?_⟩; replace BK458 := A_ (blk_below (bq BK458) hb); replace HB := A_ (below_step (hq HB) hb); clear hb; refine hK.out _ _ ⟨bc BK458 0, bc BK458 1, ((HB.out.cell (World.block_lt_of_cell? w _ hw459_0)).trans hw459_0)⟩ (fun hHeld => ?_); clear hK K; refine nq_ (some 21) ?_; refine pu (i := 6) (N := some 22) (bA 7 127) ?_; refine done_ (by kernel_rfl) ?_; try go_wp2
         go_ret
         exact ⟨rt, hq HB⟩
       ·
        rw [if_neg c8] at H; exact absurd H (by simp)
      ·
       rw [if_neg c7] at H; exact absurd H (by simp)
     ·
      replace c6 := Bool.eq_false_iff.mpr c6; subst c6
      rw [if_neg nf] at H; replace H := bm H; obtain ⟨t461, A15, H⟩ := H; by_cases c16 : t461 = true
      ·
       subst c16
       rw [if_pos rfl] at H; replace H := bm H; obtain ⟨t462, A17, H⟩ := H; obtain rfl := Option.some.inj H; obtain ⟨hcz18_0, hcz18_1, hfz18_0, hfz18_1⟩ := zc4 BK458; go_wp2_with (first | ((with_reducible refine gate_callee (f := 63) rfl ?_); refine gL (some 24) Tryz.func63 #[.agg #[.int .i64 a0_0, .bool a0_1]] ?_; (with_reducible refine (Q53.calls a0_0 a0_1 true _ A15.out).mono ?_); rintro e w19 ⟨rfl, hb⟩; refine ⟨_, rfl, ?_⟩; replace BK458 := A_ (blk_below (bq BK458) hb); replace HB := A_ (below_step (hq HB) hb); clear hb) | (go_at_call 61; (with_reducible refine (Q26.calls (l1.length : Int) 1 4 t462 _ A17.out).mono ?_); rintro e w' ⟨rfl, ⟨nd, rfl⟩⟩))
       go_ret
       exact ⟨rt, hq HB⟩
      ·
       replace c16 := Bool.eq_false_iff.mpr c16; subst c16
       rw [if_neg nf] at H; obtain rfl := Option.some.inj H; obtain ⟨hcz20_0, hcz20_1, hfz20_0, hfz20_1⟩ := zc4 BK458; go_wp2_with (first | ((with_reducible refine gate_callee (f := 63) rfl ?_); refine gL (some 24) Tryz.func63 #[.agg #[.int .i64 a0_0, .bool a0_1]] ?_; (with_reducible refine (Q53.calls a0_0 a0_1 false _ A15.out).mono ?_); rintro e w21 ⟨rfl, hb⟩; refine ⟨_, rfl, ?_⟩; replace BK458 := A_ (blk_below (bq BK458) hb); replace HB := A_ (below_step (hq HB) hb); clear hb))
       go_ret
       exact ⟨rt, hq HB⟩

/-! ### spec_l6Budgets: function 35 -/
def Q21.l0 : Nat → List Int → List Int → Int → Int → Bool → Option (Bool)
  | 0, _, _, _, _, _ => none
  | k + 1, x1, x2, x7, x464000, x464001 => if x7 < (x2.length : Int) then (if 0 ≤ x7 then ((Q26.f (rd x2 x7) 0 99).bind fun t465 => (if t465 = true then (Q21.l0 k x1 x2 (wrap64 (x7 + 1)) x464000 x464001) else (some false))) else (none)) else ((Q32.f k x464000 x464001 x1).bind fun t466 => (if t466 = true then (some ((x2.length : Int) == (x1.length : Int))) else (some false)))
def Q21.f (k : Nat) (a0_0 : Int) (a0_1 : Bool) (l1 : List Int) (l2 : List Int) : Option (Bool) := Q21.l0 k l1 l2 0 a0_0 a0_1
set_option maxHeartbeats 8000000 in
set_option maxRecDepth 100000 in
theorem Q21.calls (k : Nat) (a0_0 : Int) (a0_1 : Bool) (A1 : Option Addr) (c1 : Nat) (l1 : List Int) (A2 : Option Addr) (c2 : Nat) (l2 : List Int) (r : Bool) (w : World) (hr1 : Kd.C (Kd.int .i64) w A1 l1.length l1) (hc1 : l1.length ≤ c1) (hr2 : Kd.C (Kd.int .i64) w A2 l2.length l2) (hc2 : l2.length ≤ c2) (h : Q21.f k a0_0 a0_1 l1 l2 = some r) :
    Calls Tryz.prog 35 #[.agg #[.int .i64 a0_0, .bool a0_1], .slice A1 l1.length c1, .slice A2 l2.length c2] w fun e w' => e = .returned (.bool r) ∧ Below w.heap.size w w' := by
 have hu25 := Tryz.underlying25; have HR1 := A_ hr1; have HC1 := A_ hc1; clear hr1 hc1; have HR2 := A_ hr2; have HC2 := A_ hc2; clear hr2 hc2; have HB := A_ (Below.refl w.heap.size w); have H : (Q21.l0 k l1 l2 0 a0_0 a0_1) = some r := h; clear h; have H' := A_ H; clear H; go_enter Tryz.func35, Tryz.ntmps35
 go_wp2_with (first | ((with_reducible refine gate_dst (N := 3) rfl ?_); (try (refine gate_guard (by rfl) ?_; dsimp only)); refine bx (N := 3) #[.int .i64 a0_0, .bool a0_1] 25 ?_; intro gb463 hg w4 hbox hb; have BK463 := A_ (hbox); have GW463 := A_ (bs hg (hq HB) : w.heap.size ≤ gb463); have GE463 := A_ (bs hg (hq HB) : w.heap.size ≤ gb463); replace HB := A_ (below_step (hq HB) hb); clear hb hbox hg))
 go_loopg [7] k (fun kq v7 w' => ∃ (x7_1 : Int), v7 = .int .i64 x7_1 ∧ Aside0 (Q21.l0 kq l1 l2 x7_1 a0_0 a0_1 = some r) ∧ Aside0 (kq ≤ k) ∧ Aside0 (w'.heap[gb463]? = some (.cells #[.int .i64 a0_0, .bool a0_1] 25 (0, 0))) ∧ Aside0 (Below w.heap.size w w'))
 case atStart => exact ⟨(0), rf, H', ⟨Nat.le_refl _⟩, ⟨bq BK463⟩, ⟨hq HB⟩⟩
 case round =>
  clear H'; obtain ⟨x7_1, rfl, HA, HK1, BK463, HB⟩ := hrel
  cases gk with
  | zero => exact absurd HA.out (by simp [Q21.l0])
  | succ k1 =>
   have H := HA.out; clear HA; simp only [Q21.l0] at H
   by_cases c5 : x7_1 < (l2.length : Int)
   ·
    rw [if_pos c5] at H; have c5b0 := decide_eq_true c5; clear c5; by_cases c6 : 0 ≤ x7_1
    ·
     rw [if_pos c6] at H; have c6b0 := decide_eq_true c6; clear c6; replace H := bm H; obtain ⟨t465, A7, H⟩ := H; by_cases c8 : t465 = true
     ·
      subst c8
      rw [if_pos rfl] at H; have H' := A_ H; clear H; have p464 : 0 ≤ (x7_1 : Int) := dq; have q464 : x7_1 < (l2.length : Int) := dq; obtain ⟨ad464, e464, hx464_0⟩ := Kd.at_int HR2.out x7_1 p464 q464
      cases e464
      replace hx464_0 := (HB.out.cell (World.block_lt_of_cell? w _ hx464_0)).trans hx464_0; replace p464 := eq_true p464; replace q464 := eq_true q464; go_wp2_with (first | ((with_reducible refine gate_callee (f := 61) rfl ?_); refine gL (some 18) Tryz.func61 #[.int .i64 (rd l2 x7_1), .int .i64 0, .int .i64 99] ?_; (with_reducible refine (Q26.calls (rd l2 x7_1) 0 99 true _ A7.out).mono ?_); rintro e w' ⟨rfl, ⟨nd, rfl⟩⟩; refine ⟨_, rfl, ?_⟩))
      go_roundg k1
      case measure => have := HK1.out; omega
      case rel => exact ⟨(wrap64 (x7_1 + 1)), rf, H', ⟨by have := HK1.out; omega⟩, ⟨bq BK463⟩, ⟨hq HB⟩⟩
     ·
      replace c8 := Bool.eq_false_iff.mpr c8; subst c8
      rw [if_neg nf] at H; obtain rfl := Option.some.inj H; have p464 : 0 ≤ (x7_1 : Int) := dq; have q464 : x7_1 < (l2.length : Int) := dq; obtain ⟨ad464, e464, hx464_0⟩ := Kd.at_int HR2.out x7_1 p464 q464
      cases e464
      replace hx464_0 := (HB.out.cell (World.block_lt_of_cell? w _ hx464_0)).trans hx464_0; replace p464 := eq_true p464; replace q464 := eq_true q464; go_wp2_with (first | ((with_reducible refine gate_callee (f := 61) rfl ?_); refine gL (some 18) Tryz.func61 #[.int .i64 (rd l2 x7_1), .int .i64 0, .int .i64 99] ?_; (with_reducible refine (Q26.calls (rd l2 x7_1) 0 99 false _ A7.out).mono ?_); rintro e w' ⟨rfl, ⟨nd, rfl⟩⟩; refine ⟨_, rfl, ?_⟩))
      go_ret
      exact ⟨rt, hq HB⟩
    ·
     rw [if_neg c6] at H; exact absurd H (by simp)
   ·
    rw [if_neg c5] at H; have c5b0 := decide_eq_false c5; clear c5; replace H := bm H; obtain ⟨t466, A9, H⟩ := H; by_cases c10 : t466 = true
    ·
     subst c10
     rw [if_pos rfl] at H; obtain rfl := Option.some.inj H; obtain ⟨hcz11_0, hcz11_1, hfz11_0, hfz11_1⟩ := zc4 BK463; go_wp2_with (first | ((with_reducible refine gate_callee (f := 62) rfl ?_); refine gL (some 22) Tryz.func62 #[.agg #[.int .i64 a0_0, .bool a0_1], .slice A1 l1.length c1] ?_; (with_reducible refine (Q32.calls k1 a0_0 a0_1 _ _ l1 true _ ?side1 ?side2 A9.out).mono ?_); (case side1 => exact cq (Kd.C_below HR1.out HB.out)); (case side2 => exact HC1.out); rintro e w12 ⟨rfl, hb⟩; refine ⟨_, rfl, ?_⟩; replace BK463 := A_ (blk_below (bq BK463) hb); replace HB := A_ (below_step (hq HB) hb); clear hb))
     go_ret
     exact ⟨rt, hq HB⟩
    ·
     replace c10 := Bool.eq_false_iff.mpr c10; subst c10
     rw [if_neg nf] at H; obtain rfl := Option.some.inj H; obtain ⟨hcz13_0, hcz13_1, hfz13_0, hfz13_1⟩ := zc4 BK463; go_wp2_with (first | ((with_reducible refine gate_callee (f := 62) rfl ?_); refine gL (some 22) Tryz.func62 #[.agg #[.int .i64 a0_0, .bool a0_1], .slice A1 l1.length c1] ?_; (with_reducible refine (Q32.calls k1 a0_0 a0_1 _ _ l1 false _ ?side1 ?side2 A9.out).mono ?_); (case side1 => exact cq (Kd.C_below HR1.out HB.out)); (case side2 => exact HC1.out); rintro e w14 ⟨rfl, hb⟩; refine ⟨_, rfl, ?_⟩; replace BK463 := A_ (blk_below (bq BK463) hb); replace HB := A_ (below_step (hq HB) hb); clear hb))
     go_ret
     exact ⟨rt, hq HB⟩

/-! ### spec_l1Has: function 64 -/
def Q42.l0 : Nat → List Int → Int → Int → Option (Bool)
  | 0, _, _, _ => none
  | k + 1, x0, x1, x5 => if x5 < (x0.length : Int) then (if 0 ≤ x5 then (if (rd x0 x5) = x1 then (some true) else (Q42.l0 k x0 x1 (wrap64 (x5 + 1)))) else (none)) else (some false)
def Q42.f (k : Nat) (l0 : List Int) (a1 : Int) : Option (Bool) := Q42.l0 k l0 a1 0
set_option maxHeartbeats 8000000 in
set_option maxRecDepth 100000 in
theorem Q42.calls (k : Nat) (A0 : Option Addr) (c0 : Nat) (l0 : List Int) (a1 : Int) (r : Bool) (w : World) (hr0 : Kd.C (Kd.int .i64) w A0 l0.length l0) (hc0 : l0.length ≤ c0) (h : Q42.f k l0 a1 = some r) :
    Calls Tryz.prog 64 #[.slice A0 l0.length c0, .int .i64 a1] w fun e w' => e = .returned (.bool r) ∧ Drawn0 w w' := by
 have HR0 := A_ hr0; have HC0 := A_ hc0; clear hr0 hc0; have H : (Q42.l0 k l0 a1 0) = some r := h; clear h; have H' := A_ H; clear H; go_enter Tryz.func64, Tryz.ntmps64
 go_wp2
 go_loopg [5] k (fun kq v5 w' => ∃ (x5_1 : Int), v5 = .int .i64 x5_1 ∧ Aside0 (Q42.l0 kq l0 a1 x5_1 = some r) ∧ Aside0 (kq ≤ k) ∧ Drawn0 w w')
 case atStart => exact ⟨(0), rf, H', ⟨Nat.le_refl _⟩, by repeat (first | exact Drawn0.refl _ | apply Drawn0.step)⟩
 case round =>
  clear H'; obtain ⟨x5_1, rfl, HA, HK1, ⟨m1, rfl⟩⟩ := hrel
  cases gk with
  | zero => exact absurd HA.out (by simp [Q42.l0])
  | succ k1 =>
   have H := HA.out; clear HA; simp only [Q42.l0] at H
   by_cases c3 : x5_1 < (l0.length : Int)
   ·
    rw [if_pos c3] at H; have c3b0 := decide_eq_true c3; clear c3; by_cases c4 : 0 ≤ x5_1
    ·
     rw [if_pos c4] at H; have c4b0 := decide_eq_true c4; clear c4; by_cases c5 : (rd l0 x5_1) = a1
     ·
      rw [if_pos c5] at H; have c5b0 : ((rd l0 x5_1) == a1) = true := beq_iff_eq.mpr c5; have c5b1 : ((rd l0 x5_1) != a1) = false := bne_eq_false_iff_eq.mpr c5; clear c5; obtain rfl := Option.some.inj H; have p467 : 0 ≤ (x5_1 : Int) := dq; have q467 : x5_1 < (l0.length : Int) := dq; obtain ⟨ad467, e467, hx467_0⟩ := Kd.at_int HR0.out x5_1 p467 q467
      cases e467
      replace p467 := eq_true p467; replace q467 := eq_true q467; go_wp2
      go_ret
      exact ⟨rf, by repeat (first | exact Drawn0.refl _ | apply Drawn0.step)⟩
     ·
      rw [if_neg c5] at H; have c5b0 : ((rd l0 x5_1) == a1) = false := beq_eq_false_iff_ne.mpr c5; have c5b1 : ((rd l0 x5_1) != a1) = true := bne_iff_ne.mpr c5; have H' := A_ H; clear H; have p467 : 0 ≤ (x5_1 : Int) := dq; have q467 : x5_1 < (l0.length : Int) := dq; obtain ⟨ad467, e467, hx467_0⟩ := Kd.at_int HR0.out x5_1 p467 q467
      cases e467
      replace p467 := eq_true p467; replace q467 := eq_true q467; go_wp2
      go_roundg k1
      case measure => have := HK1.out; omega
      case rel => exact ⟨(wrap64 (x5_1 + 1)), rf, H', ⟨by have := HK1.out; omega⟩, by repeat (first | exact Drawn0.refl _ | apply Drawn0.step)⟩
    ·
     rw [if_neg c4] at H; exact absurd H (by simp)
   ·
    rw [if_neg c3] at H; have c3b0 := decide_eq_false c3; clear c3; obtain rfl := Option.some.inj H; go_wp2
    go_ret
    exact ⟨rf, by repeat (first | exact Drawn0.refl _ | apply Drawn0.step)⟩

/-! ### spec_l6Order: function 37 -/
def Q24.l0 : Nat → List Int → Int → Int → Option (Bool)
  | 0, _, _, _ => none
  | k + 1, x0, x1, x5 => if x5 < x1 then ((Q42.f k x0 x5).bind fun t468 => (if t468 = true then (Q24.l0 k x0 x1 (wrap64 (x5 + 1))) else (some false))) else (some ((x0.length : Int) == x1))
def Q24.f (k : Nat) (l0 : List Int) (a1 : Int) : Option (Bool) := Q24.l0 k l0 a1 0
set_option maxHeartbeats 8000000 in
set_option maxRecDepth 100000 in
theorem Q24.calls (k : Nat) (A0 : Option Addr) (c0 : Nat) (l0 : List Int) (a1 : Int) (r : Bool) (w : World) (hr0 : Kd.C (Kd.int .i64) w A0 l0.length l0) (hc0 : l0.length ≤ c0) (h : Q24.f k l0 a1 = some r) :
    Calls Tryz.prog 37 #[.slice A0 l0.length c0, .int .i64 a1] w fun e w' => e = .returned (.bool r) ∧ Drawn0 w w' := by
 have HR0 := A_ hr0; have HC0 := A_ hc0; clear hr0 hc0; have H : (Q24.l0 k l0 a1 0) = some r := h; clear h; have H' := A_ H; clear H; go_enter Tryz.func37, Tryz.ntmps37
 go_wp2
 go_loopg [5] k (fun kq v5 w' => ∃ (x5_1 : Int), v5 = .int .i64 x5_1 ∧ Aside0 (Q24.l0 kq l0 a1 x5_1 = some r) ∧ Aside0 (kq ≤ k) ∧ Drawn0 w w')
 case atStart => exact ⟨(0), rf, H', ⟨Nat.le_refl _⟩, by repeat (first | exact Drawn0.refl _ | apply Drawn0.step)⟩
 case round =>
  clear H'; obtain ⟨x5_1, rfl, HA, HK1, ⟨m1, rfl⟩⟩ := hrel
  cases gk with
  | zero => exact absurd HA.out (by simp [Q24.l0])
  | succ k1 =>
   have H := HA.out; clear HA; simp only [Q24.l0] at H
   by_cases c3 : x5_1 < a1
   ·
    rw [if_pos c3] at H; have c3b0 := decide_eq_true c3; clear c3; replace H := bm H; obtain ⟨t468, A4, H⟩ := H; by_cases c5 : t468 = true
    ·
     subst c5
     rw [if_pos rfl] at H; have H' := A_ H; clear H; go_wp2_with (first | ((with_reducible refine gate_callee (f := 64) rfl ?_); refine gL (some 13) Tryz.func64 #[.slice A0 l0.length c0, .int .i64 x5_1] ?_; (with_reducible refine (Q42.calls k1 _ _ l0 x5_1 true _ ?side1 ?side2 A4.out).mono ?_); (case side1 => exact cq HR0.out); (case side2 => exact HC0.out); rintro e w' ⟨rfl, ⟨nd, rfl⟩⟩; refine ⟨_, rfl, ?_⟩))
     go_roundg k1
     case measure => have := HK1.out; omega
     case rel => exact ⟨(wrap64 (x5_1 + 1)), rf, H', ⟨by have := HK1.out; omega⟩, by repeat (first | exact Drawn0.refl _ | apply Drawn0.step)⟩
    ·
     replace c5 := Bool.eq_false_iff.mpr c5; subst c5
     rw [if_neg nf] at H; obtain rfl := Option.some.inj H; go_wp2_with (first | ((with_reducible refine gate_callee (f := 64) rfl ?_); refine gL (some 13) Tryz.func64 #[.slice A0 l0.length c0, .int .i64 x5_1] ?_; (with_reducible refine (Q42.calls k1 _ _ l0 x5_1 false _ ?side1 ?side2 A4.out).mono ?_); (case side1 => exact cq HR0.out); (case side2 => exact HC0.out); rintro e w' ⟨rfl, ⟨nd, rfl⟩⟩; refine ⟨_, rfl, ?_⟩))
     go_ret
     exact ⟨rf, by repeat (first | exact Drawn0.refl _ | apply Drawn0.step)⟩
   ·
    rw [if_neg c3] at H; have c3b0 := decide_eq_false c3; clear c3; obtain rfl := Option.some.inj H; go_wp2
    go_ret
    exact ⟨rf, by repeat (first | exact Drawn0.refl _ | apply Drawn0.step)⟩

end Go.Proofs.YtjhppcpjobofbabGreat.PFnRuns
