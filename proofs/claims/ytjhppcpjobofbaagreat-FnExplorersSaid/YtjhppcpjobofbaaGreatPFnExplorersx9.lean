-- Told shorter still by shrink2.py.
-- Printed, and told shorter by this session's program shrink.py.
-- Printed by this session's program myprint.py.
import Derived.Test.YtjhppcpjobofbaaGreatPFnExplorersx0
import Derived.Test.YtjhppcpjobofbaaGreatPFnExplorersx1
import Derived.Test.YtjhppcpjobofbaaGreatPFnExplorersx8
namespace Go.Proofs.YtjhppcpjobofbaaGreat.PFnExplorers
open Go.RowKit Go.Proofs.YtjhppcpjobofbaaGreat.Own Go.Proofs.YtjhppcpjobofbaaGreatW.PrintWords Go.Proofs.YtjhppcpjobofbaaGreatW.PrintLast Go.Proofs.YtjhppcpjobofbaaGreatW.PrintMore
attribute [local go_sem] max2_int min2_int max_two min_two max_three min_three max_four min_four   -- for this text's walks alone
set_option linter.unusedVariables false
set_option linter.unusedSimpArgs false

/-! ### spec_l6Starts: function 20 -/
mutual
def Q9.l0 : Nat → List Int → Int → Int → Bool → Option (Bool)
  | 0, _, _, _, _ => none
  | k + 1, x1, x5, x374000, x374001 => if x5 < (x1.length : Int) then (Q9.j1 k x1 x5 (decide (x5 ≤ 4)) x374000 x374001) else (Q9.j1 k x1 x5 false x374000 x374001)
def Q9.j1 : Nat → List Int → Int → Bool → Int → Bool → Option (Bool)
  | 0, _, _, _, _, _ => none
  | k + 1, x1, x5, x13, x374000, x374001 => if x13 = true then (if 0 ≤ x5 then (if x5 < (x1.length : Int) then ((Q43.f x374000 x374001 (rd x1 x5)).bind fun t375 => (if t375 = true then (Q9.l0 k x1 (wrap64 (x5 + 1)) x374000 x374001) else (some false))) else (none)) else (none)) else ((Q39.f x374000 x374001).bind fun t376 => (if t376 = true then ((Q33.f (x1.length : Int) 1 4).bind fun t377 => (some t377)) else (some false)))
end
def Q9.f (k : Nat) (a0_0 : Int) (a0_1 : Bool) (l1 : List Int) : Option (Bool) := Q9.l0 k l1 0 a0_0 a0_1
set_option maxHeartbeats 8000000 in
set_option maxRecDepth 100000 in
theorem Q9.calls (k : Nat) (a0_0 : Int) (a0_1 : Bool) (A1 : Option Addr) (c1 : Nat) (l1 : List Int) (r : Bool) (w : World) (hr1 : Kd.C (Kd.int .i64) w A1 l1.length l1) (hc1 : l1.length ≤ c1) (h : Q9.f k a0_0 a0_1 l1 = some r) :
    Calls Tryz.prog 20 #[.agg #[.int .i64 a0_0, .bool a0_1], .slice A1 l1.length c1] w fun e w' => e = .returned (.bool r) ∧ Below w.heap.size w w' := by
 have hu25 := Tryz.underlying25; have HR1 := A_ hr1; have HC1 := A_ hc1; clear hr1 hc1; have HB := A_ (Below.refl w.heap.size w); have H : (Q9.l0 k l1 0 a0_0 a0_1) = some r := h; clear h; have H' := A_ H; clear H; go_enter Tryz.func20, Tryz.ntmps20
 go_wp2_with (first | ((with_reducible refine gate_dst (N := 2) rfl ?_); (try (refine gate_guard (by rfl) ?_; dsimp only)); refine bx (N := 2) #[.int .i64 a0_0, .bool a0_1] 25 ?_; intro gb373 hg w3 hbox hb; have BK373 := A_ (hbox); have GW373 := A_ (bs hg (hq HB) : w.heap.size ≤ gb373); have GE373 := A_ (bs hg (hq HB) : w.heap.size ≤ gb373); replace HB := A_ (below_step (hq HB) hb); clear hb hbox hg))
 go_loopg [5] k (fun kq v5 w' => ∃ (x5_1 : Int), v5 = .int .i64 x5_1 ∧ Aside0 (Q9.l0 kq l1 x5_1 a0_0 a0_1 = some r) ∧ Aside0 (kq ≤ k) ∧ Aside0 (w'.heap[gb373]? = some (.cells #[.int .i64 a0_0, .bool a0_1] 25 (0, 0))) ∧ Aside0 (Below w.heap.size w w'))
 case atStart => exact ⟨(0), rf, H', ⟨Nat.le_refl _⟩, ⟨bq BK373⟩, ⟨hq HB⟩⟩
 case round =>
  clear H'; obtain ⟨x5_1, rfl, HA, HK1, BK373, HB⟩ := hrel
  cases gk with
  | zero => exact absurd HA.out (by simp [Q9.l0])
  | succ k1 =>
   have H := HA.out; clear HA; simp only [Q9.l0] at H
   have HC4 := A_ H; clear H; go_upto_region 2 with (fail)
   go_cut [13] (fun v13 wc => ∃ (kq : Nat) (x13_3 : Bool), v13 = .bool x13_3 ∧ Aside0 (Q9.j1 kq l1 x5_1 x13_3 a0_0 a0_1 = some r) ∧ Aside0 (kq ≤ k1) ∧ Aside0 (wc.heap[gb373]? = some (.cells #[.int .i64 a0_0, .bool a0_1] 25 (0, 0))) ∧ Aside0 (Below w.heap.size w wc))
   case first =>
    have H := HC4.out; clear HC4; by_cases c5 : x5_1 < (l1.length : Int)
    ·
     rw [if_pos c5] at H; have c5b0 := decide_eq_true c5; clear c5; (first | rw [c5b0] | (simp only [i64_w, i32_w]; rw [c5b0]) | skip); have H' := A_ H; clear H; go_wp2
     go_meet
     case rel => exact ⟨_, (decide (x5_1 ≤ 4)), rf, H', ⟨by have := HK1.out; first | omega | exact Nat.le_refl _⟩, ⟨bq BK373⟩, ⟨hq HB⟩⟩
    ·
     rw [if_neg c5] at H; have c5b0 := decide_eq_false c5; clear c5; (first | rw [c5b0] | (simp only [i64_w, i32_w]; rw [c5b0]) | skip); have H' := A_ H; clear H; go_wp2
     go_meet
     case rel => exact ⟨_, (false), rf, H', ⟨by have := HK1.out; first | omega | exact Nat.le_refl _⟩, ⟨bq BK373⟩, ⟨hq HB⟩⟩
   case rest =>
    clear HC4; (try clear c5); (try clear c5b0); obtain ⟨kq, x13_3, rfl, HA, HJ3, BK373, HB⟩ := hcut
    cases kq with
    | zero => exact absurd HA.out (by simp [Q9.j1])
    | succ kj3 =>
     have H := HA.out; clear HA; simp only [Q9.j1] at H
     by_cases c6 : x13_3 = true
     ·
      subst c6
      have H1 : (if 0 ≤ x5_1 then (if x5_1 < (l1.length : Int) then ((Q43.f a0_0 a0_1 (rd l1 x5_1)).bind fun t375 => (if t375 = true then (Q9.l0 kj3 l1 (wrap64 (x5_1 + 1)) a0_0 a0_1) else (some false))) else (none)) else (none)) = some r := by rw [if_pos rfl] at H; exact H
      clear H; have H := H1; clear H1; by_cases c7 : 0 ≤ x5_1
      ·
       rw [if_pos c7] at H; have c7b0 := decide_eq_true c7; clear c7; by_cases c8 : x5_1 < (l1.length : Int)
       ·
        rw [if_pos c8] at H; have c8b0 := decide_eq_true c8; clear c8; replace H := bm H; obtain ⟨t375, A9, H⟩ := H; by_cases c10 : t375 = true
        ·
         subst c10
         have H1 : (Q9.l0 kj3 l1 (wrap64 (x5_1 + 1)) a0_0 a0_1) = some r := by rw [if_pos rfl] at H; exact H
         clear H; have H := H1; clear H1; have H' := A_ H; clear H; try go_wp2
         replace BK373 := A_ (blk_drew BK373.out); replace HB := A_ (below_drew1 HB.out); have p374 : 0 ≤ (x5_1 : Int) := dq; have q374 : x5_1 < (l1.length : Int) := dq; obtain ⟨ad374, e374, hx374_0⟩ := Kd.at_int HR1.out x5_1 p374 q374; have hw374_0 := hx374_0
         cases e374
         replace hx374_0 := (HB.out.cell (World.block_lt_of_cell? w _ hx374_0)).trans hx374_0; replace p374 := eq_true p374; replace q374 := eq_true q374; refine start_ (n := 7) (S := fun w' => w'.cell? ⟨gb373, 0, none⟩ = some (.int .i64 a0_0) ∧ w'.cell? ⟨gb373, 1, none⟩ = some (.bool a0_1) ∧ w'.cell? (ad374.add (x5_1).toNat) = some (.int .i64 (rd l1 x5_1))) (ds := []) #[false, false, false, false, false, false, false] (by kernel_rfl) rfl rfl ⟨bc BK373 0, bc BK373 1, ((HB.out.cell (World.block_lt_of_cell? w _ hw374_0)).trans hw374_0)⟩ (fun hHeld => ?_); generalize wc.drew = w11 at BK373 HB hx374_0 hHeld ⊢; refine pu (i := 1) (N := some 17) #[false, true, false, false, false, false, false] ?_; refine pu (i := 2) (N := some 18) #[false, true, true, false, false, false, false] ?_; refine pu (i := 3) (N := some 19) #[false, true, true, true, false, false, false] ?_; refine tk (i := 0) (N := some 16) hHeld #[true, true, true, true, false, false, false] ?_; refine tk (i := 4) (N := some 20) hHeld #[true, true, true, true, true, false, false] ?_; refine on (i := 5) (N := some 21) #[true, true, true, true, true, true, false] (fun K hK => ?_); refine go_ Tryz.func39 #[.agg #[.int .i64 a0_0, .bool a0_1], .int .i64 (rd l1 x5_1)] ?_; with_reducible refine (Q43.calls a0_0 a0_1 (rd l1 x5_1) true _ A9.out).mono ?_
         rintro e w12 ⟨rfl, hb⟩; refine ⟨_, rfl, ?_⟩; replace BK373 := A_ (blk_below (bq BK373) hb); replace HB := A_ (below_step (hq HB) hb); clear hb; refine hK.out _ _ ⟨bc BK373 0, bc BK373 1, ((HB.out.cell (World.block_lt_of_cell? w _ hw374_0)).trans hw374_0)⟩ (fun hHeld => ?_); clear hK K; refine nq_ (some 21) ?_; refine pu (i := 6) (N := some 22) #[true, true, true, true, true, true, true] ?_; refine done_ (by kernel_rfl) ?_; try go_wp2
         go_roundg kj3
         case measure => have := HK1.out; have := HJ3.out; omega
         case rel => exact ⟨(wrap64 (x5_1 + 1)), rf, H', ⟨by have := HK1.out; have := HJ3.out; omega⟩, ⟨bq BK373⟩, ⟨hq HB⟩⟩
        ·
         replace c10 := Bool.eq_false_iff.mpr c10; subst c10
         have H1 : (some false) = some r := by rw [if_neg (show ¬ (false = true) by decide)] at H; exact H
         clear H; have H := H1; clear H1; obtain rfl := Option.some.inj H; try go_wp2
         replace BK373 := A_ (blk_drew BK373.out); replace HB := A_ (below_drew1 HB.out); have p374 : 0 ≤ (x5_1 : Int) := dq; have q374 : x5_1 < (l1.length : Int) := dq; obtain ⟨ad374, e374, hx374_0⟩ := Kd.at_int HR1.out x5_1 p374 q374; have hw374_0 := hx374_0
         cases e374
         replace hx374_0 := (HB.out.cell (World.block_lt_of_cell? w _ hx374_0)).trans hx374_0; replace p374 := eq_true p374; replace q374 := eq_true q374; refine start_ (n := 7) (S := fun w' => w'.cell? ⟨gb373, 0, none⟩ = some (.int .i64 a0_0) ∧ w'.cell? ⟨gb373, 1, none⟩ = some (.bool a0_1) ∧ w'.cell? (ad374.add (x5_1).toNat) = some (.int .i64 (rd l1 x5_1))) (ds := []) #[false, false, false, false, false, false, false] (by kernel_rfl) rfl rfl ⟨bc BK373 0, bc BK373 1, ((HB.out.cell (World.block_lt_of_cell? w _ hw374_0)).trans hw374_0)⟩ (fun hHeld => ?_); generalize wc.drew = w13 at BK373 HB hx374_0 hHeld ⊢; refine pu (i := 1) (N := some 17) #[false, true, false, false, false, false, false] ?_; refine pu (i := 2) (N := some 18) #[false, true, true, false, false, false, false] ?_; refine pu (i := 3) (N := some 19) #[false, true, true, true, false, false, false] ?_; refine tk (i := 0) (N := some 16) hHeld #[true, true, true, true, false, false, false] ?_; refine tk (i := 4) (N := some 20) hHeld #[true, true, true, true, true, false, false] ?_; refine on (i := 5) (N := some 21) #[true, true, true, true, true, true, false] (fun K hK => ?_); refine go_ Tryz.func39 #[.agg #[.int .i64 a0_0, .bool a0_1], .int .i64 (rd l1 x5_1)] ?_; with_reducible refine (Q43.calls a0_0 a0_1 (rd l1 x5_1) false _ A9.out).mono ?_
         rintro e w14 ⟨rfl, hb⟩; refine ⟨_, rfl, ?_⟩; replace BK373 := A_ (blk_below (bq BK373) hb); replace HB := A_ (below_step (hq HB) hb); clear hb; refine hK.out _ _ ⟨bc BK373 0, bc BK373 1, ((HB.out.cell (World.block_lt_of_cell? w _ hw374_0)).trans hw374_0)⟩ (fun hHeld => ?_); clear hK K; refine nq_ (some 21) ?_; refine pu (i := 6) (N := some 22) #[true, true, true, true, true, true, true] ?_; refine done_ (by kernel_rfl) ?_; try go_wp2
         go_ret
         exact ⟨rt, hq HB⟩
       ·
        rw [if_neg c8] at H; exact absurd H (by simp)
      ·
       rw [if_neg c7] at H; exact absurd H (by simp)
     ·
      replace c6 := Bool.eq_false_iff.mpr c6; subst c6
      have H1 : ((Q39.f a0_0 a0_1).bind fun t376 => (if t376 = true then ((Q33.f (l1.length : Int) 1 4).bind fun t377 => (some t377)) else (some false))) = some r := by rw [if_neg (show ¬ (false = true) by decide)] at H; exact H
      clear H; have H := H1; clear H1; replace H := bm H; obtain ⟨t376, A15, H⟩ := H; by_cases c16 : t376 = true
      ·
       subst c16
       have H1 : ((Q33.f (l1.length : Int) 1 4).bind fun t377 => (some t377)) = some r := by rw [if_pos rfl] at H; exact H
       clear H; have H := H1; clear H1; replace H := bm H; obtain ⟨t377, A17, H⟩ := H; obtain rfl := Option.some.inj H; have hcz18_0 : wc.cell? ⟨gb373, 0, none⟩ = some (.int .i64 a0_0) := bc BK373 0; have hcz18_1 : wc.cell? ⟨gb373, 1, none⟩ = some (.bool a0_1) := bc BK373 1; have hfz18_0 := blk_frozen BK373.out 0; have hfz18_1 := blk_frozen BK373.out 1; go_wp2_with (first | ((with_reducible refine gate_callee (f := 26) rfl ?_); refine gL (some 24) Tryz.func26 #[.agg #[.int .i64 a0_0, .bool a0_1]] ?_; (with_reducible refine (Q39.calls a0_0 a0_1 true _ A15.out).mono ?_); rintro e w19 ⟨rfl, hb⟩; refine ⟨_, rfl, ?_⟩; replace BK373 := A_ (blk_below (bq BK373) hb); replace HB := A_ (below_step (hq HB) hb); clear hb) | (go_at_call 40; (with_reducible refine (Q33.calls (l1.length : Int) 1 4 t377 _ A17.out).mono ?_); rintro e w' ⟨rfl, ⟨nd, rfl⟩⟩))
       go_ret
       exact ⟨rt, hq HB⟩
      ·
       replace c16 := Bool.eq_false_iff.mpr c16; subst c16
       have H1 : (some false) = some r := by rw [if_neg (show ¬ (false = true) by decide)] at H; exact H
       clear H; have H := H1; clear H1; obtain rfl := Option.some.inj H; have hcz20_0 : wc.cell? ⟨gb373, 0, none⟩ = some (.int .i64 a0_0) := bc BK373 0; have hcz20_1 : wc.cell? ⟨gb373, 1, none⟩ = some (.bool a0_1) := bc BK373 1; have hfz20_0 := blk_frozen BK373.out 0; have hfz20_1 := blk_frozen BK373.out 1; go_wp2_with (first | ((with_reducible refine gate_callee (f := 26) rfl ?_); refine gL (some 24) Tryz.func26 #[.agg #[.int .i64 a0_0, .bool a0_1]] ?_; (with_reducible refine (Q39.calls a0_0 a0_1 false _ A15.out).mono ?_); rintro e w21 ⟨rfl, hb⟩; refine ⟨_, rfl, ?_⟩; replace BK373 := A_ (blk_below (bq BK373) hb); replace HB := A_ (below_step (hq HB) hb); clear hb))
       go_ret
       exact ⟨rt, hq HB⟩

/-! ### spec_l2Gap: function 45 -/
def Q81.f (a0_0 : Int) (a0_1 : Bool) (a1 : Int) (a2 : Int) : Option (Int) := (Q14.f (wrap64 (a1 - a2)) (wrap64 (a2 - a1))).bind fun t379 => (if a0_1 = true then ((Q22.f t379 (wrap64 (a0_0 - t379))).bind fun t380 => (some t380)) else (some t379))
set_option maxHeartbeats 8000000 in
set_option maxRecDepth 100000 in
theorem Q81.calls (a0_0 : Int) (a0_1 : Bool) (a1 : Int) (a2 : Int) (r : Int) (w : World) (h : Q81.f a0_0 a0_1 a1 a2 = some r) :
    Calls Tryz.prog 45 #[.agg #[.int .i64 a0_0, .bool a0_1], .int .i64 a1, .int .i64 a2] w fun e w' => e = .returned (.int .i64 r) ∧ Below w.heap.size w w' := by
 have hu25 := Tryz.underlying25; have HB := A_ (Below.refl w.heap.size w); have H : ((Q14.f (wrap64 (a1 - a2)) (wrap64 (a2 - a1))).bind fun t379 => (if a0_1 = true then ((Q22.f t379 (wrap64 (a0_0 - t379))).bind fun t380 => (some t380)) else (some t379))) = some r := h; clear h; replace H := bm H; obtain ⟨t379, A4, H⟩ := H; by_cases c5 : a0_1 = true
 ·
  subst c5
  have H1 : ((Q22.f t379 (wrap64 (a0_0 - t379))).bind fun t380 => (some t380)) = some r := by rw [if_pos rfl] at H; exact H
  clear H; have H := H1; clear H1; replace H := bm H; obtain ⟨t380, A6, H⟩ := H; obtain rfl := Option.some.inj H; go_enter Tryz.func45, Tryz.ntmps45
  go_wp2_with (first | ((with_reducible refine gate_dst (N := 3) rfl ?_); refine bx (N := 3) #[.int .i64 a0_0, .bool true] 25 ?_; intro gb378 hg w7 hbox hb; have BK378 := A_ (hbox); have GW378 := A_ (bs hg (hq HB) : w.heap.size ≤ gb378); have GE378 := A_ (bs hg (hq HB) : w.heap.size ≤ gb378); replace HB := A_ (below_step (hq HB) hb); clear hb hbox hg) | ((with_reducible refine gate_callee (f := 46) rfl ?_); refine gL (some 14) Tryz.func46 #[.int .i64 (wrap64 (a1 - a2)), .int .i64 (wrap64 (a2 - a1))] ?_; (with_reducible refine (Q14.calls (wrap64 (a1 - a2)) (wrap64 (a2 - a1)) t379 _ A4.out).mono ?_); rintro e w' ⟨rfl, ⟨nd, rfl⟩⟩; refine ⟨_, rfl, ?_⟩; have hcz8_0 : w7.cell? ⟨gb378, 0, none⟩ = some (.int .i64 a0_0) := bc BK378 0; have hcz8_1 : w7.cell? ⟨gb378, 1, none⟩ = some (.bool true) := bc BK378 1; have hfz8_0 := blk_frozen BK378.out 0; have hfz8_1 := blk_frozen BK378.out 1) | ((with_reducible refine gate_callee (f := 44) rfl ?_); refine gL (some 22) Tryz.func44 #[.int .i64 t379, .int .i64 (wrap64 (a0_0 - t379))] ?_; (with_reducible refine (Q22.calls t379 (wrap64 (a0_0 - t379)) t380 _ A6.out).mono ?_); rintro e w' ⟨rfl, ⟨nd, rfl⟩⟩; refine ⟨_, rfl, ?_⟩))
  go_ret
  exact ⟨rt, hq HB⟩
 ·
  replace c5 := Bool.eq_false_iff.mpr c5; subst c5
  have H1 : (some t379) = some r := by rw [if_neg (show ¬ (false = true) by decide)] at H; exact H
  clear H; have H := H1; clear H1; obtain rfl := Option.some.inj H; go_enter Tryz.func45, Tryz.ntmps45
  go_wp2_with (first | ((with_reducible refine gate_dst (N := 3) rfl ?_); refine bx (N := 3) #[.int .i64 a0_0, .bool false] 25 ?_; intro gb378 hg w9 hbox hb; have BK378 := A_ (hbox); have GW378 := A_ (bs hg (hq HB) : w.heap.size ≤ gb378); have GE378 := A_ (bs hg (hq HB) : w.heap.size ≤ gb378); replace HB := A_ (below_step (hq HB) hb); clear hb hbox hg) | ((with_reducible refine gate_callee (f := 46) rfl ?_); refine gL (some 14) Tryz.func46 #[.int .i64 (wrap64 (a1 - a2)), .int .i64 (wrap64 (a2 - a1))] ?_; (with_reducible refine (Q14.calls (wrap64 (a1 - a2)) (wrap64 (a2 - a1)) t379 _ A4.out).mono ?_); rintro e w' ⟨rfl, ⟨nd, rfl⟩⟩; refine ⟨_, rfl, ?_⟩; have hcz10_0 : w9.cell? ⟨gb378, 0, none⟩ = some (.int .i64 a0_0) := bc BK378 0; have hcz10_1 : w9.cell? ⟨gb378, 1, none⟩ = some (.bool false) := bc BK378 1; have hfz10_0 := blk_frozen BK378.out 0; have hfz10_1 := blk_frozen BK378.out 1))
  go_ret
  exact ⟨rt, hq HB⟩

/-! ### spec_l6Bound: function 25 -/
mutual
def Q12.l0 : Nat → List Int → Int → Int → Int → Int → Bool → Option (Int)
  | 0, _, _, _, _, _, _ => none
  | k + 1, x1, x5, x6, x7, x382000, x382001 => if x7 < x382000 then (Q12.l1 k x1 x5 x6 x7 x382000 0 x382000 x382001) else (if (x1.length : Int) = 0 then (none) else ((Q14.f x5 (wrap64 (Int.tdiv (wrap64 ((wrap64 (x6 + (x1.length : Int))) - 1)) (x1.length : Int)))).bind fun t382 => (some t382)))
def Q12.l1 : Nat → List Int → Int → Int → Int → Int → Int → Int → Bool → Option (Int)
  | 0, _, _, _, _, _, _, _, _ => none
  | k + 1, x1, x5, x6, x7, x8, x9, x382000, x382001 => if x9 < (x1.length : Int) then (if 0 ≤ x9 then ((Q81.f x382000 x382001 x7 (rd x1 x9)).bind fun t384 => ((Q22.f x8 t384).bind fun t385 => (Q12.l1 k x1 x5 x6 x7 t385 (wrap64 (x9 + 1)) x382000 x382001))) else (none)) else ((Q14.f x5 x8).bind fun t386 => (if x8 > 0 then (Q12.l0 k x1 t386 (wrap64 (x6 + 1)) (wrap64 (x7 + 1)) x382000 x382001) else (Q12.l0 k x1 t386 x6 (wrap64 (x7 + 1)) x382000 x382001)))
end
def Q12.f (k : Nat) (a0_0 : Int) (a0_1 : Bool) (l1 : List Int) : Option (Int) := Q12.l0 k l1 0 0 0 a0_0 a0_1
def Q12.T9 : Bool × List (List Nat × List Nat) := (true, [([], []), ([], []), ([], []), ([], []), ([], []), ([3, 4], [3, 4]), ([5], [5]), ([1, 2, 6], [1, 2, 6]), ([0, 7, 7], [0, 7]), ([8, 8, 0, 1, 2, 3, 4, 5, 6, 7, 8], [0, 8])])
def Q12.B9 : List Nat := [0, 0, 0, 0, 0, 24, 56, 126, 255, 511]
theorem Q12.tab9 : rtab .any (opsOf Tryz.f25 9) = Q12.T9 := by kernel_rfl
theorem Q12.bits9 : waitsOk Q12.T9.2 Q12.B9 = true := by kernel_rfl
set_option maxHeartbeats 8000000 in
set_option maxRecDepth 100000 in
theorem Q12.calls (k : Nat) (a0_0 : Int) (a0_1 : Bool) (A1 : Option Addr) (c1 : Nat) (l1 : List Int) (r : Int) (w : World) (hr1 : Kd.C (Kd.int .i64) w A1 l1.length l1) (hc1 : l1.length ≤ c1) (h : Q12.f k a0_0 a0_1 l1 = some r) :
    Calls Tryz.prog 25 #[.agg #[.int .i64 a0_0, .bool a0_1], .slice A1 l1.length c1] w fun e w' => e = .returned (.int .i64 r) ∧ Below w.heap.size w w' := by
 have hu25 := Tryz.underlying25; have HR1 := A_ hr1; have HC1 := A_ hc1; clear hr1 hc1; have HB := A_ (Below.refl w.heap.size w); have H : (Q12.l0 k l1 0 0 0 a0_0 a0_1) = some r := h; clear h; have H' := A_ H; clear H; go_enter Tryz.func25, Tryz.ntmps25
 go_wp2_with (first | ((with_reducible refine gate_dst (N := 2) rfl ?_); refine bx (N := 2) #[.int .i64 a0_0, .bool a0_1] 25 ?_; intro gb381 hg w3 hbox hb; have BK381 := A_ (hbox); have GW381 := A_ (bs hg (hq HB) : w.heap.size ≤ gb381); have GE381 := A_ (bs hg (hq HB) : w.heap.size ≤ gb381); replace HB := A_ (below_step (hq HB) hb); clear hb hbox hg))
 go_loopg [5, 6, 7] k (fun kq v5 v6 v7 w' => ∃ (x5_1 : Int) (x6_1 : Int) (x7_1 : Int), v5 = .int .i64 x5_1 ∧ v6 = .int .i64 x6_1 ∧ v7 = .int .i64 x7_1 ∧ Aside0 (Q12.l0 kq l1 x5_1 x6_1 x7_1 a0_0 a0_1 = some r) ∧ Aside0 (kq ≤ k) ∧ Aside0 (w'.heap[gb381]? = some (.cells #[.int .i64 a0_0, .bool a0_1] 25 (0, 0))) ∧ Aside0 (Below w.heap.size w w'))
 case atStart => exact ⟨(0), (0), (0), rf, rf, rf, H', ⟨Nat.le_refl _⟩, ⟨bq BK381⟩, ⟨hq HB⟩⟩
 case round =>
  clear H'; obtain ⟨x5_1, x6_1, x7_1, rfl, rfl, rfl, HA, HK1, BK381, HB⟩ := hrel
  cases gk with
  | zero => exact absurd HA.out (by simp [Q12.l0])
  | succ k1 =>
   have H := HA.out; clear HA; simp only [Q12.l0] at H
   by_cases c4 : x7_1 < a0_0
   ·
    rw [if_pos c4] at H; have c4b0 := decide_eq_true c4; clear c4; have H' := A_ H; clear H; have hcz5_0 : wr.cell? ⟨gb381, 0, none⟩ = some (.int .i64 a0_0) := bc BK381 0; have hcz5_1 : wr.cell? ⟨gb381, 1, none⟩ = some (.bool a0_1) := bc BK381 1; have hfz5_0 := blk_frozen BK381.out 0; have hfz5_1 := blk_frozen BK381.out 1; go_wp2
    go_loopg [8, 9] k1 (fun kq v8 v9 w' => ∃ (x8_2 : Int) (x9_2 : Int), v8 = .int .i64 x8_2 ∧ v9 = .int .i64 x9_2 ∧ Aside0 (Q12.l1 kq l1 x5_1 x6_1 x7_1 x8_2 x9_2 a0_0 a0_1 = some r) ∧ Aside0 (kq ≤ k1) ∧ Aside0 (w'.heap[gb381]? = some (.cells #[.int .i64 a0_0, .bool a0_1] 25 (0, 0))) ∧ Aside0 (Below w.heap.size w w'))
    case atStart => exact ⟨(a0_0), (0), rf, rf, H', ⟨Nat.le_refl _⟩, ⟨bq BK381⟩, ⟨hq HB⟩⟩
    case round =>
     clear H'; (try clear c4); (try clear c4b0); (try clear hcz5_0); (try clear hcz5_1); (try clear hfz5_0); (try clear hfz5_1); obtain ⟨x8_2, x9_2, rfl, rfl, HA, HK2, BK381, HB⟩ := hrel
     cases gk with
     | zero => exact absurd HA.out (by simp [Q12.l1])
     | succ k2 =>
      have H := HA.out; clear HA; simp only [Q12.l1] at H
      by_cases c6 : x9_2 < (l1.length : Int)
      ·
       rw [if_pos c6] at H; have c6b0 := decide_eq_true c6; clear c6; by_cases c7 : 0 ≤ x9_2
       ·
        rw [if_pos c7] at H; have c7b0 := decide_eq_true c7; clear c7; replace H := bm H; obtain ⟨t384, A8, H⟩ := H; replace H := bm H; obtain ⟨t385, A9, H⟩ := H; have H' := A_ H; clear H; try go_wp2
        replace BK381 := A_ (blk_drew BK381.out); replace HB := A_ (below_drew1 HB.out); have p383 : 0 ≤ (x9_2 : Int) := dq; have q383 : x9_2 < (l1.length : Int) := dq; obtain ⟨ad383, e383, hx383_0⟩ := Kd.at_int HR1.out x9_2 p383 q383; have hw383_0 := hx383_0
        cases e383
        replace hx383_0 := (HB.out.cell (World.block_lt_of_cell? w _ hx383_0)).trans hx383_0; replace p383 := eq_true p383; replace q383 := eq_true q383; refine start_ (n := 10) (S := fun w' => w'.cell? ⟨gb381, 0, none⟩ = some (.int .i64 a0_0) ∧ w'.cell? ⟨gb381, 1, none⟩ = some (.bool a0_1) ∧ w'.cell? (ad383.add (x9_2).toNat) = some (.int .i64 (rd l1 x9_2))) (ds := []) #[false, false, false, false, false, false, false, false, false, false] (by kernel_rfl) rfl rfl ⟨bc BK381 0, bc BK381 1, ((HB.out.cell (World.block_lt_of_cell? w _ hw383_0)).trans hw383_0)⟩ (fun hHeld => ?_); refine with_tabW Q12.tab9 Q12.bits9 (fun HT_ HW_ => ?_); generalize wr.drew = w10 at BK381 HB hx383_0 hHeld ⊢; refine puT (i := 0) (N := some 24) HT_ #[true, false, false, false, false, false, false, false, false, false] ?_; refine puT (i := 2) (N := some 26) HT_ #[true, false, true, false, false, false, false, false, false, false] ?_; refine puT (i := 3) (N := some 27) HT_ #[true, false, true, true, false, false, false, false, false, false] ?_; refine puT (i := 4) (N := some 28) HT_ #[true, false, true, true, true, false, false, false, false, false] ?_; refine puT (i := 5) (N := some 29) HT_ #[true, false, true, true, true, true, false, false, false, false] ?_; refine tkT (i := 1) (N := some 25) HT_ HW_ hHeld #[true, true, true, true, true, true, false, false, false, false] ?_; refine tkT (i := 6) (N := some 30) HT_ HW_ hHeld #[true, true, true, true, true, true, true, false, false, false] ?_; refine onT (i := 7) (N := some 31) HT_ #[true, true, true, true, true, true, true, true, false, false] (fun K hK => ?_); refine go_ Tryz.func45 #[.agg #[.int .i64 a0_0, .bool a0_1], .int .i64 x7_1, .int .i64 (rd l1 x9_2)] ?_; with_reducible refine (Q81.calls a0_0 a0_1 x7_1 (rd l1 x9_2) t384 _ A8.out).mono ?_
        rintro e w11 ⟨rfl, hb⟩; refine ⟨_, rfl, ?_⟩; replace BK381 := A_ (blk_below (bq BK381) hb); replace HB := A_ (below_step (hq HB) hb); clear hb; refine hK.out _ _ ⟨bc BK381 0, bc BK381 1, ((HB.out.cell (World.block_lt_of_cell? w _ hw383_0)).trans hw383_0)⟩ (fun hHeld => ?_); clear hK K; refine nq_ (some 31) ?_; refine onT (i := 8) (N := some 32) HT_ #[true, true, true, true, true, true, true, true, true, false] (fun K hK => ?_); refine go_ Tryz.func44 #[.int .i64 x8_2, .int .i64 t384] ?_; with_reducible refine (Q22.calls x8_2 t384 t385 _ A9.out).mono ?_
        rintro e w' ⟨rfl, ⟨nd, rfl⟩⟩; refine ⟨_, rfl, ?_⟩; refine hK.out _ _ ⟨bc BK381 0, bc BK381 1, ((HB.out.cell (World.block_lt_of_cell? w _ hw383_0)).trans hw383_0)⟩ (fun hHeld => ?_); clear hK K; refine nq_ (some 32) ?_; refine puT (i := 9) (N := some 8) HT_ #[true, true, true, true, true, true, true, true, true, true] ?_; refine done_ (done_of HT_.out (by kernel_rfl)) ?_; try go_wp2
        go_roundg k2
        case measure => have := HK1.out; have := HK2.out; omega
        case rel => exact ⟨(t385), (wrap64 (x9_2 + 1)), rf, rf, H', ⟨by have := HK1.out; have := HK2.out; omega⟩, ⟨bq BK381⟩, ⟨hq HB⟩⟩
       ·
        rw [if_neg c7] at H; exact absurd H (by simp)
      ·
       rw [if_neg c6] at H; have c6b0 := decide_eq_false c6; clear c6; replace H := bm H; obtain ⟨t386, A12, H⟩ := H; by_cases c13 : x8_2 > 0
       ·
        rw [if_pos c13] at H; have c13b0 : decide (0 < x8_2) = true := decide_eq_true c13; clear c13; have H' := A_ H; clear H; go_wp2_with (first | ((with_reducible refine gate_callee (f := 46) rfl ?_); refine gL (some 35) Tryz.func46 #[.int .i64 x5_1, .int .i64 x8_2] ?_; (with_reducible refine (Q14.calls x5_1 x8_2 t386 _ A12.out).mono ?_); rintro e w' ⟨rfl, ⟨nd, rfl⟩⟩; refine ⟨_, rfl, ?_⟩))
        go_roundg k2
        case measure => have := HK1.out; have := HK2.out; omega
        case rel => exact ⟨(t386), (wrap64 (x6_1 + 1)), (wrap64 (x7_1 + 1)), rf, rf, rf, H', ⟨by have := HK1.out; have := HK2.out; omega⟩, ⟨bq BK381⟩, ⟨hq HB⟩⟩
       ·
        rw [if_neg c13] at H; have c13b0 : decide (0 < x8_2) = false := decide_eq_false c13; clear c13; have H' := A_ H; clear H; go_wp2_with (first | ((with_reducible refine gate_callee (f := 46) rfl ?_); refine gL (some 35) Tryz.func46 #[.int .i64 x5_1, .int .i64 x8_2] ?_; (with_reducible refine (Q14.calls x5_1 x8_2 t386 _ A12.out).mono ?_); rintro e w' ⟨rfl, ⟨nd, rfl⟩⟩; refine ⟨_, rfl, ?_⟩))
        go_roundg k2
        case measure => have := HK1.out; have := HK2.out; omega
        case rel => exact ⟨(t386), (x6_1), (wrap64 (x7_1 + 1)), rf, rf, rf, H', ⟨by have := HK1.out; have := HK2.out; omega⟩, ⟨bq BK381⟩, ⟨hq HB⟩⟩
   ·
    rw [if_neg c4] at H; have c4b0 := decide_eq_false c4; clear c4; by_cases c14 : (l1.length : Int) = 0
    ·
     rw [if_pos c14] at H; exact absurd H (by simp)
    ·
     rw [if_neg c14] at H; have c14b0 : ((l1.length : Int) == 0) = false := beq_eq_false_iff_ne.mpr c14; have c14b1 : ((l1.length : Int) != 0) = true := bne_iff_ne.mpr c14
     have c14b2 : ¬ (l1 = []) := fun h_ => c14 (by rw [h_]; rfl)
     replace H := bm H; obtain ⟨t382, A15, H⟩ := H; obtain rfl := Option.some.inj H; have hcz16_0 : wr.cell? ⟨gb381, 0, none⟩ = some (.int .i64 a0_0) := bc BK381 0; have hcz16_1 : wr.cell? ⟨gb381, 1, none⟩ = some (.bool a0_1) := bc BK381 1; have hfz16_0 := blk_frozen BK381.out 0; have hfz16_1 := blk_frozen BK381.out 1; go_wp2_with (first | ((with_reducible refine gate_callee (f := 46) rfl ?_); refine gL (some 49) Tryz.func46 #[.int .i64 x5_1, .int .i64 (wrap64 (Int.tdiv (wrap64 ((wrap64 (x6_1 + (l1.length : Int))) - 1)) (l1.length : Int)))] ?_; (with_reducible refine (Q14.calls x5_1 (wrap64 (Int.tdiv (wrap64 ((wrap64 (x6_1 + (l1.length : Int))) - 1)) (l1.length : Int))) t382 _ A15.out).mono ?_); rintro e w' ⟨rfl, ⟨nd, rfl⟩⟩; refine ⟨_, rfl, ?_⟩))
     go_ret
     exact ⟨rt, hq HB⟩

/-! ### spec_l1Has: function 65 -/
def Q46.l0 : Nat → List Int → Int → Int → Option (Bool)
  | 0, _, _, _ => none
  | k + 1, x0, x1, x5 => if x5 < (x0.length : Int) then (if 0 ≤ x5 then (if (rd x0 x5) = x1 then (some true) else (Q46.l0 k x0 x1 (wrap64 (x5 + 1)))) else (none)) else (some false)
def Q46.f (k : Nat) (l0 : List Int) (a1 : Int) : Option (Bool) := Q46.l0 k l0 a1 0
set_option maxHeartbeats 8000000 in
set_option maxRecDepth 100000 in
theorem Q46.calls (k : Nat) (A0 : Option Addr) (c0 : Nat) (l0 : List Int) (a1 : Int) (r : Bool) (w : World) (hr0 : Kd.C (Kd.int .i64) w A0 l0.length l0) (hc0 : l0.length ≤ c0) (h : Q46.f k l0 a1 = some r) :
    Calls Tryz.prog 65 #[.slice A0 l0.length c0, .int .i64 a1] w fun e w' => e = .returned (.bool r) ∧ Drawn0 w w' := by
 have HR0 := A_ hr0; have HC0 := A_ hc0; clear hr0 hc0; have H : (Q46.l0 k l0 a1 0) = some r := h; clear h; have H' := A_ H; clear H; go_enter Tryz.func65, Tryz.ntmps65
 go_wp2
 go_loopg [5] k (fun kq v5 w' => ∃ (x5_1 : Int), v5 = .int .i64 x5_1 ∧ Aside0 (Q46.l0 kq l0 a1 x5_1 = some r) ∧ Aside0 (kq ≤ k) ∧ Drawn0 w w')
 case atStart => exact ⟨(0), rf, H', ⟨Nat.le_refl _⟩, by repeat (first | exact Drawn0.refl _ | apply Drawn0.step)⟩
 case round =>
  clear H'; obtain ⟨x5_1, rfl, HA, HK1, ⟨m1, rfl⟩⟩ := hrel
  cases gk with
  | zero => exact absurd HA.out (by simp [Q46.l0])
  | succ k1 =>
   have H := HA.out; clear HA; simp only [Q46.l0] at H
   by_cases c3 : x5_1 < (l0.length : Int)
   ·
    rw [if_pos c3] at H; have c3b0 := decide_eq_true c3; clear c3; by_cases c4 : 0 ≤ x5_1
    ·
     rw [if_pos c4] at H; have c4b0 := decide_eq_true c4; clear c4; by_cases c5 : (rd l0 x5_1) = a1
     ·
      rw [if_pos c5] at H; have c5b0 : ((rd l0 x5_1) == a1) = true := beq_iff_eq.mpr c5; have c5b1 : ((rd l0 x5_1) != a1) = false := bne_eq_false_iff_eq.mpr c5; clear c5; obtain rfl := Option.some.inj H; have p387 : 0 ≤ (x5_1 : Int) := dq; have q387 : x5_1 < (l0.length : Int) := dq; obtain ⟨ad387, e387, hx387_0⟩ := Kd.at_int HR0.out x5_1 p387 q387
      cases e387
      replace p387 := eq_true p387; replace q387 := eq_true q387; go_wp2
      go_ret
      exact ⟨rf, by repeat (first | exact Drawn0.refl _ | apply Drawn0.step)⟩
     ·
      rw [if_neg c5] at H; have c5b0 : ((rd l0 x5_1) == a1) = false := beq_eq_false_iff_ne.mpr c5; have c5b1 : ((rd l0 x5_1) != a1) = true := bne_iff_ne.mpr c5; have H' := A_ H; clear H; have p387 : 0 ≤ (x5_1 : Int) := dq; have q387 : x5_1 < (l0.length : Int) := dq; obtain ⟨ad387, e387, hx387_0⟩ := Kd.at_int HR0.out x5_1 p387 q387
      cases e387
      replace p387 := eq_true p387; replace q387 := eq_true q387; go_wp2
      go_roundg k1
      case measure => have := HK1.out; omega
      case rel => exact ⟨(wrap64 (x5_1 + 1)), rf, H', ⟨by have := HK1.out; omega⟩, by repeat (first | exact Drawn0.refl _ | apply Drawn0.step)⟩
    ·
     rw [if_neg c4] at H; exact absurd H (by simp)
   ·
    rw [if_neg c3] at H; have c3b0 := decide_eq_false c3; clear c3; obtain rfl := Option.some.inj H; go_wp2
    go_ret
    exact ⟨rf, by repeat (first | exact Drawn0.refl _ | apply Drawn0.step)⟩

/-! ### spec_l1Own: function 66 -/
def Q70.f (l0 : List Int) : Option (List Int) := (some (([] : List Int) : List Int)).bind fun y388 => (if y388.length + l0.length < 17592186044416 then (some (y388 ++ l0)) else (none))
set_option maxHeartbeats 8000000 in
set_option maxRecDepth 100000 in
theorem Q70.calls (A0 : Option Addr) (c0 : Nat) (l0 : List Int) (r : List Int) (w : World) (hr0 : Kd.C (Kd.int .i64) w A0 l0.length l0) (hc0 : l0.length ≤ c0) (h : Q70.f l0 = some r) :
    Calls Tryz.prog 66 #[.slice A0 l0.length c0] w fun e w' => ∃ v0_ : Value, e = .returned (v0_) ∧ Kd.R (Kd.int .i64) 3 w' w.heap.size (fun _ => True) v0_ r ∧ Below w.heap.size w w' := by
 have HR0 := A_ hr0; have HC0 := A_ hc0; clear hr0 hc0; have HB := A_ (Below.refl w.heap.size w); have H : ((some (([] : List Int) : List Int)).bind fun y388 => (if y388.length + l0.length < 17592186044416 then (some (y388 ++ l0)) else (none))) = some r := h; clear h
 obtain ⟨y388, hy388⟩ : ∃ y_ : List Int, y_ = (([] : List Int)) := ⟨_, rfl⟩
 replace H : (if y388.length + l0.length < 17592186044416 then (some (y388 ++ l0)) else (none)) = some r := by first | (rw [hy388]; with_reducible exact H) | (have H2_ := (Option.bind_some _ _).symm.trans H; rw [hy388]; with_reducible exact H2_) | (have H2_ := (Option.bind_some _ _).symm.trans H; with_reducible exact H2_) | with_reducible exact H | (rw [hy388]; exact H) | exact H
 have Ny388 := A_ hy388; clear hy388; by_cases c2 : y388.length + l0.length < 17592186044416
 ·
  rw [if_pos c2] at H; have LMc2 := A_ c2; clear c2
  obtain ⟨y391, hy391⟩ : ∃ y_ : List Int, y_ = (y388 ++ l0) := ⟨_, rfl⟩
  replace H : (some y391) = some r := by first | (rw [hy391]; with_reducible exact H) | (have H2_ := (Option.bind_some _ _).symm.trans H; rw [hy391]; with_reducible exact H2_) | (have H2_ := (Option.bind_some _ _).symm.trans H; with_reducible exact H2_) | with_reducible exact H | (rw [hy391]; exact H) | exact H
  have Ny391 := A_ hy391; clear hy391; obtain rfl := Option.some.inj H; go_enter Tryz.func66, Tryz.ntmps66
  go_wp2_with (first | ((with_reducible refine gate_dst (N := 3) rfl ?_); refine Kd.R_lit (Kd.int .i64) _ 3 ?hg (N := 3) ?hd (xs := ([] : List Int)) (inner := []) (ok := fun _ => True) (okp := fun _ => True) ?hr ?hp (fun _ hk => hk) trivial (Below.refl _ _) (Nat.le_refl _) (by simp) ?_; (case hd => rfl); (case hg => rfl); (case hr => first | (go_simp; done) | (go_simp; rfl)); (case hp => exact (Reps.none _ _)); intro v389 w3 ho4 hb hg_ hnew_; clear hg_ hnew_; (first | rw [← Ny388.out] at ho4 | (simp only [Int.reduceToNat] at ho4; rw [← Ny388.out] at ho4)); have HO390 := A_ (Kd.R_lower ho4 (below_size (hq HB))); replace HB := A_ (below_step (hq HB) hb); clear hb ho4) | ((with_reducible refine gate_builtin (b := .append) (xs := #[.tmp 3, .tmp 4]) rfl ?_); at_builtin; refine Kd.R_append_rows (Kd.int .i64) (w0 := w) w.heap.size rfl (.tmp 3) (.tmp 4) 26 3 (.int .i64 0) 8 rfl Tryz.underlying26 info3 rfl (by decide) (by omega) v389 y388 l0 _ _ _ (fun _ => True) (fun _ => False) rfl rfl ?aO ?aR (fun _ _ h => h) (fun _ h => h.elim) ?aF ?aB ?aS ?aL ?_; (case aR => repeat (first | exact (Kd.C_below HR0.out HB.out) | (with_reducible refine Kd.C_alloc ?_ _) | (with_reducible refine Kd.C_drewN ?_ _) | (with_reducible refine Kd.C_drew ?_))); (case aB => exact (hq HB)); (case aF => exact (fun _ _ => trivial)); (case aO => exact (rq HO390)); (case aS => exact (below_size (hq HB))); (case aL => have := LMc2.out; omega); intro v392 w5 ho hb hg hat; rw [← Ny391.out] at ho; have n0_ := A_ (hb); have n1_ := A_ (ho); clear HB; clear HO390; have HB := n0_; have HO393 := n1_; clear n0_ n1_; clear ho hb hg hat))
  go_ret
  exact ⟨_, rt, rq HO393, hq HB⟩
 ·
  rw [if_neg c2] at H; exact absurd H (by simp)

end Go.Proofs.YtjhppcpjobofbaaGreat.PFnExplorers
