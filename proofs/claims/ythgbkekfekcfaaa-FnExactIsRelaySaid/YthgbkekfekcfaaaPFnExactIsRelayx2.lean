-- Told shorter still by shrink2.py.
-- Printed, and told shorter by this session's program shrink.py.
-- Printed by this session's program myprint.py.
import Derived.Test.YthgbkekfekcfaaaPFnExactIsRelayx0
import Derived.Test.YthgbkekfekcfaaaPFnExactIsRelayx1
namespace Go.Proofs.Ythgbkekfekcfaaa.PFnExactIsRelay
open Go.RowKit Go.Proofs.Ythgbkekfekcfaaa.Own Go.Proofs.YthgbkekfekcfaaaW.PrintWords Go.Proofs.YthgbkekfekcfaaaW.PrintLast Go.Proofs.YthgbkekfekcfaaaW.PrintMore
attribute [local go_sem] max2_int min2_int max_two min_two max_three min_three max_four min_four   -- for this text's walks alone
set_option linter.unusedVariables false
set_option linter.unusedSimpArgs false

/-! ### spec_l7Carriers: function 58 -/
def spec_l7Carriers.l0 : Nat → List (S61) → Int → Int → Bool → Option (Bool)
  | 0, _, _, _, _ => none
  | k + 1, x1, x5, x131000, x131001 => if x5 < (x1.length : Int) then (if 0 ≤ x5 then ((spec_l7Carrier.f x131000 x131001 ((rd_T61 x1 x5).f0) ((rd_T61 x1 x5).f1) ((rd_T61 x1 x5).f2)).bind fun t132 => (if t132 = true then (spec_l7Carriers.l0 k x1 (wrap64 (x5 + 1)) x131000 x131001) else (some false))) else (none)) else ((spec_l2Road.f x131000 x131001).bind fun t133 => (if t133 = true then (if x131001 = true then (some false) else (some (decide ((x1.length : Int) ≤ 6)))) else (some false)))
def spec_l7Carriers.f (k : Nat) (a0_0 : Int) (a0_1 : Bool) (l1 : List (S61)) : Option (Bool) := spec_l7Carriers.l0 k l1 0 a0_0 a0_1
theorem spec_l7Carriers.mono_l : ∀ k, (∀ y0 y1 y2 y3, LeO (spec_l7Carriers.l0 k y0 y1 y2 y3) (spec_l7Carriers.l0 (k + 1) y0 y1 y2 y3))
  | 0 => fun _ _ _ _ r h => by simp [spec_l7Carriers.l0] at h
  | k + 1 => by
    have ih0 := spec_l7Carriers.mono_l k
    · intro y0 y1 y2 y3
      unfold spec_l7Carriers.l0
      repeat' first
      | (with_reducible exact ih0 _ _ _ _)
      | (with_reducible exact LeO.refl _)
      | (with_reducible exact LeO.none _)
      | (with_reducible refine LeO.ite ?_ ?_)
      | (with_reducible refine LeO.bind ?_ (fun _ => ?_))
      | exact ih0 _ _ _ _
      | exact LeO.none _
      | refine LeO.ite ?_ ?_
      | refine LeO.bind ?_ (fun _ => ?_)
theorem spec_l7Carriers.mono : ∀ a0 a1 a2 k, LeO (spec_l7Carriers.f k a0 a1 a2) (spec_l7Carriers.f (k + 1) a0 a1 a2) := by
  intro a0 a1 a2 k
  have ih0 := spec_l7Carriers.mono_l k
  unfold spec_l7Carriers.f
  repeat' first
      | (with_reducible exact ih0 _ _ _ _)
      | (with_reducible exact LeO.refl _)
      | (with_reducible exact LeO.none _)
      | (with_reducible refine LeO.ite ?_ ?_)
      | (with_reducible refine LeO.bind ?_ (fun _ => ?_))
      | exact ih0 _ _ _ _
      | exact LeO.none _
      | refine LeO.ite ?_ ?_
      | refine LeO.bind ?_ (fun _ => ?_)
set_option maxHeartbeats 8000000 in
set_option maxRecDepth 100000 in
theorem spec_l7Carriers.calls (k : Nat) (a0_0 : Int) (a0_1 : Bool) (A1 : Option Addr) (c1 : Nat) (l1 : List (S61)) (r : Bool) (w : World) (hr1 : Kd.C k61 w A1 l1.length l1) (hc1 : l1.length ≤ c1) (h : spec_l7Carriers.f k a0_0 a0_1 l1 = some r) :
    Calls Try.prog 58 #[.agg #[.int .i64 a0_0, .bool a0_1], .slice A1 l1.length c1] w fun e w' => e = .returned (.bool r) ∧ Below w.heap.size w w' := by
 have hu27 := Try.underlying27; have hu61 := Try.underlying61; have HR1 := A_ hr1; have HC1 := A_ hc1; clear hr1 hc1; have HB := A_ (Below.refl w.heap.size w); have H : (spec_l7Carriers.l0 k l1 0 a0_0 a0_1) = some r := h; clear h; have H' := A_ H; clear H; go_enter Try.func58, Try.ntmps58
 go_wp2_with (first | ((with_reducible refine gate_dst (N := 2) rfl ?_); (try (refine gate_guard (by rfl) ?_; dsimp only)); refine bx (N := 2) #[.int .i64 a0_0, .bool a0_1] 27 ?_; intro gb130 hg w3 hbox hb; have BK130 := A_ (hbox); have GW130 := A_ (bs hg (hq HB) : w.heap.size ≤ gb130); have GE130 := A_ (bs hg (hq HB) : w.heap.size ≤ gb130); replace HB := A_ (below_step (hq HB) hb); clear hb hbox hg))
 go_loopg [5] k (fun kq v5 w' => ∃ (x5_1 : Int), v5 = .int .i64 x5_1 ∧ Aside0 (spec_l7Carriers.l0 kq l1 x5_1 a0_0 a0_1 = some r) ∧ Aside0 (kq ≤ k) ∧ Aside0 (w'.heap[gb130]? = some (.cells #[.int .i64 a0_0, .bool a0_1] 27 (0, 0))) ∧ Aside0 (Below w.heap.size w w'))
 case atStart => exact ⟨(0), rf, H', ⟨Nat.le_refl _⟩, ⟨bq BK130⟩, ⟨hq HB⟩⟩
 case round =>
  clear H'; obtain ⟨x5_1, rfl, HA, HK1, BK130, HB⟩ := hrel
  cases gk with
  | zero => exact absurd HA.out (by simp [spec_l7Carriers.l0])
  | succ k1 =>
   have H := HA.out; clear HA; simp only [spec_l7Carriers.l0] at H
   by_cases c4 : x5_1 < (l1.length : Int)
   ·
    rw [if_pos c4] at H; have c4b0 := decide_eq_true c4; clear c4; by_cases c5 : 0 ≤ x5_1
    ·
     rw [if_pos c5] at H; have c5b0 := decide_eq_true c5; clear c5; replace H := bm H; obtain ⟨t132, A6, H⟩ := H; by_cases c7 : t132 = true
     ·
      subst c7
      have H1 : (spec_l7Carriers.l0 k1 l1 (wrap64 (x5_1 + 1)) a0_0 a0_1) = some r := by rw [if_pos rfl] at H; exact H
      clear H; have H := H1; clear H1; have H' := A_ H; clear H; try go_wp2
      replace BK130 := A_ (blk_drew BK130.out); replace HB := A_ (below_drew1 HB.out); have p131 : 0 ≤ (x5_1 : Int) := dq; have q131 : x5_1 < (l1.length : Int) := dq; obtain ⟨ad131, e131, hx131_0, hx131_1, hx131_2⟩ := at_T61 HR1.out x5_1 p131 q131; have hw131_2 := hx131_2; have hw131_1 := hx131_1; have hw131_0 := hx131_0
      cases e131
      replace hx131_0 := (HB.out.cell (World.block_lt_of_cell? w _ hx131_0)).trans hx131_0; replace hx131_1 := (HB.out.cell (World.block_lt_of_cell? w _ hx131_1)).trans hx131_1; replace hx131_2 := (HB.out.cell (World.block_lt_of_cell? w _ hx131_2)).trans hx131_2; replace p131 := eq_true p131; replace q131 := eq_true q131; refine start_ (n := 7) (S := fun w' => w'.cell? ⟨gb130, 0, none⟩ = some (.int .i64 a0_0) ∧ w'.cell? ⟨gb130, 1, none⟩ = some (.bool a0_1) ∧ w'.cell? (ad131.add ((x5_1).toNat * 3)) = some (.int .i64 ((rd_T61 l1 x5_1).f0)) ∧ w'.cell? ⟨(ad131.add ((x5_1).toNat * 3)).block, (ad131.add ((x5_1).toNat * 3)).off + 1, none⟩ = some (.int .i64 ((rd_T61 l1 x5_1).f1)) ∧ w'.cell? ⟨(ad131.add ((x5_1).toNat * 3)).block, (ad131.add ((x5_1).toNat * 3)).off + 2, none⟩ = some (.int .i64 ((rd_T61 l1 x5_1).f2))) (ds := []) #[false, false, false, false, false, false, false] (by kernel_rfl) rfl rfl ⟨bc BK130 0, bc BK130 1, ((HB.out.cell (World.block_lt_of_cell? w _ hw131_0)).trans hw131_0), ((HB.out.cell (World.block_lt_of_cell? w _ hw131_1)).trans hw131_1), ((HB.out.cell (World.block_lt_of_cell? w _ hw131_2)).trans hw131_2)⟩ (fun hHeld => ?_); generalize wr.drew = w8 at BK130 HB hx131_0 hx131_1 hx131_2 hHeld ⊢; refine pu (i := 1) (N := some 13) #[false, true, false, false, false, false, false] ?_; refine pu (i := 2) (N := some 14) #[false, true, true, false, false, false, false] ?_; refine pu (i := 3) (N := some 15) #[false, true, true, true, false, false, false] ?_; refine tk (i := 0) (N := some 12) hHeld #[true, true, true, true, false, false, false] ?_; refine tk (i := 4) (N := some 16) hHeld #[true, true, true, true, true, false, false] ?_; refine on (i := 5) (N := some 17) #[true, true, true, true, true, true, false] (fun K hK => ?_); refine go_ Try.func77 #[.agg #[.int .i64 a0_0, .bool a0_1], .agg #[.int .i64 ((rd_T61 l1 x5_1).f0), .int .i64 ((rd_T61 l1 x5_1).f1), .int .i64 ((rd_T61 l1 x5_1).f2)]] ?_; with_reducible refine (spec_l7Carrier.calls a0_0 a0_1 ((rd_T61 l1 x5_1).f0) ((rd_T61 l1 x5_1).f1) ((rd_T61 l1 x5_1).f2) true _ A6.out).mono ?_
      rintro e w9 ⟨rfl, hb⟩; refine ⟨_, rfl, ?_⟩; replace BK130 := A_ (blk_below (bq BK130) hb); replace HB := A_ (below_step (hq HB) hb); clear hb; refine hK.out _ _ ⟨bc BK130 0, bc BK130 1, ((HB.out.cell (World.block_lt_of_cell? w _ hw131_0)).trans hw131_0), ((HB.out.cell (World.block_lt_of_cell? w _ hw131_1)).trans hw131_1), ((HB.out.cell (World.block_lt_of_cell? w _ hw131_2)).trans hw131_2)⟩ (fun hHeld => ?_); clear hK K; refine nq_ (some 17) ?_; refine pu (i := 6) (N := some 18) #[true, true, true, true, true, true, true] ?_; refine done_ (by kernel_rfl) ?_; try go_wp2
      go_roundg k1
      case measure => have := HK1.out; omega
      case rel => exact ⟨(wrap64 (x5_1 + 1)), rf, H', ⟨by have := HK1.out; omega⟩, ⟨bq BK130⟩, ⟨hq HB⟩⟩
     ·
      replace c7 := Bool.eq_false_iff.mpr c7; subst c7
      have H1 : (some false) = some r := by rw [if_neg (show ¬ (false = true) by decide)] at H; exact H
      clear H; have H := H1; clear H1; obtain rfl := Option.some.inj H; try go_wp2
      replace BK130 := A_ (blk_drew BK130.out); replace HB := A_ (below_drew1 HB.out); have p131 : 0 ≤ (x5_1 : Int) := dq; have q131 : x5_1 < (l1.length : Int) := dq; obtain ⟨ad131, e131, hx131_0, hx131_1, hx131_2⟩ := at_T61 HR1.out x5_1 p131 q131; have hw131_2 := hx131_2; have hw131_1 := hx131_1; have hw131_0 := hx131_0
      cases e131
      replace hx131_0 := (HB.out.cell (World.block_lt_of_cell? w _ hx131_0)).trans hx131_0; replace hx131_1 := (HB.out.cell (World.block_lt_of_cell? w _ hx131_1)).trans hx131_1; replace hx131_2 := (HB.out.cell (World.block_lt_of_cell? w _ hx131_2)).trans hx131_2; replace p131 := eq_true p131; replace q131 := eq_true q131; refine start_ (n := 7) (S := fun w' => w'.cell? ⟨gb130, 0, none⟩ = some (.int .i64 a0_0) ∧ w'.cell? ⟨gb130, 1, none⟩ = some (.bool a0_1) ∧ w'.cell? (ad131.add ((x5_1).toNat * 3)) = some (.int .i64 ((rd_T61 l1 x5_1).f0)) ∧ w'.cell? ⟨(ad131.add ((x5_1).toNat * 3)).block, (ad131.add ((x5_1).toNat * 3)).off + 1, none⟩ = some (.int .i64 ((rd_T61 l1 x5_1).f1)) ∧ w'.cell? ⟨(ad131.add ((x5_1).toNat * 3)).block, (ad131.add ((x5_1).toNat * 3)).off + 2, none⟩ = some (.int .i64 ((rd_T61 l1 x5_1).f2))) (ds := []) #[false, false, false, false, false, false, false] (by kernel_rfl) rfl rfl ⟨bc BK130 0, bc BK130 1, ((HB.out.cell (World.block_lt_of_cell? w _ hw131_0)).trans hw131_0), ((HB.out.cell (World.block_lt_of_cell? w _ hw131_1)).trans hw131_1), ((HB.out.cell (World.block_lt_of_cell? w _ hw131_2)).trans hw131_2)⟩ (fun hHeld => ?_); generalize wr.drew = w10 at BK130 HB hx131_0 hx131_1 hx131_2 hHeld ⊢; refine pu (i := 1) (N := some 13) #[false, true, false, false, false, false, false] ?_; refine pu (i := 2) (N := some 14) #[false, true, true, false, false, false, false] ?_; refine pu (i := 3) (N := some 15) #[false, true, true, true, false, false, false] ?_; refine tk (i := 0) (N := some 12) hHeld #[true, true, true, true, false, false, false] ?_; refine tk (i := 4) (N := some 16) hHeld #[true, true, true, true, true, false, false] ?_; refine on (i := 5) (N := some 17) #[true, true, true, true, true, true, false] (fun K hK => ?_); refine go_ Try.func77 #[.agg #[.int .i64 a0_0, .bool a0_1], .agg #[.int .i64 ((rd_T61 l1 x5_1).f0), .int .i64 ((rd_T61 l1 x5_1).f1), .int .i64 ((rd_T61 l1 x5_1).f2)]] ?_; with_reducible refine (spec_l7Carrier.calls a0_0 a0_1 ((rd_T61 l1 x5_1).f0) ((rd_T61 l1 x5_1).f1) ((rd_T61 l1 x5_1).f2) false _ A6.out).mono ?_
      rintro e w11 ⟨rfl, hb⟩; refine ⟨_, rfl, ?_⟩; replace BK130 := A_ (blk_below (bq BK130) hb); replace HB := A_ (below_step (hq HB) hb); clear hb; refine hK.out _ _ ⟨bc BK130 0, bc BK130 1, ((HB.out.cell (World.block_lt_of_cell? w _ hw131_0)).trans hw131_0), ((HB.out.cell (World.block_lt_of_cell? w _ hw131_1)).trans hw131_1), ((HB.out.cell (World.block_lt_of_cell? w _ hw131_2)).trans hw131_2)⟩ (fun hHeld => ?_); clear hK K; refine nq_ (some 17) ?_; refine pu (i := 6) (N := some 18) #[true, true, true, true, true, true, true] ?_; refine done_ (by kernel_rfl) ?_; try go_wp2
      go_ret
      exact ⟨rt, hq HB⟩
    ·
     rw [if_neg c5] at H; exact absurd H (by simp)
   ·
    rw [if_neg c4] at H; have c4b0 := decide_eq_false c4; clear c4; replace H := bm H; obtain ⟨t133, A12, H⟩ := H; by_cases c13 : t133 = true
    ·
     subst c13
     have H1 : (if a0_1 = true then (some false) else (some (decide ((l1.length : Int) ≤ 6)))) = some r := by rw [if_pos rfl] at H; exact H
     clear H; have H := H1; clear H1; by_cases c14 : a0_1 = true
     ·
      subst c14
      have H1 : (some false) = some r := by rw [if_pos rfl] at H; exact H
      clear H; have H := H1; clear H1; obtain rfl := Option.some.inj H; have hcz15_0 : wr.cell? ⟨gb130, 0, none⟩ = some (.int .i64 a0_0) := bc BK130 0; have hcz15_1 : wr.cell? ⟨gb130, 1, none⟩ = some (.bool true) := bc BK130 1; have hfz15_0 := blk_frozen BK130.out 0; have hfz15_1 := blk_frozen BK130.out 1; go_wp2_with (first | ((with_reducible refine gate_callee (f := 25) rfl ?_); refine gL (some 20) Try.func25 #[.agg #[.int .i64 a0_0, .bool true]] ?_; (with_reducible refine (spec_l2Road.calls a0_0 true true _ A12.out).mono ?_); rintro e w16 ⟨rfl, hb⟩; refine ⟨_, rfl, ?_⟩; replace BK130 := A_ (blk_below (bq BK130) hb); replace HB := A_ (below_step (hq HB) hb); clear hb; have hcz17_0 : w16.cell? ⟨gb130, 0, none⟩ = some (.int .i64 a0_0) := bc BK130 0; have hcz17_1 : w16.cell? ⟨gb130, 1, none⟩ = some (.bool true) := bc BK130 1; have hfz17_0 := blk_frozen BK130.out 0; have hfz17_1 := blk_frozen BK130.out 1))
      go_ret
      exact ⟨rt, hq HB⟩
     ·
      replace c14 := Bool.eq_false_iff.mpr c14; subst c14
      have H1 : (some (decide ((l1.length : Int) ≤ 6))) = some r := by rw [if_neg (show ¬ (false = true) by decide)] at H; exact H
      clear H; have H := H1; clear H1; obtain rfl := Option.some.inj H; have hcz18_0 : wr.cell? ⟨gb130, 0, none⟩ = some (.int .i64 a0_0) := bc BK130 0; have hcz18_1 : wr.cell? ⟨gb130, 1, none⟩ = some (.bool false) := bc BK130 1; have hfz18_0 := blk_frozen BK130.out 0; have hfz18_1 := blk_frozen BK130.out 1; go_wp2_with (first | ((with_reducible refine gate_callee (f := 25) rfl ?_); refine gL (some 20) Try.func25 #[.agg #[.int .i64 a0_0, .bool false]] ?_; (with_reducible refine (spec_l2Road.calls a0_0 false true _ A12.out).mono ?_); rintro e w19 ⟨rfl, hb⟩; refine ⟨_, rfl, ?_⟩; replace BK130 := A_ (blk_below (bq BK130) hb); replace HB := A_ (below_step (hq HB) hb); clear hb; have hcz20_0 : w19.cell? ⟨gb130, 0, none⟩ = some (.int .i64 a0_0) := bc BK130 0; have hcz20_1 : w19.cell? ⟨gb130, 1, none⟩ = some (.bool false) := bc BK130 1; have hfz20_0 := blk_frozen BK130.out 0; have hfz20_1 := blk_frozen BK130.out 1))
      go_ret
      exact ⟨rt, hq HB⟩
    ·
     replace c13 := Bool.eq_false_iff.mpr c13; subst c13
     have H1 : (some false) = some r := by rw [if_neg (show ¬ (false = true) by decide)] at H; exact H
     clear H; have H := H1; clear H1; obtain rfl := Option.some.inj H; have hcz21_0 : wr.cell? ⟨gb130, 0, none⟩ = some (.int .i64 a0_0) := bc BK130 0; have hcz21_1 : wr.cell? ⟨gb130, 1, none⟩ = some (.bool a0_1) := bc BK130 1; have hfz21_0 := blk_frozen BK130.out 0; have hfz21_1 := blk_frozen BK130.out 1; go_wp2_with (first | ((with_reducible refine gate_callee (f := 25) rfl ?_); refine gL (some 20) Try.func25 #[.agg #[.int .i64 a0_0, .bool a0_1]] ?_; (with_reducible refine (spec_l2Road.calls a0_0 a0_1 false _ A12.out).mono ?_); rintro e w22 ⟨rfl, hb⟩; refine ⟨_, rfl, ?_⟩; replace BK130 := A_ (blk_below (bq BK130) hb); replace HB := A_ (below_step (hq HB) hb); clear hb))
     go_ret
     exact ⟨rt, hq HB⟩

/-! ### spec_l2Place: function 59 -/
def spec_l2Place.f (a0_0 : Int) (a0_1 : Bool) (a1 : Int) : Option (Bool) := (spec_l2Road.f a0_0 a0_1).bind fun t135 => (if t135 = true then ((spec_l1In.f a1 0 (wrap64 (a0_0 - 1))).bind fun t136 => (some t136)) else (some false))
set_option maxHeartbeats 8000000 in
set_option maxRecDepth 100000 in
theorem spec_l2Place.calls (a0_0 : Int) (a0_1 : Bool) (a1 : Int) (r : Bool) (w : World) (h : spec_l2Place.f a0_0 a0_1 a1 = some r) :
    Calls Try.prog 59 #[.agg #[.int .i64 a0_0, .bool a0_1], .int .i64 a1] w fun e w' => e = .returned (.bool r) ∧ Below w.heap.size w w' := by
 have hu27 := Try.underlying27; have HB := A_ (Below.refl w.heap.size w); have H : ((spec_l2Road.f a0_0 a0_1).bind fun t135 => (if t135 = true then ((spec_l1In.f a1 0 (wrap64 (a0_0 - 1))).bind fun t136 => (some t136)) else (some false))) = some r := h; clear h; replace H := bm H; obtain ⟨t135, A3, H⟩ := H; by_cases c4 : t135 = true
 ·
  subst c4
  have H1 : ((spec_l1In.f a1 0 (wrap64 (a0_0 - 1))).bind fun t136 => (some t136)) = some r := by rw [if_pos rfl] at H; exact H
  clear H; have H := H1; clear H1; replace H := bm H; obtain ⟨t136, A5, H⟩ := H; obtain rfl := Option.some.inj H; go_enter Try.func59, Try.ntmps59
  go_wp2_with (first | ((with_reducible refine gate_dst (N := 2) rfl ?_); refine bx (N := 2) #[.int .i64 a0_0, .bool a0_1] 27 ?_; intro gb134 hg w6 hbox hb; have BK134 := A_ (hbox); have GW134 := A_ (bs hg (hq HB) : w.heap.size ≤ gb134); have GE134 := A_ (bs hg (hq HB) : w.heap.size ≤ gb134); replace HB := A_ (below_step (hq HB) hb); clear hb hbox hg; have hcz7_0 : w6.cell? ⟨gb134, 0, none⟩ = some (.int .i64 a0_0) := bc BK134 0; have hcz7_1 : w6.cell? ⟨gb134, 1, none⟩ = some (.bool a0_1) := bc BK134 1; have hfz7_0 := blk_frozen BK134.out 0; have hfz7_1 := blk_frozen BK134.out 1) | ((with_reducible refine gate_callee (f := 25) rfl ?_); refine gL (some 6) Try.func25 #[.agg #[.int .i64 a0_0, .bool a0_1]] ?_; (with_reducible refine (spec_l2Road.calls a0_0 a0_1 true _ A3.out).mono ?_); rintro e w8 ⟨rfl, hb⟩; refine ⟨_, rfl, ?_⟩; replace BK134 := A_ (blk_below (bq BK134) hb); replace HB := A_ (below_step (hq HB) hb); clear hb; have hcz9_0 : w8.cell? ⟨gb134, 0, none⟩ = some (.int .i64 a0_0) := bc BK134 0; have hcz9_1 : w8.cell? ⟨gb134, 1, none⟩ = some (.bool a0_1) := bc BK134 1; have hfz9_0 := blk_frozen BK134.out 0; have hfz9_1 := blk_frozen BK134.out 1) | (go_at_call 26; (with_reducible refine (spec_l1In.calls a1 0 (wrap64 (a0_0 - 1)) t136 _ A5.out).mono ?_); rintro e w' ⟨rfl, ⟨nd, rfl⟩⟩))
  go_ret
  exact ⟨rt, hq HB⟩
 ·
  replace c4 := Bool.eq_false_iff.mpr c4; subst c4
  have H1 : (some false) = some r := by rw [if_neg (show ¬ (false = true) by decide)] at H; exact H
  clear H; have H := H1; clear H1; obtain rfl := Option.some.inj H; go_enter Try.func59, Try.ntmps59
  go_wp2_with (first | ((with_reducible refine gate_dst (N := 2) rfl ?_); refine bx (N := 2) #[.int .i64 a0_0, .bool a0_1] 27 ?_; intro gb134 hg w10 hbox hb; have BK134 := A_ (hbox); have GW134 := A_ (bs hg (hq HB) : w.heap.size ≤ gb134); have GE134 := A_ (bs hg (hq HB) : w.heap.size ≤ gb134); replace HB := A_ (below_step (hq HB) hb); clear hb hbox hg; have hcz11_0 : w10.cell? ⟨gb134, 0, none⟩ = some (.int .i64 a0_0) := bc BK134 0; have hcz11_1 : w10.cell? ⟨gb134, 1, none⟩ = some (.bool a0_1) := bc BK134 1; have hfz11_0 := blk_frozen BK134.out 0; have hfz11_1 := blk_frozen BK134.out 1) | ((with_reducible refine gate_callee (f := 25) rfl ?_); refine gL (some 6) Try.func25 #[.agg #[.int .i64 a0_0, .bool a0_1]] ?_; (with_reducible refine (spec_l2Road.calls a0_0 a0_1 false _ A3.out).mono ?_); rintro e w12 ⟨rfl, hb⟩; refine ⟨_, rfl, ?_⟩; replace BK134 := A_ (blk_below (bq BK134) hb); replace HB := A_ (below_step (hq HB) hb); clear hb))
  go_ret
  exact ⟨rt, hq HB⟩

/-! ### spec_l7Asks: function 35 -/
def spec_l7Asks.f (k : Nat) (a0_0 : Int) (a0_1 : Bool) (l1 : List (S61)) (a2 : Int) (a3 : Int) : Option (Bool) := (spec_l7Carriers.f k a0_0 a0_1 l1).bind fun t138 => (if t138 = true then ((spec_l2Place.f a0_0 a0_1 a3).bind fun t139 => (if t139 = true then ((spec_l1In.f a2 0 a3).bind fun t140 => (some t140)) else (some false))) else (some false))
theorem spec_l7Asks.mono : ∀ a0 a1 a2 a3 a4 k, LeO (spec_l7Asks.f k a0 a1 a2 a3 a4) (spec_l7Asks.f (k + 1) a0 a1 a2 a3 a4) := by
  intro a0 a1 a2 a3 a4 k
  unfold spec_l7Asks.f
  repeat' first
      | (with_reducible exact spec_l7Carriers.mono _ _ _ _)
      | (with_reducible exact LeO.refl _)
      | (with_reducible exact LeO.none _)
      | (with_reducible refine LeO.ite ?_ ?_)
      | (with_reducible refine LeO.bind ?_ (fun _ => ?_))
      | exact spec_l7Carriers.mono _ _ _ _
      | exact LeO.none _
      | refine LeO.ite ?_ ?_
      | refine LeO.bind ?_ (fun _ => ?_)
set_option maxHeartbeats 8000000 in
set_option maxRecDepth 100000 in
theorem spec_l7Asks.calls (k : Nat) (a0_0 : Int) (a0_1 : Bool) (A1 : Option Addr) (c1 : Nat) (l1 : List (S61)) (a2 : Int) (a3 : Int) (r : Bool) (w : World) (hr1 : Kd.C k61 w A1 l1.length l1) (hc1 : l1.length ≤ c1) (h : spec_l7Asks.f k a0_0 a0_1 l1 a2 a3 = some r) :
    Calls Try.prog 35 #[.agg #[.int .i64 a0_0, .bool a0_1], .slice A1 l1.length c1, .int .i64 a2, .int .i64 a3] w fun e w' => e = .returned (.bool r) ∧ Below w.heap.size w w' := by
 have hu27 := Try.underlying27; have HR1 := A_ hr1; have HC1 := A_ hc1; clear hr1 hc1; have HB := A_ (Below.refl w.heap.size w); have H : ((spec_l7Carriers.f k a0_0 a0_1 l1).bind fun t138 => (if t138 = true then ((spec_l2Place.f a0_0 a0_1 a3).bind fun t139 => (if t139 = true then ((spec_l1In.f a2 0 a3).bind fun t140 => (some t140)) else (some false))) else (some false))) = some r := h; clear h; replace H := bm H; obtain ⟨t138, A5, H⟩ := H; by_cases c6 : t138 = true
 ·
  subst c6
  have H1 : ((spec_l2Place.f a0_0 a0_1 a3).bind fun t139 => (if t139 = true then ((spec_l1In.f a2 0 a3).bind fun t140 => (some t140)) else (some false))) = some r := by rw [if_pos rfl] at H; exact H
  clear H; have H := H1; clear H1; replace H := bm H; obtain ⟨t139, A7, H⟩ := H; by_cases c8 : t139 = true
  ·
   subst c8
   have H1 : ((spec_l1In.f a2 0 a3).bind fun t140 => (some t140)) = some r := by rw [if_pos rfl] at H; exact H
   clear H; have H := H1; clear H1; replace H := bm H; obtain ⟨t140, A9, H⟩ := H; obtain rfl := Option.some.inj H; go_enter Try.func35, Try.ntmps35
   go_wp2_with (first | ((with_reducible refine gate_dst (N := 4) rfl ?_); refine bx (N := 4) #[.int .i64 a0_0, .bool a0_1] 27 ?_; intro gb137 hg w10 hbox hb; have BK137 := A_ (hbox); have GW137 := A_ (bs hg (hq HB) : w.heap.size ≤ gb137); have GE137 := A_ (bs hg (hq HB) : w.heap.size ≤ gb137); replace HB := A_ (below_step (hq HB) hb); clear hb hbox hg; have hcz11_0 : w10.cell? ⟨gb137, 0, none⟩ = some (.int .i64 a0_0) := bc BK137 0; have hcz11_1 : w10.cell? ⟨gb137, 1, none⟩ = some (.bool a0_1) := bc BK137 1; have hfz11_0 := blk_frozen BK137.out 0; have hfz11_1 := blk_frozen BK137.out 1) | ((with_reducible refine gate_callee (f := 58) rfl ?_); refine gL (some 11) Try.func58 #[.agg #[.int .i64 a0_0, .bool a0_1], .slice A1 l1.length c1] ?_; (with_reducible refine (spec_l7Carriers.calls k a0_0 a0_1 _ _ l1 true _ ?side1 ?side2 A5.out).mono ?_); (case side1 => exact cq (Kd.C_below HR1.out HB.out)); (case side2 => exact HC1.out); rintro e w12 ⟨rfl, hb⟩; refine ⟨_, rfl, ?_⟩; replace BK137 := A_ (blk_below (bq BK137) hb); replace HB := A_ (below_step (hq HB) hb); clear hb; have hcz13_0 : w12.cell? ⟨gb137, 0, none⟩ = some (.int .i64 a0_0) := bc BK137 0; have hcz13_1 : w12.cell? ⟨gb137, 1, none⟩ = some (.bool a0_1) := bc BK137 1; have hfz13_0 := blk_frozen BK137.out 0; have hfz13_1 := blk_frozen BK137.out 1) | (go_at_call 59; (with_reducible refine (spec_l2Place.calls a0_0 a0_1 a3 true _ A7.out).mono ?_); rintro e w14 ⟨rfl, hb⟩; replace BK137 := A_ (blk_below (bq BK137) hb); replace HB := A_ (below_step (hq HB) hb); clear hb) | (go_at_call 26; (with_reducible refine (spec_l1In.calls a2 0 a3 t140 _ A9.out).mono ?_); rintro e w' ⟨rfl, ⟨nd, rfl⟩⟩))
   go_ret
   exact ⟨rt, hq HB⟩
  ·
   replace c8 := Bool.eq_false_iff.mpr c8; subst c8
   have H1 : (some false) = some r := by rw [if_neg (show ¬ (false = true) by decide)] at H; exact H
   clear H; have H := H1; clear H1; obtain rfl := Option.some.inj H; go_enter Try.func35, Try.ntmps35
   go_wp2_with (first | ((with_reducible refine gate_dst (N := 4) rfl ?_); refine bx (N := 4) #[.int .i64 a0_0, .bool a0_1] 27 ?_; intro gb137 hg w15 hbox hb; have BK137 := A_ (hbox); have GW137 := A_ (bs hg (hq HB) : w.heap.size ≤ gb137); have GE137 := A_ (bs hg (hq HB) : w.heap.size ≤ gb137); replace HB := A_ (below_step (hq HB) hb); clear hb hbox hg; have hcz16_0 : w15.cell? ⟨gb137, 0, none⟩ = some (.int .i64 a0_0) := bc BK137 0; have hcz16_1 : w15.cell? ⟨gb137, 1, none⟩ = some (.bool a0_1) := bc BK137 1; have hfz16_0 := blk_frozen BK137.out 0; have hfz16_1 := blk_frozen BK137.out 1) | ((with_reducible refine gate_callee (f := 58) rfl ?_); refine gL (some 11) Try.func58 #[.agg #[.int .i64 a0_0, .bool a0_1], .slice A1 l1.length c1] ?_; (with_reducible refine (spec_l7Carriers.calls k a0_0 a0_1 _ _ l1 true _ ?side1 ?side2 A5.out).mono ?_); (case side1 => exact cq (Kd.C_below HR1.out HB.out)); (case side2 => exact HC1.out); rintro e w17 ⟨rfl, hb⟩; refine ⟨_, rfl, ?_⟩; replace BK137 := A_ (blk_below (bq BK137) hb); replace HB := A_ (below_step (hq HB) hb); clear hb; have hcz18_0 : w17.cell? ⟨gb137, 0, none⟩ = some (.int .i64 a0_0) := bc BK137 0; have hcz18_1 : w17.cell? ⟨gb137, 1, none⟩ = some (.bool a0_1) := bc BK137 1; have hfz18_0 := blk_frozen BK137.out 0; have hfz18_1 := blk_frozen BK137.out 1) | (go_at_call 59; (with_reducible refine (spec_l2Place.calls a0_0 a0_1 a3 false _ A7.out).mono ?_); rintro e w19 ⟨rfl, hb⟩; replace BK137 := A_ (blk_below (bq BK137) hb); replace HB := A_ (below_step (hq HB) hb); clear hb))
   go_ret
   exact ⟨rt, hq HB⟩
 ·
  replace c6 := Bool.eq_false_iff.mpr c6; subst c6
  have H1 : (some false) = some r := by rw [if_neg (show ¬ (false = true) by decide)] at H; exact H
  clear H; have H := H1; clear H1; obtain rfl := Option.some.inj H; go_enter Try.func35, Try.ntmps35
  go_wp2_with (first | ((with_reducible refine gate_dst (N := 4) rfl ?_); refine bx (N := 4) #[.int .i64 a0_0, .bool a0_1] 27 ?_; intro gb137 hg w20 hbox hb; have BK137 := A_ (hbox); have GW137 := A_ (bs hg (hq HB) : w.heap.size ≤ gb137); have GE137 := A_ (bs hg (hq HB) : w.heap.size ≤ gb137); replace HB := A_ (below_step (hq HB) hb); clear hb hbox hg; have hcz21_0 : w20.cell? ⟨gb137, 0, none⟩ = some (.int .i64 a0_0) := bc BK137 0; have hcz21_1 : w20.cell? ⟨gb137, 1, none⟩ = some (.bool a0_1) := bc BK137 1; have hfz21_0 := blk_frozen BK137.out 0; have hfz21_1 := blk_frozen BK137.out 1) | ((with_reducible refine gate_callee (f := 58) rfl ?_); refine gL (some 11) Try.func58 #[.agg #[.int .i64 a0_0, .bool a0_1], .slice A1 l1.length c1] ?_; (with_reducible refine (spec_l7Carriers.calls k a0_0 a0_1 _ _ l1 false _ ?side1 ?side2 A5.out).mono ?_); (case side1 => exact cq (Kd.C_below HR1.out HB.out)); (case side2 => exact HC1.out); rintro e w22 ⟨rfl, hb⟩; refine ⟨_, rfl, ?_⟩; replace BK137 := A_ (blk_below (bq BK137) hb); replace HB := A_ (below_step (hq HB) hb); clear hb))
  go_ret
  exact ⟨rt, hq HB⟩

/-! ### spec_l1Most: function 49 -/
def spec_l1Most.f (a0 : Int) (a1 : Int) : Option (Int) := if a0 > a1 then (some a0) else (some a1)
set_option maxHeartbeats 8000000 in
set_option maxRecDepth 100000 in
theorem spec_l1Most.calls (a0 : Int) (a1 : Int) (r : Int) (w : World) (h : spec_l1Most.f a0 a1 = some r) :
    Calls Try.prog 49 #[.int .i64 a0, .int .i64 a1] w fun e w' => e = .returned (.int .i64 r) ∧ Drawn0 w w' := by
 have H : (if a0 > a1 then (some a0) else (some a1)) = some r := h; clear h; by_cases c3 : a0 > a1
 ·
  rw [if_pos c3] at H; have c3b0 : decide (a1 < a0) = true := decide_eq_true c3; clear c3; obtain rfl := Option.some.inj H; go_enter Try.func49, Try.ntmps49
  go_wp2
  go_ret
  exact ⟨rf, by repeat (first | exact Drawn0.refl _ | apply Drawn0.step)⟩
 ·
  rw [if_neg c3] at H; have c3b0 : decide (a1 < a0) = false := decide_eq_false c3; clear c3; obtain rfl := Option.some.inj H; go_enter Try.func49, Try.ntmps49
  go_wp2
  go_ret
  exact ⟨rf, by repeat (first | exact Drawn0.refl _ | apply Drawn0.step)⟩

/-! ### spec_l1Least: function 61 -/
def spec_l1Least.f (a0 : Int) (a1 : Int) : Option (Int) := if a0 < a1 then (some a0) else (some a1)
set_option maxHeartbeats 8000000 in
set_option maxRecDepth 100000 in
theorem spec_l1Least.calls (a0 : Int) (a1 : Int) (r : Int) (w : World) (h : spec_l1Least.f a0 a1 = some r) :
    Calls Try.prog 61 #[.int .i64 a0, .int .i64 a1] w fun e w' => e = .returned (.int .i64 r) ∧ Drawn0 w w' := by
 have H : (if a0 < a1 then (some a0) else (some a1)) = some r := h; clear h; by_cases c3 : a0 < a1
 ·
  rw [if_pos c3] at H; have c3b0 := decide_eq_true c3; clear c3; obtain rfl := Option.some.inj H; go_enter Try.func61, Try.ntmps61
  go_wp2
  go_ret
  exact ⟨rf, by repeat (first | exact Drawn0.refl _ | apply Drawn0.step)⟩
 ·
  rw [if_neg c3] at H; have c3b0 := decide_eq_false c3; clear c3; obtain rfl := Option.some.inj H; go_enter Try.func61, Try.ntmps61
  go_wp2
  go_ret
  exact ⟨rf, by repeat (first | exact Drawn0.refl _ | apply Drawn0.step)⟩

/-! ### spec_l2Gap: function 78 -/
def spec_l2Gap.f (a0_0 : Int) (a0_1 : Bool) (a1 : Int) (a2 : Int) : Option (Int) := (spec_l1Most.f (wrap64 (a1 - a2)) (wrap64 (a2 - a1))).bind fun t142 => (if a0_1 = true then ((spec_l1Least.f t142 (wrap64 (a0_0 - t142))).bind fun t143 => (some t143)) else (some t142))
set_option maxHeartbeats 8000000 in
set_option maxRecDepth 100000 in
theorem spec_l2Gap.calls (a0_0 : Int) (a0_1 : Bool) (a1 : Int) (a2 : Int) (r : Int) (w : World) (h : spec_l2Gap.f a0_0 a0_1 a1 a2 = some r) :
    Calls Try.prog 78 #[.agg #[.int .i64 a0_0, .bool a0_1], .int .i64 a1, .int .i64 a2] w fun e w' => e = .returned (.int .i64 r) ∧ Below w.heap.size w w' := by
 have hu27 := Try.underlying27; have HB := A_ (Below.refl w.heap.size w); have H : ((spec_l1Most.f (wrap64 (a1 - a2)) (wrap64 (a2 - a1))).bind fun t142 => (if a0_1 = true then ((spec_l1Least.f t142 (wrap64 (a0_0 - t142))).bind fun t143 => (some t143)) else (some t142))) = some r := h; clear h; replace H := bm H; obtain ⟨t142, A4, H⟩ := H; by_cases c5 : a0_1 = true
 ·
  subst c5
  have H1 : ((spec_l1Least.f t142 (wrap64 (a0_0 - t142))).bind fun t143 => (some t143)) = some r := by rw [if_pos rfl] at H; exact H
  clear H; have H := H1; clear H1; replace H := bm H; obtain ⟨t143, A6, H⟩ := H; obtain rfl := Option.some.inj H; go_enter Try.func78, Try.ntmps78
  go_wp2_with (first | ((with_reducible refine gate_dst (N := 3) rfl ?_); refine bx (N := 3) #[.int .i64 a0_0, .bool true] 27 ?_; intro gb141 hg w7 hbox hb; have BK141 := A_ (hbox); have GW141 := A_ (bs hg (hq HB) : w.heap.size ≤ gb141); have GE141 := A_ (bs hg (hq HB) : w.heap.size ≤ gb141); replace HB := A_ (below_step (hq HB) hb); clear hb hbox hg) | ((with_reducible refine gate_callee (f := 49) rfl ?_); refine gL (some 14) Try.func49 #[.int .i64 (wrap64 (a1 - a2)), .int .i64 (wrap64 (a2 - a1))] ?_; (with_reducible refine (spec_l1Most.calls (wrap64 (a1 - a2)) (wrap64 (a2 - a1)) t142 _ A4.out).mono ?_); rintro e w' ⟨rfl, ⟨nd, rfl⟩⟩; refine ⟨_, rfl, ?_⟩; have hcz8_0 : w7.cell? ⟨gb141, 0, none⟩ = some (.int .i64 a0_0) := bc BK141 0; have hcz8_1 : w7.cell? ⟨gb141, 1, none⟩ = some (.bool true) := bc BK141 1; have hfz8_0 := blk_frozen BK141.out 0; have hfz8_1 := blk_frozen BK141.out 1) | ((with_reducible refine gate_callee (f := 61) rfl ?_); refine gL (some 22) Try.func61 #[.int .i64 t142, .int .i64 (wrap64 (a0_0 - t142))] ?_; (with_reducible refine (spec_l1Least.calls t142 (wrap64 (a0_0 - t142)) t143 _ A6.out).mono ?_); rintro e w' ⟨rfl, ⟨nd, rfl⟩⟩; refine ⟨_, rfl, ?_⟩))
  go_ret
  exact ⟨rt, hq HB⟩
 ·
  replace c5 := Bool.eq_false_iff.mpr c5; subst c5
  have H1 : (some t142) = some r := by rw [if_neg (show ¬ (false = true) by decide)] at H; exact H
  clear H; have H := H1; clear H1; obtain rfl := Option.some.inj H; go_enter Try.func78, Try.ntmps78
  go_wp2_with (first | ((with_reducible refine gate_dst (N := 3) rfl ?_); refine bx (N := 3) #[.int .i64 a0_0, .bool false] 27 ?_; intro gb141 hg w9 hbox hb; have BK141 := A_ (hbox); have GW141 := A_ (bs hg (hq HB) : w.heap.size ≤ gb141); have GE141 := A_ (bs hg (hq HB) : w.heap.size ≤ gb141); replace HB := A_ (below_step (hq HB) hb); clear hb hbox hg) | ((with_reducible refine gate_callee (f := 49) rfl ?_); refine gL (some 14) Try.func49 #[.int .i64 (wrap64 (a1 - a2)), .int .i64 (wrap64 (a2 - a1))] ?_; (with_reducible refine (spec_l1Most.calls (wrap64 (a1 - a2)) (wrap64 (a2 - a1)) t142 _ A4.out).mono ?_); rintro e w' ⟨rfl, ⟨nd, rfl⟩⟩; refine ⟨_, rfl, ?_⟩; have hcz10_0 : w9.cell? ⟨gb141, 0, none⟩ = some (.int .i64 a0_0) := bc BK141 0; have hcz10_1 : w9.cell? ⟨gb141, 1, none⟩ = some (.bool false) := bc BK141 1; have hfz10_0 := blk_frozen BK141.out 0; have hfz10_1 := blk_frozen BK141.out 1))
  go_ret
  exact ⟨rt, hq HB⟩

/-! ### spec_l7Steps: function 62 -/
def spec_l7Steps.f (a0_0 : Int) (a0_1 : Bool) (a1_0 : Int) (a1_1 : Int) (a1_2 : Int) (a2 : Int) (a3 : Int) : Option (Int) := (spec_l2Gap.f a0_0 a0_1 a1_0 a2).bind fun t146 => (some (wrap64 ((wrap64 (t146 + a3)) - a2)))
set_option maxHeartbeats 8000000 in
set_option maxRecDepth 100000 in
theorem spec_l7Steps.calls (a0_0 : Int) (a0_1 : Bool) (a1_0 : Int) (a1_1 : Int) (a1_2 : Int) (a2 : Int) (a3 : Int) (r : Int) (w : World) (h : spec_l7Steps.f a0_0 a0_1 a1_0 a1_1 a1_2 a2 a3 = some r) :
    Calls Try.prog 62 #[.agg #[.int .i64 a0_0, .bool a0_1], .agg #[.int .i64 a1_0, .int .i64 a1_1, .int .i64 a1_2], .int .i64 a2, .int .i64 a3] w fun e w' => e = .returned (.int .i64 r) ∧ Below w.heap.size w w' := by
 have hu27 := Try.underlying27; have hu61 := Try.underlying61; have HB := A_ (Below.refl w.heap.size w); have H : ((spec_l2Gap.f a0_0 a0_1 a1_0 a2).bind fun t146 => (some (wrap64 ((wrap64 (t146 + a3)) - a2)))) = some r := h; clear h; replace H := bm H; obtain ⟨t146, A5, H⟩ := H; obtain rfl := Option.some.inj H; go_enter Try.func62, Try.ntmps62
 go_wp2_with (first | ((with_reducible refine gate_dst (N := 4) rfl ?_); refine bx (N := 4) #[.int .i64 a0_0, .bool a0_1] 27 ?_; intro gb144 hg w6 hbox hb; have BK144 := A_ (hbox); have GW144 := A_ (bs hg (hq HB) : w.heap.size ≤ gb144); have GE144 := A_ (bs hg (hq HB) : w.heap.size ≤ gb144); replace HB := A_ (below_step (hq HB) hb); clear hb hbox hg) | ((with_reducible refine gate_dst (N := 5) rfl ?_); refine bx (N := 5) #[.int .i64 a1_0, .int .i64 a1_1, .int .i64 a1_2] 61 ?_; intro gb145 hg w7 hbox hb; have BK145 := A_ (hbox); have GW145 := A_ (bs hg (hq HB) : w.heap.size ≤ gb145); have GE145 := A_ (bs hg (hq HB) : w.heap.size ≤ gb145); replace HB := A_ (below_step (hq HB) hb); have NB144_145 := A_ ((by rw [hg]; exact Nat.ne_of_lt (blk_lt (bq BK144)) : gb144 ≠ gb145)); have NB145_144 := A_ ((by rw [hg]; exact Nat.ne_of_gt (blk_lt (bq BK144)) : gb145 ≠ gb144)); replace BK144 := A_ (blk_below (bq BK144) hb); clear hb hbox hg; have hnb8 := NB144_145.out; have hnc8 := NB145_144.out; have hcz9_0 : w7.cell? ⟨gb144, 0, none⟩ = some (.int .i64 a0_0) := bc BK144 0; have hcz9_1 : w7.cell? ⟨gb144, 1, none⟩ = some (.bool a0_1) := bc BK144 1; have hfz9_0 := blk_frozen BK144.out 0; have hfz9_1 := blk_frozen BK144.out 1; have hcz10_0 : w7.cell? ⟨gb145, 0, none⟩ = some (.int .i64 a1_0) := bc BK145 0; have hcz10_1 : w7.cell? ⟨gb145, 1, none⟩ = some (.int .i64 a1_1) := bc BK145 1; have hcz10_2 : w7.cell? ⟨gb145, 2, none⟩ = some (.int .i64 a1_2) := bc BK145 2; have hfz10_0 := blk_frozen BK145.out 0; have hfz10_1 := blk_frozen BK145.out 1; have hfz10_2 := blk_frozen BK145.out 2) | ((with_reducible refine gate_callee (f := 78) rfl ?_); refine gL (some 13) Try.func78 #[.agg #[.int .i64 a0_0, .bool a0_1], .int .i64 a1_0, .int .i64 a2] ?_; (with_reducible refine (spec_l2Gap.calls a0_0 a0_1 a1_0 a2 t146 _ A5.out).mono ?_); rintro e w11 ⟨rfl, hb⟩; refine ⟨_, rfl, ?_⟩; replace BK144 := A_ (blk_below (bq BK144) hb); replace BK145 := A_ (blk_below (bq BK145) hb); replace HB := A_ (below_step (hq HB) hb); clear hb))
 go_ret
 exact ⟨rt, hq HB⟩

/-! ### spec_l1Has: function 66 -/
def spec_l1Has.l0 : Nat → List Int → Int → Int → Option (Bool)
  | 0, _, _, _ => none
  | k + 1, x0, x1, x5 => if x5 < (x0.length : Int) then (if 0 ≤ x5 then (if (rd x0 x5) = x1 then (some true) else (spec_l1Has.l0 k x0 x1 (wrap64 (x5 + 1)))) else (none)) else (some false)
def spec_l1Has.f (k : Nat) (l0 : List Int) (a1 : Int) : Option (Bool) := spec_l1Has.l0 k l0 a1 0
theorem spec_l1Has.mono_l : ∀ k, (∀ y0 y1 y2, LeO (spec_l1Has.l0 k y0 y1 y2) (spec_l1Has.l0 (k + 1) y0 y1 y2))
  | 0 => fun _ _ _ r h => by simp [spec_l1Has.l0] at h
  | k + 1 => by
    have ih0 := spec_l1Has.mono_l k
    · intro y0 y1 y2
      unfold spec_l1Has.l0
      repeat' first
      | (with_reducible exact ih0 _ _ _)
      | (with_reducible exact LeO.refl _)
      | (with_reducible exact LeO.none _)
      | (with_reducible refine LeO.ite ?_ ?_)
      | (with_reducible refine LeO.bind ?_ (fun _ => ?_))
      | exact ih0 _ _ _
      | exact LeO.none _
      | refine LeO.ite ?_ ?_
      | refine LeO.bind ?_ (fun _ => ?_)
theorem spec_l1Has.mono : ∀ a0 a1 k, LeO (spec_l1Has.f k a0 a1) (spec_l1Has.f (k + 1) a0 a1) := by
  intro a0 a1 k
  have ih0 := spec_l1Has.mono_l k
  unfold spec_l1Has.f
  repeat' first
      | (with_reducible exact ih0 _ _ _)
      | (with_reducible exact LeO.refl _)
      | (with_reducible exact LeO.none _)
      | (with_reducible refine LeO.ite ?_ ?_)
      | (with_reducible refine LeO.bind ?_ (fun _ => ?_))
      | exact ih0 _ _ _
      | exact LeO.none _
      | refine LeO.ite ?_ ?_
      | refine LeO.bind ?_ (fun _ => ?_)
set_option maxHeartbeats 8000000 in
set_option maxRecDepth 100000 in
theorem spec_l1Has.calls (k : Nat) (A0 : Option Addr) (c0 : Nat) (l0 : List Int) (a1 : Int) (r : Bool) (w : World) (hr0 : Kd.C (Kd.int .i64) w A0 l0.length l0) (hc0 : l0.length ≤ c0) (h : spec_l1Has.f k l0 a1 = some r) :
    Calls Try.prog 66 #[.slice A0 l0.length c0, .int .i64 a1] w fun e w' => e = .returned (.bool r) ∧ Drawn0 w w' := by
 have HR0 := A_ hr0; have HC0 := A_ hc0; clear hr0 hc0; have H : (spec_l1Has.l0 k l0 a1 0) = some r := h; clear h; have H' := A_ H; clear H; go_enter Try.func66, Try.ntmps66
 go_wp2
 go_loopg [5] k (fun kq v5 w' => ∃ (x5_1 : Int), v5 = .int .i64 x5_1 ∧ Aside0 (spec_l1Has.l0 kq l0 a1 x5_1 = some r) ∧ Aside0 (kq ≤ k) ∧ Drawn0 w w')
 case atStart => exact ⟨(0), rf, H', ⟨Nat.le_refl _⟩, by repeat (first | exact Drawn0.refl _ | apply Drawn0.step)⟩
 case round =>
  clear H'; obtain ⟨x5_1, rfl, HA, HK1, ⟨m1, rfl⟩⟩ := hrel
  cases gk with
  | zero => exact absurd HA.out (by simp [spec_l1Has.l0])
  | succ k1 =>
   have H := HA.out; clear HA; simp only [spec_l1Has.l0] at H
   by_cases c3 : x5_1 < (l0.length : Int)
   ·
    rw [if_pos c3] at H; have c3b0 := decide_eq_true c3; clear c3; by_cases c4 : 0 ≤ x5_1
    ·
     rw [if_pos c4] at H; have c4b0 := decide_eq_true c4; clear c4; by_cases c5 : (rd l0 x5_1) = a1
     ·
      rw [if_pos c5] at H; have c5b0 : ((rd l0 x5_1) == a1) = true := beq_iff_eq.mpr c5; have c5b1 : ((rd l0 x5_1) != a1) = false := bne_eq_false_iff_eq.mpr c5; clear c5; obtain rfl := Option.some.inj H; have p147 : 0 ≤ (x5_1 : Int) := dq; have q147 : x5_1 < (l0.length : Int) := dq; obtain ⟨ad147, e147, hx147_0⟩ := Kd.at_int HR0.out x5_1 p147 q147
      cases e147
      replace p147 := eq_true p147; replace q147 := eq_true q147; go_wp2
      go_ret
      exact ⟨rf, by repeat (first | exact Drawn0.refl _ | apply Drawn0.step)⟩
     ·
      rw [if_neg c5] at H; have c5b0 : ((rd l0 x5_1) == a1) = false := beq_eq_false_iff_ne.mpr c5; have c5b1 : ((rd l0 x5_1) != a1) = true := bne_iff_ne.mpr c5; have H' := A_ H; clear H; have p147 : 0 ≤ (x5_1 : Int) := dq; have q147 : x5_1 < (l0.length : Int) := dq; obtain ⟨ad147, e147, hx147_0⟩ := Kd.at_int HR0.out x5_1 p147 q147
      cases e147
      replace p147 := eq_true p147; replace q147 := eq_true q147; go_wp2
      go_roundg k1
      case measure => have := HK1.out; omega
      case rel => exact ⟨(wrap64 (x5_1 + 1)), rf, H', ⟨by have := HK1.out; omega⟩, by repeat (first | exact Drawn0.refl _ | apply Drawn0.step)⟩
    ·
     rw [if_neg c4] at H; exact absurd H (by simp)
   ·
    rw [if_neg c3] at H; have c3b0 := decide_eq_false c3; clear c3; obtain rfl := Option.some.inj H; go_wp2
    go_ret
    exact ⟨rf, by repeat (first | exact Drawn0.refl _ | apply Drawn0.step)⟩

end Go.Proofs.Ythgbkekfekcfaaa.PFnExactIsRelay
