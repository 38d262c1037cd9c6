-- Told shorter still by shrink2.py.
-- Printed, and told shorter by this session's program shrink.py.
-- Printed by this session's program myprint.py.
import Derived.Test.YthgbkekfekcfaaaPFnExactIsRelayx0
import Derived.Test.YthgbkekfekcfaaaPFnExactIsRelayx1
import Derived.Test.YthgbkekfekcfaaaPFnExactIsRelayx4
import Derived.Test.YthgbkekfekcfaaaPFnExactIsRelayx6
namespace Go.Proofs.Ythgbkekfekcfaaa.PFnExactIsRelay
open Go.RowKit Go.Proofs.Ythgbkekfekcfaaa.Own Go.Proofs.YthgbkekfekcfaaaW.PrintWords Go.Proofs.YthgbkekfekcfaaaW.PrintLast Go.Proofs.YthgbkekfekcfaaaW.PrintMore
attribute [local go_sem] max2_int min2_int max_two min_two max_three min_three max_four min_four   -- for this text's walks alone
set_option linter.unusedVariables false
set_option linter.unusedSimpArgs false

/-! ### laws_eqIntA3S: function 24 -/
def laws_eqIntA3S.l0 : Nat → List (S69) → List (S69) → Int → Option (Bool)
  | 0, _, _, _ => none
  | k + 1, x0, x1, x5 => if x5 < (x0.length : Int) then (if 0 ≤ x5 then (if x5 < (x1.length : Int) then ((laws_eqIntA3.f ((rd_T69 x0 x5).f0) ((rd_T69 x0 x5).f1) ((rd_T69 x0 x5).f2) ((rd_T69 x1 x5).f0) ((rd_T69 x1 x5).f1) ((rd_T69 x1 x5).f2)).bind fun t226 => (if t226 = true then (laws_eqIntA3S.l0 k x0 x1 (wrap64 (x5 + 1))) else (some false))) else (none)) else (none)) else (some true)
def laws_eqIntA3S.f (k : Nat) (l0 : List (S69)) (l1 : List (S69)) : Option (Bool) := if (l0.length : Int) = (l1.length : Int) then (laws_eqIntA3S.l0 k l0 l1 0) else (some false)
theorem laws_eqIntA3S.mono_l : ∀ k, (∀ y0 y1 y2, LeO (laws_eqIntA3S.l0 k y0 y1 y2) (laws_eqIntA3S.l0 (k + 1) y0 y1 y2))
  | 0 => fun _ _ _ r h => by simp [laws_eqIntA3S.l0] at h
  | k + 1 => by
    have ih0 := laws_eqIntA3S.mono_l k
    · intro y0 y1 y2
      unfold laws_eqIntA3S.l0
      repeat' first
      | (with_reducible exact ih0 _ _ _)
      | (with_reducible exact LeO.refl _)
      | (with_reducible exact LeO.none _)
      | (with_reducible refine LeO.ite ?_ ?_)
      | (with_reducible refine LeO.bind ?_ (fun _ => ?_))
      | exact ih0 _ _ _
      | exact LeO.none _
      | refine LeO.ite ?_ ?_
      | refine LeO.bind ?_ (fun _ => ?_)
theorem laws_eqIntA3S.mono : ∀ a0 a1 k, LeO (laws_eqIntA3S.f k a0 a1) (laws_eqIntA3S.f (k + 1) a0 a1) := by
  intro a0 a1 k
  have ih0 := laws_eqIntA3S.mono_l k
  unfold laws_eqIntA3S.f
  repeat' first
      | (with_reducible exact ih0 _ _ _)
      | (with_reducible exact LeO.refl _)
      | (with_reducible exact LeO.none _)
      | (with_reducible refine LeO.ite ?_ ?_)
      | (with_reducible refine LeO.bind ?_ (fun _ => ?_))
      | exact ih0 _ _ _
      | exact LeO.none _
      | refine LeO.ite ?_ ?_
      | refine LeO.bind ?_ (fun _ => ?_)
def laws_eqIntA3S.T6 : Bool × List (List Nat × List Nat) := (true, [([], []), ([], []), ([0, 1], [0, 1]), ([2], [2]), ([], []), ([], []), ([4, 5], [4, 5]), ([6], [6]), ([3, 7], [3, 7]), ([8], [8])])
def laws_eqIntA3S.B6 : List Nat := [0, 0, 3, 7, 0, 0, 48, 112, 255, 511]
theorem laws_eqIntA3S.tab6 : rtab .any (opsOf Try.f24 6) = laws_eqIntA3S.T6 := by kernel_rfl
theorem laws_eqIntA3S.bits6 : waitsOk laws_eqIntA3S.T6.2 laws_eqIntA3S.B6 = true := by kernel_rfl
set_option maxHeartbeats 8000000 in
set_option maxRecDepth 100000 in
theorem laws_eqIntA3S.calls (k : Nat) (A0 : Option Addr) (c0 : Nat) (l0 : List (S69)) (A1 : Option Addr) (c1 : Nat) (l1 : List (S69)) (r : Bool) (w : World) (hr0 : Kd.C k69 w A0 l0.length l0) (hc0 : l0.length ≤ c0) (hr1 : Kd.C k69 w A1 l1.length l1) (hc1 : l1.length ≤ c1) (h : laws_eqIntA3S.f k l0 l1 = some r) :
    Calls Try.prog 24 #[.slice A0 l0.length c0, .slice A1 l1.length c1] w fun e w' => e = .returned (.bool r) ∧ Below w.heap.size w w' := by
 have hu69 := Try.underlying69; have HR0 := A_ hr0; have HC0 := A_ hc0; clear hr0 hc0; have HR1 := A_ hr1; have HC1 := A_ hc1; clear hr1 hc1; have HB := A_ (Below.refl w.heap.size w); have H : (if (l0.length : Int) = (l1.length : Int) then (laws_eqIntA3S.l0 k l0 l1 0) else (some false)) = some r := h; clear h; by_cases c3 : (l0.length : Int) = (l1.length : Int)
 ·
  rw [if_pos c3] at H; have c3b0 : ((l0.length : Int) == (l1.length : Int)) = true := beq_iff_eq.mpr c3; have c3b1 : ((l0.length : Int) != (l1.length : Int)) = false := bne_eq_false_iff_eq.mpr c3
  have c3b2 : (l0.length == l1.length) = true := by first | simpa using c3 | (simp at c3 ⊢; omega)
  clear c3; have H' := A_ H; clear H; go_enter Try.func24, Try.ntmps24
  go_wp2
  go_loopg [5] k (fun kq v5 w' => ∃ (x5_1 : Int), v5 = .int .i64 x5_1 ∧ Aside0 (laws_eqIntA3S.l0 kq l0 l1 x5_1 = some r) ∧ Aside0 (kq ≤ k) ∧ Aside0 (Below w.heap.size w w'))
  case atStart => exact ⟨(0), rf, H', ⟨Nat.le_refl _⟩, ⟨hq HB⟩⟩
  case round =>
   clear H'; (try clear c3); (try clear c3b0); (try clear c3b1); (try clear c3b2); obtain ⟨x5_1, rfl, HA, HK1, HB⟩ := hrel
   cases gk with
   | zero => exact absurd HA.out (by simp [laws_eqIntA3S.l0])
   | succ k1 =>
    have H := HA.out; clear HA; simp only [laws_eqIntA3S.l0] at H
    by_cases c4 : x5_1 < (l0.length : Int)
    ·
     rw [if_pos c4] at H; have c4b0 := decide_eq_true c4; clear c4; by_cases c5 : 0 ≤ x5_1
     ·
      rw [if_pos c5] at H; have c5b0 := decide_eq_true c5; clear c5; by_cases c6 : x5_1 < (l1.length : Int)
      ·
       rw [if_pos c6] at H; have c6b0 := decide_eq_true c6; clear c6; replace H := bm H; obtain ⟨t226, A7, H⟩ := H; by_cases c8 : t226 = true
       ·
        subst c8
        have H1 : (laws_eqIntA3S.l0 k1 l0 l1 (wrap64 (x5_1 + 1))) = some r := by rw [if_pos rfl] at H; exact H
        clear H; have H := H1; clear H1; have H' := A_ H; clear H; try go_wp2
        replace HB := A_ (below_drew1 HB.out); have p224 : 0 ≤ (x5_1 : Int) := dq; have q224 : x5_1 < (l0.length : Int) := dq; obtain ⟨ad224, e224, hx224_0, hx224_1, hx224_2⟩ := at_T69 HR0.out x5_1 p224 q224; have hw224_2 := hx224_2; have hw224_1 := hx224_1; have hw224_0 := hx224_0
        cases e224
        replace hx224_0 := (HB.out.cell (World.block_lt_of_cell? w _ hx224_0)).trans hx224_0; replace hx224_1 := (HB.out.cell (World.block_lt_of_cell? w _ hx224_1)).trans hx224_1; replace hx224_2 := (HB.out.cell (World.block_lt_of_cell? w _ hx224_2)).trans hx224_2; replace p224 := eq_true p224; replace q224 := eq_true q224; have p225 : 0 ≤ (x5_1 : Int) := dq; have q225 : x5_1 < (l1.length : Int) := dq; obtain ⟨ad225, e225, hx225_0, hx225_1, hx225_2⟩ := at_T69 HR1.out x5_1 p225 q225; have hw225_2 := hx225_2; have hw225_1 := hx225_1; have hw225_0 := hx225_0
        cases e225
        replace hx225_0 := (HB.out.cell (World.block_lt_of_cell? w _ hx225_0)).trans hx225_0; replace hx225_1 := (HB.out.cell (World.block_lt_of_cell? w _ hx225_1)).trans hx225_1; replace hx225_2 := (HB.out.cell (World.block_lt_of_cell? w _ hx225_2)).trans hx225_2; replace p225 := eq_true p225; replace q225 := eq_true q225; refine start_ (n := 10) (S := fun w' => w'.cell? (ad224.add ((x5_1).toNat * 3)) = some (.int .i64 ((rd_T69 l0 x5_1).f0)) ∧ w'.cell? ⟨(ad224.add ((x5_1).toNat * 3)).block, (ad224.add ((x5_1).toNat * 3)).off + 1, none⟩ = some (.int .i64 ((rd_T69 l0 x5_1).f1)) ∧ w'.cell? ⟨(ad224.add ((x5_1).toNat * 3)).block, (ad224.add ((x5_1).toNat * 3)).off + 2, none⟩ = some (.int .i64 ((rd_T69 l0 x5_1).f2)) ∧ w'.cell? (ad225.add ((x5_1).toNat * 3)) = some (.int .i64 ((rd_T69 l1 x5_1).f0)) ∧ w'.cell? ⟨(ad225.add ((x5_1).toNat * 3)).block, (ad225.add ((x5_1).toNat * 3)).off + 1, none⟩ = some (.int .i64 ((rd_T69 l1 x5_1).f1)) ∧ w'.cell? ⟨(ad225.add ((x5_1).toNat * 3)).block, (ad225.add ((x5_1).toNat * 3)).off + 2, none⟩ = some (.int .i64 ((rd_T69 l1 x5_1).f2))) (ds := []) #[false, false, false, false, false, false, false, false, false, false] (by kernel_rfl) rfl rfl ⟨((HB.out.cell (World.block_lt_of_cell? w _ hw224_0)).trans hw224_0), ((HB.out.cell (World.block_lt_of_cell? w _ hw224_1)).trans hw224_1), ((HB.out.cell (World.block_lt_of_cell? w _ hw224_2)).trans hw224_2), ((HB.out.cell (World.block_lt_of_cell? w _ hw225_0)).trans hw225_0), ((HB.out.cell (World.block_lt_of_cell? w _ hw225_1)).trans hw225_1), ((HB.out.cell (World.block_lt_of_cell? w _ hw225_2)).trans hw225_2)⟩ (fun hHeld => ?_); refine with_tabW laws_eqIntA3S.tab6 laws_eqIntA3S.bits6 (fun HT_ HW_ => ?_); generalize wr.drew = w9 at HB hx224_0 hx224_1 hx224_2 hx225_0 hx225_1 hx225_2 hHeld ⊢; refine puT (i := 0) (N := some 17) HT_ #[true, false, false, false, false, false, false, false, false, false] ?_; refine puT (i := 1) (N := some 18) HT_ #[true, true, false, false, false, false, false, false, false, false] ?_; refine puT (i := 2) (N := some 19) HT_ #[true, true, true, false, false, false, false, false, false, false] ?_; refine puT (i := 4) (N := some 21) HT_ #[true, true, true, false, true, false, false, false, false, false] ?_; refine puT (i := 5) (N := some 22) HT_ #[true, true, true, false, true, true, false, false, false, false] ?_; refine puT (i := 6) (N := some 23) HT_ #[true, true, true, false, true, true, true, false, false, false] ?_; refine tkT (i := 3) (N := some 20) HT_ HW_ hHeld #[true, true, true, true, true, true, true, false, false, false] ?_; refine tkT (i := 7) (N := some 24) HT_ HW_ hHeld #[true, true, true, true, true, true, true, true, false, false] ?_; refine onT (i := 8) (N := some 25) HT_ #[true, true, true, true, true, true, true, true, true, false] (fun K hK => ?_); refine go_ Try.func48 #[.agg #[.int .i64 ((rd_T69 l0 x5_1).f0), .int .i64 ((rd_T69 l0 x5_1).f1), .int .i64 ((rd_T69 l0 x5_1).f2)], .agg #[.int .i64 ((rd_T69 l1 x5_1).f0), .int .i64 ((rd_T69 l1 x5_1).f1), .int .i64 ((rd_T69 l1 x5_1).f2)]] ?_; with_reducible refine (laws_eqIntA3.calls ((rd_T69 l0 x5_1).f0) ((rd_T69 l0 x5_1).f1) ((rd_T69 l0 x5_1).f2) ((rd_T69 l1 x5_1).f0) ((rd_T69 l1 x5_1).f1) ((rd_T69 l1 x5_1).f2) true _ A7.out).mono ?_
        rintro e w10 ⟨rfl, hb⟩; refine ⟨_, rfl, ?_⟩; replace HB := A_ (below_step (hq HB) hb); clear hb; refine hK.out _ _ ⟨((HB.out.cell (World.block_lt_of_cell? w _ hw224_0)).trans hw224_0), ((HB.out.cell (World.block_lt_of_cell? w _ hw224_1)).trans hw224_1), ((HB.out.cell (World.block_lt_of_cell? w _ hw224_2)).trans hw224_2), ((HB.out.cell (World.block_lt_of_cell? w _ hw225_0)).trans hw225_0), ((HB.out.cell (World.block_lt_of_cell? w _ hw225_1)).trans hw225_1), ((HB.out.cell (World.block_lt_of_cell? w _ hw225_2)).trans hw225_2)⟩ (fun hHeld => ?_); clear hK K; refine nq_ (some 25) ?_; refine puT (i := 9) (N := some 26) HT_ #[true, true, true, true, true, true, true, true, true, true] ?_; refine done_ (done_of HT_.out (by kernel_rfl)) ?_; try go_wp2
        go_roundg k1
        case measure => have := HK1.out; omega
        case rel => exact ⟨(wrap64 (x5_1 + 1)), rf, H', ⟨by have := HK1.out; omega⟩, ⟨hq HB⟩⟩
       ·
        replace c8 := Bool.eq_false_iff.mpr c8; subst c8
        have H1 : (some false) = some r := by rw [if_neg (show ¬ (false = true) by decide)] at H; exact H
        clear H; have H := H1; clear H1; obtain rfl := Option.some.inj H; try go_wp2
        replace HB := A_ (below_drew1 HB.out); have p224 : 0 ≤ (x5_1 : Int) := dq; have q224 : x5_1 < (l0.length : Int) := dq; obtain ⟨ad224, e224, hx224_0, hx224_1, hx224_2⟩ := at_T69 HR0.out x5_1 p224 q224; have hw224_2 := hx224_2; have hw224_1 := hx224_1; have hw224_0 := hx224_0
        cases e224
        replace hx224_0 := (HB.out.cell (World.block_lt_of_cell? w _ hx224_0)).trans hx224_0; replace hx224_1 := (HB.out.cell (World.block_lt_of_cell? w _ hx224_1)).trans hx224_1; replace hx224_2 := (HB.out.cell (World.block_lt_of_cell? w _ hx224_2)).trans hx224_2; replace p224 := eq_true p224; replace q224 := eq_true q224; have p225 : 0 ≤ (x5_1 : Int) := dq; have q225 : x5_1 < (l1.length : Int) := dq; obtain ⟨ad225, e225, hx225_0, hx225_1, hx225_2⟩ := at_T69 HR1.out x5_1 p225 q225; have hw225_2 := hx225_2; have hw225_1 := hx225_1; have hw225_0 := hx225_0
        cases e225
        replace hx225_0 := (HB.out.cell (World.block_lt_of_cell? w _ hx225_0)).trans hx225_0; replace hx225_1 := (HB.out.cell (World.block_lt_of_cell? w _ hx225_1)).trans hx225_1; replace hx225_2 := (HB.out.cell (World.block_lt_of_cell? w _ hx225_2)).trans hx225_2; replace p225 := eq_true p225; replace q225 := eq_true q225; refine start_ (n := 10) (S := fun w' => w'.cell? (ad224.add ((x5_1).toNat * 3)) = some (.int .i64 ((rd_T69 l0 x5_1).f0)) ∧ w'.cell? ⟨(ad224.add ((x5_1).toNat * 3)).block, (ad224.add ((x5_1).toNat * 3)).off + 1, none⟩ = some (.int .i64 ((rd_T69 l0 x5_1).f1)) ∧ w'.cell? ⟨(ad224.add ((x5_1).toNat * 3)).block, (ad224.add ((x5_1).toNat * 3)).off + 2, none⟩ = some (.int .i64 ((rd_T69 l0 x5_1).f2)) ∧ w'.cell? (ad225.add ((x5_1).toNat * 3)) = some (.int .i64 ((rd_T69 l1 x5_1).f0)) ∧ w'.cell? ⟨(ad225.add ((x5_1).toNat * 3)).block, (ad225.add ((x5_1).toNat * 3)).off + 1, none⟩ = some (.int .i64 ((rd_T69 l1 x5_1).f1)) ∧ w'.cell? ⟨(ad225.add ((x5_1).toNat * 3)).block, (ad225.add ((x5_1).toNat * 3)).off + 2, none⟩ = some (.int .i64 ((rd_T69 l1 x5_1).f2))) (ds := []) #[false, false, false, false, false, false, false, false, false, false] (by kernel_rfl) rfl rfl ⟨((HB.out.cell (World.block_lt_of_cell? w _ hw224_0)).trans hw224_0), ((HB.out.cell (World.block_lt_of_cell? w _ hw224_1)).trans hw224_1), ((HB.out.cell (World.block_lt_of_cell? w _ hw224_2)).trans hw224_2), ((HB.out.cell (World.block_lt_of_cell? w _ hw225_0)).trans hw225_0), ((HB.out.cell (World.block_lt_of_cell? w _ hw225_1)).trans hw225_1), ((HB.out.cell (World.block_lt_of_cell? w _ hw225_2)).trans hw225_2)⟩ (fun hHeld => ?_); refine with_tabW laws_eqIntA3S.tab6 laws_eqIntA3S.bits6 (fun HT_ HW_ => ?_); generalize wr.drew = w11 at HB hx224_0 hx224_1 hx224_2 hx225_0 hx225_1 hx225_2 hHeld ⊢; refine puT (i := 0) (N := some 17) HT_ #[true, false, false, false, false, false, false, false, false, false] ?_; refine puT (i := 1) (N := some 18) HT_ #[true, true, false, false, false, false, false, false, false, false] ?_; refine puT (i := 2) (N := some 19) HT_ #[true, true, true, false, false, false, false, false, false, false] ?_; refine puT (i := 4) (N := some 21) HT_ #[true, true, true, false, true, false, false, false, false, false] ?_; refine puT (i := 5) (N := some 22) HT_ #[true, true, true, false, true, true, false, false, false, false] ?_; refine puT (i := 6) (N := some 23) HT_ #[true, true, true, false, true, true, true, false, false, false] ?_; refine tkT (i := 3) (N := some 20) HT_ HW_ hHeld #[true, true, true, true, true, true, true, false, false, false] ?_; refine tkT (i := 7) (N := some 24) HT_ HW_ hHeld #[true, true, true, true, true, true, true, true, false, false] ?_; refine onT (i := 8) (N := some 25) HT_ #[true, true, true, true, true, true, true, true, true, false] (fun K hK => ?_); refine go_ Try.func48 #[.agg #[.int .i64 ((rd_T69 l0 x5_1).f0), .int .i64 ((rd_T69 l0 x5_1).f1), .int .i64 ((rd_T69 l0 x5_1).f2)], .agg #[.int .i64 ((rd_T69 l1 x5_1).f0), .int .i64 ((rd_T69 l1 x5_1).f1), .int .i64 ((rd_T69 l1 x5_1).f2)]] ?_; with_reducible refine (laws_eqIntA3.calls ((rd_T69 l0 x5_1).f0) ((rd_T69 l0 x5_1).f1) ((rd_T69 l0 x5_1).f2) ((rd_T69 l1 x5_1).f0) ((rd_T69 l1 x5_1).f1) ((rd_T69 l1 x5_1).f2) false _ A7.out).mono ?_
        rintro e w12 ⟨rfl, hb⟩; refine ⟨_, rfl, ?_⟩; replace HB := A_ (below_step (hq HB) hb); clear hb; refine hK.out _ _ ⟨((HB.out.cell (World.block_lt_of_cell? w _ hw224_0)).trans hw224_0), ((HB.out.cell (World.block_lt_of_cell? w _ hw224_1)).trans hw224_1), ((HB.out.cell (World.block_lt_of_cell? w _ hw224_2)).trans hw224_2), ((HB.out.cell (World.block_lt_of_cell? w _ hw225_0)).trans hw225_0), ((HB.out.cell (World.block_lt_of_cell? w _ hw225_1)).trans hw225_1), ((HB.out.cell (World.block_lt_of_cell? w _ hw225_2)).trans hw225_2)⟩ (fun hHeld => ?_); clear hK K; refine nq_ (some 25) ?_; refine puT (i := 9) (N := some 26) HT_ #[true, true, true, true, true, true, true, true, true, true] ?_; refine done_ (done_of HT_.out (by kernel_rfl)) ?_; try go_wp2
        go_ret
        exact ⟨rt, hq HB⟩
      ·
       rw [if_neg c6] at H; exact absurd H (by simp)
     ·
      rw [if_neg c5] at H; exact absurd H (by simp)
    ·
     rw [if_neg c4] at H; have c4b0 := decide_eq_false c4; clear c4; obtain rfl := Option.some.inj H; go_wp2
     go_ret
     exact ⟨rt, hq HB⟩
 ·
  rw [if_neg c3] at H; have c3b0 : ((l0.length : Int) == (l1.length : Int)) = false := beq_eq_false_iff_ne.mpr c3; have c3b1 : ((l0.length : Int) != (l1.length : Int)) = true := bne_iff_ne.mpr c3
  have c3b2 : (l0.length == l1.length) = false := by first | simpa using c3 | (simp at c3 ⊢; omega)
  obtain rfl := Option.some.inj H; go_enter Try.func24, Try.ntmps24
  go_wp2
  go_ret
  exact ⟨rt, hq HB⟩

/-! ### laws_FnExactIsRelay: function 6 -/
def laws_FnExactIsRelay.j0 : Nat → List (S63) → List (S69) → List (S61) → List (S69) → Bool → Option (Bool)
  | 0, _, _, _, _, _ => none
  | k + 1, x1, x4, x14, x15, x61 => if x61 = true then (some false) else ((laws_toCarrierS.f k x1).bind fun t250 => ((laws_eqCarrierS.f k x14 t250).bind fun t253 => (if t253 = true then ((laws_toIntA3S.f k x4).bind fun t254 => ((laws_eqIntA3S.f k x15 t254).bind fun t257 => (if t257 = true then (some true) else (some false)))) else (some false))))
def laws_FnExactIsRelay.f (k : Nat) (a0_0 : Int) (a0_1 : Bool) (l1 : List (S63)) (a2 : Int) (a3 : Int) (l4 : List (S69)) : Option (Bool) := (laws_szCarrierS.f l1 1048576).bind fun t228 => (if t228 < 0 then (some true) else ((laws_szIntA3S.f l4 t228).bind fun t229 => (if t229 < 0 then (some true) else ((laws_toRoad.f a0_0 a0_1).bind fun bt230 => ((laws_toCarrierS.f k l1).bind fun t232 => ((laws_toIntA3S.f k l4).bind fun t235 => ((spec_IsRelay.f k bt230.1 bt230.2 t232 a2 a3 t235).bind fun bt238 => ((laws_toCarrierS.f k l1).bind fun t240 => ((laws_toIntA3S.f k l4).bind fun t243 => ((laws_toRoad.f a0_0 a0_1).bind fun bt246 => ((impl_IsRelay.f k bt246.1 bt246.2 t240 a2 a3 t243).bind fun bt248 => (if (bt248.1 != bt238.1) = true then (laws_FnExactIsRelay.j0 k l1 l4 t240 t243 true) else (laws_FnExactIsRelay.j0 k l1 l4 t240 t243 (bt248.2 != bt238.2))))))))))))))
theorem laws_FnExactIsRelay.bad0 {k} {r : Bool} {y0 y1 y2 y3} (h : laws_FnExactIsRelay.j0 k y0 y1 y2 y3 true = some r) (hr : r = true) : False := by subst hr; cases k <;> simp [laws_FnExactIsRelay.j0] at h
set_option maxHeartbeats 100000000 in
set_option maxRecDepth 100000 in
theorem laws_FnExactIsRelay.calls (k : Nat) (a0_0 : Int) (a0_1 : Bool) (A1 : Option Addr) (c1 : Nat) (l1 : List (S63)) (a2 : Int) (a3 : Int) (A4 : Option Addr) (c4 : Nat) (l4 : List (S69)) (r : Bool) (hr_ : r = true) (w : World) (hr1 : Kd.C k63 w A1 l1.length l1) (hc1 : l1.length ≤ c1) (hr4 : Kd.C k69 w A4 l4.length l4) (hc4 : l4.length ≤ c4) (h : laws_FnExactIsRelay.f k a0_0 a0_1 l1 a2 a3 l4 = some r) :
    Calls Try.prog 6 #[.agg #[.int .i64 a0_0, .bool a0_1], .slice A1 l1.length c1, .int .i64 a2, .int .i64 a3, .slice A4 l4.length c4] w fun e w' => e = .returned (.bool r) ∧ Below w.heap.size w w' := by
 have hu23 := Try.underlying23; have HR1 := A_ hr1; have HC1 := A_ hc1; clear hr1 hc1; have HR4 := A_ hr4; have HC4 := A_ hc4; clear hr4 hc4; have HB := A_ (Below.refl w.heap.size w); have H : ((laws_szCarrierS.f l1 1048576).bind fun t228 => (if t228 < 0 then (some true) else ((laws_szIntA3S.f l4 t228).bind fun t229 => (if t229 < 0 then (some true) else ((laws_toRoad.f a0_0 a0_1).bind fun bt230 => ((laws_toCarrierS.f k l1).bind fun t232 => ((laws_toIntA3S.f k l4).bind fun t235 => ((spec_IsRelay.f k bt230.1 bt230.2 t232 a2 a3 t235).bind fun bt238 => ((laws_toCarrierS.f k l1).bind fun t240 => ((laws_toIntA3S.f k l4).bind fun t243 => ((laws_toRoad.f a0_0 a0_1).bind fun bt246 => ((impl_IsRelay.f k bt246.1 bt246.2 t240 a2 a3 t243).bind fun bt248 => (if (bt248.1 != bt238.1) = true then (laws_FnExactIsRelay.j0 k l1 l4 t240 t243 true) else (laws_FnExactIsRelay.j0 k l1 l4 t240 t243 (bt248.2 != bt238.2))))))))))))))) = some r := h; clear h; replace H := bm H; obtain ⟨t228, A6, H⟩ := H; by_cases c7 : t228 < 0
 ·
  rw [if_pos c7] at H; have c7b0 := decide_eq_true c7; clear c7; obtain rfl := Option.some.inj H; go_enter Try.func6, Try.ntmps6
  go_wp2_with (first | ((with_reducible refine gate_dst (N := 5) rfl ?_); refine bx (N := 5) #[.int .i64 a0_0, .bool a0_1] 23 ?_; intro gb227 hg w8 hbox hb; have BK227 := A_ (hbox); have GW227 := A_ (bs hg (hq HB) : w.heap.size ≤ gb227); have GE227 := A_ (bs hg (hq HB) : w.heap.size ≤ gb227); replace HB := A_ (below_step (hq HB) hb); clear hb hbox hg) | ((with_reducible refine gate_callee (f := 13) rfl ?_); refine gL (some 20) Try.func13 #[.slice A1 l1.length c1, .int .i64 1048576] ?_; (with_reducible refine (laws_szCarrierS.calls _ _ l1 1048576 t228 _ ?side1 ?side2 A6.out).mono ?_); (case side1 => exact cq (Kd.C_below HR1.out HB.out)); (case side2 => exact HC1.out); rintro e w' ⟨rfl, ⟨nd, rfl⟩⟩; refine ⟨_, rfl, ?_⟩))
  go_ret
  exact ⟨rt, hq HB⟩
 ·
  rw [if_neg c7] at H; have c7b0 := decide_eq_false c7; clear c7; replace H := bm H; obtain ⟨t229, A9, H⟩ := H; by_cases c10 : t229 < 0
  ·
   rw [if_pos c10] at H; have c10b0 := decide_eq_true c10; clear c10; obtain rfl := Option.some.inj H; go_enter Try.func6, Try.ntmps6
   go_wp2_with (first | ((with_reducible refine gate_dst (N := 5) rfl ?_); refine bx (N := 5) #[.int .i64 a0_0, .bool a0_1] 23 ?_; intro gb227 hg w11 hbox hb; have BK227 := A_ (hbox); have GW227 := A_ (bs hg (hq HB) : w.heap.size ≤ gb227); have GE227 := A_ (bs hg (hq HB) : w.heap.size ≤ gb227); replace HB := A_ (below_step (hq HB) hb); clear hb hbox hg) | ((with_reducible refine gate_callee (f := 13) rfl ?_); refine gL (some 20) Try.func13 #[.slice A1 l1.length c1, .int .i64 1048576] ?_; (with_reducible refine (laws_szCarrierS.calls _ _ l1 1048576 t228 _ ?side1 ?side2 A6.out).mono ?_); (case side1 => exact cq (Kd.C_below HR1.out HB.out)); (case side2 => exact HC1.out); rintro e w' ⟨rfl, ⟨nd, rfl⟩⟩; refine ⟨_, rfl, ?_⟩) | ((with_reducible refine gate_callee (f := 20) rfl ?_); refine gL (some 25) Try.func20 #[.slice A4 l4.length c4, .int .i64 t228] ?_; (with_reducible refine (laws_szIntA3S.calls _ _ l4 t228 t229 _ ?side1 ?side2 A9.out).mono ?_); (case side1 => exact cq (Kd.C_below HR4.out (hq HB))); (case side2 => exact HC4.out); rintro e w' ⟨rfl, ⟨nd, rfl⟩⟩; refine ⟨_, rfl, ?_⟩))
   go_ret
   exact ⟨rt, hq HB⟩
  ·
   rw [if_neg c10] at H; have c10b0 := decide_eq_false c10; clear c10; replace H := bm H; obtain ⟨⟨t230, t231⟩, A12, H⟩ := H; (try dsimp only at H); replace H := bm H; obtain ⟨t232, A13, H⟩ := H; replace H := bm H; obtain ⟨t235, A14, H⟩ := H; replace H := bm H; obtain ⟨⟨t238, t239⟩, A15, H⟩ := H; (try dsimp only at H); replace H := bm H; obtain ⟨t240, A16, H⟩ := H; replace H := bm H; obtain ⟨t243, A17, H⟩ := H; replace H := bm H; obtain ⟨⟨t246, t247⟩, A18, H⟩ := H; (try dsimp only at H); replace H := bm H; obtain ⟨⟨t248, t249⟩, A19, H⟩ := H; (try dsimp only at H); have HC20 := A_ H; clear H; go_enter Try.func6, Try.ntmps6
   go_upto_region 12 with (first | ((with_reducible refine gate_dst (N := 5) rfl ?_); refine bx (N := 5) #[.int .i64 a0_0, .bool a0_1] 23 ?_; intro gb227 hg w21 hbox hb; have BK227 := A_ (hbox); have GW227 := A_ (bs hg (hq HB) : w.heap.size ≤ gb227); have GE227 := A_ (bs hg (hq HB) : w.heap.size ≤ gb227); replace HB := A_ (below_step (hq HB) hb); clear hb hbox hg) | ((with_reducible refine gate_callee (f := 13) rfl ?_); refine gL (some 20) Try.func13 #[.slice A1 l1.length c1, .int .i64 1048576] ?_; (with_reducible refine (laws_szCarrierS.calls _ _ l1 1048576 t228 _ ?side1 ?side2 A6.out).mono ?_); (case side1 => exact cq (Kd.C_below HR1.out HB.out)); (case side2 => exact HC1.out); rintro e w' ⟨rfl, ⟨nd, rfl⟩⟩; refine ⟨_, rfl, ?_⟩) | ((with_reducible refine gate_callee (f := 20) rfl ?_); refine gL (some 25) Try.func20 #[.slice A4 l4.length c4, .int .i64 t228] ?_; (with_reducible refine (laws_szIntA3S.calls _ _ l4 t228 t229 _ ?side1 ?side2 A9.out).mono ?_); (case side1 => exact cq (Kd.C_below HR4.out (hq HB))); (case side2 => exact HC4.out); rintro e w' ⟨rfl, ⟨nd, rfl⟩⟩; refine ⟨_, rfl, ?_⟩; have hcz22_0 : w21.cell? ⟨gb227, 0, none⟩ = some (.int .i64 a0_0) := bc BK227 0; have hcz22_1 : w21.cell? ⟨gb227, 1, none⟩ = some (.bool a0_1) := bc BK227 1; have hfz22_0 := blk_frozen BK227.out 0; have hfz22_1 := blk_frozen BK227.out 1) | ((with_reducible refine gate_callee (f := 8) rfl ?_); refine gL (some 30) Try.func8 #[.agg #[.int .i64 a0_0, .bool a0_1]] ?_; (with_reducible refine (laws_toRoad.calls a0_0 a0_1 t230 t231 _ A12.out).mono ?_); rintro e w23 ⟨rfl, hb⟩; refine ⟨_, rfl, ?_⟩; replace BK227 := A_ (blk_below (bq BK227) hb); replace HB := A_ (below_step (hq HB) hb); clear hb) | ((with_reducible refine gate_callee (f := 15) rfl ?_); refine gL (some 32) Try.func15 #[.slice A1 l1.length c1] ?_; (with_reducible refine (laws_toCarrierS.calls k _ _ l1 t232 _ ?side1 ?side2 A13.out).mono ?_); (case side1 => exact cq (Kd.C_below HR1.out HB.out)); (case side2 => exact HC1.out); rintro e w24 ⟨v233, rfl, ho0, hb⟩; refine ⟨_, rfl, ?_⟩; have HO234 := A_ (Kd.R_lower ho0 (below_size (hq HB))); replace BK227 := A_ (blk_below (bq BK227) hb); replace HB := A_ (below_step (hq HB) hb); clear hb ho0) | ((with_reducible refine gate_callee (f := 22) rfl ?_); refine gL (some 36) Try.func22 #[.slice A4 l4.length c4] ?_; (with_reducible refine (laws_toIntA3S.calls k _ _ l4 t235 _ ?side1 ?side2 A14.out).mono ?_); (case side1 => exact cq (Kd.C_below HR4.out HB.out)); (case side2 => exact HC4.out); rintro e w25 ⟨v236, rfl, ho0, hb⟩; refine ⟨_, rfl, ?_⟩; replace HO234 := A_ (Kd.R_below (rq HO234) hb); have HO237 := A_ (Kd.R_lower ho0 (below_size (hq HB))); replace BK227 := A_ (blk_below (bq BK227) hb); replace HB := A_ (below_step (hq HB) hb); clear hb ho0; obtain ⟨Ao26, co26, eo26⟩ := Kd.R_slice HO234.out; subst eo26; obtain ⟨Ao27, co27, eo27⟩ := Kd.R_slice HO237.out; subst eo27) | ((with_reducible refine gate_callee (f := 21) rfl ?_); refine gL (some 37) Try.func21 #[.agg #[.int .i64 t230, .bool t231], .slice Ao26 t232.length co26, .int .i64 a2, .int .i64 a3, .slice Ao27 t235.length co27] ?_; (with_reducible refine (spec_IsRelay.calls k t230 t231 _ _ t232 a2 a3 _ _ t235 t238 t239 _ ?side1 ?side2 ?side3 ?side4 A15.out).mono ?_); (case side1 => exact cq (Kd.R_reads' HO234.out).2.2); (case side2 => exact (Kd.R_reads' HO234.out).2.1); (case side3 => exact cq (Kd.R_reads' HO237.out).2.2); (case side4 => exact (Kd.R_reads' HO237.out).2.1); rintro e w28 ⟨rfl, hb⟩; refine ⟨_, rfl, ?_⟩; replace HO234 := A_ (Kd.R_below (rq HO234) hb); replace HO237 := A_ (Kd.R_below (rq HO237) hb); replace BK227 := A_ (blk_below (bq BK227) hb); replace HB := A_ (below_step (hq HB) hb); clear hb) | ((with_reducible refine gate_callee (f := 15) rfl ?_); refine gL (some 41) Try.func15 #[.slice A1 l1.length c1] ?_; (with_reducible refine (laws_toCarrierS.calls k _ _ l1 t240 _ ?side1 ?side2 A16.out).mono ?_); (case side1 => exact cq (Kd.C_below HR1.out HB.out)); (case side2 => exact HC1.out); rintro e w29 ⟨v241, rfl, ho0, hb⟩; refine ⟨_, rfl, ?_⟩; replace HO237 := A_ (Kd.R_below (rq HO237) hb); have HO242 := A_ (Kd.R_lower (Kd.R_new' ho0 (Kd.R_lt (rq HO234))) (below_size (hq HB))); replace HO234 := A_ (Kd.R_elder' (rq HO234) (Kd.R_base ho0) hb); replace BK227 := A_ (blk_below (bq BK227) hb); replace HB := A_ (below_step (hq HB) hb); clear hb ho0) | ((with_reducible refine gate_callee (f := 22) rfl ?_); refine gL (some 43) Try.func22 #[.slice A4 l4.length c4] ?_; (with_reducible refine (laws_toIntA3S.calls k _ _ l4 t243 _ ?side1 ?side2 A17.out).mono ?_); (case side1 => exact cq (Kd.C_below HR4.out HB.out)); (case side2 => exact HC4.out); rintro e w30 ⟨v244, rfl, ho0, hb⟩; refine ⟨_, rfl, ?_⟩; replace HO234 := A_ (Kd.R_below (rq HO234) hb); replace HO242 := A_ (Kd.R_below (rq HO242) hb); have HO245 := A_ (Kd.R_lower (Kd.R_new' ho0 (Kd.R_lt (rq HO237))) (below_size (hq HB))); replace HO237 := A_ (Kd.R_elder' (rq HO237) (Kd.R_base ho0) hb); replace BK227 := A_ (blk_below (bq BK227) hb); replace HB := A_ (below_step (hq HB) hb); clear hb ho0; have hcz31_0 : w30.cell? ⟨gb227, 0, none⟩ = some (.int .i64 a0_0) := bc BK227 0; have hcz31_1 : w30.cell? ⟨gb227, 1, none⟩ = some (.bool a0_1) := bc BK227 1; have hfz31_0 := blk_frozen BK227.out 0; have hfz31_1 := blk_frozen BK227.out 1) | ((with_reducible refine gate_callee (f := 8) rfl ?_); refine gL (some 46) Try.func8 #[.agg #[.int .i64 a0_0, .bool a0_1]] ?_; (with_reducible refine (laws_toRoad.calls a0_0 a0_1 t246 t247 _ A18.out).mono ?_); rintro e w32 ⟨rfl, hb⟩; refine ⟨_, rfl, ?_⟩; replace HO234 := A_ (Kd.R_below (rq HO234) hb); replace HO237 := A_ (Kd.R_below (rq HO237) hb); replace HO242 := A_ (Kd.R_below (rq HO242) hb); replace HO245 := A_ (Kd.R_below (rq HO245) hb); replace BK227 := A_ (blk_below (bq BK227) hb); replace HB := A_ (below_step (hq HB) hb); clear hb; obtain ⟨Ao33, co33, eo33⟩ := Kd.R_slice HO242.out; subst eo33; obtain ⟨Ao34, co34, eo34⟩ := Kd.R_slice HO245.out; subst eo34) | ((with_reducible refine gate_callee (f := 23) rfl ?_); refine gL (some 51) Try.func23 #[.agg #[.int .i64 t246, .bool t247], .slice Ao33 t240.length co33, .int .i64 a2, .int .i64 a3, .slice Ao34 t243.length co34] ?_; (with_reducible refine (impl_IsRelay.calls k t246 t247 _ _ t240 a2 a3 _ _ t243 t248 t249 _ ?side1 ?side2 ?side3 ?side4 A19.out).mono ?_); (case side1 => exact cq (Kd.R_reads' HO242.out).2.2); (case side2 => exact (Kd.R_reads' HO242.out).2.1); (case side3 => exact cq (Kd.R_reads' HO245.out).2.2); (case side4 => exact (Kd.R_reads' HO245.out).2.1); rintro e w35 ⟨rfl, hb⟩; refine ⟨_, rfl, ?_⟩; replace HO234 := A_ (Kd.R_below (rq HO234) hb); replace HO237 := A_ (Kd.R_below (rq HO237) hb); replace HO242 := A_ (Kd.R_below (rq HO242) hb); replace HO245 := A_ (Kd.R_below (rq HO245) hb); replace BK227 := A_ (blk_below (bq BK227) hb); replace HB := A_ (below_step (hq HB) hb); clear hb))
   (try simp only [Act.put, List.setIfInBounds_toArray, List.set_cons_zero, List.set_cons_succ]); go_cut [61] (fun v61 wc => ∃ (kq : Nat) (x61_19 : Bool), v61 = .bool x61_19 ∧ Aside0 (laws_FnExactIsRelay.j0 kq l1 l4 t240 t243 x61_19 = some r) ∧ Aside0 (kq ≤ k) ∧ Aside0 (Kd.R k61 61 wc w.heap.size (fun _ => True) (.slice Ao33 t240.length co33) t240) ∧ Aside0 (Kd.R k69 69 wc w.heap.size (fun _ => True) (.slice Ao34 t243.length co34) t243) ∧ Aside0 (wc.heap[gb227]? = some (.cells #[.int .i64 a0_0, .bool a0_1] 23 (0, 0))) ∧ Aside0 (Below w.heap.size w wc))
   case first =>
    have H := HC20.out; clear HC20; by_cases c36 : (t248 != t238) = true
    ·
     rw [if_pos c36] at H; have c36b0 : (t248 != t238) = true := c36; (try (have c36b1 : decide (t248 = t238) = false := by simpa using c36)); (try (have c36b2 : (t248 == t238) = false := by simpa using c36)); (try (have c36b3 : ¬ (t248 = t238) := by simpa using c36)); clear c36; (first | rw [c36b0] | (simp only [i64_w, i32_w]; rw [c36b0]) | skip); exact (laws_FnExactIsRelay.bad0 H hr_).elim
    ·
     rw [if_neg c36] at H
     have c36b0 : (t248 != t238) = false := by simpa using c36
     (try (have c36b1 : decide (t248 = t238) = true := by simpa using c36)); (try (have c36b2 : (t248 == t238) = true := by simpa using c36)); clear c36; (first | rw [c36b0] | (simp only [i64_w, i32_w]; rw [c36b0]) | skip); have H' := A_ H; clear H; go_wp2
     go_meet
     case rel => exact ⟨_, ((t249 != t239)), rf, H', ⟨by first | omega | exact Nat.le_refl _⟩, ⟨by (with_reducible repeat (first | apply Kd.R_alloc | apply Kd.R_drewN | apply Kd.R_drew)); exact Kd.R_mono HO242.out (fun _ hk => trivial)⟩, ⟨by (with_reducible repeat (first | apply Kd.R_alloc | apply Kd.R_drewN | apply Kd.R_drew)); exact Kd.R_mono HO245.out (fun _ hk => trivial)⟩, ⟨bq BK227⟩, ⟨hq HB⟩⟩
   case rest =>
    as_aux_lemma =>
     clear HC20; (try clear c7); (try clear c7b0); (try clear c10); (try clear c10b0); (try clear c36); (try clear c36b0); (try clear c36b1); (try clear c36b2); (try clear hcz22_0); (try clear hcz22_1); (try clear hcz31_0); (try clear hcz31_1); (try clear hfz22_0); (try clear hfz22_1); (try clear hfz31_0); (try clear hfz31_1); obtain ⟨kq, x61_19, rfl, HA, HJ19, HO_14, HO_15, BK227, HB⟩ := hcut
     cases kq with
     | zero => exact absurd HA.out (by simp [laws_FnExactIsRelay.j0])
     | succ kj19 =>
      have H := HA.out; clear HA; simp only [laws_FnExactIsRelay.j0] at H
      by_cases c37 : x61_19 = true
      ·
       subst c37
       have H1 : (some false) = some r := by rw [if_pos rfl] at H; exact H
       clear H; have H := H1; clear H1; obtain rfl := Option.some.inj H; exact absurd hr_ (by decide)
      ·
       as_aux_lemma =>
        replace c37 := Bool.eq_false_iff.mpr c37; subst c37
        have H1 : ((laws_toCarrierS.f kj19 l1).bind fun t250 => ((laws_eqCarrierS.f kj19 t240 t250).bind fun t253 => (if t253 = true then ((laws_toIntA3S.f kj19 l4).bind fun t254 => ((laws_eqIntA3S.f kj19 t243 t254).bind fun t257 => (if t257 = true then (some true) else (some false)))) else (some false)))) = some r := by rw [if_neg (show ¬ (false = true) by decide)] at H; exact H
        clear H; have H := H1; clear H1; replace H := bm H; obtain ⟨t250, A38, H⟩ := H; replace H := bm H; obtain ⟨t253, A39, H⟩ := H; by_cases c40 : t253 = true
        ·
         subst c40
         have H1 : ((laws_toIntA3S.f kj19 l4).bind fun t254 => ((laws_eqIntA3S.f kj19 t243 t254).bind fun t257 => (if t257 = true then (some true) else (some false)))) = some r := by rw [if_pos rfl] at H; exact H
         clear H; have H := H1; clear H1; replace H := bm H; obtain ⟨t254, A41, H⟩ := H; replace H := bm H; obtain ⟨t257, A42, H⟩ := H; by_cases c43 : t257 = true
         ·
          subst c43
          have H1 : (some true) = some r := by rw [if_pos rfl] at H; exact H
          clear H; have H := H1; clear H1; obtain rfl := Option.some.inj H; go_wp2_with (first | ((with_reducible refine gate_callee (f := 15) rfl ?_); refine gL (some 64) Try.func15 #[.slice A1 l1.length c1] ?_; (with_reducible refine (laws_toCarrierS.calls kj19 _ _ l1 t250 _ ?side1 ?side2 A38.out).mono ?_); (case side1 => exact cq (Kd.C_below HR1.out HB.out)); (case side2 => exact HC1.out); rintro e w44 ⟨v251, rfl, ho0, hb⟩; refine ⟨_, rfl, ?_⟩; replace HO_15 := A_ (Kd.R_below (rq HO_15) hb); have HO252 := A_ (Kd.R_lower (Kd.R_new' ho0 (Kd.R_lt (rq HO_14))) (below_size (hq HB))); replace HO_14 := A_ (Kd.R_elder' (rq HO_14) (Kd.R_base ho0) hb); replace BK227 := A_ (blk_below (bq BK227) hb); replace HB := A_ (below_step (hq HB) hb); clear hb ho0; obtain ⟨Ao45, co45, eo45⟩ := Kd.R_slice HO252.out; subst eo45) | ((with_reducible refine gate_callee (f := 17) rfl ?_); refine gL (some 65) Try.func17 #[.slice Ao33 t240.length co33, .slice Ao45 t250.length co45] ?_; (with_reducible refine (laws_eqCarrierS.calls kj19 _ _ t240 _ _ t250 true _ ?side1 ?side2 ?side3 ?side4 A39.out).mono ?_); (case side1 => exact cq (Kd.R_reads' HO_14.out).2.2); (case side2 => exact (Kd.R_reads' HO_14.out).2.1); (case side3 => exact cq (Kd.R_reads' HO252.out).2.2); (case side4 => exact (Kd.R_reads' HO252.out).2.1); rintro e w46 ⟨rfl, hb⟩; refine ⟨_, rfl, ?_⟩; replace HO_14 := A_ (Kd.R_below (rq HO_14) hb); replace HO_15 := A_ (Kd.R_below (rq HO_15) hb); replace HO252 := A_ (Kd.R_below (rq HO252) hb); replace BK227 := A_ (blk_below (bq BK227) hb); replace HB := A_ (below_step (hq HB) hb); clear hb) | ((with_reducible refine gate_callee (f := 22) rfl ?_); refine gL (some 69) Try.func22 #[.slice A4 l4.length c4] ?_; (with_reducible refine (laws_toIntA3S.calls kj19 _ _ l4 t254 _ ?side1 ?side2 A41.out).mono ?_); (case side1 => exact cq (Kd.C_below HR4.out HB.out)); (case side2 => exact HC4.out); rintro e w47 ⟨v255, rfl, ho0, hb⟩; refine ⟨_, rfl, ?_⟩; replace HO_14 := A_ (Kd.R_below (rq HO_14) hb); replace HO252 := A_ (Kd.R_below (rq HO252) hb); have HO256 := A_ (Kd.R_lower (Kd.R_new' ho0 (Kd.R_lt (rq HO_15))) (below_size (hq HB))); replace HO_15 := A_ (Kd.R_elder' (rq HO_15) (Kd.R_base ho0) hb); replace BK227 := A_ (blk_below (bq BK227) hb); replace HB := A_ (below_step (hq HB) hb); clear hb ho0; obtain ⟨Ao48, co48, eo48⟩ := Kd.R_slice HO256.out; subst eo48) | ((with_reducible refine gate_callee (f := 24) rfl ?_); refine gL (some 70) Try.func24 #[.slice Ao34 t243.length co34, .slice Ao48 t254.length co48] ?_; (with_reducible refine (laws_eqIntA3S.calls kj19 _ _ t243 _ _ t254 true _ ?side1 ?side2 ?side3 ?side4 A42.out).mono ?_); (case side1 => exact cq (Kd.R_reads' HO_15.out).2.2); (case side2 => exact (Kd.R_reads' HO_15.out).2.1); (case side3 => exact cq (Kd.R_reads' HO256.out).2.2); (case side4 => exact (Kd.R_reads' HO256.out).2.1); rintro e w49 ⟨rfl, hb⟩; refine ⟨_, rfl, ?_⟩; replace HO_14 := A_ (Kd.R_below (rq HO_14) hb); replace HO_15 := A_ (Kd.R_below (rq HO_15) hb); replace HO252 := A_ (Kd.R_below (rq HO252) hb); replace HO256 := A_ (Kd.R_below (rq HO256) hb); replace BK227 := A_ (blk_below (bq BK227) hb); replace HB := A_ (below_step (hq HB) hb); clear hb))
          go_ret
          exact ⟨rt, hq HB⟩
         ·
          replace c43 := Bool.eq_false_iff.mpr c43; subst c43
          have H1 : (some false) = some r := by rw [if_neg (show ¬ (false = true) by decide)] at H; exact H
          clear H; have H := H1; clear H1; obtain rfl := Option.some.inj H; exact absurd hr_ (by decide)
        ·
         replace c40 := Bool.eq_false_iff.mpr c40; subst c40
         have H1 : (some false) = some r := by rw [if_neg (show ¬ (false = true) by decide)] at H; exact H
         clear H; have H := H1; clear H1; obtain rfl := Option.some.inj H; exact absurd hr_ (by decide)
end Go.Proofs.Ythgbkekfekcfaaa.PFnExactIsRelay
