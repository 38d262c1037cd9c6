-- Printed, and told shorter by this session's program shrink.py.
-- Printed by this session's program myprint.py.
import Derived.Test.YthnaghigpgfchaaPFnExactTakenRunsx0
import Derived.Test.YthnaghigpgfchaaPFnExactTakenRunsx7
namespace Go.Proofs.Ythnaghigpgfchaa.PFnExactTakenRuns
open Go.RowKit Go.Proofs.Ythnaghigpgfchaa.Own Go.Proofs.YthnaghigpgfchaaW.PrintWords Go.Proofs.YthnaghigpgfchaaW.PrintLast Go.Proofs.YthnaghigpgfchaaW.PrintMore
attribute [local go_sem] max2_int min2_int max_two min_two max_three min_three max_four min_four   -- for this text's walks alone
set_option linter.unusedVariables false
set_option linter.unusedSimpArgs false

/-! ### impl_Road_roundTrip_1: function 86 -/
def impl_Road_roundTrip_1.f (a0 : Int) (a1_0 : Int) (a1_1 : Bool) (a2_0 : Int) : Option (Int) := if a1_1 = true then (if a1_0 = 0 then (none) else (some (Int.tmod (wrap64 ((wrap64 (a0 - a2_0)) + a1_0)) a1_0))) else (some (wrap64 (a0 - a2_0)))
set_option maxHeartbeats 8000000 in
set_option maxRecDepth 100000 in
theorem impl_Road_roundTrip_1.calls (a0 : Int) (gc1 : Nat) (a1_0 : Int) (a1_1 : Bool) (gc2 : Nat) (a2_0 : Int) (r : Int) (w : World) (hb1 : w.heap[gc1]? = some (.cells #[.int .i64 a1_0, .bool a1_1] 27 (0, 0))) (hb2 : w.heap[gc2]? = some (.cells #[.int .i64 a2_0] 3 (0, 0))) (h : impl_Road_roundTrip_1.f a0 a1_0 a1_1 a2_0 = some r) :
    Calls Try.prog 86 #[.int .i64 a0, .pointer (some ⟨gc1, 0, none⟩), .pointer (some ⟨gc2, 0, none⟩)] w fun e w' => e = .returned (.int .i64 r) ∧ Drawn0 w w' := by
 have BK1 := A_ hb1
 clear hb1
 have BK2 := A_ hb2
 clear hb2
 have H : (if a1_1 = true then (if a1_0 = 0 then (none) else (some (Int.tmod (wrap64 ((wrap64 (a0 - a2_0)) + a1_0)) a1_0))) else (some (wrap64 (a0 - a2_0)))) = some r := h
 clear h
 by_cases c4 : a1_1 = true
 ·
  subst c4
  have H1 : (if a1_0 = 0 then (none) else (some (Int.tmod (wrap64 ((wrap64 (a0 - a2_0)) + a1_0)) a1_0))) = some r := by rw [if_pos rfl] at H; exact H
  clear H
  have H := H1
  clear H1
  by_cases c5 : a1_0 = 0
  ·
   rw [if_pos c5] at H
   exact absurd H (by simp)
  ·
   rw [if_neg c5] at H
   have c5b0 : (a1_0 == 0) = false := beq_eq_false_iff_ne.mpr c5
   have c5b1 : (a1_0 != 0) = true := bne_iff_ne.mpr c5
   obtain rfl := Option.some.inj H
   have hcz6_0 : w.cell? ⟨gc1, 0, none⟩ = some (.int .i64 a1_0) := bc BK1 0
   have hcz6_1 : w.cell? ⟨gc1, 1, none⟩ = some (.bool true) := bc BK1 1
   have hfz6_0 := blk_frozen BK1.out 0
   have hfz6_1 := blk_frozen BK1.out 1
   have hcz7_0 : w.cell? ⟨gc2, 0, none⟩ = some (.int .i64 a2_0) := bc BK2 0
   have hfz7_0 := blk_frozen BK2.out 0
   go_enter Try.func86, Try.ntmps86
   go_wp2
   go_ret
   exact ⟨by first | rfl | (simp; done) | (simp [*]; done), by repeat (first | exact Drawn0.refl _ | apply Drawn0.step)⟩
 ·
  replace c4 := Bool.eq_false_iff.mpr c4
  subst c4
  have H1 : (some (wrap64 (a0 - a2_0))) = some r := by rw [if_neg (show ¬ (false = true) by decide)] at H; exact H
  clear H
  have H := H1
  clear H1
  obtain rfl := Option.some.inj H
  have hcz8_0 : w.cell? ⟨gc1, 0, none⟩ = some (.int .i64 a1_0) := bc BK1 0
  have hcz8_1 : w.cell? ⟨gc1, 1, none⟩ = some (.bool false) := bc BK1 1
  have hfz8_0 := blk_frozen BK1.out 0
  have hfz8_1 := blk_frozen BK1.out 1
  have hcz9_0 : w.cell? ⟨gc2, 0, none⟩ = some (.int .i64 a2_0) := bc BK2 0
  have hfz9_0 := blk_frozen BK2.out 0
  go_enter Try.func86, Try.ntmps86
  go_wp2
  go_ret
  exact ⟨by first | rfl | (simp; done) | (simp [*]; done), by repeat (first | exact Drawn0.refl _ | apply Drawn0.step)⟩

/-! ### impl_mapped__Road_roundTrip_1: function 85 -/
def impl_mapped__Road_roundTrip_1.l0 : Nat → List Int → List Int → Int → Int → Int → Bool → Int → Option (List Int)
  | 0, _, _, _, _, _, _, _ => none
  | k + 1, x5, x9, x10, x11, x2000, x2001, x3000 => if x11 < x10 then (if 0 ≤ x11 then (if x11 < (x9.length : Int) then ((impl_Road_roundTrip_1.f (rd x9 x11) x2000 x2001 x3000).bind fun t238 => (if x5.length < 17592186044416 then (impl_mapped__Road_roundTrip_1.l0 k (x5 ++ [t238]) x9 x10 (wrap64 (x11 + 1)) x2000 x2001 x3000) else (none))) else (none)) else (none)) else (some x5)
def impl_mapped__Road_roundTrip_1.f (k : Nat) (l0 : List Int) (a1_0 : Int) (a1_1 : Bool) (a2_0 : Int) : Option (List Int) := impl_mapped__Road_roundTrip_1.l0 k (([] : List Int)) l0 (l0.length : Int) 0 a1_0 a1_1 a2_0
theorem impl_mapped__Road_roundTrip_1.mono_l : ∀ k, (∀ y0 y1 y2 y3 y4 y5 y6, LeO (impl_mapped__Road_roundTrip_1.l0 k y0 y1 y2 y3 y4 y5 y6) (impl_mapped__Road_roundTrip_1.l0 (k + 1) y0 y1 y2 y3 y4 y5 y6))
  | 0 => fun _ _ _ _ _ _ _ r h => by simp [impl_mapped__Road_roundTrip_1.l0] at h
  | k + 1 => by
    have ih0 := impl_mapped__Road_roundTrip_1.mono_l k
    · intro y0 y1 y2 y3 y4 y5 y6
      unfold impl_mapped__Road_roundTrip_1.l0
      repeat' first
      | (with_reducible exact ih0 _ _ _ _ _ _ _)
      | (with_reducible exact LeO.refl _)
      | (with_reducible exact LeO.none _)
      | (with_reducible refine LeO.ite ?_ ?_)
      | (with_reducible refine LeO.bind ?_ (fun _ => ?_))
      | exact ih0 _ _ _ _ _ _ _
      | exact LeO.none _
      | refine LeO.ite ?_ ?_
      | refine LeO.bind ?_ (fun _ => ?_)
theorem impl_mapped__Road_roundTrip_1.mono : ∀ a0 a1 a2 a3 k, LeO (impl_mapped__Road_roundTrip_1.f k a0 a1 a2 a3) (impl_mapped__Road_roundTrip_1.f (k + 1) a0 a1 a2 a3) := by
  intro a0 a1 a2 a3 k
  have ih0 := impl_mapped__Road_roundTrip_1.mono_l k
  unfold impl_mapped__Road_roundTrip_1.f
  repeat' first
      | (with_reducible exact ih0 _ _ _ _ _ _ _)
      | (with_reducible exact LeO.refl _)
      | (with_reducible exact LeO.none _)
      | (with_reducible refine LeO.ite ?_ ?_)
      | (with_reducible refine LeO.bind ?_ (fun _ => ?_))
      | exact ih0 _ _ _ _ _ _ _
      | exact LeO.none _
      | refine LeO.ite ?_ ?_
      | refine LeO.bind ?_ (fun _ => ?_)
set_option maxHeartbeats 8000000 in
set_option maxRecDepth 100000 in
theorem impl_mapped__Road_roundTrip_1.calls (k : Nat) (A0 : Option Addr) (c0 : Nat) (l0 : List Int) (gc1 : Nat) (a1_0 : Int) (a1_1 : Bool) (gc2 : Nat) (a2_0 : Int) (r : List Int) (w : World) (hb1 : w.heap[gc1]? = some (.cells #[.int .i64 a1_0, .bool a1_1] 27 (0, 0))) (hb2 : w.heap[gc2]? = some (.cells #[.int .i64 a2_0] 3 (0, 0))) (hr0 : Kd.C (Kd.int .i64) w A0 l0.length l0) (hc0 : l0.length ≤ c0) (h : impl_mapped__Road_roundTrip_1.f k l0 a1_0 a1_1 a2_0 = some r) :
    Calls Try.prog 85 #[.slice A0 l0.length c0, .func (.func 86) #[] #[.pointer (some ⟨gc1, 0, none⟩), .pointer (some ⟨gc2, 0, none⟩)]] w fun e w' => ∃ v0_ : Value, e = .returned (v0_) ∧ Kd.R (Kd.int .i64) 3 w' w.heap.size (fun _ => True) v0_ r ∧ Below w.heap.size w w' := by
 have HR0 := A_ hr0
 have HC0 := A_ hc0
 clear hr0 hc0
 have BK1 := A_ hb1
 clear hb1
 have BK2 := A_ hb2
 clear hb2
 have HB := A_ (Below.refl w.heap.size w)
 have H : (impl_mapped__Road_roundTrip_1.l0 k (([] : List Int)) l0 (l0.length : Int) 0 a1_0 a1_1 a2_0) = some r := h
 clear h
 obtain ⟨y234, hy234⟩ : ∃ y_ : List Int, y_ = (([] : List Int)) := ⟨_, rfl⟩
 replace H : (impl_mapped__Road_roundTrip_1.l0 k y234 l0 (l0.length : Int) 0 a1_0 a1_1 a2_0) = some r := by first | (rw [hy234]; with_reducible exact H) | (have H2_ := (Option.bind_some _ _).symm.trans H; rw [hy234]; with_reducible exact H2_) | (have H2_ := (Option.bind_some _ _).symm.trans H; with_reducible exact H2_) | with_reducible exact H | (rw [hy234]; exact H) | exact H
 have Ny234 := A_ hy234
 clear hy234
 have H' := A_ H
 clear H
 go_enter Try.func85, Try.ntmps85
 go_wp2_with (first | ((with_reducible refine gate_dst (N := 8) rfl ?_); refine Kd.R_lit (Kd.int .i64) _ 3 ?hg (N := 8) ?hd (xs := ([] : List Int)) (inner := []) (ok := fun _ => True) (okp := fun _ => True) ?hr ?hp (fun _ hk => hk) trivial (Below.refl _ _) (Nat.le_refl _) (by simp) ?_; (case hd => rfl); (case hg => rfl); (case hr => first | (go_simp; done) | (go_simp; rfl)); (case hp => exact (Reps.none _ _)); intro v235 w4 ho5 hb hg_ hnew_; clear hg_ hnew_; (first | rw [← Ny234.out] at ho5 | (simp only [Int.reduceToNat] at ho5; rw [← Ny234.out] at ho5)); have n0_ := A_ (Kd.R_lower (Kd.R_newB ho5 (g := gc2) (o := .cells #[.int .i64 a2_0] 3 (0, 0)) (bq BK2)) (below_size (hq HB))); have n1_ := A_ (blk_below (bq BK1) hb); have n2_ := A_ (blk_below (bq BK2) hb); have n3_ := A_ (below_step (hq HB) hb); clear BK1; clear BK2; clear HB; have HO236 := n0_; have BK1 := n1_; have BK2 := n2_; have HB := n3_; clear n0_ n1_ n2_ n3_; clear hb ho5))
 go_loopg [5, 11] k (fun kq v5 v11 w' => ∃ (x5_1 : List Int) (x11_1 : Int), v11 = .int .i64 x11_1 ∧ Aside0 (impl_mapped__Road_roundTrip_1.l0 kq x5_1 l0 (l0.length : Int) x11_1 a1_0 a1_1 a2_0 = some r) ∧ Aside0 (kq ≤ k) ∧ Aside0 (Kd.R (Kd.int .i64) 3 w' w.heap.size (fun k_ => k_ ≠ gc2) v5 x5_1) ∧ Aside0 (w'.heap[gc1]? = some (.cells #[.int .i64 a1_0, .bool a1_1] 27 (0, 0))) ∧ Aside0 (w'.heap[gc2]? = some (.cells #[.int .i64 a2_0] 3 (0, 0))) ∧ Aside0 (Below w.heap.size w w'))
 case atStart => exact ⟨(y234), (0), (by first | rfl | (simp; done) | (simp [*]; done)), H', ⟨Nat.le_refl _⟩, ⟨by (with_reducible repeat (first | apply Kd.R_alloc | apply Kd.R_drewN | apply Kd.R_drew)); exact Kd.R_mono HO236.out (fun _ hk => hk.2)⟩, ⟨bq BK1⟩, ⟨bq BK2⟩, ⟨hq HB⟩⟩
 case round =>
  clear H'
  try clear c1
  try clear c2
  try clear p2
  obtain ⟨x5_1, x11_1, rfl, HA, HK1, HO_5, BK1, BK2, HB⟩ := hrel
  cases gk with
  | zero => exact absurd HA.out (by simp [impl_mapped__Road_roundTrip_1.l0])
  | succ k1 =>
   have H := HA.out
   clear HA
   simp only [impl_mapped__Road_roundTrip_1.l0] at H
   by_cases c6 : x11_1 < (l0.length : Int)
   ·
    rw [if_pos c6] at H
    have c6b0 : decide (x11_1 < (l0.length : Int)) = true := decide_eq_true c6
    clear c6
    by_cases c7 : 0 ≤ x11_1
    ·
     rw [if_pos c7] at H
     have c7b0 : decide (0 ≤ x11_1) = true := decide_eq_true c7
     clear c7
     by_cases c8 : x11_1 < (l0.length : Int)
     ·
      rw [if_pos c8] at H
      have c8b0 : decide (x11_1 < (l0.length : Int)) = true := decide_eq_true c8
      clear c8
      replace H := Option.bind_eq_some_iff.mp H
      obtain ⟨t238, A90, H⟩ := H
      replace H : (if x5_1.length < 17592186044416 then (impl_mapped__Road_roundTrip_1.l0 k1 (x5_1 ++ [t238]) l0 (l0.length : Int) (wrap64 (x11_1 + 1)) a1_0 a1_1 a2_0) else (none)) = some r := H
      have A9 := A_ A90
      clear A90
      by_cases c10 : x5_1.length < 17592186044416
      ·
       rw [if_pos c10] at H
       have LMc10 := A_ c10
       clear c10
       obtain ⟨y239, hy239⟩ : ∃ y_ : List Int, y_ = (x5_1 ++ [t238]) := ⟨_, rfl⟩
       replace H : (impl_mapped__Road_roundTrip_1.l0 k1 y239 l0 (l0.length : Int) (wrap64 (x11_1 + 1)) a1_0 a1_1 a2_0) = some r := by first | (rw [hy239]; with_reducible exact H) | (have H2_ := (Option.bind_some _ _).symm.trans H; rw [hy239]; with_reducible exact H2_) | (have H2_ := (Option.bind_some _ _).symm.trans H; with_reducible exact H2_) | with_reducible exact H | (rw [hy239]; exact H) | exact H
       have Ny239 := A_ hy239
       clear hy239
       have H' := A_ H
       clear H
       have p237 : 0 ≤ (x11_1 : Int) := of_decide_eq_true (by first | (with_reducible assumption) | assumption)
       have q237 : x11_1 < (l0.length : Int) := of_decide_eq_true (by first | (with_reducible assumption) | assumption)
       obtain ⟨ad237, e237, hx237_0⟩ := Kd.at_int HR0.out x11_1 p237 q237
       cases e237
       replace hx237_0 := (HB.out.cell (World.block_lt_of_cell? w _ hx237_0)).trans hx237_0
       replace p237 := eq_true p237
       replace q237 := eq_true q237
       go_wp2_with (first | (go_at_call 86; (with_reducible refine (impl_Road_roundTrip_1.calls (rd l0 x11_1) gc1 a1_0 a1_1 gc2 a2_0 t238 _ ?side1 ?side2 A9.out).mono ?_); (case side1 => (with_reducible repeat (first | refine blk_drewN ?_ _ | refine blk_drew ?_ | refine blk_alloc ?_ _)); exact BK1.out); (case side2 => (with_reducible repeat (first | refine blk_drewN ?_ _ | refine blk_drew ?_ | refine blk_alloc ?_ _)); exact BK2.out); rintro e w' ⟨rfl, ⟨nd, rfl⟩⟩) | ((with_reducible refine gate_builtin (b := .append) (xs := #[.tmp 15, .tmp 19]) rfl ?_); at_builtin; refine Kd.R_append (Kd.int .i64) (w0 := w) w.heap.size rfl (.tmp 15) (.tmp 19) 24 3 (.int .i64 0) 8 rfl Try.underlying24 info3 rfl (by decide) (by omega) u5 x5_1 t238 [.int .i64 t238] (fun k_ => k_ ≠ gc2) (fun _ => False) rfl rfl ?aP (fun _ hk => hk.elim) ?aF ?aO ?aB ?aS ?aL ?_; (case aP => exact rfl); (case aB => exact (hq HB)); (case aF => exact (fun k_ hk => Kd.freshB (g := gc2) (o := .cells #[.int .i64 a2_0] 3 (0, 0)) (bq BK2) k_ hk)); (case aO => exact (rq HO_5)); (case aS => exact (below_size (hq HB))); (case aL => have := LMc10.out; omega); intro v240 w11 ho hb hg hat; rw [← Ny239.out] at ho; have n0_ := A_ (blk_grown (g := gc1) (o := .cells #[.int .i64 a1_0, .bool a1_1] 27 (0, 0)) (bq BK1) hg (Kd.R_ne HO_5.out BK1.out (by decide))); have n1_ := A_ (blk_grown (g := gc2) (o := .cells #[.int .i64 a2_0] 3 (0, 0)) (bq BK2) hg (Kd.R_away HO_5.out (fun _ hk => hk))); have n2_ := A_ (hb); have n3_ := A_ (ho); clear BK1; clear BK2; clear HB; clear HO_5; have BK1 := n0_; have BK2 := n1_; have HB := n2_; have HO241 := n3_; clear n0_ n1_ n2_ n3_; clear ho hb hg hat))
       go_roundg k1
       case measure => have := HK1.out; omega
       case rel => exact ⟨(y239), (wrap64 (x11_1 + 1)), (by first | rfl | (simp; done) | (simp [*]; done)), H', ⟨by have := HK1.out; omega⟩, ⟨rq HO241⟩, ⟨bq BK1⟩, ⟨bq BK2⟩, ⟨hq HB⟩⟩
      ·
       rw [if_neg c10] at H
       exact absurd H (by simp)
     ·
      rw [if_neg c8] at H
      exact absurd H (by simp)
    ·
     rw [if_neg c7] at H
     exact absurd H (by simp)
   ·
    rw [if_neg c6] at H
    have c6b0 : decide (x11_1 < (l0.length : Int)) = false := decide_eq_false c6
    clear c6
    obtain rfl := Option.some.inj H
    go_wp2
    go_ret
    exact ⟨_, rt, by (with_reducible repeat (first | apply Kd.R_alloc | apply Kd.R_drewN | apply Kd.R_drew)); exact Kd.R_mono HO_5.out (fun _ hk => trivial), hq HB⟩

/-! ### impl_Road_roundTrip_2: function 88 -/
def impl_Road_roundTrip_2.f (a0 : Int) : Option (Bool) := some (a0 == 0)
set_option maxHeartbeats 8000000 in
set_option maxRecDepth 100000 in
theorem impl_Road_roundTrip_2.calls (a0 : Int) (r : Bool) (w : World) (h : impl_Road_roundTrip_2.f a0 = some r) :
    Calls Try.prog 88 #[.int .i64 a0] w fun e w' => e = .returned (.bool r) ∧ Drawn0 w w' := by
 have H : (some (a0 == 0)) = some r := h
 clear h
 obtain rfl := Option.some.inj H
 go_enter Try.func88, Try.ntmps88
 go_wp2
 go_ret
 exact ⟨by first | rfl | (simp; done) | (simp [*]; done), by repeat (first | exact Drawn0.refl _ | apply Drawn0.step)⟩

/-! ### slices_IndexFunc_int_int___Road_roundTrip_2: function 100 -/
def slices_IndexFunc_int_int___Road_roundTrip_2.l0 : Nat → List Int → Int → Int → Option (Int)
  | 0, _, _, _ => none
  | k + 1, x0, x7, x8 => if x8 < x7 then (if 0 ≤ x8 then (if x8 < (x0.length : Int) then ((impl_Road_roundTrip_2.f (rd x0 x8)).bind fun t243 => (if t243 = true then (some x8) else (slices_IndexFunc_int_int___Road_roundTrip_2.l0 k x0 x7 (wrap64 (x8 + 1))))) else (none)) else (none)) else (some (-1))
def slices_IndexFunc_int_int___Road_roundTrip_2.f (k : Nat) (l0 : List Int) : Option (Int) := slices_IndexFunc_int_int___Road_roundTrip_2.l0 k l0 (l0.length : Int) 0
theorem slices_IndexFunc_int_int___Road_roundTrip_2.mono_l : ∀ k, (∀ y0 y1 y2, LeO (slices_IndexFunc_int_int___Road_roundTrip_2.l0 k y0 y1 y2) (slices_IndexFunc_int_int___Road_roundTrip_2.l0 (k + 1) y0 y1 y2))
  | 0 => fun _ _ _ r h => by simp [slices_IndexFunc_int_int___Road_roundTrip_2.l0] at h
  | k + 1 => by
    have ih0 := slices_IndexFunc_int_int___Road_roundTrip_2.mono_l k
    · intro y0 y1 y2
      unfold slices_IndexFunc_int_int___Road_roundTrip_2.l0
      repeat' first
      | (with_reducible exact ih0 _ _ _)
      | (with_reducible exact LeO.refl _)
      | (with_reducible exact LeO.none _)
      | (with_reducible refine LeO.ite ?_ ?_)
      | (with_reducible refine LeO.bind ?_ (fun _ => ?_))
      | exact ih0 _ _ _
      | exact LeO.none _
      | refine LeO.ite ?_ ?_
      | refine LeO.bind ?_ (fun _ => ?_)
theorem slices_IndexFunc_int_int___Road_roundTrip_2.mono : ∀ a0 k, LeO (slices_IndexFunc_int_int___Road_roundTrip_2.f k a0) (slices_IndexFunc_int_int___Road_roundTrip_2.f (k + 1) a0) := by
  intro a0 k
  have ih0 := slices_IndexFunc_int_int___Road_roundTrip_2.mono_l k
  unfold slices_IndexFunc_int_int___Road_roundTrip_2.f
  repeat' first
      | (with_reducible exact ih0 _ _ _)
      | (with_reducible exact LeO.refl _)
      | (with_reducible exact LeO.none _)
      | (with_reducible refine LeO.ite ?_ ?_)
      | (with_reducible refine LeO.bind ?_ (fun _ => ?_))
      | exact ih0 _ _ _
      | exact LeO.none _
      | refine LeO.ite ?_ ?_
      | refine LeO.bind ?_ (fun _ => ?_)
set_option maxHeartbeats 8000000 in
set_option maxRecDepth 100000 in
theorem slices_IndexFunc_int_int___Road_roundTrip_2.calls (k : Nat) (A0 : Option Addr) (c0 : Nat) (l0 : List Int) (r : Int) (w : World) (hr0 : Kd.C (Kd.int .i64) w A0 l0.length l0) (hc0 : l0.length ≤ c0) (h : slices_IndexFunc_int_int___Road_roundTrip_2.f k l0 = some r) :
    Calls Try.prog 100 #[.slice A0 l0.length c0, .func (.func 88) #[] #[]] w fun e w' => e = .returned (.int .i64 r) ∧ Below w.heap.size w w' := by
 have HR0 := A_ hr0
 have HC0 := A_ hc0
 clear hr0 hc0
 have HB := A_ (Below.refl w.heap.size w)
 have H : (slices_IndexFunc_int_int___Road_roundTrip_2.l0 k l0 (l0.length : Int) 0) = some r := h
 clear h
 have H' := A_ H
 clear H
 go_enter Try.func100, Try.ntmps100
 go_wp2
 go_loopg [8] k (fun kq v8 w' => ∃ (x8_1 : Int), v8 = .int .i64 x8_1 ∧ Aside0 (slices_IndexFunc_int_int___Road_roundTrip_2.l0 kq l0 (l0.length : Int) x8_1 = some r) ∧ Aside0 (kq ≤ k) ∧ Aside0 (Below w.heap.size w w'))
 case atStart => exact ⟨(0), (by first | rfl | (simp; done) | (simp [*]; done)), H', ⟨Nat.le_refl _⟩, ⟨hq HB⟩⟩
 case round =>
  clear H'
  try clear c1
  obtain ⟨x8_1, rfl, HA, HK1, HB⟩ := hrel
  cases gk with
  | zero => exact absurd HA.out (by simp [slices_IndexFunc_int_int___Road_roundTrip_2.l0])
  | succ k1 =>
   have H := HA.out
   clear HA
   simp only [slices_IndexFunc_int_int___Road_roundTrip_2.l0] at H
   by_cases c2 : x8_1 < (l0.length : Int)
   ·
    rw [if_pos c2] at H
    have c2b0 : decide (x8_1 < (l0.length : Int)) = true := decide_eq_true c2
    clear c2
    by_cases c3 : 0 ≤ x8_1
    ·
     rw [if_pos c3] at H
     have c3b0 : decide (0 ≤ x8_1) = true := decide_eq_true c3
     clear c3
     by_cases c4 : x8_1 < (l0.length : Int)
     ·
      rw [if_pos c4] at H
      have c4b0 : decide (x8_1 < (l0.length : Int)) = true := decide_eq_true c4
      clear c4
      replace H := Option.bind_eq_some_iff.mp H
      obtain ⟨t243, A50, H⟩ := H
      replace H : (if t243 = true then (some x8_1) else (slices_IndexFunc_int_int___Road_roundTrip_2.l0 k1 l0 (l0.length : Int) (wrap64 (x8_1 + 1)))) = some r := H
      have A5 := A_ A50
      clear A50
      by_cases c6 : t243 = true
      ·
       subst c6
       have H1 : (some x8_1) = some r := by rw [if_pos rfl] at H; exact H
       clear H
       have H := H1
       clear H1
       obtain rfl := Option.some.inj H
       have p242 : 0 ≤ (x8_1 : Int) := of_decide_eq_true (by first | (with_reducible assumption) | assumption)
       have q242 : x8_1 < (l0.length : Int) := of_decide_eq_true (by first | (with_reducible assumption) | assumption)
       obtain ⟨ad242, e242, hx242_0⟩ := Kd.at_int HR0.out x8_1 p242 q242
       cases e242
       replace hx242_0 := (HB.out.cell (World.block_lt_of_cell? w _ hx242_0)).trans hx242_0
       replace p242 := eq_true p242
       replace q242 := eq_true q242
       go_wp2_with (first | (go_at_call 88; (with_reducible refine (impl_Road_roundTrip_2.calls (rd l0 x8_1) true _ A5.out).mono ?_); rintro e w' ⟨rfl, ⟨nd, rfl⟩⟩))
       go_ret
       exact ⟨rt, hq HB⟩
      ·
       replace c6 := Bool.eq_false_iff.mpr c6
       subst c6
       have H1 : (slices_IndexFunc_int_int___Road_roundTrip_2.l0 k1 l0 (l0.length : Int) (wrap64 (x8_1 + 1))) = some r := by rw [if_neg (show ¬ (false = true) by decide)] at H; exact H
       clear H
       have H := H1
       clear H1
       have H' := A_ H
       clear H
       have p242 : 0 ≤ (x8_1 : Int) := of_decide_eq_true (by first | (with_reducible assumption) | assumption)
       have q242 : x8_1 < (l0.length : Int) := of_decide_eq_true (by first | (with_reducible assumption) | assumption)
       obtain ⟨ad242, e242, hx242_0⟩ := Kd.at_int HR0.out x8_1 p242 q242
       cases e242
       replace hx242_0 := (HB.out.cell (World.block_lt_of_cell? w _ hx242_0)).trans hx242_0
       replace p242 := eq_true p242
       replace q242 := eq_true q242
       go_wp2_with (first | (go_at_call 88; (with_reducible refine (impl_Road_roundTrip_2.calls (rd l0 x8_1) false _ A5.out).mono ?_); rintro e w' ⟨rfl, ⟨nd, rfl⟩⟩))
       go_roundg k1
       case measure => have := HK1.out; omega
       case rel => exact ⟨(wrap64 (x8_1 + 1)), (by first | rfl | (simp; done) | (simp [*]; done)), H', ⟨by have := HK1.out; omega⟩, ⟨hq HB⟩⟩
     ·
      rw [if_neg c4] at H
      exact absurd H (by simp)
    ·
     rw [if_neg c3] at H
     exact absurd H (by simp)
   ·
    rw [if_neg c2] at H
    have c2b0 : decide (x8_1 < (l0.length : Int)) = false := decide_eq_false c2
    clear c2
    obtain rfl := Option.some.inj H
    go_wp2
    go_ret
    exact ⟨rt, hq HB⟩

/-! ### slices.DeleteFunc at ints, all that are 0 taken out, by the contract that is laid from the shelf -/
def slices_DeleteFunc_int_int___Road_roundTrip_2.f (k : Nat) (l0 : List Int) : Option (List Int) := some (l0.filter fun x => !(x == 0))
theorem slices_DeleteFunc_int_int___Road_roundTrip_2.mono : ∀ a0 k, LeO (slices_DeleteFunc_int_int___Road_roundTrip_2.f k a0) (slices_DeleteFunc_int_int___Road_roundTrip_2.f (k + 1) a0) := by
  intro a0 k
  exact LeO.refl _
theorem idx_roundTrip_none : slices_IndexFunc_int_int___Road_roundTrip_2.f 1 [] = some (-1) := rfl
set_option maxHeartbeats 8000000 in
set_option maxRecDepth 100000 in
theorem del_roundTrip_none (c : Nat) (w : World) : Calls Try.prog 87 #[.slice none 0 c, .func (.func 88) #[] #[]] w fun e w' => e = .returned (.slice none 0 c) ∧ Below w.heap.size w w' := by
  have HB := A_ (Below.refl w.heap.size w)
  go_enter Try.func87, Try.ntmps87
  go_wp2_with (go_at_call 100; (refine (slices_IndexFunc_int_int___Road_roundTrip_2.calls 1 none c [] (-1) _ ?side1 ?side2 idx_roundTrip_none).mono ?_); (case side1 => exact Kd.C_nil _ _); (case side2 => exact Nat.zero_le _); rintro e w10 ⟨rfl, hb⟩; have HB2 := A_ (below_step HB.out hb); clear hb)
  go_ret
  exact ⟨rfl, HB2.out⟩
theorem pred_roundTrip (W : World) (x : Int) : FnGives Try.prog 88 #[] #[.int .i64 x] (.bool (x == 0)) W := by
  show Calls Try.prog 88 #[.int .i64 x] W _
  refine (impl_Road_roundTrip_2.calls x (x == 0) W rfl).mono ?_
  rintro e w' ⟨he, hd⟩
  exact ⟨he, hd.out⟩
theorem slices_DeleteFunc_int_int___Road_roundTrip_2.calls (k : Nat) (P0_ : Nat → Prop) (u9000_ : Value) (l0 : List Int) (r : List Int) (w0 w : World) (hB : Below w0.heap.size w0 w) (ho0 : Kd.R (Kd.int .i64) 3 w w0.heap.size P0_ u9000_ l0) (h : slices_DeleteFunc_int_int___Road_roundTrip_2.f k l0 = some r) :
    Calls Try.prog 87 #[u9000_, .func (.func 88) #[] #[]] w fun e w' => ∃ v0_ : Value, e = .returned (v0_) ∧ Kd.R (Kd.int .i64) 3 w' w0.heap.size (fun k_ => (P0_ k_ ∨ w.heap.size ≤ k_)) v0_ r ∧ Below w0.heap.size w0 w' ∧ Kept w w' (fun k_ => P0_ k_) := by
 obtain rfl := Option.some.inj h
 have hsz : w0.heap.size ≤ w.heap.size := hB.size
 have ho := Kd.own_of_R ho0
 rcases ho.2 with ⟨hv, hz⟩ | ⟨g, cap, cur, rfl, hg, hh, hn, hm, hc, ht⟩
 ·
  have hl : l0 = [] := List.eq_nil_of_length_eq_zero hz
  subst hl
  subst hv
  refine (del_roundTrip_none 0 w).mono ?_
  rintro e w' ⟨rfl, hb⟩
  exact ⟨_, rfl, Kd.R_nil _ _ _ _ _, hB.trans (hb.mono hB.size), ⟨hb.size, fun i hi _ => hb.block i hi⟩⟩
 ·
  have hlt : g < w.heap.size := (Array.getElem?_eq_some_iff.1 hh).1
  have hlen : (l0.filter fun x => !(x == 0)).length ≤ l0.length := List.length_filter_le _ _
  have eg : ∀ args w, (callFunc 88 args).run Try.prog w = .ok (.enter 88 args) w := enters_of Try.func88 (by kernel_rfl) rfl
  have hcon := Go.Proofs.Ythnaghigpgfchaa.Shelf.slices_DeleteFunc (Value.int .i64) (fun _ => rfl) (fun x : Int => x == 0) 88 #[] eg 0 Try.zeroValue3 g 0 cap l0.toArray w (fun W x _ => pred_roundTrip W x) (fun n os dk x _ => pred_roundTrip _ x) (holds_of_blockI hh (by simpa [encs] using ht)) (by unfold maxLen at hm; simp; omega) (by simpa using hn)
  rw [List.size_toArray] at hcon
  refine hcon.mono ?_
  rintro e w' ⟨he, q, rfl⟩
  have hts : ((l0.filter fun x => !(x == 0)) ++ List.replicate (l0.length - (l0.filter fun x => !(x == 0)).length) 0).length = l0.length := by
   rw [List.length_append, List.length_replicate]
   omega
  have hgr := grownBy_sortedI (w := w) (g := g) (n := q) (os := #[]) ((l0.filter fun x => !(x == 0)) ++ List.replicate (l0.length - (l0.filter fun x => !(x == 0)).length) 0).toArray
  have hown := ownsRow_sortedI (n := q) (os := #[]) (ts := (l0.filter fun x => !(x == 0)) ++ List.replicate (l0.length - (l0.filter fun x => !(x == 0)).length) 0) hts hg hh hn hm hc
  rw [Go.Sort.grow_empty] at hgr hown
  refine ⟨_, he, Kd.R_of_own ?_ (fun k_ hk => .inl (ho0.1 k_ hk)), hB.grown hgr hsz (fun k_ e_ => by injection e_ with e_; omega), Kept.of_grown hgr (Kept.refl _ _) (fun k_ e_ => .inl (ho0.1 k_ (by injection e_ with e_; subst e_; rfl)))⟩
  rcases hown.2 with ⟨hv, _⟩ | ⟨g', cap', cur', hv, hg', hh', hn', hm', hc', ht'⟩
  ·
   exact absurd hv (by simp)
  ·
   injection hv with h1 h2 h3
   injection h1 with h1
   injection h1 with h1
   subst h1
   subst h3
   refine ⟨by simp [encs], .inr ⟨g, cap, cur', rfl, hg', by first | exact hh' | simpa using hh', Nat.le_trans hlen hn', hm', hc', ?_⟩⟩
   rw [Nat.mul_one] at ht'
   have h5 := congrArg (List.take (l0.filter fun x => !(x == 0)).length) ht'
   rw [List.take_take, Nat.min_eq_left hlen] at h5
   simpa [encs] using h5

/-! ### impl_Road_roundTrip: function 64 -/
mutual
def impl_Road_roundTrip.j0 : Nat → List Int → Int → Bool → Option (Int)
  | 0, _, _, _ => none
  | k + 1, x7, x245000, x245001 => if x245001 = true then (impl_Road_roundTrip.l1 k x7 x245000 (wrap64 ((x7.length : Int) + 1)) 0 x245000 x245001) else (impl_Road_roundTrip.l0 k 0 0 x7 (x7.length : Int) 0)
def impl_Road_roundTrip.l1 : Nat → List Int → Int → Int → Int → Int → Bool → Option (Int)
  | 0, _, _, _, _, _, _ => none
  | k + 1, x7, x12, x50, x51, x245000, x245001 => if x51 < x50 then (if x51 > 0 then (if 0 ≤ (wrap64 (x51 - 1)) then (if (wrap64 (x51 - 1)) < (x7.length : Int) then (if x51 < (x7.length : Int) then (if 0 ≤ x51 then (impl_Road_roundTrip.l1 k x7 (mn x12 (wrap64 (2 * (wrap64 ((rd x7 (wrap64 (x51 - 1))) + (wrap64 (x245000 - (rd x7 x51)))))))) x50 (wrap64 (x51 + 1)) x245000 x245001) else (none)) else (impl_Road_roundTrip.l1 k x7 (mn x12 (wrap64 (2 * (wrap64 (rd x7 (wrap64 (x51 - 1))))))) x50 (wrap64 (x51 + 1)) x245000 x245001)) else (none)) else (none)) else (if x51 < (x7.length : Int) then (if 0 ≤ x51 then (impl_Road_roundTrip.l1 k x7 (mn x12 (wrap64 (2 * (wrap64 (wrap64 (x245000 - (rd x7 x51))))))) x50 (wrap64 (x51 + 1)) x245000 x245001) else (none)) else (impl_Road_roundTrip.l1 k x7 (mn x12 0) x50 (wrap64 (x51 + 1)) x245000 x245001))) else (some x12)
def impl_Road_roundTrip.l0 : Nat → Int → Int → List Int → Int → Int → Option (Int)
  | 0, _, _, _, _, _ => none
  | k + 1, x8, x9, x28, x29, x30 => if x30 < x29 then (if 0 ≤ x30 then (if x30 < (x28.length : Int) then (impl_Road_roundTrip.l0 k (mx x8 (rd x28 x30)) (mx x9 (wrap64 (-(rd x28 x30)))) x28 x29 (wrap64 (x30 + 1))) else (none)) else (none)) else (some (wrap64 (2 * (wrap64 (x8 + x9)))))
end
def impl_Road_roundTrip.f (k : Nat) (a0_0 : Int) (a0_1 : Bool) (a1 : Int) (l2 : List Int) : Option (Int) := (impl_mapped__Road_roundTrip_1.f k l2 a0_0 a0_1 a1).bind fun t246 => ((slices_Sort_int_int.f k t246).bind fun t249 => (if a0_1 = true then ((slices_DeleteFunc_int_int___Road_roundTrip_2.f k t249).bind fun t250 => (impl_Road_roundTrip.j0 k t250 a0_0 a0_1)) else (impl_Road_roundTrip.j0 k t249 a0_0 a0_1)))
theorem impl_Road_roundTrip.mono_l : ∀ k, (∀ y0 y1 y2, LeO (impl_Road_roundTrip.j0 k y0 y1 y2) (impl_Road_roundTrip.j0 (k + 1) y0 y1 y2)) ∧ (∀ y0 y1 y2 y3 y4 y5, LeO (impl_Road_roundTrip.l1 k y0 y1 y2 y3 y4 y5) (impl_Road_roundTrip.l1 (k + 1) y0 y1 y2 y3 y4 y5)) ∧ (∀ y0 y1 y2 y3 y4, LeO (impl_Road_roundTrip.l0 k y0 y1 y2 y3 y4) (impl_Road_roundTrip.l0 (k + 1) y0 y1 y2 y3 y4))
  | 0 => ⟨fun _ _ _ r h => by simp [impl_Road_roundTrip.j0] at h, fun _ _ _ _ _ _ r h => by simp [impl_Road_roundTrip.l1] at h, fun _ _ _ _ _ r h => by simp [impl_Road_roundTrip.l0] at h⟩
  | k + 1 => by
    obtain ⟨ih0, ih1, ih2⟩ := impl_Road_roundTrip.mono_l k
    refine ⟨?_, ?_, ?_⟩
    · intro y0 y1 y2
      unfold impl_Road_roundTrip.j0
      repeat' first
      | (with_reducible exact ih0 _ _ _)
      | (with_reducible exact ih1 _ _ _ _ _ _)
      | (with_reducible exact ih2 _ _ _ _ _)
      | (with_reducible exact impl_mapped__Road_roundTrip_1.mono _ _ _ _ _)
      | (with_reducible exact slices_DeleteFunc_int_int___Road_roundTrip_2.mono _ _)
      | (with_reducible exact slices_Sort_int_int.mono _ _)
      | (with_reducible exact LeO.refl _)
      | (with_reducible exact LeO.none _)
      | (with_reducible refine LeO.ite ?_ ?_)
      | (with_reducible refine LeO.bind ?_ (fun _ => ?_))
      | exact ih0 _ _ _
      | exact ih1 _ _ _ _ _ _
      | exact ih2 _ _ _ _ _
      | exact impl_mapped__Road_roundTrip_1.mono _ _ _ _ _
      | exact slices_DeleteFunc_int_int___Road_roundTrip_2.mono _ _
      | exact slices_Sort_int_int.mono _ _
      | exact LeO.none _
      | refine LeO.ite ?_ ?_
      | refine LeO.bind ?_ (fun _ => ?_)
    · intro y0 y1 y2 y3 y4 y5
      unfold impl_Road_roundTrip.l1
      repeat' first
      | (with_reducible exact ih0 _ _ _)
      | (with_reducible exact ih1 _ _ _ _ _ _)
      | (with_reducible exact ih2 _ _ _ _ _)
      | (with_reducible exact impl_mapped__Road_roundTrip_1.mono _ _ _ _ _)
      | (with_reducible exact slices_DeleteFunc_int_int___Road_roundTrip_2.mono _ _)
      | (with_reducible exact slices_Sort_int_int.mono _ _)
      | (with_reducible exact LeO.refl _)
      | (with_reducible exact LeO.none _)
      | (with_reducible refine LeO.ite ?_ ?_)
      | (with_reducible refine LeO.bind ?_ (fun _ => ?_))
      | exact ih0 _ _ _
      | exact ih1 _ _ _ _ _ _
      | exact ih2 _ _ _ _ _
      | exact impl_mapped__Road_roundTrip_1.mono _ _ _ _ _
      | exact slices_DeleteFunc_int_int___Road_roundTrip_2.mono _ _
      | exact slices_Sort_int_int.mono _ _
      | exact LeO.none _
      | refine LeO.ite ?_ ?_
      | refine LeO.bind ?_ (fun _ => ?_)
    · intro y0 y1 y2 y3 y4
      unfold impl_Road_roundTrip.l0
      repeat' first
      | (with_reducible exact ih0 _ _ _)
      | (with_reducible exact ih1 _ _ _ _ _ _)
      | (with_reducible exact ih2 _ _ _ _ _)
      | (with_reducible exact impl_mapped__Road_roundTrip_1.mono _ _ _ _ _)
      | (with_reducible exact slices_DeleteFunc_int_int___Road_roundTrip_2.mono _ _)
      | (with_reducible exact slices_Sort_int_int.mono _ _)
      | (with_reducible exact LeO.refl _)
      | (with_reducible exact LeO.none _)
      | (with_reducible refine LeO.ite ?_ ?_)
      | (with_reducible refine LeO.bind ?_ (fun _ => ?_))
      | exact ih0 _ _ _
      | exact ih1 _ _ _ _ _ _
      | exact ih2 _ _ _ _ _
      | exact impl_mapped__Road_roundTrip_1.mono _ _ _ _ _
      | exact slices_DeleteFunc_int_int___Road_roundTrip_2.mono _ _
      | exact slices_Sort_int_int.mono _ _
      | exact LeO.none _
      | refine LeO.ite ?_ ?_
      | refine LeO.bind ?_ (fun _ => ?_)
theorem impl_Road_roundTrip.mono : ∀ a0 a1 a2 a3 k, LeO (impl_Road_roundTrip.f k a0 a1 a2 a3) (impl_Road_roundTrip.f (k + 1) a0 a1 a2 a3) := by
  intro a0 a1 a2 a3 k
  obtain ⟨ih0, ih1, ih2⟩ := impl_Road_roundTrip.mono_l k
  unfold impl_Road_roundTrip.f
  repeat' first
      | (with_reducible exact ih0 _ _ _)
      | (with_reducible exact ih1 _ _ _ _ _ _)
      | (with_reducible exact ih2 _ _ _ _ _)
      | (with_reducible exact impl_mapped__Road_roundTrip_1.mono _ _ _ _ _)
      | (with_reducible exact slices_DeleteFunc_int_int___Road_roundTrip_2.mono _ _)
      | (with_reducible exact slices_Sort_int_int.mono _ _)
      | (with_reducible exact LeO.refl _)
      | (with_reducible exact LeO.none _)
      | (with_reducible refine LeO.ite ?_ ?_)
      | (with_reducible refine LeO.bind ?_ (fun _ => ?_))
      | exact ih0 _ _ _
      | exact ih1 _ _ _ _ _ _
      | exact ih2 _ _ _ _ _
      | exact impl_mapped__Road_roundTrip_1.mono _ _ _ _ _
      | exact slices_DeleteFunc_int_int___Road_roundTrip_2.mono _ _
      | exact slices_Sort_int_int.mono _ _
      | exact LeO.none _
      | refine LeO.ite ?_ ?_
      | refine LeO.bind ?_ (fun _ => ?_)
set_option maxHeartbeats 8000000 in
set_option maxRecDepth 100000 in
theorem impl_Road_roundTrip.calls (k : Nat) (a0_0 : Int) (a0_1 : Bool) (a1 : Int) (A2 : Option Addr) (c2 : Nat) (l2 : List Int) (r : Int) (w : World) (hr2 : Kd.C (Kd.int .i64) w A2 l2.length l2) (hc2 : l2.length ≤ c2) (h : impl_Road_roundTrip.f k a0_0 a0_1 a1 l2 = some r) :
    Calls Try.prog 64 #[.agg #[.int .i64 a0_0, .bool a0_1], .int .i64 a1, .slice A2 l2.length c2] w fun e w' => e = .returned (.int .i64 r) ∧ Below w.heap.size w w' := by
 have hu27 := Try.underlying27
 have HR2 := A_ hr2
 have HC2 := A_ hc2
 clear hr2 hc2
 have HB := A_ (Below.refl w.heap.size w)
 have H : ((impl_mapped__Road_roundTrip_1.f k l2 a0_0 a0_1 a1).bind fun t246 => ((slices_Sort_int_int.f k t246).bind fun t249 => (if a0_1 = true then ((slices_DeleteFunc_int_int___Road_roundTrip_2.f k t249).bind fun t250 => (impl_Road_roundTrip.j0 k t250 a0_0 a0_1)) else (impl_Road_roundTrip.j0 k t249 a0_0 a0_1)))) = some r := h
 clear h
 replace H := Option.bind_eq_some_iff.mp H
 obtain ⟨t246, A40, H⟩ := H
 replace H : ((slices_Sort_int_int.f k t246).bind fun t249 => (if a0_1 = true then ((slices_DeleteFunc_int_int___Road_roundTrip_2.f k t249).bind fun t250 => (impl_Road_roundTrip.j0 k t250 a0_0 a0_1)) else (impl_Road_roundTrip.j0 k t249 a0_0 a0_1))) = some r := H
 have A4 := A_ A40
 clear A40
 replace H := Option.bind_eq_some_iff.mp H
 obtain ⟨t249, A50, H⟩ := H
 replace H : (if a0_1 = true then ((slices_DeleteFunc_int_int___Road_roundTrip_2.f k t249).bind fun t250 => (impl_Road_roundTrip.j0 k t250 a0_0 a0_1)) else (impl_Road_roundTrip.j0 k t249 a0_0 a0_1)) = some r := H
 have A5 := A_ A50
 clear A50
 have HC6 := A_ H
 clear H
 go_enter Try.func64, Try.ntmps64
 go_upto_if 22 with (first | ((with_reducible refine gate_dst (N := 3) rfl ?_); refine box_event ?hg (N := 3) ?hd (cs := #[.int .i64 a0_0, .bool a0_1]) (t := 27) ?hr ?_; (case hd => rfl); (case hg => rfl); (case hr => first | (go_simp; done) | (go_simp; rfl)); intro gb244 hg w7 hbox hb; have n0_ := A_ (below_step (hq HB) hb); have n1_ := A_ (hbox); have n2_ := A_ ((by rw [hg]; exact (below_size (hq HB)) : w.heap.size ≤ gb244)); have n3_ := A_ ((by rw [hg]; exact (below_size (hq HB)) : w.heap.size ≤ gb244)); clear HB; have HB := n0_; have BK244 := n1_; have GW244 := n2_; have GE244 := n3_; clear n0_ n1_ n2_ n3_; clear hb hbox hg) | ((with_reducible refine gate_dst (N := 4) rfl ?_); refine box_event ?hg (N := 4) ?hd (cs := #[.int .i64 a1]) (t := 3) ?hr ?_; (case hd => rfl); (case hg => rfl); (case hr => first | (go_simp; done) | (go_simp; rfl)); intro gb245 hg w8 hbox hb; have n0_ := A_ (blk_below (bq BK244) hb); have n1_ := A_ (below_step (hq HB) hb); have n2_ := A_ (hbox); have n3_ := A_ ((by rw [hg]; exact (below_size (hq HB)) : w.heap.size ≤ gb245)); have n4_ := A_ ((by rw [hg]; exact (below_size (hq HB)) : w.heap.size ≤ gb245)); have n5_ := A_ ((by rw [hg]; exact Nat.ne_of_lt (blk_lt (bq BK244)) : gb244 ≠ gb245)); have n6_ := A_ ((by rw [hg]; exact Nat.ne_of_gt (blk_lt (bq BK244)) : gb245 ≠ gb244)); clear BK244; clear HB; have BK244 := n0_; have HB := n1_; have BK245 := n2_; have GW245 := n3_; have GE245 := n4_; have NB244_245 := n5_; have NB245_244 := n6_; clear n0_ n1_ n2_ n3_ n4_ n5_ n6_; clear hb hbox hg) | (go_at_call 85; (with_reducible refine (impl_mapped__Road_roundTrip_1.calls k _ _ l2 gb244 a0_0 a0_1 gb245 a1 t246 _ ?side1 ?side2 ?side3 ?side4 A4.out).mono ?_); (case side1 => (with_reducible repeat (first | refine blk_drewN ?_ _ | refine blk_drew ?_ | refine blk_alloc ?_ _)); exact BK244.out); (case side2 => (with_reducible repeat (first | refine blk_drewN ?_ _ | refine blk_drew ?_ | refine blk_alloc ?_ _)); exact BK245.out); (case side3 => exact cq (Kd.C_below HR2.out HB.out)); (case side4 => exact HC2.out); rintro e w9 ⟨v247, rfl, ho0, hb⟩; have n0_ := A_ (Kd.R_lower (Kd.R_newB ho0 (g := gb245) (o := .cells #[.int .i64 a1] 3 (0, 0)) (bq BK245)) (below_size (hq HB))); have n1_ := A_ (blk_below (bq BK244) hb); have n2_ := A_ (blk_below (bq BK245) hb); have n3_ := A_ (below_step (hq HB) hb); clear BK244; clear BK245; clear HB; have HO248 := n0_; have BK244 := n1_; have BK245 := n2_; have HB := n3_; clear n0_ n1_ n2_ n3_; (try clear hb); (try clear hb2); (try clear hk); (try clear hi); (try clear ho0); obtain ⟨Ao10, co10, eo10⟩ := Kd.R_slice HO248.out; subst eo10) | (go_at_call 45; (with_reducible refine (slices_Sort_int_int.calls k (fun k_ => some k_ = (.slice Ao10 t246.length co10 : Value).ownBlock) (.slice Ao10 t246.length co10) t246 t249 w _ ?side1 ?side2 A5.out).mono ?_); (case side1 => repeat (first | (with_reducible first | exact HB.out | apply below_alloc | apply pw_below_drewN | apply below_drew1 | refine below_set ?_ GE244.out | refine below_set ?_ GE245.out) | exact HB.out)); (case side2 => exact Kd.R_tight rfl HO248.out); rintro e w11 ⟨rfl, hy0, hb, hkp⟩; have n0_ := A_ (blk_kept (bq BK244) hkp (fun hs_ => (fun e_ => (Kd.R_ne HO248.out BK244.out (by decide)) e_) hs_)); have n1_ := A_ (blk_kept (bq BK245) hkp (fun hs_ => (fun e_ => (Kd.R_away HO248.out (fun _ hk => hk.2)) e_) hs_)); have n2_ := A_ (Kd.R_reok rfl hy0 (fun k_ e_ => HO248.out.1 k_ e_)); have n3_ := A_ (hb); clear BK244; clear BK245; clear HO248; clear HB; have BK244 := n0_; have BK245 := n1_; have HO248 := n2_; have HB := n3_; clear n0_ n1_ n2_ n3_; (try clear hb); (try clear hkp); (try clear hy0); have hnb12 := NB244_245.out; have hnc12 := NB245_244.out; have hcz13_0 : w11.cell? ⟨gb244, 0, none⟩ = some (.int .i64 a0_0) := bc BK244 0; have hcz13_1 : w11.cell? ⟨gb244, 1, none⟩ = some (.bool a0_1) := bc BK244 1; have hfz13_0 := blk_frozen BK244.out 0; have hfz13_1 := blk_frozen BK244.out 1))
 repeat (go_quiet (first | ((with_reducible refine gate_dst (N := 3) rfl ?_); refine box_event ?hg (N := 3) ?hd (cs := #[.int .i64 a0_0, .bool a0_1]) (t := 27) ?hr ?_; (case hd => rfl); (case hg => rfl); (case hr => first | (go_simp; done) | (go_simp; rfl)); intro gb244 hg w7 hbox hb; have n0_ := A_ (below_step (hq HB) hb); have n1_ := A_ (hbox); have n2_ := A_ ((by rw [hg]; exact (below_size (hq HB)) : w.heap.size ≤ gb244)); have n3_ := A_ ((by rw [hg]; exact (below_size (hq HB)) : w.heap.size ≤ gb244)); clear HB; have HB := n0_; have BK244 := n1_; have GW244 := n2_; have GE244 := n3_; clear n0_ n1_ n2_ n3_; clear hb hbox hg) | ((with_reducible refine gate_dst (N := 4) rfl ?_); refine box_event ?hg (N := 4) ?hd (cs := #[.int .i64 a1]) (t := 3) ?hr ?_; (case hd => rfl); (case hg => rfl); (case hr => first | (go_simp; done) | (go_simp; rfl)); intro gb245 hg w8 hbox hb; have n0_ := A_ (blk_below (bq BK244) hb); have n1_ := A_ (below_step (hq HB) hb); have n2_ := A_ (hbox); have n3_ := A_ ((by rw [hg]; exact (below_size (hq HB)) : w.heap.size ≤ gb245)); have n4_ := A_ ((by rw [hg]; exact (below_size (hq HB)) : w.heap.size ≤ gb245)); have n5_ := A_ ((by rw [hg]; exact Nat.ne_of_lt (blk_lt (bq BK244)) : gb244 ≠ gb245)); have n6_ := A_ ((by rw [hg]; exact Nat.ne_of_gt (blk_lt (bq BK244)) : gb245 ≠ gb244)); clear BK244; clear HB; have BK244 := n0_; have HB := n1_; have BK245 := n2_; have GW245 := n3_; have GE245 := n4_; have NB244_245 := n5_; have NB245_244 := n6_; clear n0_ n1_ n2_ n3_ n4_ n5_ n6_; clear hb hbox hg) | (go_at_call 85; (with_reducible refine (impl_mapped__Road_roundTrip_1.calls k _ _ l2 gb244 a0_0 a0_1 gb245 a1 t246 _ ?side1 ?side2 ?side3 ?side4 A4.out).mono ?_); (case side1 => (with_reducible repeat (first | refine blk_drewN ?_ _ | refine blk_drew ?_ | refine blk_alloc ?_ _)); exact BK244.out); (case side2 => (with_reducible repeat (first | refine blk_drewN ?_ _ | refine blk_drew ?_ | refine blk_alloc ?_ _)); exact BK245.out); (case side3 => exact cq (Kd.C_below HR2.out HB.out)); (case side4 => exact HC2.out); rintro e w9 ⟨v247, rfl, ho0, hb⟩; have n0_ := A_ (Kd.R_lower (Kd.R_newB ho0 (g := gb245) (o := .cells #[.int .i64 a1] 3 (0, 0)) (bq BK245)) (below_size (hq HB))); have n1_ := A_ (blk_below (bq BK244) hb); have n2_ := A_ (blk_below (bq BK245) hb); have n3_ := A_ (below_step (hq HB) hb); clear BK244; clear BK245; clear HB; have HO248 := n0_; have BK244 := n1_; have BK245 := n2_; have HB := n3_; clear n0_ n1_ n2_ n3_; (try clear hb); (try clear hb2); (try clear hk); (try clear hi); (try clear ho0); obtain ⟨Ao10, co10, eo10⟩ := Kd.R_slice HO248.out; subst eo10) | (go_at_call 45; (with_reducible refine (slices_Sort_int_int.calls k (fun k_ => some k_ = (.slice Ao10 t246.length co10 : Value).ownBlock) (.slice Ao10 t246.length co10) t246 t249 w _ ?side1 ?side2 A5.out).mono ?_); (case side1 => repeat (first | (with_reducible first | exact HB.out | apply below_alloc | apply pw_below_drewN | apply below_drew1 | refine below_set ?_ GE244.out | refine below_set ?_ GE245.out) | exact HB.out)); (case side2 => exact Kd.R_tight rfl HO248.out); rintro e w11 ⟨rfl, hy0, hb, hkp⟩; have n0_ := A_ (blk_kept (bq BK244) hkp (fun hs_ => (fun e_ => (Kd.R_ne HO248.out BK244.out (by decide)) e_) hs_)); have n1_ := A_ (blk_kept (bq BK245) hkp (fun hs_ => (fun e_ => (Kd.R_away HO248.out (fun _ hk => hk.2)) e_) hs_)); have n2_ := A_ (Kd.R_reok rfl hy0 (fun k_ e_ => HO248.out.1 k_ e_)); have n3_ := A_ (hb); clear BK244; clear BK245; clear HO248; clear HB; have BK244 := n0_; have BK245 := n1_; have HO248 := n2_; have HB := n3_; clear n0_ n1_ n2_ n3_; (try clear hb); (try clear hkp); (try clear hy0); have hnb12 := NB244_245.out; have hnc12 := NB245_244.out; have hcz13_0 : w11.cell? ⟨gb244, 0, none⟩ = some (.int .i64 a0_0) := bc BK244 0; have hcz13_1 : w11.cell? ⟨gb244, 1, none⟩ = some (.bool a0_1) := bc BK244 1; have hfz13_0 := blk_frozen BK244.out 0; have hfz13_1 := blk_frozen BK244.out 1)); go_upto_if 22 with (first | ((with_reducible refine gate_dst (N := 3) rfl ?_); refine box_event ?hg (N := 3) ?hd (cs := #[.int .i64 a0_0, .bool a0_1]) (t := 27) ?hr ?_; (case hd => rfl); (case hg => rfl); (case hr => first | (go_simp; done) | (go_simp; rfl)); intro gb244 hg w7 hbox hb; have n0_ := A_ (below_step (hq HB) hb); have n1_ := A_ (hbox); have n2_ := A_ ((by rw [hg]; exact (below_size (hq HB)) : w.heap.size ≤ gb244)); have n3_ := A_ ((by rw [hg]; exact (below_size (hq HB)) : w.heap.size ≤ gb244)); clear HB; have HB := n0_; have BK244 := n1_; have GW244 := n2_; have GE244 := n3_; clear n0_ n1_ n2_ n3_; clear hb hbox hg) | ((with_reducible refine gate_dst (N := 4) rfl ?_); refine box_event ?hg (N := 4) ?hd (cs := #[.int .i64 a1]) (t := 3) ?hr ?_; (case hd => rfl); (case hg => rfl); (case hr => first | (go_simp; done) | (go_simp; rfl)); intro gb245 hg w8 hbox hb; have n0_ := A_ (blk_below (bq BK244) hb); have n1_ := A_ (below_step (hq HB) hb); have n2_ := A_ (hbox); have n3_ := A_ ((by rw [hg]; exact (below_size (hq HB)) : w.heap.size ≤ gb245)); have n4_ := A_ ((by rw [hg]; exact (below_size (hq HB)) : w.heap.size ≤ gb245)); have n5_ := A_ ((by rw [hg]; exact Nat.ne_of_lt (blk_lt (bq BK244)) : gb244 ≠ gb245)); have n6_ := A_ ((by rw [hg]; exact Nat.ne_of_gt (blk_lt (bq BK244)) : gb245 ≠ gb244)); clear BK244; clear HB; have BK244 := n0_; have HB := n1_; have BK245 := n2_; have GW245 := n3_; have GE245 := n4_; have NB244_245 := n5_; have NB245_244 := n6_; clear n0_ n1_ n2_ n3_ n4_ n5_ n6_; clear hb hbox hg) | (go_at_call 85; (with_reducible refine (impl_mapped__Road_roundTrip_1.calls k _ _ l2 gb244 a0_0 a0_1 gb245 a1 t246 _ ?side1 ?side2 ?side3 ?side4 A4.out).mono ?_); (case side1 => (with_reducible repeat (first | refine blk_drewN ?_ _ | refine blk_drew ?_ | refine blk_alloc ?_ _)); exact BK244.out); (case side2 => (with_reducible repeat (first | refine blk_drewN ?_ _ | refine blk_drew ?_ | refine blk_alloc ?_ _)); exact BK245.out); (case side3 => exact cq (Kd.C_below HR2.out HB.out)); (case side4 => exact HC2.out); rintro e w9 ⟨v247, rfl, ho0, hb⟩; have n0_ := A_ (Kd.R_lower (Kd.R_newB ho0 (g := gb245) (o := .cells #[.int .i64 a1] 3 (0, 0)) (bq BK245)) (below_size (hq HB))); have n1_ := A_ (blk_below (bq BK244) hb); have n2_ := A_ (blk_below (bq BK245) hb); have n3_ := A_ (below_step (hq HB) hb); clear BK244; clear BK245; clear HB; have HO248 := n0_; have BK244 := n1_; have BK245 := n2_; have HB := n3_; clear n0_ n1_ n2_ n3_; (try clear hb); (try clear hb2); (try clear hk); (try clear hi); (try clear ho0); obtain ⟨Ao10, co10, eo10⟩ := Kd.R_slice HO248.out; subst eo10) | (go_at_call 45; (with_reducible refine (slices_Sort_int_int.calls k (fun k_ => some k_ = (.slice Ao10 t246.length co10 : Value).ownBlock) (.slice Ao10 t246.length co10) t246 t249 w _ ?side1 ?side2 A5.out).mono ?_); (case side1 => repeat (first | (with_reducible first | exact HB.out | apply below_alloc | apply pw_below_drewN | apply below_drew1 | refine below_set ?_ GE244.out | refine below_set ?_ GE245.out) | exact HB.out)); (case side2 => exact Kd.R_tight rfl HO248.out); rintro e w11 ⟨rfl, hy0, hb, hkp⟩; have n0_ := A_ (blk_kept (bq BK244) hkp (fun hs_ => (fun e_ => (Kd.R_ne HO248.out BK244.out (by decide)) e_) hs_)); have n1_ := A_ (blk_kept (bq BK245) hkp (fun hs_ => (fun e_ => (Kd.R_away HO248.out (fun _ hk => hk.2)) e_) hs_)); have n2_ := A_ (Kd.R_reok rfl hy0 (fun k_ e_ => HO248.out.1 k_ e_)); have n3_ := A_ (hb); clear BK244; clear BK245; clear HO248; clear HB; have BK244 := n0_; have BK245 := n1_; have HO248 := n2_; have HB := n3_; clear n0_ n1_ n2_ n3_; (try clear hb); (try clear hkp); (try clear hy0); have hnb12 := NB244_245.out; have hnc12 := NB245_244.out; have hcz13_0 : w11.cell? ⟨gb244, 0, none⟩ = some (.int .i64 a0_0) := bc BK244 0; have hcz13_1 : w11.cell? ⟨gb244, 1, none⟩ = some (.bool a0_1) := bc BK244 1; have hfz13_0 := blk_frozen BK244.out 0; have hfz13_1 := blk_frozen BK244.out 1)))
 (try simp only [Act.put, List.setIfInBounds_toArray, List.set_cons_zero, List.set_cons_succ])
 go_cut [7] (fun v7 wc => ∃ (kq : Nat) (x7_5 : List Int), Aside0 (impl_Road_roundTrip.j0 kq x7_5 a0_0 a0_1 = some r) ∧ Aside0 (kq ≤ k) ∧ Aside0 (Kd.R (Kd.int .i64) 3 wc w.heap.size (fun k_ => k_ ≠ gb245) v7 x7_5) ∧ Aside0 (wc.heap[gb244]? = some (.cells #[.int .i64 a0_0, .bool a0_1] 27 (0, 0))) ∧ Aside0 (wc.heap[gb245]? = some (.cells #[.int .i64 a1] 3 (0, 0))) ∧ Aside0 (Below w.heap.size w wc))
 case first =>
  have H := HC6.out
  clear HC6
  by_cases c14 : a0_1 = true
  ·
   subst c14
   have H1 : ((slices_DeleteFunc_int_int___Road_roundTrip_2.f k t249).bind fun t250 => (impl_Road_roundTrip.j0 k t250 a0_0 true)) = some r := by rw [if_pos rfl] at H; exact H
   clear H
   have H := H1
   clear H1
   replace H := Option.bind_eq_some_iff.mp H
   obtain ⟨t250, A150, H⟩ := H
   replace H : (impl_Road_roundTrip.j0 k t250 a0_0 true) = some r := H
   have A15 := A_ A150
   clear A150
   have H' := A_ H
   clear H
   go_wp2_with (first | (go_at_call 87; (with_reducible refine (slices_DeleteFunc_int_int___Road_roundTrip_2.calls k (fun k_ => some k_ = (.slice Ao10 t246.length co10 : Value).ownBlock) (.slice Ao10 t246.length co10) t249 t250 w _ ?side1 ?side2 A15.out).mono ?_); (case side1 => repeat (first | (with_reducible first | exact HB.out | apply below_alloc | apply pw_below_drewN | apply below_drew1 | refine below_set ?_ GE244.out | refine below_set ?_ GE245.out) | exact HB.out)); (case side2 => exact Kd.R_tight rfl HO248.out); rintro e w16 ⟨v251, rfl, ho0, hb, hkp⟩; have n0_ := A_ (blk_kept (bq BK244) hkp (fun hs_ => (fun e_ => (Kd.R_ne HO248.out BK244.out (by decide)) e_) hs_)); have n1_ := A_ (blk_kept (bq BK245) hkp (fun hs_ => (fun e_ => (Kd.R_away HO248.out (fun _ hk => hk.2)) e_) hs_)); have n2_ := A_ (Kd.R_mono (ok' := fun k_ => k_ ≠ gb245) ho0 (fun k_ hk_ => Or.elim hk_ (fun hs_ => fun e_ => (Kd.R_away HO248.out (fun _ hk => hk.2)) (by rw [← e_]; exact hs_)) (fun hn_ => (Kd.freshB (g := gb245) (o := .cells #[.int .i64 a1] 3 (0, 0)) (bq BK245) k_ hn_)))); have n3_ := A_ (hb); clear BK244; clear BK245; clear HB; clear HO248; have BK244 := n0_; have BK245 := n1_; have HO252 := n2_; have HB := n3_; clear n0_ n1_ n2_ n3_; (try clear hb); (try clear hkp); (try clear ho0)))
   repeat (go_quiet (first | (go_at_call 87; (with_reducible refine (slices_DeleteFunc_int_int___Road_roundTrip_2.calls k (fun k_ => some k_ = (.slice Ao10 t246.length co10 : Value).ownBlock) (.slice Ao10 t246.length co10) t249 t250 w _ ?side1 ?side2 A15.out).mono ?_); (case side1 => repeat (first | (with_reducible first | exact HB.out | apply below_alloc | apply pw_below_drewN | apply below_drew1 | refine below_set ?_ GE244.out | refine below_set ?_ GE245.out) | exact HB.out)); (case side2 => exact Kd.R_tight rfl HO248.out); rintro e w16 ⟨v251, rfl, ho0, hb, hkp⟩; have n0_ := A_ (blk_kept (bq BK244) hkp (fun hs_ => (fun e_ => (Kd.R_ne HO248.out BK244.out (by decide)) e_) hs_)); have n1_ := A_ (blk_kept (bq BK245) hkp (fun hs_ => (fun e_ => (Kd.R_away HO248.out (fun _ hk => hk.2)) e_) hs_)); have n2_ := A_ (Kd.R_mono (ok' := fun k_ => k_ ≠ gb245) ho0 (fun k_ hk_ => Or.elim hk_ (fun hs_ => fun e_ => (Kd.R_away HO248.out (fun _ hk => hk.2)) (by rw [← e_]; exact hs_)) (fun hn_ => (Kd.freshB (g := gb245) (o := .cells #[.int .i64 a1] 3 (0, 0)) (bq BK245) k_ hn_)))); have n3_ := A_ (hb); clear BK244; clear BK245; clear HB; clear HO248; have BK244 := n0_; have BK245 := n1_; have HO252 := n2_; have HB := n3_; clear n0_ n1_ n2_ n3_; (try clear hb); (try clear hkp); (try clear ho0))); try go_wp2_with (first | (go_at_call 87; (with_reducible refine (slices_DeleteFunc_int_int___Road_roundTrip_2.calls k (fun k_ => some k_ = (.slice Ao10 t246.length co10 : Value).ownBlock) (.slice Ao10 t246.length co10) t249 t250 w _ ?side1 ?side2 A15.out).mono ?_); (case side1 => repeat (first | (with_reducible first | exact HB.out | apply below_alloc | apply pw_below_drewN | apply below_drew1 | refine below_set ?_ GE244.out | refine below_set ?_ GE245.out) | exact HB.out)); (case side2 => exact Kd.R_tight rfl HO248.out); rintro e w16 ⟨v251, rfl, ho0, hb, hkp⟩; have n0_ := A_ (blk_kept (bq BK244) hkp (fun hs_ => (fun e_ => (Kd.R_ne HO248.out BK244.out (by decide)) e_) hs_)); have n1_ := A_ (blk_kept (bq BK245) hkp (fun hs_ => (fun e_ => (Kd.R_away HO248.out (fun _ hk => hk.2)) e_) hs_)); have n2_ := A_ (Kd.R_mono (ok' := fun k_ => k_ ≠ gb245) ho0 (fun k_ hk_ => Or.elim hk_ (fun hs_ => fun e_ => (Kd.R_away HO248.out (fun _ hk => hk.2)) (by rw [← e_]; exact hs_)) (fun hn_ => (Kd.freshB (g := gb245) (o := .cells #[.int .i64 a1] 3 (0, 0)) (bq BK245) k_ hn_)))); have n3_ := A_ (hb); clear BK244; clear BK245; clear HB; clear HO248; have BK244 := n0_; have BK245 := n1_; have HO252 := n2_; have HB := n3_; clear n0_ n1_ n2_ n3_; (try clear hb); (try clear hkp); (try clear ho0))))
   go_meet
   case rel => exact ⟨_, (t250), H', ⟨by first | omega | exact Nat.le_refl _⟩, ⟨rq HO252⟩, ⟨bq BK244⟩, ⟨bq BK245⟩, ⟨hq HB⟩⟩
  ·
   replace c14 := Bool.eq_false_iff.mpr c14
   subst c14
   have H1 : (impl_Road_roundTrip.j0 k t249 a0_0 false) = some r := by rw [if_neg (show ¬ (false = true) by decide)] at H; exact H
   clear H
   have H := H1
   clear H1
   have H' := A_ H
   clear H
   go_wp2
   repeat (go_quiet (fail); try go_wp2)
   go_meet
   case rel => exact ⟨_, (t249), H', ⟨by first | omega | exact Nat.le_refl _⟩, ⟨by (with_reducible repeat (first | apply Kd.R_alloc | apply Kd.R_drewN | apply Kd.R_drew)); exact Kd.R_mono HO248.out (fun _ hk => hk.2)⟩, ⟨bq BK244⟩, ⟨bq BK245⟩, ⟨hq HB⟩⟩
 case rest =>
  clear HC6
  try clear c1
  try clear c2
  try clear p2
  try clear c6
  try clear c12
  try clear c14
  try clear hcz13_0
  try clear hcz13_1
  try clear hfz13_0
  try clear hfz13_1
  obtain ⟨kq, x7_5, HA, HJ5, HO_7, BK244, BK245, HB⟩ := hcut
  cases kq with
  | zero => exact absurd HA.out (by simp [impl_Road_roundTrip.j0])
  | succ kj5 =>
   have H := HA.out
   clear HA
   simp only [impl_Road_roundTrip.j0] at H
   by_cases c17 : a0_1 = true
   ·
    subst c17
    have H1 : (impl_Road_roundTrip.l1 kj5 x7_5 a0_0 (wrap64 ((x7_5.length : Int) + 1)) 0 a0_0 true) = some r := by rw [if_pos rfl] at H; exact H
    clear H
    have H := H1
    clear H1
    have H' := A_ H
    clear H
    have hnb18 := NB244_245.out
    have hnc18 := NB245_244.out
    have hcz19_0 : wc.cell? ⟨gb244, 0, none⟩ = some (.int .i64 a0_0) := bc BK244 0
    have hcz19_1 : wc.cell? ⟨gb244, 1, none⟩ = some (.bool true) := bc BK244 1
    have hfz19_0 := blk_frozen BK244.out 0
    have hfz19_1 := blk_frozen BK244.out 1
    obtain ⟨Ao20, co20, eo20⟩ := Kd.R_slice HO_7.out
    subst eo20
    go_wp2
    repeat (go_quiet (fail); try go_wp2)
    go_loopg [12, 51] kj5 (fun kq v12 v51 w' => ∃ (x12_2 : Int) (x51_2 : Int), v12 = .int .i64 x12_2 ∧ v51 = .int .i64 x51_2 ∧ Aside0 (impl_Road_roundTrip.l1 kq x7_5 x12_2 (wrap64 ((x7_5.length : Int) + 1)) x51_2 a0_0 true = some r) ∧ Aside0 (kq ≤ kj5) ∧ Aside0 (Kd.R (Kd.int .i64) 3 w' w.heap.size (fun k_ => k_ ≠ gb245) (.slice Ao20 x7_5.length co20) x7_5) ∧ Aside0 (w'.heap[gb244]? = some (.cells #[.int .i64 a0_0, .bool true] 27 (0, 0))) ∧ Aside0 (w'.heap[gb245]? = some (.cells #[.int .i64 a1] 3 (0, 0))) ∧ Aside0 (Below w.heap.size w w'))
    case atStart => exact ⟨(a0_0), (0), (by first | rfl | (simp; done) | (simp [*]; done)), (by first | rfl | (simp; done) | (simp [*]; done)), H', ⟨Nat.le_refl _⟩, ⟨rq HO_7⟩, ⟨bq BK244⟩, ⟨bq BK245⟩, ⟨hq HB⟩⟩
    case round =>
     clear H'
     try clear c1
     try clear c2
     try clear p2
     try clear c6
     try clear p6
     try clear c12
     try clear c14
     try clear c17
     try clear c18
     try clear hcz13_0
     try clear hcz13_1
     try clear hcz19_0
     try clear hcz19_1
     try clear hfz13_0
     try clear hfz13_1
     try clear hfz19_0
     try clear hfz19_1
     try clear p2
     obtain ⟨x12_2, x51_2, rfl, rfl, HA, HK2, HO_7, BK244, BK245, HB⟩ := hrel
     cases gk with
     | zero => exact absurd HA.out (by simp [impl_Road_roundTrip.l1])
     | succ k2 =>
      have H := HA.out
      clear HA
      simp only [impl_Road_roundTrip.l1] at H
      by_cases c21 : x51_2 < (wrap64 ((x7_5.length : Int) + 1))
      ·
       rw [if_pos c21] at H
       have c21b0 : decide (x51_2 < (wrap64 ((x7_5.length : Int) + 1))) = true := decide_eq_true c21
       clear c21
       by_cases c22 : x51_2 > 0
       ·
        rw [if_pos c22] at H
        have c22b0 : decide (0 < x51_2) = true := decide_eq_true c22
        clear c22
        obtain ⟨ji23, hji23⟩ : ∃ j_ : Int, (wrap64 (x51_2 - 1)) = j_ := ⟨_, rfl⟩
        replace H : (if 0 ≤ (ji23) then (if (ji23) < (x7_5.length : Int) then (if x51_2 < (x7_5.length : Int) then (if 0 ≤ x51_2 then (impl_Road_roundTrip.l1 k2 x7_5 (mn x12_2 (wrap64 (2 * (wrap64 ((rd x7_5 (ji23)) + (wrap64 (a0_0 - (rd x7_5 x51_2)))))))) (wrap64 ((x7_5.length : Int) + 1)) (wrap64 (x51_2 + 1)) a0_0 true) else (none)) else (impl_Road_roundTrip.l1 k2 x7_5 (mn x12_2 (wrap64 (2 * (wrap64 (rd x7_5 (ji23)))))) (wrap64 ((x7_5.length : Int) + 1)) (wrap64 (x51_2 + 1)) a0_0 true)) else (none)) else (none)) = some r := by first | (rw [hji23] at H; exact H) | (simp only [hji23] at H ⊢; exact H)
        have hji23w : (IntKind.i64.wrap (x51_2 - 1)) = ji23 := (i64_w _).trans hji23
        by_cases c24 : 0 ≤ (ji23)
        ·
         rw [if_pos c24] at H
         have c24b0 : decide (0 ≤ (ji23)) = true := decide_eq_true c24
         clear c24
         by_cases c25 : (ji23) < (x7_5.length : Int)
         ·
          rw [if_pos c25] at H
          have c25b0 : decide ((ji23) < (x7_5.length : Int)) = true := decide_eq_true c25
          clear c25
          by_cases c26 : x51_2 < (x7_5.length : Int)
          ·
           rw [if_pos c26] at H
           have c26b0 : decide (x51_2 < (x7_5.length : Int)) = true := decide_eq_true c26
           clear c26
           by_cases c27 : 0 ≤ x51_2
           ·
            rw [if_pos c27] at H
            have c27b0 : decide (0 ≤ x51_2) = true := decide_eq_true c27
            clear c27
            obtain ⟨ji28, hji28⟩ : ∃ j_ : Int, (mn x12_2 (wrap64 (2 * (wrap64 ((rd x7_5 (ji23)) + (wrap64 (a0_0 - (rd x7_5 x51_2)))))))) = j_ := ⟨_, rfl⟩
            replace H : (impl_Road_roundTrip.l1 k2 x7_5 ji28 (wrap64 ((x7_5.length : Int) + 1)) (wrap64 (x51_2 + 1)) a0_0 true) = some r := by first | (rw [hji28] at H; exact H) | (simp only [hji28] at H ⊢; exact H)
            have hji28_ : (if (wrap64 (2 * (wrap64 ((rd x7_5 (ji23)) + (wrap64 (a0_0 - (rd x7_5 x51_2))))))) < x12_2 then (wrap64 (2 * (wrap64 ((rd x7_5 (ji23)) + (wrap64 (a0_0 - (rd x7_5 x51_2))))))) else x12_2) = ji28 := hji28
            have H' := A_ H
            clear H
            have p254 : 0 ≤ ((ji23) : Int) := of_decide_eq_true (by first | (with_reducible assumption) | assumption)
            have q254 : (ji23) < (x7_5.length : Int) := of_decide_eq_true (by first | (with_reducible assumption) | assumption)
            obtain ⟨ad254, e254, hx254_0⟩ := Kd.at_int (Kd.R_reads' HO_7.out).2.2 (ji23) p254 q254
            cases e254
            replace p254 := eq_true p254
            replace q254 := eq_true q254
            have hnb29 := NB244_245.out
            have hnc29 := NB245_244.out
            have hcz30_0 : wr.cell? ⟨gb244, 0, none⟩ = some (.int .i64 a0_0) := bc BK244 0
            have hcz30_1 : wr.cell? ⟨gb244, 1, none⟩ = some (.bool true) := bc BK244 1
            have hfz30_0 := blk_frozen BK244.out 0
            have hfz30_1 := blk_frozen BK244.out 1
            have p255 : 0 ≤ (x51_2 : Int) := of_decide_eq_true (by first | (with_reducible assumption) | assumption)
            have q255 : x51_2 < (x7_5.length : Int) := of_decide_eq_true (by first | (with_reducible assumption) | assumption)
            obtain ⟨ad255, e255, hx255_0⟩ := Kd.at_int (Kd.R_reads' HO_7.out).2.2 x51_2 p255 q255
            obtain rfl : ad254 = ad255 := (by injection e255)
            replace p255 := eq_true p255
            replace q255 := eq_true q255
            go_wp2
            repeat (go_quiet (fail); try go_wp2)
            go_roundg k2
            case measure => have := HJ5.out; have := HK2.out; omega
            case rel => exact ⟨(ji28), (wrap64 (x51_2 + 1)), (by first | rfl | (simp; done) | (simp only [← hji28] <;> (first | rfl | simp)) | (simp [*]; done)), (by first | rfl | (simp; done) | (simp [*]; done)), H', ⟨by have := HJ5.out; have := HK2.out; omega⟩, ⟨rq HO_7⟩, ⟨bq BK244⟩, ⟨bq BK245⟩, ⟨hq HB⟩⟩
           ·
            rw [if_neg c27] at H
            exact absurd H (by simp)
          ·
           rw [if_neg c26] at H
           have c26b0 : decide (x51_2 < (x7_5.length : Int)) = false := decide_eq_false c26
           clear c26
           obtain ⟨ji31, hji31⟩ : ∃ j_ : Int, (mn x12_2 (wrap64 (2 * (wrap64 (rd x7_5 (ji23)))))) = j_ := ⟨_, rfl⟩
           replace H : (impl_Road_roundTrip.l1 k2 x7_5 ji31 (wrap64 ((x7_5.length : Int) + 1)) (wrap64 (x51_2 + 1)) a0_0 true) = some r := by first | (rw [hji31] at H; exact H) | (simp only [hji31] at H ⊢; exact H)
           have hji31_ : (if (wrap64 (2 * (wrap64 (rd x7_5 (ji23))))) < x12_2 then (wrap64 (2 * (wrap64 (rd x7_5 (ji23))))) else x12_2) = ji31 := hji31
           have H' := A_ H
           clear H
           have p254 : 0 ≤ ((ji23) : Int) := of_decide_eq_true (by first | (with_reducible assumption) | assumption)
           have q254 : (ji23) < (x7_5.length : Int) := of_decide_eq_true (by first | (with_reducible assumption) | assumption)
           obtain ⟨ad254, e254, hx254_0⟩ := Kd.at_int (Kd.R_reads' HO_7.out).2.2 (ji23) p254 q254
           cases e254
           replace p254 := eq_true p254
           replace q254 := eq_true q254
           go_wp2
           repeat (go_quiet (fail); try go_wp2)
           go_roundg k2
           case measure => have := HJ5.out; have := HK2.out; omega
           case rel => exact ⟨(ji31), (wrap64 (x51_2 + 1)), (by first | rfl | (simp; done) | (simp only [← hji31] <;> (first | rfl | simp)) | (simp [*]; done)), (by first | rfl | (simp; done) | (simp [*]; done)), H', ⟨by have := HJ5.out; have := HK2.out; omega⟩, ⟨rq HO_7⟩, ⟨bq BK244⟩, ⟨bq BK245⟩, ⟨hq HB⟩⟩
         ·
          rw [if_neg c25] at H
          exact absurd H (by simp)
        ·
         rw [if_neg c24] at H
         exact absurd H (by simp)
       ·
        rw [if_neg c22] at H
        have c22b0 : decide (0 < x51_2) = false := decide_eq_false c22
        clear c22
        by_cases c32 : x51_2 < (x7_5.length : Int)
        ·
         rw [if_pos c32] at H
         have c32b0 : decide (x51_2 < (x7_5.length : Int)) = true := decide_eq_true c32
         clear c32
         by_cases c33 : 0 ≤ x51_2
         ·
          rw [if_pos c33] at H
          have c33b0 : decide (0 ≤ x51_2) = true := decide_eq_true c33
          clear c33
          obtain ⟨ji34, hji34⟩ : ∃ j_ : Int, (mn x12_2 (wrap64 (2 * (wrap64 (wrap64 (a0_0 - (rd x7_5 x51_2))))))) = j_ := ⟨_, rfl⟩
          replace H : (impl_Road_roundTrip.l1 k2 x7_5 ji34 (wrap64 ((x7_5.length : Int) + 1)) (wrap64 (x51_2 + 1)) a0_0 true) = some r := by first | (rw [hji34] at H; exact H) | (simp only [hji34] at H ⊢; exact H)
          have hji34_ : (if (wrap64 (2 * (wrap64 (wrap64 (a0_0 - (rd x7_5 x51_2)))))) < x12_2 then (wrap64 (2 * (wrap64 (wrap64 (a0_0 - (rd x7_5 x51_2)))))) else x12_2) = ji34 := hji34
          have H' := A_ H
          clear H
          have hnb35 := NB244_245.out
          have hnc35 := NB245_244.out
          have hcz36_0 : wr.cell? ⟨gb244, 0, none⟩ = some (.int .i64 a0_0) := bc BK244 0
          have hcz36_1 : wr.cell? ⟨gb244, 1, none⟩ = some (.bool true) := bc BK244 1
          have hfz36_0 := blk_frozen BK244.out 0
          have hfz36_1 := blk_frozen BK244.out 1
          have p256 : 0 ≤ (x51_2 : Int) := of_decide_eq_true (by first | (with_reducible assumption) | assumption)
          have q256 : x51_2 < (x7_5.length : Int) := of_decide_eq_true (by first | (with_reducible assumption) | assumption)
          obtain ⟨ad256, e256, hx256_0⟩ := Kd.at_int (Kd.R_reads' HO_7.out).2.2 x51_2 p256 q256
          cases e256
          replace p256 := eq_true p256
          replace q256 := eq_true q256
          go_wp2
          repeat (go_quiet (fail); try go_wp2)
          go_roundg k2
          case measure => have := HJ5.out; have := HK2.out; omega
          case rel => exact ⟨(ji34), (wrap64 (x51_2 + 1)), (by first | rfl | (simp; done) | (simp only [← hji34] <;> (first | rfl | simp)) | (simp [*]; done)), (by first | rfl | (simp; done) | (simp [*]; done)), H', ⟨by have := HJ5.out; have := HK2.out; omega⟩, ⟨rq HO_7⟩, ⟨bq BK244⟩, ⟨bq BK245⟩, ⟨hq HB⟩⟩
         ·
          rw [if_neg c33] at H
          exact absurd H (by simp)
        ·
         rw [if_neg c32] at H
         have c32b0 : decide (x51_2 < (x7_5.length : Int)) = false := decide_eq_false c32
         clear c32
         obtain ⟨ji37, hji37⟩ : ∃ j_ : Int, (mn x12_2 0) = j_ := ⟨_, rfl⟩
         replace H : (impl_Road_roundTrip.l1 k2 x7_5 ji37 (wrap64 ((x7_5.length : Int) + 1)) (wrap64 (x51_2 + 1)) a0_0 true) = some r := by first | (rw [hji37] at H; exact H) | (simp only [hji37] at H ⊢; exact H)
         have hji37_ : (if 0 < x12_2 then 0 else x12_2) = ji37 := hji37
         have H' := A_ H
         clear H
         go_wp2
         repeat (go_quiet (fail); try go_wp2)
         go_roundg k2
         case measure => have := HJ5.out; have := HK2.out; omega
         case rel => exact ⟨(ji37), (wrap64 (x51_2 + 1)), (by first | rfl | (simp; done) | (simp only [← hji37] <;> (first | rfl | simp)) | (simp [*]; done)), (by first | rfl | (simp; done) | (simp [*]; done)), H', ⟨by have := HJ5.out; have := HK2.out; omega⟩, ⟨rq HO_7⟩, ⟨bq BK244⟩, ⟨bq BK245⟩, ⟨hq HB⟩⟩
      ·
       rw [if_neg c21] at H
       have c21b0 : decide (x51_2 < (wrap64 ((x7_5.length : Int) + 1))) = false := decide_eq_false c21
       clear c21
       obtain rfl := Option.some.inj H
       go_wp2
       repeat (go_quiet (fail); try go_wp2)
       go_ret
       exact ⟨rt, hq HB⟩
   ·
    replace c17 := Bool.eq_false_iff.mpr c17
    subst c17
    have H1 : (impl_Road_roundTrip.l0 kj5 0 0 x7_5 (x7_5.length : Int) 0) = some r := by rw [if_neg (show ¬ (false = true) by decide)] at H; exact H
    clear H
    have H := H1
    clear H1
    have H' := A_ H
    clear H
    have hnb38 := NB244_245.out
    have hnc38 := NB245_244.out
    have hcz39_0 : wc.cell? ⟨gb244, 0, none⟩ = some (.int .i64 a0_0) := bc BK244 0
    have hcz39_1 : wc.cell? ⟨gb244, 1, none⟩ = some (.bool false) := bc BK244 1
    have hfz39_0 := blk_frozen BK244.out 0
    have hfz39_1 := blk_frozen BK244.out 1
    obtain ⟨Ao40, co40, eo40⟩ := Kd.R_slice HO_7.out
    subst eo40
    go_wp2
    repeat (go_quiet (fail); try go_wp2)
    go_loopg [8, 9, 30] kj5 (fun kq v8 v9 v30 w' => ∃ (x8_2 : Int) (x9_2 : Int) (x30_2 : Int), v8 = .int .i64 x8_2 ∧ v9 = .int .i64 x9_2 ∧ v30 = .int .i64 x30_2 ∧ Aside0 (impl_Road_roundTrip.l0 kq x8_2 x9_2 x7_5 (x7_5.length : Int) x30_2 = some r) ∧ Aside0 (kq ≤ kj5) ∧ Aside0 (Kd.R (Kd.int .i64) 3 w' w.heap.size (fun k_ => k_ ≠ gb245) (.slice Ao40 x7_5.length co40) x7_5) ∧ Aside0 (w'.heap[gb244]? = some (.cells #[.int .i64 a0_0, .bool false] 27 (0, 0))) ∧ Aside0 (w'.heap[gb245]? = some (.cells #[.int .i64 a1] 3 (0, 0))) ∧ Aside0 (Below w.heap.size w w'))
    case atStart => exact ⟨(0), (0), (0), (by first | rfl | (simp; done) | (simp [*]; done)), (by first | rfl | (simp; done) | (simp [*]; done)), (by first | rfl | (simp; done) | (simp [*]; done)), H', ⟨Nat.le_refl _⟩, ⟨rq HO_7⟩, ⟨bq BK244⟩, ⟨bq BK245⟩, ⟨hq HB⟩⟩
    case round =>
     clear H'
     try clear c1
     try clear c2
     try clear p2
     try clear q2
     try clear hx2
     try clear c3
     try clear c6
     try clear p6
     try clear c12
     try clear c14
     try clear c17
     try clear c18
     try clear c21
     try clear c21b0
     try clear c22
     try clear c22b0
     try clear c24
     try clear c24b0
     try clear c25
     try clear c25b0
     try clear p25
     try clear q25
     try clear hx25
     try clear c26
     try clear c26b0
     try clear c27
     try clear c27b0
     try clear c29
     try clear c32
     try clear c32b0
     try clear c33
     try clear c33b0
     try clear c35
     try clear c38
     try clear hcz13_0
     try clear hcz13_1
     try clear hcz19_0
     try clear hcz19_1
     try clear hcz30_0
     try clear hcz30_1
     try clear hcz36_0
     try clear hcz36_1
     try clear hcz39_0
     try clear hcz39_1
     try clear hfz13_0
     try clear hfz13_1
     try clear hfz19_0
     try clear hfz19_1
     try clear hfz30_0
     try clear hfz30_1
     try clear hfz36_0
     try clear hfz36_1
     try clear hfz39_0
     try clear hfz39_1
     try clear hx254_0
     try clear hx255_0
     try clear hx256_0
     try clear p2
     try clear p254
     try clear p255
     try clear p256
     try clear p6
     try clear q254
     try clear q255
     try clear q256
     obtain ⟨x8_2, x9_2, x30_2, rfl, rfl, rfl, HA, HK2, HO_28, BK244, BK245, HB⟩ := hrel
     cases gk with
     | zero => exact absurd HA.out (by simp [impl_Road_roundTrip.l0])
     | succ k2 =>
      have H := HA.out
      clear HA
      simp only [impl_Road_roundTrip.l0] at H
      by_cases c41 : x30_2 < (x7_5.length : Int)
      ·
       rw [if_pos c41] at H
       have c41b0 : decide (x30_2 < (x7_5.length : Int)) = true := decide_eq_true c41
       clear c41
       by_cases c42 : 0 ≤ x30_2
       ·
        rw [if_pos c42] at H
        have c42b0 : decide (0 ≤ x30_2) = true := decide_eq_true c42
        clear c42
        by_cases c43 : x30_2 < (x7_5.length : Int)
        ·
         rw [if_pos c43] at H
         have c43b0 : decide (x30_2 < (x7_5.length : Int)) = true := decide_eq_true c43
         clear c43
         obtain ⟨ji44, hji44⟩ : ∃ j_ : Int, (mx x8_2 (rd x7_5 x30_2)) = j_ := ⟨_, rfl⟩
         replace H : (impl_Road_roundTrip.l0 k2 ji44 (mx x9_2 (wrap64 (-(rd x7_5 x30_2)))) x7_5 (x7_5.length : Int) (wrap64 (x30_2 + 1))) = some r := by first | (rw [hji44] at H; exact H) | (simp only [hji44] at H ⊢; exact H)
         have hji44_ : (if x8_2 < (rd x7_5 x30_2) then (rd x7_5 x30_2) else x8_2) = ji44 := hji44
         obtain ⟨ji45, hji45⟩ : ∃ j_ : Int, (mx x9_2 (wrap64 (-(rd x7_5 x30_2)))) = j_ := ⟨_, rfl⟩
         replace H : (impl_Road_roundTrip.l0 k2 ji44 ji45 x7_5 (x7_5.length : Int) (wrap64 (x30_2 + 1))) = some r := by first | (rw [hji45] at H; exact H) | (simp only [hji45] at H ⊢; exact H)
         have hji45_ : (if x9_2 < (wrap64 (-(rd x7_5 x30_2))) then (wrap64 (-(rd x7_5 x30_2))) else x9_2) = ji45 := hji45
         have H' := A_ H
         clear H
         have p253 : 0 ≤ (x30_2 : Int) := of_decide_eq_true (by first | (with_reducible assumption) | assumption)
         have q253 : x30_2 < (x7_5.length : Int) := of_decide_eq_true (by first | (with_reducible assumption) | assumption)
         obtain ⟨ad253, e253, hx253_0⟩ := Kd.at_int (Kd.R_reads' HO_28.out).2.2 x30_2 p253 q253
         cases e253
         replace p253 := eq_true p253
         replace q253 := eq_true q253
         go_wp2
         repeat (go_quiet (fail); try go_wp2)
         go_roundg k2
         case measure => have := HJ5.out; have := HK2.out; omega
         case rel => exact ⟨(ji44), (ji45), (wrap64 (x30_2 + 1)), (by first | rfl | (simp; done) | (simp only [← hji44] <;> (first | rfl | simp)) | (simp [*]; done)), (by first | rfl | (simp; done) | (simp only [← hji45] <;> (first | rfl | simp)) | (simp [*]; done)), (by first | rfl | (simp; done) | (simp [*]; done)), H', ⟨by have := HJ5.out; have := HK2.out; omega⟩, ⟨rq HO_28⟩, ⟨bq BK244⟩, ⟨bq BK245⟩, ⟨hq HB⟩⟩
        ·
         rw [if_neg c43] at H
         exact absurd H (by simp)
       ·
        rw [if_neg c42] at H
        exact absurd H (by simp)
      ·
       rw [if_neg c41] at H
       have c41b0 : decide (x30_2 < (x7_5.length : Int)) = false := decide_eq_false c41
       clear c41
       obtain rfl := Option.some.inj H
       go_wp2
       repeat (go_quiet (fail); try go_wp2)
       go_ret
       exact ⟨rt, hq HB⟩

end Go.Proofs.Ythnaghigpgfchaa.PFnExactTakenRuns
