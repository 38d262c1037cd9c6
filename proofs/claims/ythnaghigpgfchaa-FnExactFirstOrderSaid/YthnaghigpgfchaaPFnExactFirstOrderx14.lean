-- Printed, and told shorter by this session's program shrink.py.
-- Printed by this session's program myprint.py.
import Derived.Test.YthnaghigpgfchaaPFnExactFirstOrderx0
import Derived.Test.YthnaghigpgfchaaPFnExactFirstOrderx9
import Derived.Test.YthnaghigpgfchaaPFnExactFirstOrderx12
import Derived.Test.YthnaghigpgfchaaPFnExactFirstOrderx13
namespace Go.Proofs.Ythnaghigpgfchaa.PFnExactFirstOrder
open Go.RowKit Go.Proofs.Ythnaghigpgfchaa.Own Go.Proofs.YthnaghigpgfchaaW.PrintWords Go.Proofs.YthnaghigpgfchaaW.PrintLast Go.Proofs.YthnaghigpgfchaaW.PrintMore
attribute [local go_sem] max2_int min2_int max_two min_two max_three min_three max_four min_four   -- for this text's walks alone
set_option linter.unusedVariables false
set_option linter.unusedSimpArgs false

/-! ### impl_runs_firstOrder: function 33 -/
mutual
def impl_runs_firstOrder.l0 : Nat → List Int → List (List Int) → Int → Int → Int → Bool → List (List (List Int)) → Option (Int × List Int × Bool)
  | 0, _, _, _, _, _, _, _ => none
  | k + 1, x1, x7, x18, x19, x363000, x363001, x363002 => if x19 < x18 then (if x19 > 0 then (impl_runs_firstOrder.j1 k x1 x7 x19 x18 x19 (!x363001) x363000 x363001 x363002) else (impl_runs_firstOrder.j1 k x1 x7 x19 x18 x19 false x363000 x363001 x363002)) else (some (0, ([] : List Int), false))
def impl_runs_firstOrder.j1 : Nat → List Int → List (List Int) → Int → Int → Int → Bool → Int → Bool → List (List (List Int)) → Option (Int × List Int × Bool)
  | 0, _, _, _, _, _, _, _, _, _ => none
  | k + 1, x1, x7, x8, x18, x19, x29, x363000, x363001, x363002 => if x29 = true then (some (0, ([] : List Int), false)) else (impl_runs_firstOrder.l1 k x1 x7 x8 x18 x19 x7 (x7.length : Int) 0 x363000 x363001 x363002)
def impl_runs_firstOrder.l1 : Nat → List Int → List (List Int) → Int → Int → Int → List (List Int) → Int → Int → Int → Bool → List (List (List Int)) → Option (Int × List Int × Bool)
  | 0, _, _, _, _, _, _, _, _, _, _, _ => none
  | k + 1, x1, x7, x8, x18, x19, x30, x31, x32, x363000, x363001, x363002 => if x32 < x31 then (if 0 ≤ x32 then (if x32 < (x30.length : Int) then ((impl_runs_taken.f k x363000 x363001 x363002 x1 x8 (rd_L1 x30 x32)).bind fun bt367 => (if bt367.2 = true then (some (x8, rd_L1 x30 x32, true)) else (impl_runs_firstOrder.l1 k x1 x7 x8 x18 x19 x30 x31 (wrap64 (x32 + 1)) x363000 x363001 x363002))) else (none)) else (none)) else (impl_runs_firstOrder.l0 k x1 x7 x18 (wrap64 (x19 + 1)) x363000 x363001 x363002)
end
def impl_runs_firstOrder.f (k : Nat) (a0_0 : Int) (a0_1 : Bool) (l0_2 : List (List (List Int))) (l1 : List Int) : Option (Int × List Int × Bool) := (impl_allOrders.f k (l1.length : Int)).bind fun t363 => (impl_runs_firstOrder.l0 k l1 t363 a0_0 0 a0_0 a0_1 l0_2)
theorem impl_runs_firstOrder.mono_l : ∀ k, (∀ y0 y1 y2 y3 y4 y5 y6, LeO (impl_runs_firstOrder.l0 k y0 y1 y2 y3 y4 y5 y6) (impl_runs_firstOrder.l0 (k + 1) y0 y1 y2 y3 y4 y5 y6)) ∧ (∀ y0 y1 y2 y3 y4 y5 y6 y7 y8, LeO (impl_runs_firstOrder.j1 k y0 y1 y2 y3 y4 y5 y6 y7 y8) (impl_runs_firstOrder.j1 (k + 1) y0 y1 y2 y3 y4 y5 y6 y7 y8)) ∧ (∀ y0 y1 y2 y3 y4 y5 y6 y7 y8 y9 y10, LeO (impl_runs_firstOrder.l1 k y0 y1 y2 y3 y4 y5 y6 y7 y8 y9 y10) (impl_runs_firstOrder.l1 (k + 1) y0 y1 y2 y3 y4 y5 y6 y7 y8 y9 y10))
  | 0 => ⟨fun _ _ _ _ _ _ _ r h => by simp [impl_runs_firstOrder.l0] at h, fun _ _ _ _ _ _ _ _ _ r h => by simp [impl_runs_firstOrder.j1] at h, fun _ _ _ _ _ _ _ _ _ _ _ r h => by simp [impl_runs_firstOrder.l1] at h⟩
  | k + 1 => by
    obtain ⟨ih0, ih1, ih2⟩ := impl_runs_firstOrder.mono_l k
    refine ⟨?_, ?_, ?_⟩
    · intro y0 y1 y2 y3 y4 y5 y6
      unfold impl_runs_firstOrder.l0
      repeat' first
      | (with_reducible exact ih0 _ _ _ _ _ _ _)
      | (with_reducible exact ih1 _ _ _ _ _ _ _ _ _)
      | (with_reducible exact ih2 _ _ _ _ _ _ _ _ _ _ _)
      | (with_reducible exact impl_allOrders.mono _ _)
      | (with_reducible exact impl_runs_taken.mono _ _ _ _ _ _ _)
      | (with_reducible exact LeO.refl _)
      | (with_reducible exact LeO.none _)
      | (with_reducible refine LeO.ite ?_ ?_)
      | (with_reducible refine LeO.bind ?_ (fun _ => ?_))
      | exact ih0 _ _ _ _ _ _ _
      | exact ih1 _ _ _ _ _ _ _ _ _
      | exact ih2 _ _ _ _ _ _ _ _ _ _ _
      | exact impl_allOrders.mono _ _
      | exact impl_runs_taken.mono _ _ _ _ _ _ _
      | exact LeO.none _
      | refine LeO.ite ?_ ?_
      | refine LeO.bind ?_ (fun _ => ?_)
    · intro y0 y1 y2 y3 y4 y5 y6 y7 y8
      unfold impl_runs_firstOrder.j1
      repeat' first
      | (with_reducible exact ih0 _ _ _ _ _ _ _)
      | (with_reducible exact ih1 _ _ _ _ _ _ _ _ _)
      | (with_reducible exact ih2 _ _ _ _ _ _ _ _ _ _ _)
      | (with_reducible exact impl_allOrders.mono _ _)
      | (with_reducible exact impl_runs_taken.mono _ _ _ _ _ _ _)
      | (with_reducible exact LeO.refl _)
      | (with_reducible exact LeO.none _)
      | (with_reducible refine LeO.ite ?_ ?_)
      | (with_reducible refine LeO.bind ?_ (fun _ => ?_))
      | exact ih0 _ _ _ _ _ _ _
      | exact ih1 _ _ _ _ _ _ _ _ _
      | exact ih2 _ _ _ _ _ _ _ _ _ _ _
      | exact impl_allOrders.mono _ _
      | exact impl_runs_taken.mono _ _ _ _ _ _ _
      | exact LeO.none _
      | refine LeO.ite ?_ ?_
      | refine LeO.bind ?_ (fun _ => ?_)
    · intro y0 y1 y2 y3 y4 y5 y6 y7 y8 y9 y10
      unfold impl_runs_firstOrder.l1
      repeat' first
      | (with_reducible exact ih0 _ _ _ _ _ _ _)
      | (with_reducible exact ih1 _ _ _ _ _ _ _ _ _)
      | (with_reducible exact ih2 _ _ _ _ _ _ _ _ _ _ _)
      | (with_reducible exact impl_allOrders.mono _ _)
      | (with_reducible exact impl_runs_taken.mono _ _ _ _ _ _ _)
      | (with_reducible exact LeO.refl _)
      | (with_reducible exact LeO.none _)
      | (with_reducible refine LeO.ite ?_ ?_)
      | (with_reducible refine LeO.bind ?_ (fun _ => ?_))
      | exact ih0 _ _ _ _ _ _ _
      | exact ih1 _ _ _ _ _ _ _ _ _
      | exact ih2 _ _ _ _ _ _ _ _ _ _ _
      | exact impl_allOrders.mono _ _
      | exact impl_runs_taken.mono _ _ _ _ _ _ _
      | exact LeO.none _
      | refine LeO.ite ?_ ?_
      | refine LeO.bind ?_ (fun _ => ?_)
theorem impl_runs_firstOrder.mono : ∀ a0 a1 a2 a3 k, LeO (impl_runs_firstOrder.f k a0 a1 a2 a3) (impl_runs_firstOrder.f (k + 1) a0 a1 a2 a3) := by
  intro a0 a1 a2 a3 k
  obtain ⟨ih0, ih1, ih2⟩ := impl_runs_firstOrder.mono_l k
  unfold impl_runs_firstOrder.f
  repeat' first
      | (with_reducible exact ih0 _ _ _ _ _ _ _)
      | (with_reducible exact ih1 _ _ _ _ _ _ _ _ _)
      | (with_reducible exact ih2 _ _ _ _ _ _ _ _ _ _ _)
      | (with_reducible exact impl_allOrders.mono _ _)
      | (with_reducible exact impl_runs_taken.mono _ _ _ _ _ _ _)
      | (with_reducible exact LeO.refl _)
      | (with_reducible exact LeO.none _)
      | (with_reducible refine LeO.ite ?_ ?_)
      | (with_reducible refine LeO.bind ?_ (fun _ => ?_))
      | exact ih0 _ _ _ _ _ _ _
      | exact ih1 _ _ _ _ _ _ _ _ _
      | exact ih2 _ _ _ _ _ _ _ _ _ _ _
      | exact impl_allOrders.mono _ _
      | exact impl_runs_taken.mono _ _ _ _ _ _ _
      | exact LeO.none _
      | refine LeO.ite ?_ ?_
      | refine LeO.bind ?_ (fun _ => ?_)
set_option maxHeartbeats 8000000 in
set_option maxRecDepth 100000 in
theorem impl_runs_firstOrder.calls (k : Nat) (a0_0 : Int) (a0_1 : Bool) (A0_2 : Option Addr) (c0_2 : Nat) (l0_2 : List (List (List Int))) (A1 : Option Addr) (c1 : Nat) (l1 : List Int) (r1 : Int) (r2 : List Int) (r3 : Bool) (w : World) (hr0_2 : Kd.C (Kd.slice 24 (Kd.slice 3 (Kd.int .i64))) w A0_2 l0_2.length l0_2) (hc0_2 : l0_2.length ≤ c0_2) (hr1 : Kd.C (Kd.int .i64) w A1 l1.length l1) (hc1 : l1.length ≤ c1) (h : impl_runs_firstOrder.f k a0_0 a0_1 l0_2 l1 = some (r1, r2, r3)) :
    Calls Try.prog 33 #[.agg #[.int .i64 a0_0, .bool a0_1, .slice A0_2 l0_2.length c0_2], .slice A1 l1.length c1] w fun e w' => ∃ v1_ : Value, e = .returned (.tuple #[.int .i64 r1, v1_, .bool r3]) ∧ Kd.R (Kd.int .i64) 3 w' w.heap.size (fun _ => True) v1_ r2 ∧ Below w.heap.size w w' := by
 have hu53 := Try.underlying53
 have HR0_2 := A_ hr0_2
 have HC0_2 := A_ hc0_2
 clear hr0_2 hc0_2
 have HR1 := A_ hr1
 have HC1 := A_ hc1
 clear hr1 hc1
 have HB := A_ (Below.refl w.heap.size w)
 have H : ((impl_allOrders.f k (l1.length : Int)).bind fun t363 => (impl_runs_firstOrder.l0 k l1 t363 a0_0 0 a0_0 a0_1 l0_2)) = some (r1, r2, r3) := h
 clear h
 replace H := Option.bind_eq_some_iff.mp H
 obtain ⟨t363, A30, H⟩ := H
 replace H : (impl_runs_firstOrder.l0 k l1 t363 a0_0 0 a0_0 a0_1 l0_2) = some (r1, r2, r3) := H
 have A3 := A_ A30
 clear A30
 have H' := A_ H
 clear H
 go_enter Try.func33, Try.ntmps33
 go_wp2_with (first | ((with_reducible refine gate_dst (N := 2) rfl ?_); refine box_event ?hg (N := 2) ?hd (cs := #[.int .i64 a0_0, .bool a0_1, .slice A0_2 l0_2.length c0_2]) (t := 53) ?hr ?_; (case hd => rfl); (case hg => rfl); (case hr => first | (go_simp; done) | (go_simp; rfl)); intro gb362 hg w4 hbox hb; have n0_ := A_ (below_step (hq HB) hb); have n1_ := A_ (hbox); have n2_ := A_ ((by rw [hg]; exact (below_size (hq HB)) : w.heap.size ≤ gb362)); have n3_ := A_ ((by rw [hg]; exact (below_size (hq HB)) : w.heap.size ≤ gb362)); clear HB; have HB := n0_; have BK362 := n1_; have GW362 := n2_; have GE362 := n3_; clear n0_ n1_ n2_ n3_; clear hb hbox hg) | ((with_reducible refine gate_callee (f := 29) rfl ?_); refine goesL_ (some 15) rfl rfl Try.func29 (by kernel_rfl) rfl #[.int .i64 (l1.length : Int)] rfl gq ?_; (with_reducible refine (impl_allOrders.calls k (l1.length : Int) t363 _ A3.out).mono ?_); rintro e w5 ⟨v364, rfl, ho0, hb⟩; refine ⟨_, rfl, ?_⟩; have n0_ := A_ (Kd.S_lower ho0 (below_size (hq HB))); have n1_ := A_ (blk_below (bq BK362) hb); have n2_ := A_ (below_step (hq HB) hb); clear BK362; clear HB; have HO365 := n0_; have BK362 := n1_; have HB := n2_; clear n0_ n1_ n2_; (try clear hb); (try clear hb2); (try clear hk); (try clear hi); (try clear ho0); have hcz6_0 : w5.cell? ⟨gb362, 0, none⟩ = some (.int .i64 a0_0) := bc BK362 0; have hcz6_1 : w5.cell? ⟨gb362, 1, none⟩ = some (.bool a0_1) := bc BK362 1; have hcz6_2 : w5.cell? ⟨gb362, 2, none⟩ = some (.slice A0_2 l0_2.length c0_2) := bc BK362 2; have hfz6_0 := blk_frozen BK362.out 0; have hfz6_1 := blk_frozen BK362.out 1; have hfz6_2 := blk_frozen BK362.out 2))
 go_loopg [19] k (fun kq v19 w' => ∃ (x19_1 : Int), v19 = .int .i64 x19_1 ∧ Aside0 (impl_runs_firstOrder.l0 kq l1 t363 a0_0 x19_1 a0_0 a0_1 l0_2 = some (r1, r2, r3)) ∧ Aside0 (kq ≤ k) ∧ Aside0 (Kd.S (Kd.slice 3 (Kd.int .i64)) 24 w' w.heap.size (fun _ => True) v364 t363) ∧ Aside0 (w'.heap[gb362]? = some (.cells #[.int .i64 a0_0, .bool a0_1, (.slice A0_2 l0_2.length c0_2)] 53 (0, 0))) ∧ Aside0 (Below w.heap.size w w'))
 case atStart => exact ⟨(0), (by first | rfl | (simp; done) | (simp [*]; done)), H', ⟨Nat.le_refl _⟩, ⟨sq HO365⟩, ⟨bq BK362⟩, ⟨hq HB⟩⟩
 case round =>
  clear H'
  try clear c1
  try clear c2
  try clear p2
  try clear c3
  try clear hcz6_0
  try clear hcz6_1
  try clear hcz6_2
  try clear hfz6_0
  try clear hfz6_1
  try clear hfz6_2
  obtain ⟨x19_1, rfl, HA, HK1, HO_7, BK362, HB⟩ := hrel
  cases gk with
  | zero => exact absurd HA.out (by simp [impl_runs_firstOrder.l0])
  | succ k1 =>
   have H := HA.out
   clear HA
   simp only [impl_runs_firstOrder.l0] at H
   by_cases c7 : x19_1 < a0_0
   ·
    rw [if_pos c7] at H
    have c7b0 : decide (x19_1 < a0_0) = true := decide_eq_true c7
    clear c7
    have HC8 := A_ H
    clear H
    go_upto_region 5 with (fail)
    go_cut [29] (fun v29 wc => ∃ (kq : Nat) (x29_7 : Bool), v29 = .bool x29_7 ∧ Aside0 (impl_runs_firstOrder.j1 kq l1 t363 x19_1 a0_0 x19_1 x29_7 a0_0 a0_1 l0_2 = some (r1, r2, r3)) ∧ Aside0 (kq ≤ k1) ∧ Aside0 (Kd.S (Kd.slice 3 (Kd.int .i64)) 24 wc w.heap.size (fun _ => True) v364 t363) ∧ Aside0 (wc.heap[gb362]? = some (.cells #[.int .i64 a0_0, .bool a0_1, (.slice A0_2 l0_2.length c0_2)] 53 (0, 0))) ∧ Aside0 (Below w.heap.size w wc))
    case first =>
     have H := HC8.out
     clear HC8
     by_cases c9 : x19_1 > 0
     ·
      rw [if_pos c9] at H
      have c9b0 : decide (0 < x19_1) = true := decide_eq_true c9
      clear c9
      (first | rw [c9b0] | (simp only [i64_w, i32_w]; rw [c9b0]) | skip)
      have H' := A_ H
      clear H
      have hcz10_0 : wr.cell? ⟨gb362, 0, none⟩ = some (.int .i64 a0_0) := bc BK362 0
      have hcz10_1 : wr.cell? ⟨gb362, 1, none⟩ = some (.bool a0_1) := bc BK362 1
      have hcz10_2 : wr.cell? ⟨gb362, 2, none⟩ = some (.slice A0_2 l0_2.length c0_2) := bc BK362 2
      have hfz10_0 := blk_frozen BK362.out 0
      have hfz10_1 := blk_frozen BK362.out 1
      have hfz10_2 := blk_frozen BK362.out 2
      go_wp2
      go_meet
      case rel => exact ⟨_, (!a0_1), (by first | rfl | (simp; done) | (simp [*]; done)), H', ⟨by have := HK1.out; first | omega | exact Nat.le_refl _⟩, ⟨sq HO_7⟩, ⟨bq BK362⟩, ⟨hq HB⟩⟩
     ·
      rw [if_neg c9] at H
      have c9b0 : decide (0 < x19_1) = false := decide_eq_false c9
      clear c9
      (first | rw [c9b0] | (simp only [i64_w, i32_w]; rw [c9b0]) | skip)
      have H' := A_ H
      clear H
      go_wp2
      go_meet
      case rel => exact ⟨_, (false), (by first | rfl | (simp; done) | (simp [*]; done)), H', ⟨by have := HK1.out; first | omega | exact Nat.le_refl _⟩, ⟨sq HO_7⟩, ⟨bq BK362⟩, ⟨hq HB⟩⟩
    case rest =>
     clear HC8
     try clear c1
     try clear c2
     try clear p2
     try clear c3
     try clear c7
     try clear c7b0
     try clear c9
     try clear c9b0
     try clear hcz10_0
     try clear hcz10_1
     try clear hcz10_2
     try clear hcz6_0
     try clear hcz6_1
     try clear hcz6_2
     try clear hfz10_0
     try clear hfz10_1
     try clear hfz10_2
     try clear hfz6_0
     try clear hfz6_1
     try clear hfz6_2
     try clear p2
     obtain ⟨kq, x29_7, rfl, HA, HJ7, HO_7, BK362, HB⟩ := hcut
     cases kq with
     | zero => exact absurd HA.out (by simp [impl_runs_firstOrder.j1])
     | succ kj7 =>
      have H := HA.out
      clear HA
      simp only [impl_runs_firstOrder.j1] at H
      by_cases c11 : x29_7 = true
      ·
       subst c11
       have H1 : (some (0, ([] : List Int), false)) = some (r1, r2, r3) := by rw [if_pos rfl] at H; exact H
       clear H
       have H := H1
       clear H1
       simp only [Option.some.injEq, Prod.mk.injEq] at H
       obtain ⟨rfl, rfl, rfl⟩ := H
       go_wp2
       go_ret3
       exact ⟨_, rt, by first | exact Kd.R_nil _ _ _ _ _ | exact Kd.N_nil _ _ _ _ _ | exact Kd.V_nil _ _ _ _ _ | exact Kd.Q_nil _ _ _ _ _ | exact Kd.S_nil _ _ _ _ _, hq HB⟩
      ·
       replace c11 := Bool.eq_false_iff.mpr c11
       subst c11
       have H1 : (impl_runs_firstOrder.l1 kj7 l1 t363 x19_1 a0_0 x19_1 t363 (t363.length : Int) 0 a0_0 a0_1 l0_2) = some (r1, r2, r3) := by rw [if_neg (show ¬ (false = true) by decide)] at H; exact H
       clear H
       have H := H1
       clear H1
       have H' := A_ H
       clear H
       obtain ⟨Ao12, co12, eo12⟩ := Kd.S_slice HO_7.out
       subst eo12
       go_wp2
       go_loopg [32] kj7 (fun kq v32 w' => ∃ (x32_3 : Int), v32 = .int .i64 x32_3 ∧ Aside0 (impl_runs_firstOrder.l1 kq l1 t363 x19_1 a0_0 x19_1 t363 (t363.length : Int) x32_3 a0_0 a0_1 l0_2 = some (r1, r2, r3)) ∧ Aside0 (kq ≤ kj7) ∧ Aside0 (Kd.S (Kd.slice 3 (Kd.int .i64)) 24 w' w.heap.size (fun _ => True) (.slice Ao12 t363.length co12) t363) ∧ Aside0 (Kd.S (Kd.slice 3 (Kd.int .i64)) 24 w' w.heap.size (fun _ => True) (.slice Ao12 t363.length co12) t363) ∧ Aside0 (w'.heap[gb362]? = some (.cells #[.int .i64 a0_0, .bool a0_1, (.slice A0_2 l0_2.length c0_2)] 53 (0, 0))) ∧ Aside0 (Below w.heap.size w w'))
       case atStart => exact ⟨(0), (by first | rfl | (simp; done) | (simp [*]; done)), H', ⟨Nat.le_refl _⟩, ⟨sq HO_7⟩, ⟨sq HO_7⟩, ⟨bq BK362⟩, ⟨hq HB⟩⟩
       case round =>
        clear H'
        try clear c1
        try clear c2
        try clear p2
        try clear c3
        try clear c7
        try clear c7b0
        try clear c9
        try clear c9b0
        try clear c11
        try clear hcz10_0
        try clear hcz10_1
        try clear hcz10_2
        try clear hcz6_0
        try clear hcz6_1
        try clear hcz6_2
        try clear hfz10_0
        try clear hfz10_1
        try clear hfz10_2
        try clear hfz6_0
        try clear hfz6_1
        try clear hfz6_2
        try clear p2
        obtain ⟨x32_3, rfl, HA, HK3, HO_7, HO_30, BK362, HB⟩ := hrel
        cases gk with
        | zero => exact absurd HA.out (by simp [impl_runs_firstOrder.l1])
        | succ k3 =>
         have H := HA.out
         clear HA
         simp only [impl_runs_firstOrder.l1] at H
         by_cases c13 : x32_3 < (t363.length : Int)
         ·
          rw [if_pos c13] at H
          have c13b0 : decide (x32_3 < (t363.length : Int)) = true := decide_eq_true c13
          clear c13
          by_cases c14 : 0 ≤ x32_3
          ·
           rw [if_pos c14] at H
           have c14b0 : decide (0 ≤ x32_3) = true := decide_eq_true c14
           clear c14
           by_cases c15 : x32_3 < (t363.length : Int)
           ·
            rw [if_pos c15] at H
            have c15b0 : decide (x32_3 < (t363.length : Int)) = true := decide_eq_true c15
            clear c15
            replace H := Option.bind_eq_some_iff.mp H
            obtain ⟨⟨t367, t370⟩, A160, H⟩ := H
            replace H : (if t370 = true then (some (x19_1, rd_L1 t363 x32_3, true)) else (impl_runs_firstOrder.l1 k3 l1 t363 x19_1 a0_0 x19_1 t363 (t363.length : Int) (wrap64 (x32_3 + 1)) a0_0 a0_1 l0_2)) = some (r1, r2, r3) := H
            have A16 := A_ A160
            clear A160
            by_cases c17 : t370 = true
            ·
             subst c17
             have H1 : (some (x19_1, rd_L1 t363 x32_3, true)) = some (r1, r2, r3) := by rw [if_pos rfl] at H; exact H
             clear H
             have H := H1
             clear H1
             simp only [Option.some.injEq, Prod.mk.injEq] at H
             obtain ⟨rfl, rfl, rfl⟩ := H
             have p366 : 0 ≤ (x32_3 : Int) := of_decide_eq_true (by first | (with_reducible assumption) | assumption)
             have q366 : x32_3 < (t363.length : Int) := of_decide_eq_true (by first | (with_reducible assumption) | assumption)
             obtain ⟨ad366, A366_0, c366_0, e366, hx366_0, hl366_0, hi366_0⟩ := at_L1 (Kd.S_reads' HO_30.out).2.2 x32_3 p366 q366
             cases e366
             obtain ⟨ce366, hce366, hMe366, hcc366⟩ := Kd.S_get HO_30.out [] x32_3 p366 (by first | exact q366 | exact of_decide_eq_true (by first | (with_reducible assumption) | assumption) | (have e_ := (Kd.S_reads' HO_30.out).1; omega))
             obtain ⟨ve366_0, rfl, ge366_0⟩ := hMe366
             have hv366_0 := hcc366 0 _ rfl
             rw [Nat.add_zero, show ((Kd.slice 3 (Kd.int .i64))).sz = 1 from rfl, Nat.mul_one] at hv366_0
             replace hv366_0 := Option.some.inj (hv366_0.symm.trans hx366_0)
             rw [hv366_0] at ge366_0
             have HL366_0 := A_ (show Kd.R (Kd.int .i64) 3 _ _ _ _ (rd_L1 t363 x32_3) from ge366_0)
             clear hv366_0 ge366_0 hcc366 hce366
             have HR366_0 := A_ hi366_0
             have HC366_0 := A_ hl366_0
             clear hi366_0 hl366_0
             replace p366 := eq_true p366
             replace q366 := eq_true q366
             have hcz18_0 : wr.cell? ⟨gb362, 0, none⟩ = some (.int .i64 a0_0) := bc BK362 0
             have hcz18_1 : wr.cell? ⟨gb362, 1, none⟩ = some (.bool a0_1) := bc BK362 1
             have hcz18_2 : wr.cell? ⟨gb362, 2, none⟩ = some (.slice A0_2 l0_2.length c0_2) := bc BK362 2
             have hfz18_0 := blk_frozen BK362.out 0
             have hfz18_1 := blk_frozen BK362.out 1
             have hfz18_2 := blk_frozen BK362.out 2
             go_wp2_with (first | ((with_reducible refine gate_callee (f := 31) rfl ?_); refine goesL_ (some 41) rfl rfl Try.func31 (by kernel_rfl) rfl #[.agg #[.int .i64 a0_0, .bool a0_1, .slice A0_2 l0_2.length c0_2], .slice A1 l1.length c1, .int .i64 x19_1, .slice A366_0 (rd_L1 t363 x32_3).length c366_0] rfl gq ?_; (with_reducible refine (impl_runs_taken.calls k3 a0_0 a0_1 _ _ l0_2 _ _ l1 x19_1 _ _ (rd_L1 t363 x32_3) t367 true _ ?side1 ?side2 ?side3 ?side4 ?side5 ?side6 A16.out).mono ?_); (case side1 => exact cq (Kd.C_below HR0_2.out HB.out)); (case side2 => exact HC0_2.out); (case side3 => exact cq (Kd.C_below HR1.out HB.out)); (case side4 => exact HC1.out); (case side5 => repeat (first | exact (by repeat (first | (with_reducible exact HR366_0.out) | (with_reducible refine Kd.C_alloc ?_ _) | (with_reducible refine Kd.C_drewN ?_ _) | (with_reducible refine Kd.C_drew ?_) | exact HR366_0.out)) | (with_reducible refine Kd.C_alloc ?_ _) | (with_reducible refine Kd.C_drewN ?_ _) | (with_reducible refine Kd.C_drew ?_))); (case side6 => exact HC366_0.out); rintro e w19 ⟨v368, rfl, ho0, hb⟩; refine ⟨_, rfl, ?_⟩; have n0_ := A_ (Kd.S_elder' (sq HO_7) (Kd.R_base ho0) hb); have n1_ := A_ (Kd.S_elder' (sq HO_30) (Kd.R_base ho0) hb); have n2_ := A_ (Kd.R_elder' (by (with_reducible repeat (first | apply Kd.R_alloc | apply Kd.R_drewN | apply Kd.R_drew)); exact HL366_0.out) (Kd.R_base ho0) hb); have n3_ := A_ (Kd.R_lower (Kd.R_new' ho0 (Kd.R_lt (by (with_reducible repeat (first | apply Kd.R_alloc | apply Kd.R_drewN | apply Kd.R_drew)); exact HL366_0.out))) (below_size (hq HB))); have n4_ := A_ (blk_below (bq BK362) hb); have n5_ := A_ (Kd.C_below (by repeat (first | (with_reducible exact HR366_0.out) | (with_reducible refine Kd.C_alloc ?_ _) | (with_reducible refine Kd.C_drewN ?_ _) | (with_reducible refine Kd.C_drew ?_) | exact HR366_0.out)) hb); have n6_ := A_ (below_step (hq HB) hb); clear HO_7; clear HO_30; clear HL366_0; clear BK362; clear HR366_0; clear HB; have HO_7 := n0_; have HO_30 := n1_; have HL366_0 := n2_; have HO369 := n3_; have BK362 := n4_; have HR366_0 := n5_; have HB := n6_; clear n0_ n1_ n2_ n3_ n4_ n5_ n6_; (try clear hb); (try clear hb2); (try clear hk); (try clear hi); (try clear ho0)))
             go_ret3
             exact ⟨_, rt, by (with_reducible repeat (first | apply Kd.R_alloc | apply Kd.R_drewN | apply Kd.R_drew)); exact Kd.R_mono HL366_0.out (fun _ hk => trivial), hq HB⟩
            ·
             replace c17 := Bool.eq_false_iff.mpr c17
             subst c17
             have H1 : (impl_runs_firstOrder.l1 k3 l1 t363 x19_1 a0_0 x19_1 t363 (t363.length : Int) (wrap64 (x32_3 + 1)) a0_0 a0_1 l0_2) = some (r1, r2, r3) := by rw [if_neg (show ¬ (false = true) by decide)] at H; exact H
             clear H
             have H := H1
             clear H1
             have H' := A_ H
             clear H
             have p366 : 0 ≤ (x32_3 : Int) := of_decide_eq_true (by first | (with_reducible assumption) | assumption)
             have q366 : x32_3 < (t363.length : Int) := of_decide_eq_true (by first | (with_reducible assumption) | assumption)
             obtain ⟨ad366, A366_0, c366_0, e366, hx366_0, hl366_0, hi366_0⟩ := at_L1 (Kd.S_reads' HO_30.out).2.2 x32_3 p366 q366
             cases e366
             obtain ⟨ce366, hce366, hMe366, hcc366⟩ := Kd.S_get HO_30.out [] x32_3 p366 (by first | exact q366 | exact of_decide_eq_true (by first | (with_reducible assumption) | assumption) | (have e_ := (Kd.S_reads' HO_30.out).1; omega))
             obtain ⟨ve366_0, rfl, ge366_0⟩ := hMe366
             have hv366_0 := hcc366 0 _ rfl
             rw [Nat.add_zero, show ((Kd.slice 3 (Kd.int .i64))).sz = 1 from rfl, Nat.mul_one] at hv366_0
             replace hv366_0 := Option.some.inj (hv366_0.symm.trans hx366_0)
             rw [hv366_0] at ge366_0
             have HL366_0 := A_ (show Kd.R (Kd.int .i64) 3 _ _ _ _ (rd_L1 t363 x32_3) from ge366_0)
             clear hv366_0 ge366_0 hcc366 hce366
             have HR366_0 := A_ hi366_0
             have HC366_0 := A_ hl366_0
             clear hi366_0 hl366_0
             replace p366 := eq_true p366
             replace q366 := eq_true q366
             have hcz20_0 : wr.cell? ⟨gb362, 0, none⟩ = some (.int .i64 a0_0) := bc BK362 0
             have hcz20_1 : wr.cell? ⟨gb362, 1, none⟩ = some (.bool a0_1) := bc BK362 1
             have hcz20_2 : wr.cell? ⟨gb362, 2, none⟩ = some (.slice A0_2 l0_2.length c0_2) := bc BK362 2
             have hfz20_0 := blk_frozen BK362.out 0
             have hfz20_1 := blk_frozen BK362.out 1
             have hfz20_2 := blk_frozen BK362.out 2
             go_wp2_with (first | ((with_reducible refine gate_callee (f := 31) rfl ?_); refine goesL_ (some 41) rfl rfl Try.func31 (by kernel_rfl) rfl #[.agg #[.int .i64 a0_0, .bool a0_1, .slice A0_2 l0_2.length c0_2], .slice A1 l1.length c1, .int .i64 x19_1, .slice A366_0 (rd_L1 t363 x32_3).length c366_0] rfl gq ?_; (with_reducible refine (impl_runs_taken.calls k3 a0_0 a0_1 _ _ l0_2 _ _ l1 x19_1 _ _ (rd_L1 t363 x32_3) t367 false _ ?side1 ?side2 ?side3 ?side4 ?side5 ?side6 A16.out).mono ?_); (case side1 => exact cq (Kd.C_below HR0_2.out HB.out)); (case side2 => exact HC0_2.out); (case side3 => exact cq (Kd.C_below HR1.out HB.out)); (case side4 => exact HC1.out); (case side5 => repeat (first | exact (by repeat (first | (with_reducible exact HR366_0.out) | (with_reducible refine Kd.C_alloc ?_ _) | (with_reducible refine Kd.C_drewN ?_ _) | (with_reducible refine Kd.C_drew ?_) | exact HR366_0.out)) | (with_reducible refine Kd.C_alloc ?_ _) | (with_reducible refine Kd.C_drewN ?_ _) | (with_reducible refine Kd.C_drew ?_))); (case side6 => exact HC366_0.out); rintro e w21 ⟨v368, rfl, ho0, hb⟩; refine ⟨_, rfl, ?_⟩; have n0_ := A_ (Kd.S_elder' (sq HO_7) (Kd.R_base ho0) hb); have n1_ := A_ (Kd.S_elder' (sq HO_30) (Kd.R_base ho0) hb); have n2_ := A_ (Kd.R_elder' (by (with_reducible repeat (first | apply Kd.R_alloc | apply Kd.R_drewN | apply Kd.R_drew)); exact HL366_0.out) (Kd.R_base ho0) hb); have n3_ := A_ (Kd.R_lower (Kd.R_new' ho0 (Kd.R_lt (by (with_reducible repeat (first | apply Kd.R_alloc | apply Kd.R_drewN | apply Kd.R_drew)); exact HL366_0.out))) (below_size (hq HB))); have n4_ := A_ (blk_below (bq BK362) hb); have n5_ := A_ (Kd.C_below (by repeat (first | (with_reducible exact HR366_0.out) | (with_reducible refine Kd.C_alloc ?_ _) | (with_reducible refine Kd.C_drewN ?_ _) | (with_reducible refine Kd.C_drew ?_) | exact HR366_0.out)) hb); have n6_ := A_ (below_step (hq HB) hb); clear HO_7; clear HO_30; clear HL366_0; clear BK362; clear HR366_0; clear HB; have HO_7 := n0_; have HO_30 := n1_; have HL366_0 := n2_; have HO369 := n3_; have BK362 := n4_; have HR366_0 := n5_; have HB := n6_; clear n0_ n1_ n2_ n3_ n4_ n5_ n6_; (try clear hb); (try clear hb2); (try clear hk); (try clear hi); (try clear ho0)))
             go_roundg k3
             case measure => have := HK1.out; have := HJ7.out; have := HK3.out; omega
             case rel => exact ⟨(wrap64 (x32_3 + 1)), (by first | rfl | (simp; done) | (simp [*]; done)), H', ⟨by have := HK1.out; have := HJ7.out; have := HK3.out; omega⟩, ⟨by (with_reducible repeat (first | apply Kd.S_alloc | apply Kd.S_drewN | apply Kd.S_drew)); exact Kd.S_mono HO_7.out (fun _ hk => trivial)⟩, ⟨by (with_reducible repeat (first | apply Kd.S_alloc | apply Kd.S_drewN | apply Kd.S_drew)); exact Kd.S_mono HO_30.out (fun _ hk => trivial)⟩, ⟨bq BK362⟩, ⟨hq HB⟩⟩
           ·
            rw [if_neg c15] at H
            exact absurd H (by simp)
          ·
           rw [if_neg c14] at H
           exact absurd H (by simp)
         ·
          rw [if_neg c13] at H
          have c13b0 : decide (x32_3 < (t363.length : Int)) = false := decide_eq_false c13
          clear c13
          have H' := A_ H
          clear H
          go_wp2
          go_roundg k3
          case measure => have := HK1.out; have := HJ7.out; have := HK3.out; omega
          case rel => exact ⟨(wrap64 (x19_1 + 1)), (by first | rfl | (simp; done) | (simp [*]; done)), H', ⟨by have := HK1.out; have := HJ7.out; have := HK3.out; omega⟩, ⟨sq HO_7⟩, ⟨bq BK362⟩, ⟨hq HB⟩⟩
   ·
    rw [if_neg c7] at H
    have c7b0 : decide (x19_1 < a0_0) = false := decide_eq_false c7
    clear c7
    simp only [Option.some.injEq, Prod.mk.injEq] at H
    obtain ⟨rfl, rfl, rfl⟩ := H
    go_wp2
    go_ret3
    exact ⟨_, rt, by first | exact Kd.R_nil _ _ _ _ _ | exact Kd.N_nil _ _ _ _ _ | exact Kd.V_nil _ _ _ _ _ | exact Kd.Q_nil _ _ _ _ _ | exact Kd.S_nil _ _ _ _ _, hq HB⟩

/-! ### impl_FirstOrder: function 15 -/
def impl_FirstOrder.f (k : Nat) (a0_0 : Int) (a0_1 : Bool) (l1 : List Int) (l2 : List Int) (a3 : Bool) : Option (Int × List Int × Bool) := (impl_areBudgets.f k a0_0 a0_1 l1 l2).bind fun t372 => (if t372 = true then ((impl_newRuns.f k a0_0 a0_1 l1 a3).bind fun bt373 => ((impl_runs_firstOrder.f k bt373.1 bt373.2.1 bt373.2.2 l2).bind fun bt378 => (some (bt378.1, bt378.2.1, bt378.2.2)))) else (some (0, ([] : List Int), false)))
theorem impl_FirstOrder.mono : ∀ a0 a1 a2 a3 a4 k, LeO (impl_FirstOrder.f k a0 a1 a2 a3 a4) (impl_FirstOrder.f (k + 1) a0 a1 a2 a3 a4) := by
  intro a0 a1 a2 a3 a4 k
  unfold impl_FirstOrder.f
  repeat' first
      | (with_reducible exact impl_areBudgets.mono _ _ _ _ _)
      | (with_reducible exact impl_newRuns.mono _ _ _ _ _)
      | (with_reducible exact impl_runs_firstOrder.mono _ _ _ _ _)
      | (with_reducible exact LeO.refl _)
      | (with_reducible exact LeO.none _)
      | (with_reducible refine LeO.ite ?_ ?_)
      | (with_reducible refine LeO.bind ?_ (fun _ => ?_))
      | exact impl_areBudgets.mono _ _ _ _ _
      | exact impl_newRuns.mono _ _ _ _ _
      | exact impl_runs_firstOrder.mono _ _ _ _ _
      | exact LeO.none _
      | refine LeO.ite ?_ ?_
      | refine LeO.bind ?_ (fun _ => ?_)
set_option maxHeartbeats 8000000 in
set_option maxRecDepth 100000 in
theorem impl_FirstOrder.calls (k : Nat) (a0_0 : Int) (a0_1 : Bool) (A1 : Option Addr) (c1 : Nat) (l1 : List Int) (A2 : Option Addr) (c2 : Nat) (l2 : List Int) (a3 : Bool) (r1 : Int) (r2 : List Int) (r3 : Bool) (w : World) (hr1 : Kd.C (Kd.int .i64) w A1 l1.length l1) (hc1 : l1.length ≤ c1) (hr2 : Kd.C (Kd.int .i64) w A2 l2.length l2) (hc2 : l2.length ≤ c2) (h : impl_FirstOrder.f k a0_0 a0_1 l1 l2 a3 = some (r1, r2, r3)) :
    Calls Try.prog 15 #[.agg #[.int .i64 a0_0, .bool a0_1], .slice A1 l1.length c1, .slice A2 l2.length c2, .bool a3] w fun e w' => ∃ v1_ : Value, e = .returned (.tuple #[.int .i64 r1, v1_, .bool r3]) ∧ Kd.R (Kd.int .i64) 3 w' w.heap.size (fun _ => True) v1_ r2 ∧ Below w.heap.size w w' := by
 have hu27 := Try.underlying27
 have HR1 := A_ hr1
 have HC1 := A_ hc1
 clear hr1 hc1
 have HR2 := A_ hr2
 have HC2 := A_ hc2
 clear hr2 hc2
 have HB := A_ (Below.refl w.heap.size w)
 have H : ((impl_areBudgets.f k a0_0 a0_1 l1 l2).bind fun t372 => (if t372 = true then ((impl_newRuns.f k a0_0 a0_1 l1 a3).bind fun bt373 => ((impl_runs_firstOrder.f k bt373.1 bt373.2.1 bt373.2.2 l2).bind fun bt378 => (some (bt378.1, bt378.2.1, bt378.2.2)))) else (some (0, ([] : List Int), false)))) = some (r1, r2, r3) := h
 clear h
 replace H := Option.bind_eq_some_iff.mp H
 obtain ⟨t372, A50, H⟩ := H
 replace H : (if t372 = true then ((impl_newRuns.f k a0_0 a0_1 l1 a3).bind fun bt373 => ((impl_runs_firstOrder.f k bt373.1 bt373.2.1 bt373.2.2 l2).bind fun bt378 => (some (bt378.1, bt378.2.1, bt378.2.2)))) else (some (0, ([] : List Int), false))) = some (r1, r2, r3) := H
 have A5 := A_ A50
 clear A50
 by_cases c6 : t372 = true
 ·
  subst c6
  have H1 : ((impl_newRuns.f k a0_0 a0_1 l1 a3).bind fun bt373 => ((impl_runs_firstOrder.f k bt373.1 bt373.2.1 bt373.2.2 l2).bind fun bt378 => (some (bt378.1, bt378.2.1, bt378.2.2)))) = some (r1, r2, r3) := by rw [if_pos rfl] at H; exact H
  clear H
  have H := H1
  clear H1
  replace H := Option.bind_eq_some_iff.mp H
  obtain ⟨⟨t373, t374, t375⟩, A70, H⟩ := H
  replace H : ((impl_runs_firstOrder.f k t373 t374 t375 l2).bind fun bt378 => (some (bt378.1, bt378.2.1, bt378.2.2))) = some (r1, r2, r3) := H
  have A7 := A_ A70
  clear A70
  replace H := Option.bind_eq_some_iff.mp H
  obtain ⟨⟨t378, t379, t382⟩, A80, H⟩ := H
  replace H : (some (t378, t379, t382)) = some (r1, r2, r3) := H
  have A8 := A_ A80
  clear A80
  simp only [Option.some.injEq, Prod.mk.injEq] at H
  obtain ⟨rfl, rfl, rfl⟩ := H
  go_enter Try.func15, Try.ntmps15
  go_wp2_with (first | ((with_reducible refine gate_dst (N := 4) rfl ?_); refine box_event ?hg (N := 4) ?hd (cs := #[.int .i64 a0_0, .bool a0_1]) (t := 27) ?hr ?_; (case hd => rfl); (case hg => rfl); (case hr => first | (go_simp; done) | (go_simp; rfl)); intro gb371 hg w9 hbox hb; have n0_ := A_ (below_step (hq HB) hb); have n1_ := A_ (hbox); have n2_ := A_ ((by rw [hg]; exact (below_size (hq HB)) : w.heap.size ≤ gb371)); have n3_ := A_ ((by rw [hg]; exact (below_size (hq HB)) : w.heap.size ≤ gb371)); clear HB; have HB := n0_; have BK371 := n1_; have GW371 := n2_; have GE371 := n3_; clear n0_ n1_ n2_ n3_; clear hb hbox hg; have hcz10_0 : w9.cell? ⟨gb371, 0, none⟩ = some (.int .i64 a0_0) := bc BK371 0; have hcz10_1 : w9.cell? ⟨gb371, 1, none⟩ = some (.bool a0_1) := bc BK371 1; have hfz10_0 := blk_frozen BK371.out 0; have hfz10_1 := blk_frozen BK371.out 1) | ((with_reducible refine gate_callee (f := 24) rfl ?_); refine goesL_ (some 14) rfl rfl Try.func24 (by kernel_rfl) rfl #[.agg #[.int .i64 a0_0, .bool a0_1], .slice A1 l1.length c1, .slice A2 l2.length c2] rfl gq ?_; (with_reducible refine (impl_areBudgets.calls k a0_0 a0_1 _ _ l1 _ _ l2 true _ ?side1 ?side2 ?side3 ?side4 A5.out).mono ?_); (case side1 => exact cq (Kd.C_below HR1.out HB.out)); (case side2 => exact HC1.out); (case side3 => exact cq (Kd.C_below HR2.out HB.out)); (case side4 => exact HC2.out); rintro e w11 ⟨rfl, hb⟩; refine ⟨_, rfl, ?_⟩; have n0_ := A_ (blk_below (bq BK371) hb); have n1_ := A_ (below_step (hq HB) hb); clear BK371; clear HB; have BK371 := n0_; have HB := n1_; clear n0_ n1_; (try clear hb); (try clear hb2); (try clear hk); (try clear hi); have hcz12_0 : w11.cell? ⟨gb371, 0, none⟩ = some (.int .i64 a0_0) := bc BK371 0; have hcz12_1 : w11.cell? ⟨gb371, 1, none⟩ = some (.bool a0_1) := bc BK371 1; have hfz12_0 := blk_frozen BK371.out 0; have hfz12_1 := blk_frozen BK371.out 1) | ((with_reducible refine gate_callee (f := 30) rfl ?_); refine goesL_ (some 19) rfl rfl Try.func30 (by kernel_rfl) rfl #[.agg #[.int .i64 a0_0, .bool a0_1], .slice A1 l1.length c1, .bool a3] rfl gq ?_; (with_reducible refine (impl_newRuns.calls k a0_0 a0_1 _ _ l1 a3 t373 t374 t375 _ ?side1 ?side2 A7.out).mono ?_); (case side1 => exact cq (Kd.C_below HR1.out HB.out)); (case side2 => exact HC1.out); rintro e w13 ⟨v376, rfl, ho0, hb⟩; refine ⟨_, rfl, ?_⟩; have n0_ := A_ (Kd.R_lower ho0 (below_size (hq HB))); have n1_ := A_ (blk_below (bq BK371) hb); have n2_ := A_ (below_step (hq HB) hb); clear BK371; clear HB; have HO377 := n0_; have BK371 := n1_; have HB := n2_; clear n0_ n1_ n2_; (try clear hb); (try clear hb2); (try clear hk); (try clear hi); (try clear ho0); obtain ⟨Ao14, co14, eo14⟩ := Kd.R_slice HO377.out; subst eo14) | ((with_reducible refine gate_callee (f := 33) rfl ?_); refine goesL_ (some 21) rfl rfl Try.func33 (by kernel_rfl) rfl #[.agg #[.int .i64 t373, .bool t374, .slice Ao14 t375.length co14], .slice A2 l2.length c2] rfl gq ?_; (with_reducible refine (impl_runs_firstOrder.calls k t373 t374 _ _ t375 _ _ l2 t378 t379 t382 _ ?side1 ?side2 ?side3 ?side4 A8.out).mono ?_); (case side1 => exact cq (Kd.R_reads' HO377.out).2.2); (case side2 => exact (Kd.R_reads' HO377.out).2.1); (case side3 => exact cq (Kd.C_below HR2.out HB.out)); (case side4 => exact HC2.out); rintro e w15 ⟨v380, rfl, ho0, hb⟩; refine ⟨_, rfl, ?_⟩; have n0_ := A_ (Kd.R_elder' (rq HO377) (Kd.R_base ho0) hb); have n1_ := A_ (Kd.R_lower ho0 (below_size (hq HB))); have n2_ := A_ (blk_below (bq BK371) hb); have n3_ := A_ (below_step (hq HB) hb); clear HO377; clear BK371; clear HB; have HO377 := n0_; have HO381 := n1_; have BK371 := n2_; have HB := n3_; clear n0_ n1_ n2_ n3_; (try clear hb); (try clear hb2); (try clear hk); (try clear hi); (try clear ho0)))
  go_ret3
  exact ⟨_, rt, rq HO381, hq HB⟩
 ·
  replace c6 := Bool.eq_false_iff.mpr c6
  subst c6
  have H1 : (some (0, ([] : List Int), false)) = some (r1, r2, r3) := by rw [if_neg (show ¬ (false = true) by decide)] at H; exact H
  clear H
  have H := H1
  clear H1
  simp only [Option.some.injEq, Prod.mk.injEq] at H
  obtain ⟨rfl, rfl, rfl⟩ := H
  go_enter Try.func15, Try.ntmps15
  go_wp2_with (first | ((with_reducible refine gate_dst (N := 4) rfl ?_); refine box_event ?hg (N := 4) ?hd (cs := #[.int .i64 a0_0, .bool a0_1]) (t := 27) ?hr ?_; (case hd => rfl); (case hg => rfl); (case hr => first | (go_simp; done) | (go_simp; rfl)); intro gb371 hg w16 hbox hb; have n0_ := A_ (below_step (hq HB) hb); have n1_ := A_ (hbox); have n2_ := A_ ((by rw [hg]; exact (below_size (hq HB)) : w.heap.size ≤ gb371)); have n3_ := A_ ((by rw [hg]; exact (below_size (hq HB)) : w.heap.size ≤ gb371)); clear HB; have HB := n0_; have BK371 := n1_; have GW371 := n2_; have GE371 := n3_; clear n0_ n1_ n2_ n3_; clear hb hbox hg; have hcz17_0 : w16.cell? ⟨gb371, 0, none⟩ = some (.int .i64 a0_0) := bc BK371 0; have hcz17_1 : w16.cell? ⟨gb371, 1, none⟩ = some (.bool a0_1) := bc BK371 1; have hfz17_0 := blk_frozen BK371.out 0; have hfz17_1 := blk_frozen BK371.out 1) | ((with_reducible refine gate_callee (f := 24) rfl ?_); refine goesL_ (some 14) rfl rfl Try.func24 (by kernel_rfl) rfl #[.agg #[.int .i64 a0_0, .bool a0_1], .slice A1 l1.length c1, .slice A2 l2.length c2] rfl gq ?_; (with_reducible refine (impl_areBudgets.calls k a0_0 a0_1 _ _ l1 _ _ l2 false _ ?side1 ?side2 ?side3 ?side4 A5.out).mono ?_); (case side1 => exact cq (Kd.C_below HR1.out HB.out)); (case side2 => exact HC1.out); (case side3 => exact cq (Kd.C_below HR2.out HB.out)); (case side4 => exact HC2.out); rintro e w18 ⟨rfl, hb⟩; refine ⟨_, rfl, ?_⟩; have n0_ := A_ (blk_below (bq BK371) hb); have n1_ := A_ (below_step (hq HB) hb); clear BK371; clear HB; have BK371 := n0_; have HB := n1_; clear n0_ n1_; (try clear hb); (try clear hb2); (try clear hk); (try clear hi)))
  go_ret3
  exact ⟨_, rt, by first | exact Kd.R_nil _ _ _ _ _ | exact Kd.N_nil _ _ _ _ _ | exact Kd.V_nil _ _ _ _ _ | exact Kd.Q_nil _ _ _ _ _ | exact Kd.S_nil _ _ _ _ _, hq HB⟩

end Go.Proofs.Ythnaghigpgfchaa.PFnExactFirstOrder
